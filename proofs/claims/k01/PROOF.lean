import PyProof.Rows.All
import Wide.All
import OpenK.AllK
import Wide.FinOn
import HandS.ForMost
import HandS.ForExc
import HandS.Deep
import KE.KeyNested
import KE.KDictKeyed
import KE.KDictCopyH
import HandS.TupAny
import HandS.TupMul
import HandS.Style
import HandS.IsInst
import HandS.Steps
import KE.SortData
import KE.SortKeyHeap
import HandS.RaiseMore
import HandS.WordsExc
import HandS.ExcOwn
import HandS.Small
import HandS.EndBits
import PySem.Challenge.RW_sortspec_k01_whole_compare
set_option Elab.async false
set_option linter.all false
set_option maxRecDepth 100000
set_option maxHeartbeats 4000000
namespace SS
open PySem PySem.Spec L2
abbrev D := PyData
inductive Exc where
  | invalidSpec | invalidRecord | invalidList | incomparable | tooLong | inconsistent | unsorted | notFound | invalidFormat
  deriving DecidableEq
def Exc.name : Exc → Str
  | .invalidSpec => "InvalidSpec" | .invalidRecord => "InvalidRecord" | .invalidList => "InvalidList" | .incomparable => "Incomparable" | .tooLong => "TooLong"
  | .inconsistent => "Inconsistent" | .unsorted => "Unsorted" | .notFound => "NotFound" | .invalidFormat => "InvalidFormat"
/-- a list: tracked, or a plain one of the written part -/
def SqB (K : PySem.W.Frag) (H : Hp) (a : Addr) (xs : List V) : Prop :=
  Rd H a (.lst xs) ∨ ∃ (its : List Value) (n : Nat), K.lookup a = some { cls := .type "list", data := .seq its.toArray n } ∧ its.length ≤ sizeLine ∧ Vals xs its
theorem SqB.l {K : PySem.W.Frag} {H : Hp} {a : Addr} {xs : List V} : SqB K H a xs → SqL K H a xs
  | .inl h => .inl h
  | .inr ⟨its, n, e, z, r⟩ => .inr ⟨_, its.toArray, n, e, rfl, rfl, rfl, by simpa using z, by simpa using r⟩
/-! ### keys of dicts -/
mutual
def keyD : D → Option NestedKey
  | .none => some .none
  | .int i => some (.num i)
  | .str x => some (.text x)
  | .tuple ds => (keyAll ds).map .tup
  | .bool _ => none
  | .list _ => none
  | .dict _ => none
def keyAll : List D → Option (List NestedKey)
  | [] => some []
  | d :: ds => (keyD d).bind fun k => (keyAll ds).map (k :: ·)
end
def leafD : D → Option Leaf
  | .none => some .none
  | .int i => some (.num i)
  | .str x => some (.text x)
  | _ => none
section
variable (P : Program) (w : World)
/-- a dict keyed by tuples: keys, the tuples' addresses, values -/
def DTp (a : Addr) (es : List (NestedKey × Addr × V)) (h : Heap) : Prop :=
  es.length ≤ sizeLine ∧ (a == sysModules) = false ∧ ∃ xs : List (NestedKey × Addr × Value), Paired (fun (p : NestedKey × Addr × V) (q : NestedKey × Addr × Value) => p.1 = q.1 ∧ p.2.1 = q.2.1 ∧ RelV p.2.2 q.2.2) es xs ∧
    (xs.map (·.1)).Nodup ∧ ∃ o ens ep, h.get? a = some o ∧ o.ExactDict ∧ o.data = .dict ens ep ∧ ens.toList = xs.map (entryOfKey (nestedKind P w))
def DTo (a : Addr) (es : List (NestedKey × Addr × V)) : HO := .ext (DTp P w a es)
/-- a dict keyed by values without parts -/
def DLp (a : Addr) (es : List (Leaf × V)) (h : Heap) : Prop :=
  es.length ≤ sizeLine ∧ (a == sysModules) = false ∧ ∃ vs : List (Leaf × Value), KV es vs ∧ h.DictOf (leafKind P w) a vs
def DLo (a : Addr) (es : List (Leaf × V)) : HO := .ext (DLp P w a es)
variable (K : PySem.W.Frag)
mutual
inductive Rp (H : Hp) : V → D → Prop
  | non : Rp H .non .none
  | bl (b : Bool) : Rp H (.bl b) (.bool b)
  | int (i : Int) : Rp H (.int i) (.int i)
  | str (x : Str) : Rp H (.str x) (.str x)
  | lst {a : Addr} {xs : List V} {ds : List D} : SqB K H a xs → RpAll H xs ds → Rp H (.ref a) (.list ds)
  | tup {a : Addr} {xs : List V} {ds : List D} : SqT K H a xs → RpAll H xs ds → Rp H (.ref a) (.tuple ds)
  | dct {a : Addr} {es : List (NestedKey × Addr × V)} {kvs : List (D × D)} : H a = some (DTo P w a es) → RpAll H (es.map fun e => V.ref e.2.1) (kvs.map (·.1)) → RpAll H (es.map (·.2.2)) (kvs.map (·.2)) →
      es.map (fun e => some e.1) = kvs.map (fun p => keyD p.1) → Rp H (.ref a) (.dict kvs)
  | dcl {a : Addr} {es : List (Leaf × V)} {kvs : List (D × D)} : H a = some (DLo P w a es) → RpAll H (es.map (·.2)) (kvs.map (·.2)) → es.map (fun e => some e.1) = kvs.map (fun p => leafD p.1) → Rp H (.ref a) (.dict kvs)
inductive RpAll (H : Hp) : List V → List D → Prop
  | nil : RpAll H [] []
  | cons {v : V} {vs : List V} {d : D} {ds : List D} : Rp H v d → RpAll H vs ds → RpAll H (v :: vs) (d :: ds)
end
end
theorem rd_mono {H H' : Hp} {a : Addr} {u : HO} (e : Same H H') (h : Rd H a u) : Rd H' a u := by
  rcases h with h | ⟨o, h⟩
  · exact .inl (e _ _ h)
  · exact .inr ⟨o, e _ _ h⟩
theorem sqb_mono {K : PySem.W.Frag} {H H' : Hp} {a : Addr} {xs : List V} (e : Same H H') (h : SqB K H a xs) : SqB K H' a xs := h.imp_left (rd_mono e)
theorem seqT_mono {K : PySem.W.Frag} {H H' : Hp} {a : Addr} {xs : List V} (e : Same H H') (h : SqT K H a xs) : SqT K H' a xs := by
  rcases h with (h | ⟨o, h⟩) | h
  · exact .inl (.inl (e _ _ h))
  · exact .inl (.inr ⟨o, e _ _ h⟩)
  · exact .inr h
section
variable {P : Program} {w : World} {K : PySem.W.Frag} {H H' : Hp}
mutual
theorem Rp.mono (e : Same H H') : ∀ {v : V} {d : D}, Rp P w K H v d → Rp P w K H' v d
  | _, _, .non => .non
  | _, _, .bl b => .bl b
  | _, _, .int i => .int i
  | _, _, .str x => .str x
  | _, _, .lst h r => .lst (sqb_mono e h) (RpAll.mono e r)
  | _, _, .tup h r => .tup (seqT_mono e h) (RpAll.mono e r)
  | _, _, .dct h r1 r2 k => .dct (e _ _ h) (RpAll.mono e r1) (RpAll.mono e r2) k
  | _, _, .dcl h r k => .dcl (e _ _ h) (RpAll.mono e r) k
theorem RpAll.mono (e : Same H H') : ∀ {vs : List V} {ds : List D}, RpAll P w K H vs ds → RpAll P w K H' vs ds
  | _, _, .nil => .nil
  | _, _, .cons r t => .cons (Rp.mono e r) (RpAll.mono e t)
end
theorem RpAll.length : ∀ {vs : List V} {ds : List D}, RpAll P w K H vs ds → vs.length = ds.length
  | _, _, .nil => rfl
  | _, _, .cons _ t => by simp [RpAll.length t]
theorem RpAll.get : ∀ {vs : List V} {ds : List D} {i : Nat} {d : D}, RpAll P w K H vs ds → ds[i]? = some d → ∃ v, vs[i]? = some v ∧ Rp P w K H v d
  | _, _, _, _, .nil, e => by simp at e
  | _, _, 0, _, .cons r _, e => by simp at e; subst e; exact ⟨_, rfl, r⟩
  | _, _, i + 1, d, .cons _ t, e => by
    obtain ⟨v, h1, h2⟩ := RpAll.get (i := i) (d := d) t (by simpa using e)
    exact ⟨v, by simpa using h1, h2⟩
theorem RpAll.append : ∀ {vs us : List V} {ds es : List D}, RpAll P w K H vs ds → RpAll P w K H us es → RpAll P w K H (vs ++ us) (ds ++ es)
  | _, _, _, _, .nil, s => s
  | _, _, _, _, .cons r t, s => .cons r (RpAll.append t s)
theorem RpAll.take : ∀ {vs : List V} {ds : List D} (n : Nat), RpAll P w K H vs ds → RpAll P w K H (vs.take n) (ds.take n)
  | _, _, 0, _ => .nil
  | _, _, _ + 1, .nil => .nil
  | _, _, n + 1, .cons r t => .cons r (RpAll.take n t)
theorem RpAll.drop : ∀ {vs : List V} {ds : List D} (n : Nat), RpAll P w K H vs ds → RpAll P w K H (vs.drop n) (ds.drop n)
  | _, _, 0, r => r
  | _, _, _ + 1, .nil => .nil
  | _, _, n + 1, .cons _ t => RpAll.drop n t
theorem RpAll.reverse : ∀ {vs : List V} {ds : List D}, RpAll P w K H vs ds → RpAll P w K H vs.reverse ds.reverse
  | _, _, .nil => .nil
  | _, _, .cons r t => by
    rw [List.reverse_cons, List.reverse_cons]
    exact (RpAll.reverse t).append (.cons r .nil)
theorem RpAll.set {v : V} {d : D} (r : Rp P w K H v d) : ∀ {vs : List V} {ds : List D} (i : Nat), RpAll P w K H vs ds → RpAll P w K H (vs.set i v) (ds.set i d)
  | _, _, _, .nil => .nil
  | _, _, 0, .cons _ t => .cons r t
  | _, _, i + 1, .cons q t => .cons q (RpAll.set r i t)
mutual
theorem Rp.dp : ∀ {v : V} {d : D}, Rp P w K H v d → PyData.canLay0 d = true → Dp K H v d
  | _, _, .non, _ => .non
  | _, _, .bl b, _ => .bl b
  | _, _, .int i, _ => .int i
  | _, _, .str x, _ => .str x
  | _, _, .lst h r, c => .lst h.l (RpAll.dp r (by simpa [PyData.canLay0] using c))
  | _, _, .tup h r, c => .tup h (RpAll.dp r (by simpa [PyData.canLay0] using c))
  | _, _, .dct _ _ _ _, c => by simp [PyData.canLay0] at c
  | _, _, .dcl _ _ _, c => by simp [PyData.canLay0] at c
theorem RpAll.dp : ∀ {vs : List V} {ds : List D}, RpAll P w K H vs ds → PyData.canLayAll0 ds = true → DpAll K H vs ds
  | _, _, .nil, _ => .nil
  | _, _, .cons r t, c => by
    rw [PyData.canLayAll0, Bool.and_eq_true] at c
    exact .cons (Rp.dp r c.1) (RpAll.dp t c.2)
end
end
/-! ### the state of a body: slots, cells -/
inductive Slot where
  | un
  | v (d : D)
  | c
  | fn (x : Str)
inductive Cell where
  | dead
  | lst (ds : List D)
  | dic (kvs : List (D × D))
abbrev Slots := List Slot
abbrev Cells := List Cell
inductive Res (α : Type) where
  | st
  | ok (a : α) (cs : Cells)
  | ex (c : Exc) (cs : Cells)
abbrev EM := Slots → Cells → Res D
inductive SRes where
  | st
  | nx (sl : Slots) (cs : Cells)
  | rt (d : D) (cs : Cells)
  | bk (sl : Slots) (cs : Cells)
  | ct (sl : Slots) (cs : Cells)
  | ex (c : Exc) (cs : Cells)
abbrev SM := Slots → Cells → SRes
section
variable (P : Program) (w : World) (K : PySem.W.Frag) (mg : Str → Option Value)
def CellR (Hf H : Hp) : Cell → List Addr → Prop
  | .dead, fp => fp = []
  | .lst ds, fp => ∃ a xs, fp = [a] ∧ H a = some (.lst xs) ∧ Hf a = none ∧ RpAll P w K Hf xs ds
  | .dic kvs, fp => ∃ a es, fp = [a] ∧ H a = some (DTo P w a es) ∧ Hf a = none ∧ RpAll P w K Hf (es.map fun e => V.ref e.2.1) (kvs.map (·.1)) ∧ RpAll P w K Hf (es.map (·.2.2)) (kvs.map (·.2)) ∧
      es.map (fun e => some e.1) = kvs.map (fun p => keyD p.1)
def SlotR (Hf : Hp) (fps : List (List Addr)) (i : Nat) : Slot → Option (Option V) → Prop
  | .un, _ => True
  | .v d, o => ∃ v, o = some (some v) ∧ Rp P w K Hf v d
  | .c, o => ∃ a r, fps[i]? = some (a :: r) ∧ o = some (some (.ref a))
  | .fn x, o => ∃ a, mg x = some (.ref a) ∧ o = some (some (.ref a))
structure Rel (sl : Slots) (cs : Cells) (σ : St) (Hf H : Hp) (fps : List (List Addr)) : Prop where
  sub : Same Hf H
  cells : Paired (CellR P w K Hf H) cs fps
  nd : fps.flatten.Nodup
  slots : ∀ (i : Nat) (s : Slot), sl[i]? = some s → SlotR P w K mg Hf fps i s σ[i]?
  len : sl.length = σ.length
  clen : cs.length = sl.length
end
/-- what may have changed: from (fps, Hf, H) to (fps', Hf', H'); the first m cells stay where they are -/
structure Ext (m : Nat) (fps : List (List Addr)) (Hf H : Hp) (fps' : List (List Addr)) (Hf' H' : Hp) : Prop where
  mono : Same Hf Hf'
  fresh : ∀ b, Hf b = none → Hf' b ≠ none → H b = none ∨ b ∈ fps.flatten
  keep : ∀ b o, H b = some o → b ∉ fps.flatten → H' b = some o
  there : ∀ b, H' b = none → H b = none
  own : ∀ b ∈ fps'.flatten, b ∈ fps.flatten ∨ H b = none
  fix : ∀ k, k < m → (fps'[k]?.bind List.head?) = (fps[k]?.bind List.head?)
theorem Ext.refl (m : Nat) (fps : List (List Addr)) (Hf H : Hp) : Ext m fps Hf H fps Hf H :=
  ⟨Same.refl _, fun b h h' => absurd h h', fun _ _ h _ => h, fun _ h => h, fun _ h => .inl h, fun _ _ => rfl⟩
theorem Ext.trans {m : Nat} {f0 f1 f2 : List (List Addr)} {A0 A1 A2 H0 H1 H2 : Hp} (x : Ext m f0 A0 H0 f1 A1 H1) (y : Ext m f1 A1 H1 f2 A2 H2) : Ext m f0 A0 H0 f2 A2 H2 where
  mono := x.mono.trans y.mono
  fresh := fun b h h' => by
    cases e : A1 b with
    | some o => exact x.fresh b h (by rw [e]; simp)
    | none =>
      rcases y.fresh b e h' with z | z
      · cases q : H0 b with
        | none => exact .inl rfl
        | some o =>
          by_cases hb : b ∈ f0.flatten
          · exact .inr hb
          · rw [x.keep b o q hb] at z; cases z
      · exact (x.own b z).symm
  keep := fun b o h hb => y.keep b o (x.keep b o h hb) fun z => (x.own b z).elim hb fun q => by rw [q] at h; cases h
  there := fun b h => x.there b (y.there b h)
  own := fun b hb => by
    rcases y.own b hb with z | z
    · exact x.own b z
    · cases q : H0 b with
      | none => exact .inr rfl
      | some o =>
        by_cases hb : b ∈ f0.flatten
        · exact .inl hb
        · rw [x.keep b o q hb] at z; cases z
  fix := fun k hk => (y.fix k hk).trans (x.fix k hk)
/-- new frozen objects alone -/
structure Alloc (Hf H Hf' H' : Hp) : Prop where
  mono : Same Hf Hf'
  sub : Same Hf' H'
  keep : Same H H'
  fresh : ∀ b, Hf b = none → Hf' b ≠ none → H b = none
theorem Alloc.refl {Hf H : Hp} (h : Same Hf H) : Alloc Hf H Hf H := ⟨Same.refl _, h, Same.refl _, fun b h h' => absurd h h'⟩
theorem Alloc.trans {A0 H0 A1 H1 A2 H2 : Hp} (x : Alloc A0 H0 A1 H1) (y : Alloc A1 H1 A2 H2) : Alloc A0 H0 A2 H2 :=
  ⟨x.mono.trans y.mono, y.sub, x.keep.trans y.keep, fun b h h' => by
    cases e : A1 b with
    | some o => exact x.fresh b h (by rw [e]; simp)
    | none => exact x.keep.free (y.fresh b e h')⟩
theorem Alloc.new {Hf H : Hp} (h : Same Hf H) {p : Addr} (o : HO) (n : H p = none) : Alloc Hf H (upd Hf p o) (upd H p o) where
  mono := fun b u e => by rw [upd_ne (ne_of_none (h b u e) n)]; exact e
  sub := fun b u e => by
    by_cases hb : b = p
    · subst hb; rw [upd_same] at e ⊢; exact e
    · rw [upd_ne hb] at e ⊢; exact h b u e
  keep := fun b u e => by rw [upd_ne (ne_of_none e n)]; exact e
  fresh := fun b e e' => by
    by_cases hb : b = p
    · subst hb; exact n
    · rw [upd_ne hb] at e'; exact absurd e e'
theorem Alloc.ext {m : Nat} {fps : List (List Addr)} {Hf H Hf' H' : Hp} (x : Alloc Hf H Hf' H') : Ext m fps Hf H fps Hf' H' :=
  ⟨x.mono, fun b h h' => .inl (x.fresh b h h'), fun b o h _ => x.keep b o h, fun b h => x.keep.free h, fun _ h => .inl h, fun _ _ => rfl⟩
section
variable {P : Program} {w : World} {K : PySem.W.Frag} {mg : Str → Option Value} {sl : Slots} {cs : Cells} {σ : St} {Hf H Hf' H' : Hp} {fps : List (List Addr)}
theorem SlotR.mono {s : Slot} {i : Nat} {o : Option (Option V)} (e : Same Hf Hf') (h : SlotR P w K mg Hf fps i s o) : SlotR P w K mg Hf' fps i s o := by
  cases s with
  | un => trivial
  | v d => obtain ⟨v, e1, r⟩ := h; exact ⟨v, e1, r.mono e⟩
  | c => exact h
  | fn x => exact h
theorem CellR.alloc (x : Alloc Hf H Hf' H') {c : Cell} {fp : List Addr} (h : CellR P w K Hf H c fp) : CellR P w K Hf' H' c fp := by
  cases c with
  | dead => exact h
  | lst ds =>
    obtain ⟨a, xs, e, h1, h2, r⟩ := h
    refine ⟨a, xs, e, x.keep _ _ h1, ?_, r.mono x.mono⟩
    cases q : Hf' a with
    | none => rfl
    | some o => have := x.fresh a h2 (by rw [q]; simp); rw [h1] at this; cases this
  | dic kvs =>
    obtain ⟨a, es, e, h1, h2, r1, r2, k⟩ := h
    refine ⟨a, es, e, x.keep _ _ h1, ?_, r1.mono x.mono, r2.mono x.mono, k⟩
    cases q : Hf' a with
    | none => rfl
    | some o => have := x.fresh a h2 (by rw [q]; simp); rw [h1] at this; cases this
theorem Rel.alloc (R : Rel P w K mg sl cs σ Hf H fps) (x : Alloc Hf H Hf' H') : Rel P w K mg sl cs σ Hf' H' fps :=
  ⟨x.sub, Paired.mapP R.cells fun _ _ h => CellR.alloc x h, R.nd, fun i s e => (R.slots i s e).mono x.mono, R.len, R.clen⟩
end
/-! ### readings by meanings -/
abbrev RelX (X : Cx) := Rel X.prog X.w X.K X.mg
abbrev RpX (X : Cx) := Rp X.prog X.w X.K
abbrev RpAllX (X : Cx) := RpAll X.prog X.w X.K
section
variable (X : Cx) (W : WX) (m : Nat)
def Run (σ : St) (sl : Slots) (fps : List (List Addr)) (Hf H : Hp) (r : Res D) (Q : VK) : Prop :=
  match r with
  | .st => False
  | .ok d cs' => ∀ v fps' Hf' H', Ext m fps Hf H fps' Hf' H' → RelX X sl cs' σ Hf' H' fps' → RpX X Hf' v d → Q v H'
  | .ex c cs' => ∀ fps' Hf' H', Ext m fps Hf H fps' Hf' H' → RelX X sl cs' σ Hf' H' fps' → ∀ C, X.mg c.name = some (.ref C) → W (.ref C) none σ H'
def RD (e : EM) : TE := fun σ H Q => ∃ sl cs fps Hf, RelX X sl cs σ Hf H fps ∧ Run X W m σ sl fps Hf H (e sl cs) Q
structure PED (x : Expr) (e : EM) : Prop where
  pe : PE X x (RD X W m e)
/-- tests -/
def RunT (σ : St) (sl : Slots) (fps : List (List Addr)) (Hf H : Hp) (r : Res D) (Q : Bool → Hp → Prop) : Prop :=
  match r with
  | .ok (.bool b) cs' => ∀ fps' Hf' H', Ext m fps Hf H fps' Hf' H' → RelX X sl cs' σ Hf' H' fps' → Q b H'
  | .ex c cs' => ∀ fps' Hf' H', Ext m fps Hf H fps' Hf' H' → RelX X sl cs' σ Hf' H' fps' → ∀ C, X.mg c.name = some (.ref C) → W (.ref C) none σ H'
  | _ => False
def RDT (e : EM) : TT := fun σ H Q => ∃ sl cs fps Hf, RelX X sl cs σ Hf H fps ∧ RunT X W m σ sl fps Hf H (e sl cs) Q
structure PTD (x : Expr) (e : EM) : Prop where
  pt : PT X x (RDT X W m e)
structure PWD (x : Expr) (e : EM) : Prop where
  pw : PW X x (RDT X W m e)
/-- argument lists -/
inductive AV where
  | v (d : D)
  | r (i : Nat)
  | fn (x : Str)
abbrev AM := Slots → Cells → Res (List AV)
inductive AVR (σ : St) (Hf : Hp) : V → AV → Prop
  | v {x : V} {d : D} : RpX X Hf x d → AVR σ Hf x (.v d)
  | r {x : V} {i : Nat} : σ[i]? = some (some x) → AVR σ Hf x (.r i)
  | fn {a : Addr} {x : Str} : X.mg x = some (.ref a) → AVR σ Hf (.ref a) (.fn x)
def RunA (σ : St) (sl : Slots) (fps : List (List Addr)) (Hf H : Hp) (r : Res (List AV)) (Q : List V → Hp → Prop) : Prop :=
  match r with
  | .st => False
  | .ok as cs' => ∀ vs fps' Hf' H', Ext m fps Hf H fps' Hf' H' → RelX X sl cs' σ Hf' H' fps' → Paired (AVR X σ Hf') vs as → Q vs H'
  | .ex c cs' => ∀ fps' Hf' H', Ext m fps Hf H fps' Hf' H' → RelX X sl cs' σ Hf' H' fps' → ∀ C, X.mg c.name = some (.ref C) → W (.ref C) none σ H'
def RDA (e : AM) : TA := fun σ H Q => ∃ sl cs fps Hf, RelX X sl cs σ Hf H fps ∧ RunA X W m σ sl fps Hf H (e sl cs) Q
structure PAD (xs : List Expr) (e : AM) : Prop where
  pa : PA X xs (RDA X W m e)
/-- statements -/
def RunS (σ : St) (fps : List (List Addr)) (Hf H : Hp) (r : SRes) (E : Ends) : Prop :=
  match r with
  | .st => False
  | .nx sl' cs' => ∀ σ' fps' Hf' H', Ext m fps Hf H fps' Hf' H' → RelX X sl' cs' σ' Hf' H' fps' → E.nx σ' H'
  | .bk sl' cs' => ∀ σ' fps' Hf' H', Ext m fps Hf H fps' Hf' H' → RelX X sl' cs' σ' Hf' H' fps' → E.bk σ' H'
  | .ct sl' cs' => ∀ σ' fps' Hf' H', Ext m fps Hf H fps' Hf' H' → RelX X sl' cs' σ' Hf' H' fps' → E.ct σ' H'
  | .rt d cs' => ∀ v fps' Hf' H', Ext m fps Hf H fps' Hf' H' → Same Hf' H' → Paired (CellR X.prog X.w X.K Hf' H') cs' fps' → fps'.flatten.Nodup → RpX X Hf' v d → E.rt v H'
  | .ex c cs' => ∀ σ' fps' Hf' H', Ext m fps Hf H fps' Hf' H' → Same Hf' H' → Paired (CellR X.prog X.w X.K Hf' H') cs' fps' → fps'.flatten.Nodup → ∀ C, X.mg c.name = some (.ref C) → W (.ref C) none σ' H'
def SD (s : SM) : TS := fun E σ H => ∃ sl cs fps Hf, RelX X sl cs σ Hf H fps ∧ RunS X W m σ fps Hf H (s sl cs) E
structure PSD (x : Stmt) (s : SM) : Prop where
  ps : PS X x (SD X W m s)
structure PSsD (xs : List Stmt) (s : SM) : Prop where
  ps : PSs X xs (SD X W m s)
end
end SS
namespace SS
open PySem PySem.Spec L2
/-! ### meanings -/
def retE (d : D) : EM := fun _ cs => .ok d cs
def varE (i : Nat) : EM := fun sl cs => match sl[i]? with
  | some (.v d) => .ok d cs
  | _ => .st
def bindE (e : EM) (k : D → EM) : EM := fun sl cs => match e sl cs with
  | .ok d cs' => k d sl cs'
  | .ex c cs' => .ex c cs'
  | .st => .st
def liftE (o : Option D) : EM := fun _ cs => match o with
  | some d => .ok d cs
  | none => .st
def op1 (f : D → Option D) (a : EM) : EM := bindE a fun x => liftE (f x)
def op2 (f : D → D → Option D) (a b : EM) : EM := bindE a fun x => bindE b fun y => liftE (f x y)
def ifE (c a b : EM) : EM := fun sl cs => match c sl cs with
  | .ok (.bool true) cs' => a sl cs'
  | .ok (.bool false) cs' => b sl cs'
  | .ok _ _ => .st
  | .ex c cs' => .ex c cs'
  | .st => .st
def andE (a b : EM) : EM := ifE a b (retE (.bool false))
def orE (a b : EM) : EM := ifE a (retE (.bool true)) b
def notD : D → Option D
  | .bool b => some (.bool (!b))
  | _ => none
def nilA : AM := fun _ cs => .ok [] cs
def consA (e : EM) (r : AM) : AM := fun sl cs => match e sl cs with
  | .ok d cs' => (match r sl cs' with
    | .ok as cs2 => .ok (.v d :: as) cs2
    | .ex c cs2 => .ex c cs2
    | .st => .st)
  | .ex c cs' => .ex c cs'
  | .st => .st
/-- plain arguments -/
def valsA : List AV → Option (List D)
  | [] => some []
  | .v d :: r => (valsA r).map (d :: ·)
  | _ :: _ => none
def appE (f : List D → Option D) (a : AM) : EM := fun sl cs => match a sl cs with
  | .ok as cs' => (match (valsA as).bind f with
    | some d => .ok d cs'
    | none => .st)
  | .ex c cs' => .ex c cs'
  | .st => .st
section
variable {X : Cx} {W : WX} {m : Nat} {σ : L2.St} {sl : Slots} {cs : Cells} {fps fps1 : List (List Addr)} {Hf H Hf1 H1 : Hp}
theorem _root_.L2.PE.imp {e : Expr} {t t' : TE} (h : PE X e t) (i : ∀ σ H Q, t' σ H Q → t σ H Q) : PE X e t' := ⟨fun pins s σ H Q I q => h.run pins s σ H Q I (i _ _ _ q)⟩
theorem _root_.L2.PT.imp {e : Expr} {t t' : TT} (h : PT X e t) (i : ∀ σ H Q, t' σ H Q → t σ H Q) : PT X e t' := ⟨fun pins s σ H Q I q => h.run pins s σ H Q I (i _ _ _ q)⟩
theorem _root_.L2.PW.imp {e : Expr} {t t' : TT} (h : PW X e t) (i : ∀ σ H Q, t' σ H Q → t σ H Q) : PW X e t' := ⟨fun wh pins s σ H Q I q => h.run wh pins s σ H Q I (i _ _ _ q)⟩
theorem _root_.L2.PA.imp {e : List Expr} {t t' : TA} (h : PA X e t) (i : ∀ σ H Q, t' σ H Q → t σ H Q) : PA X e t' := ⟨fun p pins s σ H Q I q => h.run p pins s σ H Q I (i _ _ _ q)⟩
theorem _root_.L2.PS.imp {e : Stmt} {t t' : TS} (h : PS X e t) (i : ∀ σ H Q, t' Q σ H → t Q σ H) : PS X e t' := ⟨fun pins s σ H Q I q => h.run pins s σ H Q I (i _ _ _ q)⟩
theorem _root_.L2.PSs.imp {e : List Stmt} {t t' : TS} (h : PSs X e t) (i : ∀ σ H Q, t' Q σ H → t Q σ H) : PSs X e t' := ⟨fun pins s σ H Q I q => h.run pins s σ H Q I (i _ _ _ q)⟩
theorem Run.after {r : Res D} {Q : VK} (x : Ext m fps Hf H fps1 Hf1 H1) (h : Run X W m σ sl fps Hf H r Q) : Run X W m σ sl fps1 Hf1 H1 r Q := by
  cases r with
  | st => exact h
  | ok d cs' => exact fun v f A B y R r => h v f A B (x.trans y) R r
  | ex c cs' => exact fun f A B y R C hC => h f A B (x.trans y) R C hC
theorem RunA.after {r : Res (List AV)} {Q : List V → Hp → Prop} (x : Ext m fps Hf H fps1 Hf1 H1) (h : RunA X W m σ sl fps Hf H r Q) : RunA X W m σ sl fps1 Hf1 H1 r Q := by
  cases r with
  | st => exact h
  | ok d cs' => exact fun v f A B y R r => h v f A B (x.trans y) R r
  | ex c cs' => exact fun f A B y R C hC => h f A B (x.trans y) R C hC
theorem RunT.after {r : Res D} {Q : Bool → Hp → Prop} (x : Ext m fps Hf H fps1 Hf1 H1) (h : RunT X W m σ sl fps Hf H r Q) : RunT X W m σ sl fps1 Hf1 H1 r Q := by
  cases r with
  | st => exact h
  | ok d cs' =>
    cases d with
    | bool b => exact fun f A B y R => h f A B (x.trans y) R
    | _ => exact h
  | ex c cs' => exact fun f A B y R C hC => h f A B (x.trans y) R C hC
theorem RunS.after {r : SRes} {E : Ends} (x : Ext m fps Hf H fps1 Hf1 H1) (h : RunS X W m σ fps Hf H r E) : RunS X W m σ fps1 Hf1 H1 r E := by
  cases r with
  | st => exact h
  | nx sl' cs' => exact fun s f A B y R => h s f A B (x.trans y) R
  | bk sl' cs' => exact fun s f A B y R => h s f A B (x.trans y) R
  | ct sl' cs' => exact fun s f A B y R => h s f A B (x.trans y) R
  | rt d cs' => exact fun v f A B y S P N r => h v f A B (x.trans y) S P N r
  | ex c cs' => exact fun s f A B y S P N C hC => h s f A B (x.trans y) S P N C hC
/-- a part is run, then the rest -/
theorem rd_seq {e : EM} {k : D → EM} {Q Q' : VK} (R : RelX X sl cs σ Hf H fps) (h : Run X W m σ sl fps Hf H (bindE e k sl cs) Q)
    (c : ∀ d cs1 v fps1 Hf1 H1, Ext m fps Hf H fps1 Hf1 H1 → RelX X sl cs1 σ Hf1 H1 fps1 → RpX X Hf1 v d → Run X W m σ sl fps1 Hf1 H1 (k d sl cs1) Q → Q' v H1) : RD X W m e σ H Q' := by
  refine ⟨sl, cs, fps, Hf, R, ?_⟩
  unfold bindE at h
  cases he : e sl cs with
  | st => rw [he] at h; exact h
  | ok d cs1 => rw [he] at h; exact fun v f A B x R1 r => c d cs1 v f A B x R1 r (Run.after x h)
  | ex c' cs1 => rw [he] at h; exact h
/-- what an operation on values does, by what they stand for -/
def Op2D (X : Cx) (f : D → D → Option D) (r : R2) : Prop := ∀ (da db d : D) (x y : V) (Hf H : Hp) (Q : VK), f da db = some d → Same Hf H → RpX X Hf x da → RpX X Hf y db →
  (∀ v Hf' H', Alloc Hf H Hf' H' → RpX X Hf' v d → Q v H') → r x y H Q
def Op1D (X : Cx) (f : D → Option D) (r : V → Hp → VK → Prop) : Prop := ∀ (da d : D) (x : V) (Hf H : Hp) (Q : VK), f da = some d → Same Hf H → RpX X Hf x da →
  (∀ v Hf' H', Alloc Hf H Hf' H' → RpX X Hf' v d → Q v H') → r x H Q
theorem run_lift {o : Option D} {Q : VK} (R : RelX X sl cs σ Hf H fps) (h : Run X W m σ sl fps Hf H (liftE o sl cs) Q) : ∃ d, o = some d ∧ ∀ v Hf' H', Alloc Hf H Hf' H' → RpX X Hf' v d → Q v H' := by
  unfold liftE at h
  cases o with
  | none => exact h.elim
  | some d => exact ⟨d, rfl, fun v A B a r => h v fps A B a.ext (R.alloc a) r⟩
theorem rd_op2 {ea eb : EM} {f : D → D → Option D} {r : R2} {Q : VK} (hr : Op2D X f r) (h : RD X W m (op2 f ea eb) σ H Q) : tOp r (RD X W m ea) (RD X W m eb) σ H Q := by
  obtain ⟨sl, cs, fps, Hf, R, h⟩ := h
  refine rd_seq R h fun d1 cs1 x fps1 Hf1 H1 X1 R1 r1 h1 => ?_
  refine rd_seq R1 h1 fun d2 cs2 y fps2 Hf2 H2 X2 R2 r2 h2 => ?_
  obtain ⟨d, e, q⟩ := run_lift R2 h2
  exact hr d1 d2 d x y Hf2 H2 Q e R2.sub (r1.mono X2.mono) r2 q
theorem rd_op1 {ea : EM} {f : D → Option D} {r : V → Hp → VK → Prop} {Q : VK} (hr : Op1D X f r) (h : RD X W m (op1 f ea) σ H Q) : tUn r (RD X W m ea) σ H Q := by
  obtain ⟨sl, cs, fps, Hf, R, h⟩ := h
  refine rd_seq R h fun d1 cs1 x fps1 Hf1 H1 X1 R1 r1 h1 => ?_
  obtain ⟨d, e, q⟩ := run_lift R1 h1
  exact hr d1 d x Hf1 H1 Q e R1.sub r1 q
variable {a b c : Expr} {ea eb ec : EM} {pos : Pos}
/-! ### names, constants -/
theorem ped_ret {x : Expr} {v : V} {d : D} (h : PE X x (tC v)) (r : ∀ Hf, RpX X Hf v d) : PED X W m x (retE d) := ⟨h.imp fun σ H Q ⟨sl, cs, fps, Hf, R, q⟩ => q v fps Hf H (Ext.refl ..) R (r Hf)⟩
theorem ped_int {i : Int} {j} : PED X W m (.Constant (.int i) j pos) (retE (.int i)) := ped_ret pe_int fun _ => .int i
theorem ped_bl {b : Bool} {j} : PED X W m (.Constant (.bool b) j pos) (retE (.bool b)) := ped_ret pe_bl fun _ => .bl b
theorem ped_non {j} : PED X W m (.Constant .none j pos) (retE .none) := ped_ret pe_non fun _ => .non
theorem ped_str {x : Str} {j} : PED X W m (.Constant (.str x) j pos) (retE (.str x)) := ped_ret pe_str fun _ => .str x
theorem ped_var (i : Nat) {x : Str} (h : PE X (.Name x pos) (tVar i) := by exact pv _) : PED X W m (.Name x pos) (varE i) := by
  refine ⟨h.imp fun σ H Q ⟨sl, cs, fps, Hf, R, q⟩ => ?_⟩
  unfold varE at q
  cases e : sl[i]? with
  | none => rw [e] at q; exact q.elim
  | some s =>
    rw [e] at q
    cases s with
    | v d =>
      obtain ⟨v, e1, r⟩ := R.slots i _ e
      exact ⟨v, e1, q v fps Hf H (Ext.refl ..) R r⟩
    | un => exact q.elim
    | c => exact q.elim
    | fn x => exact q.elim
/-- a constant of the module -/
def KRp (X : Cx) (x : Str) (d : D) : Prop := ∃ v u, X.mg x = some u ∧ RelV v u ∧ ∀ Hf, RpX X Hf v d
theorem ped_glob {x : Str} {d : D} (k : KRp X x d) (hg : Gl X x := by rfl) (hd : (x == ("__debug__" : Str)) = false := by decide) : PED X W m (.Name x pos) (retE d) := by
  obtain ⟨v, u, e, r, q⟩ := k
  exact ped_ret (pe_glob hg e r hd) q
/-! ### operators -/
theorem ped_op2 {op : Operator} {f : D → D → Option D} {r : R2} (ho : OpR X (binaryOp op) r) (hr : Op2D X f r) (ha : PED X W m a ea) (hb : PED X W m b eb) : PED X W m (.BinOp a op b pos) (op2 f ea eb) :=
  ⟨(pe_op ho ha.pe hb.pe).imp fun _ _ _ h => rd_op2 hr h⟩
theorem ped_un {op : UnaryOp} {f : D → Option D} {r : V → Hp → VK → Prop} (ho : UnR X (unaryOp op) r) (hr : Op1D X f r) (ha : PED X W m a ea) : PED X W m (.UnaryOp op a pos) (op1 f ea) :=
  ⟨(pe_un ho ha.pe).imp fun _ _ _ h => rd_op1 hr h⟩
theorem ped_cmp {op : CmpOp} {f : D → D → Option D} {r : R2} (ho : OpR X (compareOp op) r) (hr : Op2D X f r) (ha : PED X W m a ea) (hb : PED X W m b eb) (hm : behindInMarks op b = false) : PED X W m (.Compare a [op] [b] pos) (op2 f ea eb) :=
  ⟨(pe_cmpR ho ha.pe hb.pe hm).imp fun _ _ _ h => rd_op2 hr h⟩
/-- a value's reading, where it must be a bool -/
theorem rdt_rd {e : EM} {Q : Bool → Hp → Prop} (h : RDT X W m e σ H Q) : RD X W m e σ H fun x H' => ∃ k, x = .bl k ∧ Q k H' := by
  obtain ⟨sl, cs, fps, Hf, R, h⟩ := h
  refine ⟨sl, cs, fps, Hf, R, ?_⟩
  cases he : e sl cs with
  | st => rw [he] at h; exact h
  | ex c cs' => rw [he] at h; exact h
  | ok d cs' =>
    rw [he] at h
    cases d with
    | bool b =>
      intro v f A B x R1 r
      cases r
      exact ⟨b, rfl, h f A B x R1⟩
    | _ => exact h.elim
theorem ptd_val {x : Expr} {e : EM} (h : PED X W m x e) (he : ∀ whole, isTrue x X.env whole = (do let v ← whole; standAt x.pos; holding [v] (truthy v)) := by intro _; rfl) : PTD X W m x e :=
  ⟨(pt_val h.pe he).imp fun _ _ _ q => rdt_rd q⟩
theorem ptd_cmp {op : CmpOp} {f : D → D → Option D} {r : R2} (ho : OpR X (compareOp op) r) (hr : Op2D X f r) (ha : PED X W m a ea) (hb : PED X W m b eb) (hm : behindInMarks op b = false) : PTD X W m (.Compare a [op] [b] pos) (op2 f ea eb) :=
  ⟨(pt_cmpR ho ha.pe hb.pe hm).imp fun _ _ _ q => rd_op2 hr (rdt_rd q)⟩
/-- a test, then what follows -/
theorem rdt_seq {e : EM} {ka kb : EM} {Q' : Bool → Hp → Prop} {P : Res D → List (List Addr) → Hp → Hp → Prop}
    (after : ∀ r fps1 Hf1 H1, Ext m fps Hf H fps1 Hf1 H1 → P r fps Hf H → P r fps1 Hf1 H1)
    (exs : ∀ c cs', P (.ex c cs') fps Hf H → ∀ fps' Hf' H', Ext m fps Hf H fps' Hf' H' → RelX X sl cs' σ Hf' H' fps' → ∀ C, X.mg c.name = some (.ref C) → W (.ref C) none σ H')
    (sts : P .st fps Hf H → False)
    (R : RelX X sl cs σ Hf H fps) (h : P (ifE e ka kb sl cs) fps Hf H)
    (c : ∀ b cs1 fps1 Hf1 H1, Ext m fps Hf H fps1 Hf1 H1 → RelX X sl cs1 σ Hf1 H1 fps1 → P ((if b = true then ka else kb) sl cs1) fps1 Hf1 H1 → Q' b H1) : RDT X W m e σ H Q' := by
  refine ⟨sl, cs, fps, Hf, R, ?_⟩
  unfold ifE at h
  cases he : e sl cs with
  | st => rw [he] at h; exact sts h
  | ex c' cs1 => rw [he] at h; exact exs _ _ h
  | ok d cs1 =>
    rw [he] at h
    cases d with
    | bool b =>
      intro f A B x R1
      refine c b cs1 f A B x R1 ?_
      cases b <;> exact after _ _ _ _ x h
    | _ => exact sts h
theorem rdt_if {e ka kb : EM} {Q : VK} {Q' : Bool → Hp → Prop} (R : RelX X sl cs σ Hf H fps) (h : Run X W m σ sl fps Hf H (ifE e ka kb sl cs) Q)
    (c : ∀ b cs1 fps1 Hf1 H1, Ext m fps Hf H fps1 Hf1 H1 → RelX X sl cs1 σ Hf1 H1 fps1 → Run X W m σ sl fps1 Hf1 H1 ((if b = true then ka else kb) sl cs1) Q → Q' b H1) : RDT X W m e σ H Q' :=
  rdt_seq (P := fun r f A B => Run X W m σ sl f A B r Q) (fun _ _ _ _ x h => Run.after x h) (fun _ _ h => h) (fun h => h) R h c
theorem rdt_ifT {e ka kb : EM} {Q : Bool → Hp → Prop} {Q' : Bool → Hp → Prop} (R : RelX X sl cs σ Hf H fps) (h : RunT X W m σ sl fps Hf H (ifE e ka kb sl cs) Q)
    (c : ∀ b cs1 fps1 Hf1 H1, Ext m fps Hf H fps1 Hf1 H1 → RelX X sl cs1 σ Hf1 H1 fps1 → RunT X W m σ sl fps1 Hf1 H1 ((if b = true then ka else kb) sl cs1) Q → Q' b H1) : RDT X W m e σ H Q' :=
  rdt_seq (P := fun r f A B => RunT X W m σ sl f A B r Q) (fun _ _ _ _ x h => RunT.after x h) (fun _ _ h => h) (fun h => h) R h c
theorem ptd_not (ha : PTD X W m a ea) : PTD X W m (.UnaryOp .Not a pos) (op1 notD ea) := by
  refine ⟨(pt_not ha.pt).imp fun σ H Q ⟨sl, cs, fps, Hf, R, h⟩ => ⟨sl, cs, fps, Hf, R, ?_⟩⟩
  unfold op1 bindE at h
  cases he : ea sl cs with
  | st => rw [he] at h; exact h
  | ex c cs' => rw [he] at h; exact h
  | ok d cs' =>
    rw [he] at h
    cases d with
    | bool b => exact h
    | _ => exact h.elim
theorem PWD.ptd {x : Expr} {e : EM} (h : PWD X W m x e) : PTD X W m x e := ⟨h.pw.pt⟩
theorem pwd_and1 (ha : PTD X W m a ea) : PWD X W m (.BoolOp .And [a] pos) ea := ⟨pw_and1 ha.pt⟩
theorem pwd_or1 (ha : PTD X W m a ea) : PWD X W m (.BoolOp .Or [a] pos) ea := ⟨pw_or1 ha.pt⟩
theorem runT_ret {b : Bool} {Q : Bool → Hp → Prop} (R : RelX X sl cs σ Hf H fps) (h : RunT X W m σ sl fps Hf H (retE (.bool b) sl cs) Q) : Q b H := h fps Hf H (Ext.refl ..) R
theorem pwd_and {rest : List Expr} (ha : PTD X W m a ea) (hb : PWD X W m (.BoolOp .And (b :: rest) pos) eb) : PWD X W m (.BoolOp .And (a :: b :: rest) pos) (andE ea eb) := by
  refine ⟨(pw_and ha.pt hb.pw).imp fun σ H Q ⟨sl, cs, fps, Hf, R, h⟩ => ?_⟩
  refine rdt_ifT R h fun c cs1 fps1 Hf1 H1 x R1 h1 => ?_
  cases c with
  | true => exact iteT ⟨sl, cs1, fps1, Hf1, R1, h1⟩
  | false => exact iteF (runT_ret R1 h1)
theorem pwd_or {rest : List Expr} (ha : PTD X W m a ea) (hb : PWD X W m (.BoolOp .Or (b :: rest) pos) eb) : PWD X W m (.BoolOp .Or (a :: b :: rest) pos) (orE ea eb) := by
  refine ⟨(pw_or ha.pt hb.pw).imp fun σ H Q ⟨sl, cs, fps, Hf, R, h⟩ => ?_⟩
  refine rdt_ifT R h fun c cs1 fps1 Hf1 H1 x R1 h1 => ?_
  cases c with
  | true => exact iteT (runT_ret R1 h1)
  | false => exact iteF ⟨sl, cs1, fps1, Hf1, R1, h1⟩
theorem run_ret {d : D} {Q : VK} {v : V} (R : RelX X sl cs σ Hf H fps) (r : RpX X Hf v d) (h : Run X W m σ sl fps Hf H (retE d sl cs) Q) : Q v H := h v fps Hf H (Ext.refl ..) R r
/-- and, or, not as values -/
theorem ped_one {op} (h : PED X W m a ea) : PED X W m (.BoolOp op [a] pos) ea := ⟨pe_one h.pe⟩
theorem rd_if {e ka kb : EM} {Q : VK} {Q' : Bool → Hp → Prop} (R : RelX X sl cs σ Hf H fps) (h : Run X W m σ sl fps Hf H (ifE e ka kb sl cs) Q)
    (c : ∀ b cs1 fps1 Hf1 H1, Ext m fps Hf H fps1 Hf1 H1 → RelX X sl cs1 σ Hf1 H1 fps1 → Run X W m σ sl fps1 Hf1 H1 ((if b = true then ka else kb) sl cs1) Q → Q' b H1) : RD X W m e σ H fun x H' => ∃ k, x = .bl k ∧ Q' k H' :=
  rdt_rd (rdt_if R h c)
theorem ped_and {rest : List Expr} (ha : PED X W m a ea) (hb : PED X W m (.BoolOp .And (b :: rest) pos) eb) : PED X W m (.BoolOp .And (a :: b :: rest) pos) (andE ea eb) := by
  refine ⟨(pe_and ha.pe hb.pe).imp fun σ H Q ⟨sl, cs, fps, Hf, R, h⟩ => ?_⟩
  refine rd_if R h fun c cs1 fps1 Hf1 H1 x R1 h1 => ?_
  cases c with
  | true => exact iteT ⟨sl, cs1, fps1, Hf1, R1, h1⟩
  | false => exact iteF (run_ret R1 (.bl false) h1)
theorem ped_or {rest : List Expr} (ha : PED X W m a ea) (hb : PED X W m (.BoolOp .Or (b :: rest) pos) eb) : PED X W m (.BoolOp .Or (a :: b :: rest) pos) (orE ea eb) := by
  refine ⟨(pe_or ha.pe hb.pe).imp fun σ H Q ⟨sl, cs, fps, Hf, R, h⟩ => ?_⟩
  refine rd_if R h fun c cs1 fps1 Hf1 H1 x R1 h1 => ?_
  cases c with
  | true => exact iteT (run_ret R1 (.bl true) h1)
  | false => exact iteF ⟨sl, cs1, fps1, Hf1, R1, h1⟩
theorem ped_not (ha : PED X W m a ea) : PED X W m (.UnaryOp .Not a pos) (op1 notD ea) := by
  refine ⟨(pe_not ha.pe).imp fun σ H Q ⟨sl, cs, fps, Hf, R, h⟩ => ?_⟩
  refine rd_seq R h fun d1 cs1 x fps1 Hf1 H1 X1 R1 r1 h1 => ?_
  obtain ⟨d, e, q⟩ := run_lift R1 h1
  cases r1 with
  | bl b =>
    have e' : PyData.bool (!b) = d := Option.some.inj e
    subst e'
    exact ⟨b, rfl, q _ _ _ (Alloc.refl R1.sub) (.bl _)⟩
  | _ => cases e
theorem ped_if (hc : PTD X W m c ec) (ha : PED X W m a ea) (hb : PED X W m b eb) : PED X W m (.IfExp c a b pos) (ifE ec ea eb) := by
  refine ⟨(pe_ifExp hc.pt ha.pe hb.pe).imp fun σ H Q ⟨sl, cs, fps, Hf, R, h⟩ => ?_⟩
  refine rdt_if R h fun k cs1 fps1 Hf1 H1 x R1 h1 => ?_
  cases k with
  | true => exact iteT ⟨sl, cs1, fps1, Hf1, R1, h1⟩
  | false => exact iteF ⟨sl, cs1, fps1, Hf1, R1, h1⟩
/-- a op1 b op2 c -/
def chainE (f f' : D → D → Option D) (a b c : EM) : EM := bindE a fun x => bindE b fun y => ifE (liftE (f x y)) (bindE c fun z => liftE (f' y z)) (retE (.bool false))
theorem rd_chain {f f' : D → D → Option D} {r r' : R2} {Q : VK} (hr : Op2D X f r) (hr' : Op2D X f' r') (h : RD X W m (chainE f f' ea eb ec) σ H Q) : tChain r r' (RD X W m ea) (RD X W m eb) (RD X W m ec) σ H Q := by
  obtain ⟨sl, cs, fps, Hf, R, h⟩ := h
  refine rd_seq R h fun d1 cs1 x fps1 Hf1 H1 X1 R1 r1 h1 => ?_
  refine rd_seq R1 h1 fun d2 cs2 y fps2 Hf2 H2 X2 R2 r2 h2 => ?_
  cases e : f d1 d2 with
  | none => unfold ifE liftE at h2; rw [e] at h2; exact h2.elim
  | some d =>
    refine hr d1 d2 d x y Hf2 H2 _ e R2.sub (r1.mono X2.mono) r2 fun v Hf3 H3 a r3 => ?_
    unfold ifE liftE at h2; rw [e] at h2
    have R3 := R2.alloc a
    cases d with
    | bool b =>
      cases r3
      cases b with
      | true =>
        refine ⟨true, rfl, iteT (rd_seq R3 (Run.after a.ext h2) fun d4 cs4 z fps4 Hf4 H4 X4 R4 r4 h4 => ?_)⟩
        obtain ⟨d, e', q⟩ := run_lift R4 h4
        exact hr' d2 d4 d y z Hf4 H4 Q e' R4.sub ((r2.mono a.mono).mono X4.mono) r4 q
      | false => exact ⟨false, rfl, iteF (run_ret R3 (.bl false) (Run.after a.ext h2))⟩
    | _ => exact h2.elim
theorem ped_chain {op op' : CmpOp} {f f' : D → D → Option D} {r r' : R2} (ho : OpR X (compareOp op) r) (hr : Op2D X f r) (ho' : OpR X (compareOp op') r') (hr' : Op2D X f' r') (ha : PED X W m a ea) (hb : PED X W m b eb) (hc : PED X W m c ec)
    (hm : lastMarks [op, op'] [b, c] = false := by with_unfolding_all rfl) : PED X W m (.Compare a [op, op'] [b, c] pos) (chainE f f' ea eb ec) := ⟨(pe_chain ho ho' ha.pe hb.pe hc.pe hm).imp fun _ _ _ h => rd_chain hr hr' h⟩
theorem ptd_chain {op op' : CmpOp} {f f' : D → D → Option D} {r r' : R2} (ho : OpR X (compareOp op) r) (hr : Op2D X f r) (ho' : OpR X (compareOp op') r') (hr' : Op2D X f' r') (ha : PED X W m a ea) (hb : PED X W m b eb) (hc : PED X W m c ec)
    (hm : lastMarks [op, op'] [b, c] = false := by with_unfolding_all rfl) : PTD X W m (.Compare a [op, op'] [b, c] pos) (chainE f f' ea eb ec) := ⟨(pt_chain ho ho' ha.pe hb.pe hc.pe hm).imp fun _ _ _ h => rd_chain hr hr' (rdt_rd h)⟩
/-! ### arguments, displays -/
theorem pad_nil : PAD X W m [] nilA := ⟨pa_nil.imp fun σ H Q ⟨sl, cs, fps, Hf, R, h⟩ => h [] fps Hf H (Ext.refl ..) R .nil⟩
theorem AVR.mono {v : V} {a : AV} (e : Same Hf Hf1) (h : AVR X σ Hf v a) : AVR X σ Hf1 v a := by
  cases h with
  | v r => exact .v (r.mono e)
  | r h => exact .r h
  | fn h => exact .fn h
theorem pad_cons {x : Expr} {xs : List Expr} {e : EM} {r : AM} (ha : PED X W m x e) (hr : PAD X W m xs r) (hs : starEach (x :: xs) X.env = (false, eval x X.env) :: starEach xs X.env := by rfl) : PAD X W m (x :: xs) (consA e r) := by
  refine ⟨(pa_cons ha.pe hr.pa hs).imp fun σ H Q ⟨sl, cs, fps, Hf, R, h⟩ => ?_⟩
  refine ⟨sl, cs, fps, Hf, R, ?_⟩
  unfold consA at h
  cases he : e sl cs with
  | st => rw [he] at h; exact h
  | ex c cs' => rw [he] at h; exact h
  | ok d cs1 =>
    rw [he] at h
    intro v f1 A1 H1 X1 R1 r1
    refine ⟨sl, cs1, f1, A1, R1, ?_⟩
    have h : RunA X W m σ sl f1 A1 H1 (match r sl cs1 with | .ok as cs2 => .ok (.v d :: as) cs2 | .ex c cs2 => .ex c cs2 | .st => .st) Q := RunA.after X1 h
    cases hr' : r sl cs1 with
    | st => rw [hr'] at h; exact h
    | ex c cs' => rw [hr'] at h; exact h
    | ok as cs2 =>
      rw [hr'] at h
      intro vs f2 A2 H2 X2 R2 r2
      exact h (v :: vs) f2 A2 H2 X2 R2 (.cons (.v (r1.mono X2.mono)) r2)
/-- plain arguments, read as data -/
theorem vals_of : ∀ {vs : List V} {as : List AV} {ds : List D}, Paired (AVR X σ Hf) vs as → valsA as = some ds → RpAllX X Hf vs ds
  | _, _, _, .nil, e => by cases e; exact .nil
  | _, _, _, .cons (.v r) t, e => by
    rename_i d _ as
    unfold valsA at e
    cases q : valsA as with
    | none => rw [q] at e; cases e
    | some es => rw [q] at e; cases e; exact .cons r (vals_of t q)
  | _, _, _, .cons (.r h) t, e => by cases e
  | _, _, _, .cons (.fn h) t, e => by cases e
def AppD (X : Cx) (f : List D → Option D) (r : List V → Hp → VK → Prop) : Prop := ∀ (ds : List D) (d : D) (vs : List V) (Hf H : Hp) (Q : VK), f ds = some d → Same Hf H → RpAllX X Hf vs ds →
  (∀ v Hf' H', Alloc Hf H Hf' H' → RpX X Hf' v d → Q v H') → r vs H Q
theorem rd_app {f : List D → Option D} {ea : AM} {r : List V → Hp → VK → Prop} {Q : VK} (hr : AppD X f r) (h : RD X W m (appE f ea) σ H Q) : RDA X W m ea σ H fun vs H1 => r vs H1 Q := by
  obtain ⟨sl, cs, fps, Hf, R, h⟩ := h
  refine ⟨sl, cs, fps, Hf, R, ?_⟩
  unfold appE at h
  cases he : ea sl cs with
  | st => rw [he] at h; exact h
  | ex c cs' => rw [he] at h; exact h
  | ok as cs1 =>
    rw [he] at h
    intro vs f1 A1 H1 X1 R1 r1
    have h : Run X W m σ sl fps Hf H (match (valsA as).bind f with | some d => .ok d cs1 | none => .st) Q := h
    cases e1 : valsA as with
    | none => rw [e1] at h; exact h.elim
    | some ds =>
      rw [e1] at h
      have h : Run X W m σ sl fps Hf H (match f ds with | some d => .ok d cs1 | none => .st) Q := h
      cases e2 : f ds with
      | none => rw [e2] at h; exact h.elim
      | some d =>
        rw [e2] at h
        exact hr ds d vs A1 H1 Q e2 R1.sub (vals_of r1 e1) fun v A2 H2 a r2 => h v f1 A2 H2 (X1.trans a.ext) (R1.alloc a) r2
def tupD (ds : List D) : Option D := if ds.length ≤ 16000000 then some (.tuple ds) else none
def lstD (ds : List D) : Option D := if ds.length ≤ 16000000 then some (.list ds) else none
theorem line_of {n : Nat} (h : n ≤ 16000000) : n ≤ sizeLine := by rw [sizeLine_eq]; omega
theorem ped_tup {xs : List Expr} {e : AM} {k} (h : PAD X W m xs e) : PED X W m (.Tuple xs k pos) (appE tupD e) := by
  refine ⟨(pe_tup h.pa).imp fun σ H Q h => ?_⟩
  refine rd_app (r := fun xs H1 Q => xs.length ≤ sizeLine ∧ ∀ p, H1 p = none → Q (.ref p) (upd H1 p (.tup xs))) ?_ h
  intro ds d vs Hf H Q e sub r q
  unfold tupD at e
  split at e
  · rename_i hl
    cases e
    refine ⟨by rw [r.length]; exact line_of hl, fun p hp => ?_⟩
    have a := Alloc.new sub (.tup vs) hp
    exact q (.ref p) _ _ a (.tup (SqT.of upd_same) (r.mono a.mono))
  · cases e
theorem ped_lst {xs : List Expr} {e : AM} (h : PAD X W m xs e) : PED X W m (.List xs pos) (appE lstD e) := by
  refine ⟨(pe_lst h.pa).imp fun σ H Q h => ?_⟩
  refine rd_app (r := fun xs H1 Q => xs.length ≤ sizeLine ∧ ∀ p, H1 p = none → Q (.ref p) (upd H1 p (.lst xs))) ?_ h
  intro ds d vs Hf H Q e sub r q
  unfold lstD at e
  split at e
  · rename_i hl
    cases e
    refine ⟨by rw [r.length]; exact line_of hl, fun p hp => ?_⟩
    have a := Alloc.new sub (.lst vs) hp
    exact q (.ref p) _ _ a (.lst (.inl (.inl upd_same)) (r.mono a.mono))
  · cases e
/-- a built-in function, a built-in type, called with plain arguments -/
theorem ped_callB {id : String} {x : Str} {p : Pos} {e1 : Expr} {es : List Expr} {ea : AM} {f : List D → Option D} {r : List V → Hp → VK → Prop} (hc : CallR X (.builtin id) r) (hr : AppD X f r) (hm : X.mg x = none) (hv : bootBuiltins x = some (.builtin id)) (ha : PAD X W m (e1 :: es) ea)
    (hg : Gl X x := by rfl) (hn : x ≠ "__name__" := by decide) (hdb : (x == ("__debug__" : Str)) = false := by decide)
    (he : starEach (e1 :: es) X.env = (false, eval e1 X.env) :: starEach es X.env := by rfl) (hpl : (backTo pos (starEach es X.env)).any (·.1) = false := by rfl) : PED X W m (.Call (.Name x p) (e1 :: es) [] pos) (appE f ea) :=
  ⟨(pe_callB hc hg hm hv ha.pa hn hdb he hpl).imp fun _ _ _ h => rd_app hr h⟩
theorem ped_callTy {T : String} {x : Str} {p : Pos} {e1 : Expr} {es : List Expr} {ea : AM} {f : List D → Option D} {r : List V → Hp → VK → Prop} (hc : CallR X (.type T) r) (hr : AppD X f r) (hm : X.mg x = none) (hv : bootBuiltins x = some (.type T)) (ha : PAD X W m (e1 :: es) ea)
    (hg : Gl X x := by rfl) (hn : x ≠ "__name__" := by decide) (hdb : (x == ("__debug__" : Str)) = false := by decide)
    (he : starEach (e1 :: es) X.env = (false, eval e1 X.env) :: starEach es X.env := by rfl) (hpl : (backTo pos (starEach es X.env)).any (·.1) = false := by rfl) : PED X W m (.Call (.Name x p) (e1 :: es) [] pos) (appE f ea) :=
  ⟨(pe_callTy hc hg hm hv ha.pa hn hdb he hpl).imp fun _ _ _ h => rd_app hr h⟩
end
end SS
namespace SS
open PySem PySem.Spec L2
open PyProof.Rows (b2i)
/-! ### what the operators are worth -/
def BIG : Nat := 16000000
def addD : D → D → Option D
  | .int i, .int j => some (.int (i + j))
  | .str x, .str y => if x.length + y.length ≤ 16000000 then some (.str (x ++ y)) else none
  | .tuple xs, .tuple ys => if xs.length + ys.length ≤ 16000000 then some (.tuple (xs ++ ys)) else none
  | .list xs, .list ys => if xs.length + ys.length ≤ 16000000 then some (.list (xs ++ ys)) else none
  | _, _ => none
def subD : D → D → Option D
  | .int i, .int j => some (.int (i - j))
  | .bool i, .bool j => some (.int (b2i i - b2i j))
  | _, _ => none
def smallI (i : Int) : Bool := decide (-(18446744073709551616 : Int) < i) && decide (i < 18446744073709551616)
def mulD : D → D → Option D
  | .int i, .int j => if smallI i || smallI j || (decide (i.natAbs < 2 ^ 300) && decide (j.natAbs < 2 ^ 300)) then some (.int (i * j)) else none
  | .list xs, .int k => if 0 ≤ k ∧ k ≤ 1000 ∧ xs.length ≤ 1000 then some (.list (List.replicate k.toNat xs).flatten) else none
  | .tuple xs, .int k => if 1 ≤ k ∧ k ≤ 1000 ∧ xs.length ≤ 1000 ∧ xs ≠ [] then some (.tuple (List.replicate k.toNat xs).flatten) else none
  | _, _ => none
def fdivD : D → D → Option D
  | .int i, .int j => if 0 < j ∧ j < 1073741824 then some (.int (i / j)) else none
  | _, _ => none
def modD : D → D → Option D
  | .int i, .int j => if 0 < j then some (.int (i % j)) else none
  | _, _ => none
def powD : D → D → Option D
  | .int i, .int j => if 0 ≤ j ∧ j ≤ 1000 ∧ i.natAbs < 18446744073709551616 then some (.int (i ^ j.toNat)) else none
  | _, _ => none
def negD : D → Option D
  | .int i => some (.int (-i))
  | _ => none
/-- data that == tells apart at once -/
def flatD : D → Bool
  | .none => true
  | .bool _ => true
  | .int _ => true
  | .str _ => true
  | _ => false
def scalD : D → D → Bool
  | .none, .none => true | .none, .int _ => true | .int _, .none => true | .none, .bool _ => true | .bool _, .none => true | .none, .str _ => true | .str _, .none => true
  | .int _, .int _ => true | .bool _, .bool _ => true | .str _, .str _ => true
  | .int _, .str _ => true | .str _, .int _ => true | .bool _, .str _ => true | .str _, .bool _ => true
  | _, _ => false
def eqD (x y : D) : Option D := if scalD x y || (SeqAt.shaped x && SeqAt.shaped y) then some (.bool (PyData.eqv x y)) else none
def neD (x y : D) : Option D := if scalD x y || (SeqAt.shaped x && SeqAt.shaped y) then some (.bool (!PyData.eqv x y)) else none
def ltS (x y : Str) : Bool := decide (x.cps.toList < y.cps.toList)
def ltD : D → D → Option D
  | .int i, .int j => some (.bool (decide (i < j)))
  | .str x, .str y => some (.bool (ltS x y))
  | _, _ => none
def gtD : D → D → Option D
  | .int i, .int j => some (.bool (decide (j < i)))
  | .str x, .str y => some (.bool (ltS y x))
  | _, _ => none
def leD : D → D → Option D
  | .int i, .int j => some (.bool (decide (i ≤ j)))
  | _, _ => none
def geD : D → D → Option D
  | .int i, .int j => some (.bool (decide (j ≤ i)))
  | _, _ => none
def anyD (x : D) (ys : List D) : Bool := ys.any fun y => PyData.eqv y x
def inB : D → D → Option Bool
  | .str x, .str y => if x.length = 1 then some (decide (x.cps.getD 0 0 ∈ y.cps.toList)) else none
  | x, .tuple ys => if flatD x && ys.all flatD then some (anyD x ys) else none
  | x, .list ys => if (flatD x && ys.all flatD) || (SeqAt.shaped x && SeqAt.shaped (.list ys)) then some (anyD x ys) else none
  | _, _ => none
def inD (x y : D) : Option D := (inB x y).map .bool
def notInD (x y : D) : Option D := (inB x y).map fun b => .bool (!b)
def isB : D → D → Option Bool
  | .none, .none => some true
  | _, .none => some false
  | .bool a, .bool b => some (a == b)
  | _, _ => none
def isD (x y : D) : Option D := match x, y with
  | x, .none => some (.bool (match x with | .none => true | _ => false))
  | .bool a, .bool b => some (.bool (a == b))
  | _, _ => none
def isNotD (x y : D) : Option D := match x, y with
  | x, .none => some (.bool (match x with | .none => false | _ => true))
  | .bool a, .bool b => some (.bool (!(a == b)))
  | _, _ => none
def idxD : D → D → Option D
  | .list xs, .int i => atI xs i
  | .tuple xs, .int i => atI xs i
  | _, _ => none
def lenD : List D → Option D
  | [.list xs] => if xs.length ≤ 16000000 then some (.int xs.length) else none
  | [.tuple xs] => if xs.length ≤ 16000000 then some (.int xs.length) else none
  | [.str x] => if x.length ≤ 16000000 then some (.int x.length) else none
  | _ => none
inductive Ty where
  | int | bool | str | tuple | list
def isaD : Ty → D → Option D
  | .int, .int _ => some (.bool true)
  | .int, .bool _ => some (.bool true)
  | .bool, .bool _ => some (.bool true)
  | .str, .str _ => some (.bool true)
  | .tuple, .tuple _ => some (.bool true)
  | .list, .list _ => some (.bool true)
  | _, .dict _ => none
  | _, _ => some (.bool false)
def allD : List D → Option D
  | [.list ds] => if ds.all (fun d => match d with | .bool _ => true | _ => false) then some (.bool (ds.all fun d => match d with | .bool b => b | _ => false)) else none
  | _ => none
def tupleD : List D → Option D
  | [.list xs] => some (.tuple xs)
  | [.tuple xs] => some (.tuple xs)
  | _ => none
def listD : List D → Option D
  | [.list xs] => some (.list xs)
  | [.tuple xs] => some (.list xs)
  | _ => none
def strD : List D → Option D
  | [.int i] => if i.natAbs < 2 ^ 1000 then some (.str (toString i)) else none
  | [.str x] => some (.str x)
  | _ => none
def indexD (x : D) : List D → Option D
  | [y] => match x with
    | .list ds => if flatD y && ds.all flatD then (ds.findIdx? fun z => PyData.eqv z y).map fun (j : Nat) => PyData.int (j : Int) else none
    | _ => none
  | _ => none
section
variable {X : Cx}
theorem line64 : (16000000 : Nat) ≤ sizeLine := by rw [sizeLine_eq]; decide
theorem OpR.or3 {f : Value → Value → Sem Value} {r r' r'' : R2} (h : OpR X f r) (h' : OpR X f r') (h'' : OpR X f r'') : OpR X f (fun x y H Q => r x y H Q ∨ r' x y H Q ∨ r'' x y H Q) := h.or (h'.or h'')
/-! ### + on lists -/
theorem rd_list {pins : List (Addr × Obj)} {σ : L2.St} {H : Hp} {s : Shared} {a : Addr} {xs : List V} (I : Inv X pins σ H s) (h : SqB X.K H a xs) :
    xs.length ≤ sizeLine ∧ ∃ (its : List Value) (n : Nat), Vals xs its ∧ s.heap.get? a = some { cls := .type "list", data := .seq its.toArray n } := by
  rcases h with h | ⟨its, n, e, z, r⟩
  · exact h.ok I.hok
  · exact ⟨by rw [r.length]; exact z, its, n, r, I.kIn _ _ e⟩
theorem new_list {pins : List (Addr × Obj)} {σ : L2.St} {H : Hp} {s : Shared} {xs : List V} {us : List Value} {t' : Nat} (I : Inv X pins σ H s) (r : Vals xs us) (z : xs.length ≤ sizeLine) :
    Inv X pins σ (upd H s.heap.objs.size (.lst xs)) { s with heap := s.heap.push { cls := .type "list", data := .seq us.toArray }, toks := t' } :=
  I.laid (t' := t') (fun b o e => Heap.get?_push_of_some _ e) (Nat.le_refl _) ⟨z, us, 0, r, Heap.get?_push_size _ rfl⟩
def rCatL (K : PySem.W.Frag) : R2 := fun x y H Q => ∃ l b xs zs, x = .ref l ∧ y = .ref b ∧ SqB K H l xs ∧ SqB K H b zs ∧ xs.length + zs.length ≤ sizeLine ∧ ∀ p, H p = none → Q (.ref p) (upd H p (.lst (xs ++ zs)))
theorem op_catL : OpR X (binaryOp .Add) (rCatL X.K) := by
  intro pins s σ H x y v u Q I rx ry h
  obtain ⟨l, b, xs, zs, rfl, rfl, hH, hB, hz, q⟩ := h
  cases rx
  cases ry
  obtain ⟨z, its, n, r, e⟩ := rd_list I hH
  obtain ⟨z2, its2, n2, r2, e2⟩ := rd_list I hB
  have l1 := r.length
  have l2 := r2.length
  refine PySem.P.add_list e e2 ?_ (by rw [List.size_toArray, List.size_toArray]; omega)
  have ea : its.toArray ++ its2.toArray = (its ++ its2).toArray := by simp
  rw [ea]
  exact ⟨.ref _, _, new_list (t' := s.toks) I (r.append r2) (by rw [List.length_append]; omega), rfl, q _ (I.hok.fresh (Nat.le_refl _))⟩
theorem op_sub_bb : OpR X (binaryOp .Sub) (fun x y H Q => ∃ i j, x = .bl i ∧ y = .bl j ∧ Q (.int (b2i i - b2i j)) H) := by
  intro pins s σ H x y v u Q I rx ry h
  obtain ⟨i, j, rfl, rfl, q⟩ := h
  cases rx
  cases ry
  exact PyProof.Rows.sub_bool ⟨.int _, H, I.tok _, ⟨_, rfl⟩, q⟩
/-! ### the operators' rules, by data -/
def rAdd4 (K : PySem.W.Frag) : R2 := fun x y H Q => rI0 (fun i j => .int (i + j)) x y H Q ∨ (∃ i j, x = .str i ∧ y = .str j ∧ i.length + j.length ≤ sizeLine ∧ Q (.str (i ++ j)) H) ∨ rCatA K x y H Q ∨ rCatL K x y H Q
theorem o_add : OpR X (binaryOp .Add) (rAdd4 X.K) := op_add.or (op_add_str.or (op_catA.or op_catL))
theorem d_add : Op2D X addD (rAdd4 X.K) := by
  intro da db d x y Hf H Q e sub rx ry q
  unfold addD at e
  split at e
  · cases e; cases rx; cases ry
    exact .inl ⟨_, _, rfl, rfl, q _ _ _ (Alloc.refl sub) (.int _)⟩
  · split at e
    · rename_i hz
      cases e; cases rx; cases ry
      exact .inr (.inl ⟨_, _, rfl, rfl, Nat.le_trans hz line64, q _ _ _ (Alloc.refl sub) (.str _)⟩)
    · cases e
  · split at e
    · rename_i hz
      cases e
      cases rx with
      | @tup a1 x1 _ h1 r1 =>
        cases ry with
        | @tup a2 x2 _ h2 r2 =>
          refine .inr (.inr (.inl ⟨_, _, _, _, rfl, rfl, seqT_mono sub h1, seqT_mono sub h2, ?_, fun z => ?_, fun _ z => ?_, fun _ _ p hp => ?_⟩))
          · rw [r1.length, r2.length]; exact Nat.le_trans hz line64
          · subst z
            cases r1
            exact q _ _ _ (Alloc.refl sub) (.tup h2 r2)
          · subst z
            cases r2
            rw [List.append_nil] at q
            exact q _ _ _ (Alloc.refl sub) (.tup h1 r1)
          · have a := Alloc.new sub (.tup (x1 ++ x2)) hp
            exact q _ _ _ a (.tup (SqT.of upd_same) ((r1.append r2).mono a.mono))
    · cases e
  · split at e
    · rename_i hz
      cases e
      cases rx with
      | @lst a1 x1 _ h1 r1 =>
        cases ry with
        | @lst a2 x2 _ h2 r2 =>
          refine .inr (.inr (.inr ⟨_, _, _, _, rfl, rfl, sqb_mono sub h1, sqb_mono sub h2, ?_, fun p hp => ?_⟩))
          · rw [r1.length, r2.length]; exact Nat.le_trans hz line64
          · have a := Alloc.new sub (.lst (x1 ++ x2)) hp
            exact q _ _ _ a (.lst (.inl (.inl upd_same)) ((r1.append r2).mono a.mono))
    · cases e
  · cases e
def rSub2 : R2 := fun x y H Q => rI0 (fun i j => .int (i - j)) x y H Q ∨ ∃ i j, x = .bl i ∧ y = .bl j ∧ Q (.int (b2i i - b2i j)) H
theorem o_sub : OpR X (binaryOp .Sub) rSub2 := op_sub.or op_sub_bb
theorem d_sub : Op2D X subD rSub2 := by
  intro da db d x y Hf H Q e sub rx ry q
  unfold subD at e
  split at e
  · cases e; cases rx; cases ry
    exact .inl ⟨_, _, rfl, rfl, q _ _ _ (Alloc.refl sub) (.int _)⟩
  · cases e; cases rx; cases ry
    exact .inr ⟨_, _, rfl, rfl, q _ _ _ (Alloc.refl sub) (.int _)⟩
  · cases e
def CDiv' (i j : Int) : Prop := 0 < j ∧ j < 1073741824
theorem d_fdiv : Op2D X fdivD (rI CDiv fun i j => .int (i / j)) := by
  intro da db d x y Hf H Q e sub rx ry q
  unfold fdivD at e
  split at e
  · split at e
    · rename_i hz
      cases e; cases rx; cases ry
      exact ⟨_, _, rfl, rfl, hz, q _ _ _ (Alloc.refl sub) (.int _)⟩
    · cases e
  · cases e
theorem d_mod : Op2D X modD (rI (fun _ j => 0 < j) fun i j => .int (i % j)) := by
  intro da db d x y Hf H Q e sub rx ry q
  unfold modD at e
  split at e
  · split at e
    · rename_i hz
      cases e; cases rx; cases ry
      exact ⟨_, _, rfl, rfl, hz, q _ _ _ (Alloc.refl sub) (.int _)⟩
    · cases e
  · cases e
theorem d_pow : Op2D X powD (rI CPow fun i j => .int (i ^ j.toNat)) := by
  intro da db d x y Hf H Q e sub rx ry q
  unfold powD at e
  split at e
  · split at e
    · rename_i hz
      cases e; cases rx; cases ry
      exact ⟨_, _, rfl, rfl, ⟨hz.1, by omega, hz.2.2⟩, q _ _ _ (Alloc.refl sub) (.int _)⟩
    · cases e
  · cases e
theorem d_neg : Op1D X negD (rU fun i => .int (-i)) := by
  intro da d x Hf H Q e sub rx q
  unfold negD at e
  split at e
  · cases e; cases rx
    exact ⟨_, rfl, q _ _ _ (Alloc.refl sub) (.int _)⟩
  · cases e
/-! ### comparisons -/
theorem eqv_scal {H : Hp} {K : PySem.W.Frag} {P : Program} {w : World} {x y : V} {d e : D} (rx : Rp P w K H x d) (ry : Rp P w K H y e) (h : scalD d e = true) : scal x y = true ∧ decide (x = y) = PyData.eqv d e := by
  cases rx <;> cases ry <;> first
    | (exact absurd (show false = true from h) Bool.false_ne_true)
    | (refine ⟨rfl, ?_⟩; simp only [PyData.eqv]; first | exact dec_int | exact dec_bl | exact dec_str)
    | (refine ⟨rfl, ?_⟩; simp [PyData.eqv]; done)
def rEq2 (K : PySem.W.Frag) : R2 := fun x y H Q => rEq x y H Q ∨ rEqD K x y H Q
def rNe2 (K : PySem.W.Frag) : R2 := fun x y H Q => rNe x y H Q ∨ rNeD K x y H Q
theorem o_eq (hu : X.A.units + 64 < cLine) : OpR X (compareOp .Eq) (rEq2 X.K) := op_eq.or (op_eqD hu)
theorem o_ne (hu : X.A.units + 64 < cLine) : OpR X (compareOp .NotEq) (rNe2 X.K) := op_ne.or (op_neD hu)
theorem shaped_lay {d : D} (h : SeqAt.shaped d = true) : PyData.canLay0 d = true := by
  unfold SeqAt.shaped at h
  rw [Bool.and_eq_true] at h
  exact h.1
theorem d_eq : Op2D X eqD (rEq2 X.K) := by
  intro da db d x y Hf H Q e sub rx ry q
  unfold eqD at e
  split at e
  · rename_i hc
    cases e
    rw [Bool.or_eq_true] at hc
    rcases hc with hc | hc
    · obtain ⟨h1, h2⟩ := eqv_scal rx ry hc
      exact .inl ⟨h1, by rw [h2]; exact q _ _ _ (Alloc.refl sub) (.bl _)⟩
    · rw [Bool.and_eq_true] at hc
      exact .inr ⟨da, db, (rx.mono sub).dp (shaped_lay hc.1), (ry.mono sub).dp (shaped_lay hc.2), hc.1, hc.2, q _ _ _ (Alloc.refl sub) (.bl _)⟩
  · cases e
theorem d_ne : Op2D X neD (rNe2 X.K) := by
  intro da db d x y Hf H Q e sub rx ry q
  unfold neD at e
  split at e
  · rename_i hc
    cases e
    rw [Bool.or_eq_true] at hc
    rcases hc with hc | hc
    · obtain ⟨h1, h2⟩ := eqv_scal rx ry hc
      exact .inl ⟨h1, by rw [h2]; exact q _ _ _ (Alloc.refl sub) (.bl _)⟩
    · rw [Bool.and_eq_true] at hc
      exact .inr ⟨da, db, (rx.mono sub).dp (shaped_lay hc.1), (ry.mono sub).dp (shaped_lay hc.2), hc.1, hc.2, q _ _ _ (Alloc.refl sub) (.bl _)⟩
  · cases e
def rLtS : R2 := fun x y H Q => ∃ i j, x = .str i ∧ y = .str j ∧ Q (.bl (decide (i.cps.toList < j.cps.toList))) H
def rGtS : R2 := fun x y H Q => ∃ i j, x = .str i ∧ y = .str j ∧ Q (.bl (decide (j.cps.toList < i.cps.toList))) H
theorem o_lt : OpR X (compareOp .Lt) (fun x y H Q => rI0 (fun i j => .bl (decide (i < j))) x y H Q ∨ rLtS x y H Q) := op_lt.or op_lt_str
theorem o_gt : OpR X (compareOp .Gt) (fun x y H Q => rI0 (fun i j => .bl (decide (j < i))) x y H Q ∨ rGtS x y H Q) := op_gt.or op_gt_str
theorem d_lt : Op2D X ltD (fun x y H Q => rI0 (fun i j => .bl (decide (i < j))) x y H Q ∨ rLtS x y H Q) := by
  intro da db d x y Hf H Q e sub rx ry q
  unfold ltD at e
  split at e
  · cases e; cases rx; cases ry
    exact .inl ⟨_, _, rfl, rfl, q _ _ _ (Alloc.refl sub) (.bl _)⟩
  · cases e; cases rx; cases ry
    exact .inr ⟨_, _, rfl, rfl, q _ _ _ (Alloc.refl sub) (.bl _)⟩
  · cases e
theorem d_gt : Op2D X gtD (fun x y H Q => rI0 (fun i j => .bl (decide (j < i))) x y H Q ∨ rGtS x y H Q) := by
  intro da db d x y Hf H Q e sub rx ry q
  unfold gtD at e
  split at e
  · cases e; cases rx; cases ry
    exact .inl ⟨_, _, rfl, rfl, q _ _ _ (Alloc.refl sub) (.bl _)⟩
  · cases e; cases rx; cases ry
    exact .inr ⟨_, _, rfl, rfl, q _ _ _ (Alloc.refl sub) (.bl _)⟩
  · cases e
theorem d_le : Op2D X leD (rI0 (fun i j => .bl (decide (i ≤ j)))) := by
  intro da db d x y Hf H Q e sub rx ry q
  unfold leD at e
  split at e
  · cases e; cases rx; cases ry
    exact ⟨_, _, rfl, rfl, q _ _ _ (Alloc.refl sub) (.bl _)⟩
  · cases e
theorem d_ge : Op2D X geD (rI0 (fun i j => .bl (decide (j ≤ i)))) := by
  intro da db d x y Hf H Q e sub rx ry q
  unfold geD at e
  split at e
  · cases e; cases rx; cases ry
    exact ⟨_, _, rfl, rfl, q _ _ _ (Alloc.refl sub) (.bl _)⟩
  · cases e
/-- in -/
theorem flat_v {H : Hp} {K : PySem.W.Frag} {P : Program} {w : World} {x : V} {d : D} (r : Rp P w K H x d) (h : flatD d = true) : flatV x = true := by
  cases r <;> first | rfl | exact absurd (show false = true from h) Bool.false_ne_true
theorem flat_all {H : Hp} {K : PySem.W.Frag} {P : Program} {w : World} : ∀ {xs : List V} {ds : List D}, RpAll P w K H xs ds → ds.all flatD = true → xs.all flatV = true
  | _, _, .nil, _ => rfl
  | _, _, .cons r t, h => by
    rw [List.all_cons, Bool.and_eq_true] at h
    rw [List.all_cons, flat_v r h.1, flat_all t h.2]
    rfl
theorem eqV_eqv {H : Hp} {K : PySem.W.Frag} {P : Program} {w : World} {x y : V} {d e : D} (rx : Rp P w K H x d) (ry : Rp P w K H y e) (h : flatD d = true) (h' : flatD e = true) : eqV x y = PyData.eqv d e := by
  cases rx <;> first
    | exact absurd (show false = true from h) Bool.false_ne_true
    | (cases ry <;> first | exact absurd (show false = true from h') Bool.false_ne_true | (simp only [eqV, PyData.eqv]))
theorem inV_any {H : Hp} {K : PySem.W.Frag} {P : Program} {w : World} {x : V} {d : D} (rx : Rp P w K H x d) (h : flatD d = true) : ∀ {ys : List V} {es : List D}, RpAll P w K H ys es → es.all flatD = true → inV x ys = anyD d es
  | _, _, .nil, _ => rfl
  | _, _, .cons r t, h' => by
    rw [List.all_cons, Bool.and_eq_true] at h'
    unfold inV anyD
    rw [List.any_cons, List.any_cons, eqV_eqv r rx h'.1 h]
    exact congrArg _ (inV_any rx h t h'.2)
def rIn3 (K : PySem.W.Frag) : R2 := fun x y H Q => rInS x y H Q ∨ rIn K false x y H Q ∨ rInD K x y H Q
def rNotIn3 (K : PySem.W.Frag) : R2 := fun x y H Q => rNotInS x y H Q ∨ rIn K true x y H Q ∨ rNotInD K x y H Q
theorem o_in (hu : X.A.units + 65 < cLine) : OpR X (compareOp .In) (rIn3 X.K) := op_inS.or (op_in_seq.or (op_inD hu))
theorem o_notIn (hu : X.A.units + 65 < cLine) : OpR X (compareOp .NotIn) (rNotIn3 X.K) := op_notInS.or (op_notIn_seq.or (op_notInD hu))
theorem one_sign {x : Str} (h : x.length = 1) : ∃ c, x = ⟨#[c]⟩ ∧ x.cps.getD 0 0 = c := by
  obtain ⟨⟨l⟩⟩ := x
  match l, h with
  | [c], _ => exact ⟨c, rfl, rfl⟩
theorem d_in_core {P0 : Bool → D} {r : R2} {f : D → D → Option D} (hf : ∀ x y, f x y = (inB x y).map P0) (hP : ∀ b Hf, ∃ v, RpX X Hf v (P0 b))
    (h1 : ∀ (c : Nat) (z : Str) (H : Hp) (Q : VK), (∀ v Hf, RpX X Hf v (P0 (decide (c ∈ z.cps.toList))) → Q v H) → r (.str ⟨#[c]⟩) (.str z) H Q)
    (h2 : ∀ x p xs (H : Hp) (Q : VK), (SqL X.K H p xs ∨ SqT X.K H p xs) → flatV x = true → xs.all flatV = true → (∀ v Hf, RpX X Hf v (P0 (inV x xs)) → Q v H) → r x (.ref p) H Q)
    (h3 : ∀ x y d ds (H : Hp) (Q : VK), Dp X.K H x d → Dp X.K H y (.list ds) → SeqAt.shaped d = true → SeqAt.shaped (.list ds) = true → (∀ v Hf, RpX X Hf v (P0 (anyD d ds)) → Q v H) → r x y H Q)
    (mono : ∀ b v Hf Hf', RpX X Hf v (P0 b) → RpX X Hf' v (P0 b)) : Op2D X f r := by
  intro da db d x y Hf H Q e sub rx ry q
  rw [hf] at e
  have fin : ∀ b, P0 b = d → ∀ v Hf', RpX X Hf' v (P0 b) → Q v H := fun b eb v Hf' r => q v Hf H (Alloc.refl sub) (by rw [← eb]; exact mono _ _ _ _ r)
  unfold inB at e
  split at e
  · split at e
    · rename_i hl
      cases e; cases rx; cases ry
      obtain ⟨c, ec, eg⟩ := one_sign hl
      subst ec
      exact h1 c _ H Q (fin _ (by rw [eg]))
    · cases e
  · split at e
    · rename_i hc
      cases e
      rw [Bool.and_eq_true] at hc
      cases ry with
      | tup hT ra =>
        refine h2 x _ _ H Q (.inr (seqT_mono sub hT)) (flat_v rx hc.1) (flat_all ra hc.2) ?_
        rw [inV_any rx hc.1 ra hc.2]
        exact fin _ rfl
    · cases e
  · split at e
    · rename_i hc
      cases e
      cases ry with
      | lst hL ra =>
        rw [Bool.or_eq_true] at hc
        rcases hc with hc | hc
        · rw [Bool.and_eq_true] at hc
          refine h2 x _ _ H Q (.inl (SqB.l (sqb_mono sub hL))) (flat_v rx hc.1) (flat_all ra hc.2) ?_
          rw [inV_any rx hc.1 ra hc.2]
          exact fin _ rfl
        · rw [Bool.and_eq_true] at hc
          exact h3 x _ _ _ H Q ((rx.mono sub).dp (shaped_lay hc.1)) (Rp.dp (.lst (sqb_mono sub hL) (ra.mono sub)) (shaped_lay hc.2)) hc.1 hc.2 (fin _ rfl)
    · cases e
  · cases e
theorem rp_bool {H H' : Hp} {K : PySem.W.Frag} {P : Program} {w : World} {v : V} {b : Bool} (r : Rp P w K H v (.bool b)) : Rp P w K H' v (.bool b) := by cases r; exact .bl b
theorem d_in : Op2D X inD (rIn3 X.K) :=
  d_in_core (P0 := .bool) (fun _ _ => rfl) (fun b Hf => ⟨.bl b, .bl b⟩)
    (fun c z H Q k => .inl ⟨c, z, rfl, rfl, k _ H (.bl _)⟩) (fun x p xs H Q hs h1 h2 k => .inr (.inl ⟨p, xs, rfl, hs, h1, h2, k _ H (.bl _)⟩))
    (fun x y d ds H Q h1 h2 h3 h4 k => .inr (.inr ⟨d, ds, h1, h2, h3, h4, k _ H (.bl _)⟩)) fun _ _ _ _ r => rp_bool r
theorem d_notIn : Op2D X notInD (rNotIn3 X.K) :=
  d_in_core (P0 := fun b => .bool (!b)) (fun _ _ => rfl) (fun b Hf => ⟨.bl (!b), .bl _⟩)
    (fun c z H Q k => .inl ⟨c, z, rfl, rfl, k _ H (.bl _)⟩) (fun x p xs H Q hs h1 h2 k => .inr (.inl ⟨p, xs, rfl, hs, h1, h2, k _ H (.bl _)⟩))
    (fun x y d ds H Q h1 h2 h3 h4 k => .inr (.inr ⟨d, ds, h1, h2, h3, h4, k _ H (.bl _)⟩)) fun _ _ _ _ r => rp_bool r
/-- is -/
theorem o_is : OpR X (compareOp .Is) (fun x y H Q => (y = .non ∧ Q (.bl (decide (x = .non))) H) ∨ rIsB x y H Q) := op_isN.or op_isBl
theorem o_isNot : OpR X (compareOp .IsNot) (fun x y H Q => (y = .non ∧ Q (.bl (!decide (x = .non))) H) ∨ rNotB x y H Q) := op_notN.or op_notBl
theorem d_is : Op2D X isD (fun x y H Q => (y = .non ∧ Q (.bl (decide (x = .non))) H) ∨ rIsB x y H Q) := by
  intro da db d x y Hf H Q e sub rx ry q
  unfold isD at e
  split at e
  · cases e; cases ry
    refine .inl ⟨rfl, ?_⟩
    cases rx <;> exact q _ _ _ (Alloc.refl sub) (.bl _)
  · cases e; cases rx; cases ry
    refine .inr ⟨_, _, rfl, rfl, ?_⟩
    exact q _ _ _ (Alloc.refl sub) (by rw [← Bool.beq_eq_decide_eq]; exact .bl _)
  · cases e
theorem d_isNot : Op2D X isNotD (fun x y H Q => (y = .non ∧ Q (.bl (!decide (x = .non))) H) ∨ rNotB x y H Q) := by
  intro da db d x y Hf H Q e sub rx ry q
  unfold isNotD at e
  split at e
  · cases e; cases ry
    refine .inl ⟨rfl, ?_⟩
    cases rx <;> exact q _ _ _ (Alloc.refl sub) (.bl _)
  · cases e; cases rx; cases ry
    refine .inr ⟨_, _, rfl, rfl, ?_⟩
    exact q _ _ _ (Alloc.refl sub) (by rw [← Bool.beq_eq_decide_eq]; exact .bl _)
  · cases e
end
end SS
namespace PyProof.Rows
open PySem PySem.W
section
variable {prog : Program} {w : World} {A : Around} {E : Value → Shared → Prop} {s : Shared}
theorem collect_tupS {l : Addr} {vs : List Value} {Q : List Value → Shared → Prop} (hl : IsTup s.heap l vs.toArray)
    (h : Q vs { s with heap := (s.heap.push (seqObj "list" #[] 0)).update s.heap.objs.size (Obj.mapSeq (· ++ vs.toArray)) }) (hsz : vs.length ≤ sizeLine) :
    wpAny (model prog w) A (collect (.ref l)) Q E s := by
  obtain ⟨o, ho, hc, n, hd⟩ := id hl
  unfold collect
  refine wpAny_bind (wpAny_runValue (codeAny_builtin entry_proto_collect' ?_))
  show wpAny _ _ (do again (.builtin "list.__iadd__" ⟨[← newList [], .ref l], []⟩)) _ _ s
  refine wpAny_bind (wpAny_newList (wpAny_pure ⟨Code.quiet_builtin _ (by decide +kernel), codeAny_builtin entry_list_iadd' ?_⟩))
  show wpAny _ _ (Builtin.List.listExtendWith (.ref s.heap.objs.size) (.ref l) (.ref s.heap.objs.size)) _ _ { s with heap := s.heap.push (seqObj "list" #[] 0) }
  unfold Builtin.List.listExtendWith
  have ho' : (s.heap.push (seqObj "list" #[] 0)).get? l = some o := Heap.get?_push_of_some _ ho
  refine wpAny_bind (wpAny_typeOf (T := "tuple") ⟨o, ho', hc⟩ ?_)
  have ht : (Value.type "tuple" == Value.type "tuple") = true := by rfl
  rw [if_pos (by rw [ht]; simp)]
  refine wpAny_bind (listItems_at ho' hd ?_)
  refine wpAny_bind (listItems_at (xs := #[]) (n := 0) (Heap.get?_push_size _ rfl) rfl ?_)
  rw [if_neg (by simp)]
  refine wpAny_bind (listUpdate_at (xs := #[]) (n := 0) (Heap.get?_push_size _ rfl) rfl ?_ (Nat.zero_le _) (by show (#[] ++ vs.toArray).size ≤ sizeLine + 1; simp only [Array.size_append, List.size_toArray, List.length_nil]; omega))
  refine wpAny_pure ?_
  show wpAny (model prog w) A (do
      let o ← load s.heap.objs.size
      match o.data with
      | .seq xs _ => pure xs.toList
      | _ => unsupported "internal:collect") Q E { s with heap := (s.heap.push (seqObj "list" #[] 0)).update s.heap.objs.size (Obj.mapSeq (· ++ vs.toArray)) }
  refine wpAny_bind (wpAny_load (get?_update_seq (Heap.get?_push_size _ rfl) _) ?_)
  show wpAny _ _ (pure ((#[] : Array Value) ++ vs.toArray).toList) Q E _
  rw [show ((#[] : Array Value) ++ vs.toArray).toList = vs by simp]
  exact wpAny_pure h
end
end PyProof.Rows
namespace PySem.W
open PyProof.Rows
section
variable {prog : Program} {w : World} {A : Around} {E : Value → Shared → Prop} {s : Shared}
theorem sorted_of_sortT {l : Addr} {vs : List Value} {kw : List (Str × Value)} {Q : Value → Shared → Prop} (hl : IsTup s.heap l vs.toArray) (hL : vs.length ≤ sizeLine) (ha1 : argsOk "sorted" ⟨[.ref l], kw⟩) (ha2 : ∀ x, argsOk "list.sort" ⟨[.ref x], kw⟩)
    (body : ∀ E' : Value → Shared → Prop, wpAny (model prog w) A.in1.in1 (Builtin.«list.sort» ⟨[.ref (s.heap.objs.size + 1)], kw⟩) (fun f s' => f = .done (.ret .none) ∧ Q (.ref (s.heap.objs.size + 1)) s') E' { s with heap := copyHeap s.heap vs }) :
    wpAny (model prog w) A (call (.builtin "sorted") [.ref l] kw) Q E s := by
  refine call_function_entry_kw kind_sorted plain_sorted entry_sorted ha1 ?_
  unfold Builtin.«sorted»
  refine wpAny_bind (m := checkCount "sorted" 1 1 _) (wpAny_pure ?_)
  refine wpAny_bind (collect_tupS hl ?_ hL)
  refine wpAny_bind (wpAny_newList ?_ hL)
  have hsz : ((s.heap.push (seqObj "list" #[] 0)).update s.heap.objs.size (Obj.mapSeq (· ++ vs.toArray))).objs.size = s.heap.objs.size + 1 := by
    rw [Heap.size_update, size_push']
  show wpAny _ _ _ _ _ { s with heap := copyHeap s.heap vs }
  rw [hsz]
  refine wpAny_bind (wpAny_holding (wpAny_call_entry_kw slot_list_sort ⟨_, copyHeap_at s.heap vs, rfl⟩ entry_list_sort ?body (ha2 _)))
  case body =>
    show wpAny (model prog w) A.in1.in1 (Builtin.«list.sort» ⟨[.ref (s.heap.objs.size + 1)], kw⟩) _ _ _
    refine wpAny_mono (body _) (fun f s' hf => ?_) fun _ _ e => e
    obtain ⟨rfl, hq⟩ := hf
    exact ⟨_, rfl, wpAny_pure ⟨_, rfl, hq⟩⟩
theorem sorted_valsT {κ : PyProof.Rows.KeyKind} {l : Addr} {vs : List Value} {Q : Value → Shared → Prop} (hl : IsTup s.heap l vs.toArray) (S : SortsAt prog w A.in1.in1 { s with heap := sortingHeap (copyHeap s.heap vs) (s.heap.objs.size + 1) vs } κ vs) (hL : vs.length ≤ sizeLine)
    (h : Q (.ref (s.heap.objs.size + 1)) { s with heap := sortedAll s.heap vs (sortVals κ false vs vs).toArray }) : wpAny (model prog w) A (call (.builtin "sorted") [.ref l]) Q E s :=
  sorted_of_sortT hl hL (args_sorted1 _) (fun _ => args_list_sort _) fun _ => list_sort_vals (s := { s with heap := copyHeap s.heap vs }) (copyHeap_at s.heap vs) S hL ⟨rfl, h⟩
end
end PySem.W
namespace SS
open PySem PySem.Spec L2
open PyProof.Rows (sortedAll sortedAll_old sortedAll_at)
def tupCons : D → Bool
  | .tuple (_ :: _) => true
  | _ => false
def notNT : D → Bool
  | .none => false
  | .tuple _ => false
  | _ => true
def okSort (ds : List D) : Bool := decide (ds.length ≤ 16000000) && ds.all SeqAt.shaped && (ds.all fun d => ds.all fun e => PySem.W.alike d e) && (ds.all tupCons || ds.all notNT)
def sortDs (ds : List D) : List D := ds.mergeSort (PySem.W.dataLe false id)
def sortedD : List D → Option D
  | [.list ds] => if okSort ds then some (.list (sortDs ds)) else none
  | [.tuple ds] => if okSort ds then some (.list (sortDs ds)) else none
  | _ => none
section
variable {X : Cx} {pins : List (Addr × Obj)} {σ : L2.St} {H Hf : Hp} {s : Shared}
def RvD (X : Cx) (Hf : Hp) (v : Value) (d : D) : Prop := ∃ x, RelV x v ∧ RpX X Hf x d
theorem each_rv : ∀ {xs : List V} {us : List Value} {ds : List D}, Vals xs us → RpAllX X Hf xs ds → PySem.W.EachIs (RvD X Hf) us ds
  | _, _, _, .nil, .nil => .nil
  | _, _, _, .cons r t, .cons q u => .cons ⟨_, r, q⟩ (each_rv t u)
theorem rv_each : ∀ {us : List Value} {ds : List D}, PySem.W.EachIs (RvD X Hf) us ds → ∃ xs, Vals xs us ∧ RpAllX X Hf xs ds
  | _, _, .nil => ⟨[], .nil, .nil⟩
  | _, _, .cons ⟨x, r, q⟩ t => by
    obtain ⟨xs, h1, h2⟩ := rv_each t
    exact ⟨x :: xs, .cons r h1, .cons q h2⟩
theorem each_reads (I : Inv X pins σ H s) (sub : Same Hf H) : ∀ {us : List Value} {ds : List D}, PySem.W.EachIs (RvD X Hf) us ds → ds.all SeqAt.shaped = true → PySem.W.EachIs (fun v b => ∃ as, Reads s.heap v (id b) as) us ds
  | _, _, .nil, _ => .nil
  | _, _, .cons ⟨x, r, q⟩ t, h => by
    rw [List.all_cons, Bool.and_eq_true] at h
    exact .cons (Dp.reads I _ x _ ((q.mono sub).dp (shaped_lay h.1)) r) (each_reads I sub t h.2)
def rSrtD (X : Cx) : List V → Hp → VK → Prop := fun vs H Q => ∃ a xs ds Hf, vs = [.ref a] ∧ (SqL X.K H a xs ∨ SqT X.K H a xs) ∧ Same Hf H ∧ RpAllX X Hf xs ds ∧ okSort ds = true ∧
  ∀ p ys, H p = none → RpAllX X Hf ys (sortDs ds) → Q (.ref p) (upd H p (.lst ys))
theorem okSort_of {ds : List D} (h : okSort ds = true) : ds.length ≤ 16000000 ∧ ds.all SeqAt.shaped = true ∧ PySem.W.AllAlike (ds.map id) ∧ PySem.W.Sortable (ds.map id) := by
  unfold okSort at h
  simp only [Bool.and_eq_true, decide_eq_true_eq, Bool.or_eq_true] at h
  obtain ⟨⟨⟨h1, h2⟩, h3⟩, h4⟩ := h
  refine ⟨h1, h2, ?_, ?_⟩
  · rw [List.map_id]
    intro d hd d' hd'
    exact List.all_eq_true.mp (List.all_eq_true.mp h3 d hd) d' hd'
  · rw [List.map_id]
    rcases h4 with h4 | h4
    · refine .inl fun d hd => ?_
      have := List.all_eq_true.mp h4 d hd
      unfold tupCons at this
      split at this
      · exact ⟨_, _, rfl⟩
      · cases this
    · refine .inr fun d hd => ?_
      have := List.all_eq_true.mp h4 d hd
      refine ⟨fun e => ?_, fun xs e => ?_⟩
      · subst e; cases this
      · subst e; cases this
theorem shaped_depth {d : D} (h : SeqAt.shaped d = true) : d.depth ≤ 64 := by
  unfold SeqAt.shaped at h
  rw [Bool.and_eq_true, decide_eq_true_eq] at h
  exact h.2
theorem cr_srt (hu : X.A.units + 70 < cLine) : CallR X (.builtin "sorted") (rSrtD X) := by
  intro pins s σ H vs us Q I r h
  obtain ⟨a, xs, ds, Hf, rfl, hs, sub, rd, ok, q⟩ := h
  obtain ⟨hlen, hsh, hal, hk⟩ := okSort_of ok
  have hL : ds.length ≤ sizeLine := Nat.le_trans hlen line64
  rw [Vals.ref1 r]
  have dep : ∀ b, b ∈ ds → X.A.units + 2 + (id b).depth < cLine := fun b hb => by
    have := shaped_depth (List.all_eq_true.mp hsh b hb)
    show X.A.units + 2 + b.depth < cLine
    omega
  have fin : ∀ (its out : List Value), out.length = ds.length → PySem.W.EachIs (RvD X Hf) out (ds.mergeSort (PySem.W.dataLe false id)) → EP X pins σ Q (.ref (s.heap.objs.size + 1)) { s with heap := sortedAll s.heap its out.toArray } := fun its out ho e => by
    obtain ⟨ys, h1, h2⟩ := rv_each e
    obtain ⟨ep, he'⟩ := sortedAll_at s.heap its out.toArray
    refine ⟨.ref _, upd H (s.heap.objs.size + 1) (.lst ys), I.laid (t' := s.toks) (fun _ _ => sortedAll_old) (Nat.le_succ _) ⟨?_, out, ep, h1, he'⟩, rfl, q _ ys (I.hok.fresh (Nat.le_succ _)) h2⟩
    rw [h1.length, ho]; exact hL
  rcases hs with hs | hs
  · obtain ⟨its, rv, hl, _⟩ := I.list hs
    have ei := each_rv rv rd
    exact PySem.W.sorted_data (enc := id) hl.isList ei (each_reads I sub ei hsh) hal hk hL dep fun out ho e => fin its out ho e
  · obtain ⟨its, rv, hl, hz⟩ := I.tuple hs
    have ei := each_rv rv rd
    have er := each_reads I sub ei hsh
    have er' : PySem.W.EachIs (fun v b => ∃ as, Reads (PySem.W.sortingHeap (PySem.W.copyHeap s.heap its) (s.heap.objs.size + 1) its) v (id b) as) its ds := er.mono fun _ _ ⟨as, r⟩ => ⟨as, PyProof.Rows.Reads.keeps (fun _ _ => PySem.W.sorting_copy_old) r⟩
    refine PySem.W.sorted_valsT hl (PySem.W.SortsAt.data (s := { s with heap := PySem.W.sortingHeap (PySem.W.copyHeap s.heap its) (s.heap.objs.size + 1) its }) (PySem.W.each_map (R := fun v d => ∃ as, Reads (PySem.W.sortingHeap (PySem.W.copyHeap s.heap its) (s.heap.objs.size + 1) its) v d as) id er') hal hk (PySem.W.bound_map dep)) (by rw [← rv.length]; exact hz) ?_
    exact fin its _ (by rw [PySem.W.sortVals_length false rfl]; exact ei.length) (PySem.W.sortVals_data false ei er' hal)
theorem a_srt : AppD X sortedD (rSrtD X) := by
  intro ds d vs Hf H Q e sub r q
  unfold sortedD at e
  split at e
  · split at e
    · rename_i hc
      cases e
      cases r with
      | cons r1 r2 =>
        cases r2
        cases r1 with
        | lst h1 ra =>
          refine ⟨_, _, _, Hf, rfl, .inl (SqB.l (sqb_mono sub h1)), sub, ra, hc, fun p ys hp ry => ?_⟩
          have a := Alloc.new sub (.lst ys) hp
          exact q _ _ _ a (.lst (.inl (.inl upd_same)) (ry.mono a.mono))
    · cases e
  · split at e
    · rename_i hc
      cases e
      cases r with
      | cons r1 r2 =>
        cases r2
        cases r1 with
        | tup h1 ra =>
          refine ⟨_, _, _, Hf, rfl, .inr (seqT_mono sub h1), sub, ra, hc, fun p ys hp ry => ?_⟩
          have a := Alloc.new sub (.lst ys) hp
          exact q _ _ _ a (.lst (.inl (.inl upd_same)) (ry.mono a.mono))
    · cases e
  · cases e
end
end SS
namespace SS
open PySem PySem.Spec L2
open PyProof.Rows (b2i)
section
variable {X : Cx} {W : WX} {m : Nat}
/-! ### items -/
theorem o_idx : IxR X (rIx X.K) := ix_seq
theorem atI_rp {H : Hp} {K : PySem.W.Frag} {P : Program} {w : World} {xs : List V} {ds : List D} {i : Int} {d : D} (r : RpAll P w K H xs ds) (h : atI ds i = some d) : ∃ v, atI xs i = some v ∧ Rp P w K H v d := by
  unfold atI at h ⊢
  rw [r.length]
  cases e : ixN ds.length i with
  | none => rw [e] at h; cases h
  | some j =>
    rw [e] at h
    obtain ⟨v, h1, h2⟩ := r.get (i := j) (d := d) h
    exact ⟨v, h1, h2⟩
theorem d_idx : Op2D X idxD (rIx X.K) := by
  intro da db d x y Hf H Q e sub rx ry q
  unfold idxD at e
  split at e
  · cases ry
    cases rx with
    | lst h1 ra =>
      obtain ⟨v, h2, h3⟩ := atI_rp ra e
      exact .inl ⟨_, _, _, v, rfl, rfl, SqB.l (sqb_mono sub h1), h2, q _ _ _ (Alloc.refl sub) h3⟩
  · cases ry
    cases rx with
    | tup h1 ra =>
      obtain ⟨v, h2, h3⟩ := atI_rp ra e
      exact .inr (.inl ⟨_, _, _, v, rfl, rfl, seqT_mono sub h1, h2, q _ _ _ (Alloc.refl sub) h3⟩)
  · cases e
variable {a b : Expr} {ea eb : EM} {pos : Pos}
theorem ped_ix {f : D → D → Option D} {r : R2} (ho : IxR X r) (hr : Op2D X f r) (ha : PED X W m a ea) (hb : PED X W m b eb) (hs : PlainIx b := by intro _ _; rfl) : PED X W m (.Subscript a b pos) (op2 f ea eb) :=
  ⟨(pe_ix ho ha.pe hb.pe hs).imp fun _ _ _ h => rd_op2 hr h⟩
/-! ### built-in functions of plain arguments -/
theorem rp1 {vs : List V} {d : D} {Hf : Hp} (r : RpAllX X Hf vs [d]) : ∃ v, vs = [v] ∧ RpX X Hf v d := by
  cases r with
  | cons r1 r2 => cases r2; exact ⟨_, rfl, r1⟩
theorem a_len : AppD X lenD (fun xs H Q => ∃ x n, xs = [x] ∧ LenV X.K x H n ∧ Q (.int n) H) := by
  intro ds d vs Hf H Q e sub r q
  unfold lenD at e
  split at e
  · split at e
    · cases e
      obtain ⟨v, rfl, r'⟩ := rp1 r
      cases r' with
      | lst h1 ra => exact ⟨_, _, rfl, .inl ⟨_, SqB.l (sqb_mono sub h1), rfl⟩, by rw [ra.length]; exact q _ _ _ (Alloc.refl sub) (.int _)⟩
    · cases e
  · split at e
    · cases e
      obtain ⟨v, rfl, r'⟩ := rp1 r
      cases r' with
      | tup h1 ra => exact ⟨_, _, rfl, .inr ⟨_, seqT_mono sub h1, rfl⟩, by rw [ra.length]; exact q _ _ _ (Alloc.refl sub) (.int _)⟩
    · cases e
  · split at e
    · rename_i hz
      cases e
      obtain ⟨v, rfl, r'⟩ := rp1 r
      cases r'
      exact ⟨_, _, rfl, ⟨Nat.le_trans hz line64, rfl⟩, q _ _ _ (Alloc.refl sub) (.int _)⟩
    · cases e
  · cases e
/-- isinstance of a built-in type -/
def Ty.py : Ty → String
  | .int => "int" | .bool => "bool" | .str => "str" | .tuple => "tuple" | .list => "list"
def tyName : D → String
  | .none => "NoneType" | .bool _ => "bool" | .int _ => "int" | .str _ => "str" | .tuple _ => "tuple" | .list _ => "list" | .dict _ => "dict"
theorem isa_kit {T : Ty} {d e : D} (h : isaD T d = some e) : ∃ b, e = .bool b ∧ kitB (tyName d) T.py = some b := by
  have hn : ∀ T : Ty, kitB "NoneType" T.py = some false := fun T => by cases T <;> decide +kernel
  have hb : ∀ T : Ty, kitB "bool" T.py = some (match T with | .int => true | .bool => true | _ => false) := fun T => by cases T <;> decide +kernel
  have hi : ∀ T : Ty, kitB "int" T.py = some (match T with | .int => true | _ => false) := fun T => by cases T <;> decide +kernel
  have hs : ∀ T : Ty, kitB "str" T.py = some (match T with | .str => true | _ => false) := fun T => by cases T <;> decide +kernel
  have hl : ∀ T : Ty, kitB "list" T.py = some (match T with | .list => true | _ => false) := fun T => by cases T <;> decide +kernel
  have ht : ∀ T : Ty, kitB "tuple" T.py = some (match T with | .tuple => true | _ => false) := fun T => by cases T <;> decide +kernel
  cases d with
  | none => cases T <;> (cases h; exact ⟨_, rfl, hn _⟩)
  | bool _ => cases T <;> (cases h; exact ⟨_, rfl, hb _⟩)
  | int _ => cases T <;> (cases h; exact ⟨_, rfl, hi _⟩)
  | str _ => cases T <;> (cases h; exact ⟨_, rfl, hs _⟩)
  | list _ => cases T <;> (cases h; exact ⟨_, rfl, hl _⟩)
  | tuple _ => cases T <;> (cases h; exact ⟨_, rfl, ht _⟩)
  | dict _ => cases T <;> cases h
theorem isa_ty {Hf H : Hp} {T : Ty} {d e : D} {x : V} (sub : Same Hf H) (r : RpX X Hf x d) (h : isaD T d = some e) : TyX X.K H x (.type (tyName d)) := by
  cases r with
  | non => exact .base .non
  | bl b => exact .base (.bl b)
  | int i => exact .base (.int i)
  | str x => exact .base (.str x)
  | lst h1 _ =>
    rcases sqb_mono sub h1 with (h1 | ⟨o, h1⟩) | ⟨its, n, h1, h2, _⟩
    · exact .base (.lst h1)
    · exact .base (.frz h1)
    · exact .kList h1 rfl
  | tup h1 _ =>
    rcases seqT_mono sub h1 with (h1 | ⟨o, h1⟩) | ⟨o, its, n, h1, h2, _⟩
    · exact .base (.tup h1)
    · exact .fTuple h1
    · exact .kTuple h1 h2
  | dct _ _ _ _ => cases T <;> cases h
  | dcl _ _ _ => cases T <;> cases h
theorem d_isa {T : Ty} : Op1D X (isaD T) (fun x H Q => rIsi X.K [x, .ty T.py] H Q) := by
  intro da d x Hf H Q e sub r q
  obtain ⟨b, rfl, hk⟩ := isa_kit e
  exact ⟨x, _, _, _, b, rfl, .ty _, isa_ty sub r e, kit_ty hk, q _ _ _ (Alloc.refl sub) (.bl b)⟩
theorem ped_isa (T : Ty) {p p2 : Pos} {x : Str} (ha : PED X W m a ea) (hm : X.mg "isinstance" = none) (hm2 : X.mg x = none) (hx : bootBuiltins x = some (.type T.py) := by decide +kernel) (hv : bootBuiltins "isinstance" = some (.builtin "isinstance") := by decide +kernel) (hg : Gl X "isinstance" := by rfl) (hg2 : Gl X x := by rfl)
    (hn : x ≠ "__name__" := by decide) (hdb : (x == ("__debug__" : Str)) = false := by decide)
    (he : starEach [a, .Name x p2] X.env = (false, eval a X.env) :: starEach [.Name x p2] X.env := by rfl) (hpl : (backTo pos (starEach [.Name x p2] X.env)).any (·.1) = false := by rfl) :
    PED X W m (.Call (.Name "isinstance" p) [a, .Name x p2] [] pos) (op1 (isaD T) ea) := by
  refine ⟨(pe_callB call_isi hg hm hv (pa_cons ha.pe (pa_cons (pe_bltn hg2 hm2 hx (v := .ty T.py) rfl hn hdb) pa_nil) he) (by decide) (by decide) he hpl).imp fun σ H Q h => ?_⟩
  exact rd_op1 d_isa h
theorem all_bls {Hf : Hp} : ∀ {xs : List V} {ds : List D}, RpAllX X Hf xs ds → (ds.all fun d => match d with | .bool _ => true | _ => false) = true → ∃ bs : List Bool, xs = bs.map V.bl ∧ bs.all id = ds.all fun d => match d with | .bool b => b | _ => false
  | _, _, .nil, _ => ⟨[], rfl, rfl⟩
  | _, _, .cons r t, h => by
    rw [List.all_cons, Bool.and_eq_true] at h
    obtain ⟨bs, h1, h2⟩ := all_bls t h.2
    cases r with
    | bl b => exact ⟨b :: bs, by rw [h1]; rfl, by rw [List.all_cons, List.all_cons, h2]; rfl⟩
    | _ => exact absurd h.1 Bool.false_ne_true
theorem a_all : AppD X allD (rAll X.K) := by
  intro ds d vs Hf H Q e sub r q
  unfold allD at e
  split at e
  · split at e
    · rename_i hz
      cases e
      obtain ⟨v, rfl, r'⟩ := rp1 r
      cases r' with
      | lst h1 ra =>
        obtain ⟨bs, rfl, h2⟩ := all_bls ra hz
        exact ⟨_, bs, rfl, SqB.l (sqb_mono sub h1), by rw [h2]; exact q _ _ _ (Alloc.refl sub) (.bl _)⟩
    · cases e
  · cases e
theorem a_tuple : AppD X tupleD (fun xs H Q => ∃ p ys, xs = [.ref p] ∧ ((SqL X.K H p ys ∧ ∀ l, H l = none → Q (.ref l) (upd H l (.tup ys))) ∨ (SqT X.K H p ys ∧ Q (.ref p) H))) := by
  intro ds d vs Hf H Q e sub r q
  unfold tupleD at e
  split at e
  · cases e
    obtain ⟨v, rfl, r'⟩ := rp1 r
    cases r' with
    | @lst _ xs _ h1 ra =>
      refine ⟨_, _, rfl, .inl ⟨SqB.l (sqb_mono sub h1), fun p hp => ?_⟩⟩
      have a := Alloc.new sub (.tup xs) hp
      exact q _ _ _ a (.tup (SqT.of upd_same) (ra.mono a.mono))
  · cases e
    obtain ⟨v, rfl, r'⟩ := rp1 r
    cases r' with
    | tup h1 ra => exact ⟨_, _, rfl, .inr ⟨seqT_mono sub h1, q _ _ _ (Alloc.refl sub) (.tup h1 ra)⟩⟩
  · cases e
theorem a_list : AppD X listD (fun xs H Q => ∃ p ys, xs = [.ref p] ∧ (SqL X.K H p ys ∨ SqT X.K H p ys) ∧ ∀ l, H l = none → Q (.ref l) (upd H l (.lst ys))) := by
  intro ds d vs Hf H Q e sub r q
  unfold listD at e
  split at e
  · cases e
    obtain ⟨v, rfl, r'⟩ := rp1 r
    cases r' with
    | @lst _ xs _ h1 ra =>
      refine ⟨_, _, rfl, .inl (SqB.l (sqb_mono sub h1)), fun p hp => ?_⟩
      have a := Alloc.new sub (.lst xs) hp
      exact q _ _ _ a (.lst (.inl (.inl upd_same)) (ra.mono a.mono))
  · cases e
    obtain ⟨v, rfl, r'⟩ := rp1 r
    cases r' with
    | @tup _ xs _ h1 ra =>
      refine ⟨_, _, rfl, .inr (seqT_mono sub h1), fun p hp => ?_⟩
      have a := Alloc.new sub (.lst xs) hp
      exact q _ _ _ a (.lst (.inl (.inl upd_same)) (ra.mono a.mono))
  · cases e
theorem call_str1 : CallR X (.type "str") (fun xs H Q => (∃ i, xs = [.int i] ∧ i.natAbs.log2 < 1920 ∧ Q (.str (toString i)) H) ∨ ∃ z, xs = [.str z] ∧ Q (.str z) H) := by
  intro pins s σ H xs us Q I r h
  rcases h with h | h
  · exact call_str_int pins s σ H xs us Q I r h
  · exact SkE.call_str_str pins s σ H xs us Q I r h
theorem a_str : AppD X strD (fun xs H Q => (∃ i, xs = [.int i] ∧ i.natAbs.log2 < 1920 ∧ Q (.str (toString i)) H) ∨ ∃ z, xs = [.str z] ∧ Q (.str z) H) := by
  intro ds d vs Hf H Q e sub r q
  unfold strD at e
  split at e
  · split at e
    · rename_i hz
      cases e
      obtain ⟨v, rfl, r'⟩ := rp1 r
      cases r'
      refine .inl ⟨_, rfl, ?_, q _ _ _ (Alloc.refl sub) (.str _)⟩
      exact Nat.lt_trans (PySem.Flt.log2_lt_of (by decide) hz) (by decide)
    · cases e
  · cases e
    obtain ⟨v, rfl, r'⟩ := rp1 r
    cases r'
    exact .inr ⟨_, rfl, q _ _ _ (Alloc.refl sub) (.str _)⟩
  · cases e
/-! ### * -/
def rMul2 (K : PySem.W.Frag) : R2 := fun x y H Q => rI CMul (fun i j => .int (i * j)) x y H Q ∨ rI CMulS (fun i j => .int (i * j)) x y H Q
where CMulS (i j : Int) : Prop := i.natAbs < 2 ^ 300 ∧ j.natAbs < 2 ^ 300
theorem o_mul : OpR X (binaryOp .Mult) (rMul2 X.K) := op_mul.or (opI fun i j _ _ _ _ _ hc q => PyProof.Rows.mul_int q (by
  refine .of_bits ?_ ?_
  · have := PySem.Flt.log2_lt_of (by decide) hc.1
    unfold Builtin.Int.intBits; split <;> omega
  · have := PySem.Flt.log2_lt_of (by decide) hc.2
    unfold Builtin.Int.intBits; split <;> omega))
def mulI : D → D → Option D
  | .int i, .int j => if smallI i || smallI j || (decide (i.natAbs < 2 ^ 300) && decide (j.natAbs < 2 ^ 300)) then some (.int (i * j)) else none
  | _, _ => none
theorem d_mul : Op2D X mulI (rMul2 X.K) := by
  intro da db d x y Hf H Q e sub rx ry q
  unfold mulI at e
  split at e
  · split at e
    · rename_i hc
      cases e; cases rx; cases ry
      simp only [Bool.or_eq_true, Bool.and_eq_true, decide_eq_true_eq, smallI] at hc
      rcases hc with (⟨h1, h2⟩ | ⟨h1, h2⟩) | h3
      · exact .inl ⟨_, _, rfl, rfl, .inl ⟨by omega, by omega⟩, q _ _ _ (Alloc.refl sub) (.int _)⟩
      · exact .inl ⟨_, _, rfl, rfl, .inr ⟨by omega, by omega⟩, q _ _ _ (Alloc.refl sub) (.int _)⟩
      · exact .inr ⟨_, _, rfl, rfl, h3, q _ _ _ (Alloc.refl sub) (.int _)⟩
    · cases e
  · cases e
/-! ### methods of built-in types -/
def MtD (X : Cx) (f : D → List D → Option D) (r : V → List V → Hp → VK → Prop) : Prop := ∀ (dx : D) (ds : List D) (d : D) (x : V) (vs : List V) (Hf H : Hp) (Q : VK), f dx ds = some d → Same Hf H → RpX X Hf x dx → RpAllX X Hf vs ds →
  (∀ v Hf' H', Alloc Hf H Hf' H' → RpX X Hf' v d → Q v H') → r x vs H Q
/-- the receiver is a list or a text -/
def tyD : String → D → Bool
  | "list", .list _ => true
  | "str", .str _ => true
  | _, _ => false
theorem tyD_v {T : String} {d : D} {x : V} {Hf H : Hp} (h : tyD T d = true) (sub : Same Hf H) (r : RpX X Hf x d) : tyV X.K T x H := by
  unfold tyD at h
  split at h
  · cases r with
    | lst h1 _ => exact .inl ⟨rfl, _, SqB.l (sqb_mono sub h1)⟩
  · cases r; rfl
  · cases h
def meth (T : String) (f : D → List D → Option D) (o : EM) (a : AM) : EM := bindE o fun x => if tyD T x = true then appE (f x) a else fun _ _ => .st
theorem rda_app {f : List D → Option D} {eas : AM} {σ : L2.St} {sl : Slots} {cs : Cells} {fps : List (List Addr)} {Hf H : Hp} {Q : VK} {Q' : List V → Hp → Prop} (R : RelX X sl cs σ Hf H fps) (h : Run X W m σ sl fps Hf H (appE f eas sl cs) Q)
    (c : ∀ ds d vs fps1 Hf1 H1, f ds = some d → Ext m fps Hf H fps1 Hf1 H1 → Same Hf1 H1 → RpAllX X Hf1 vs ds → (∀ v Hf' H', Alloc Hf1 H1 Hf' H' → RpX X Hf' v d → Q v H') → Q' vs H1) : RDA X W m eas σ H Q' := by
  refine ⟨sl, cs, fps, Hf, R, ?_⟩
  unfold appE at h
  cases he : eas sl cs with
  | st => rw [he] at h; exact h
  | ex c cs' => rw [he] at h; exact h
  | ok as cs1 =>
    rw [he] at h
    intro vs f1 A1 H1 X1 R1 r1
    have h : Run X W m σ sl fps Hf H (match (valsA as).bind f with | some d => .ok d cs1 | none => .st) Q := h
    cases e1 : valsA as with
    | none => rw [e1] at h; exact h.elim
    | some ds =>
      rw [e1] at h
      have h : Run X W m σ sl fps Hf H (match f ds with | some d => .ok d cs1 | none => .st) Q := h
      cases e2 : f ds with
      | none => rw [e2] at h; exact h.elim
      | some d =>
        rw [e2] at h
        exact c ds d vs f1 A1 H1 e2 X1 R1.sub (vals_of r1 e1) fun v A2 H2 a r2 => h v f1 A2 H2 (X1.trans a.ext) (R1.alloc a) r2
theorem ped_bm {T id : String} {name : Str} {o e1 : Expr} {es : List Expr} {eo : EM} {eas : AM} {f : D → List D → Option D} {r : V → List V → Hp → VK → Prop} {apos cpos : Pos} (pa : PlainAttrs T) (slot : PySem.Slot T name id) (hty : typeOf (.builtin id) = pure (.type "method_descriptor"))
    (hm : MtR X id r) (hr : MtD X f r) (ho : PED X W m o eo) (ha : PAD X W m (e1 :: es) eas)
    (hbase : attributeBase o name X.env (eval o X.env) = eval o X.env := by rfl)
    (hfew : ((backTo cpos (starEach (e1 :: es) X.env)).all (fun x => !x.1) && (backToKw cpos (keywordEach [] X.env)).all (fun x => x.1.isSome)
      && decide ((e1 :: es).length + ([] : List Keyword).length + (if ([] : List Keyword).isEmpty then 0 else 1) < 30)) = true := by rfl)
    (hline : (apos.endLine == cpos.line) = true := by rfl) (hs : starEach (e1 :: es) X.env = (false, eval e1 X.env) :: starEach es X.env := by rfl) (hplain : (backTo cpos (starEach es X.env)).any (·.1) = false := by rfl) :
    PED X W m (.Call (.Attribute o name apos) (e1 :: es) [] cpos) (meth T f eo eas) := by
  refine ⟨(pe_bm pa slot hty hm ho.pe ha.pa hbase hfew hline hs hplain).imp fun σ H Q ⟨sl, cs, fps, Hf, R, h⟩ => ?_⟩
  refine rd_seq R h fun d1 cs1 x fps1 Hf1 H1 X1 R1 r1 h1 => ?_
  by_cases hT : tyD T d1 = true
  · rw [if_pos hT] at h1
    exact ⟨tyD_v hT R1.sub r1, rda_app R1 h1 fun ds d vs fps2 Hf2 H2 e2 X2 s2 rv q => hr d1 ds d x vs Hf2 H2 Q e2 s2 (r1.mono X2.mono) rv q⟩
  · rw [if_neg hT] at h1
    exact h1.elim
/-! ### list.index -/
theorem eqV_get {Hf : Hp} {y : V} {dy : D} (ry : RpX X Hf y dy) (hy : flatD dy = true) : ∀ {xs : List V} {ds : List D} {j : Nat}, RpAllX X Hf xs ds → ds.all flatD = true → (ds.findIdx? fun z => PyData.eqv z dy) = some j →
    ∃ z, xs[j]? = some z ∧ eqV z y = true ∧ ∀ (k : Nat) (z' : V), k < j → xs[k]? = some z' → eqV z' y = false
  | _, _, _, .nil, _, h => by simp at h
  | _, _, j, .cons (v := v) (d := d) r t, ha, h => by
    rw [List.all_cons, Bool.and_eq_true] at ha
    rw [List.findIdx?_cons] at h
    have e := eqV_eqv r ry ha.1 hy
    by_cases hd : PyData.eqv d dy = true
    · rw [if_pos hd] at h
      cases h
      exact ⟨v, rfl, by rw [e]; exact hd, fun k z' hk => absurd hk (Nat.not_lt_zero _)⟩
    · rw [if_neg hd] at h
      obtain ⟨j', e1, e2⟩ := Option.map_eq_some_iff.mp h
      subst e2
      obtain ⟨z, h1, h2, h3⟩ := eqV_get ry hy t ha.2 e1
      refine ⟨z, by simpa using h1, h2, fun k z' hk hz => ?_⟩
      cases k with
      | zero =>
        have : v = z' := by simpa using hz
        subst this
        rw [e]
        exact Bool.eq_false_iff.mpr hd
      | succ k => exact h3 k z' (by omega) (by simpa using hz)
theorem m_index : MtD X indexD (rIndex X.K) := by
  intro dx ds d x vs Hf H Q e sub rx rv q
  unfold indexD at e
  split at e
  · split at e
    · split at e
      · rename_i hc
        rw [Bool.and_eq_true] at hc
        obtain ⟨j, e1, e2⟩ := Option.map_eq_some_iff.mp e
        subst e2
        obtain ⟨v, rfl, rv'⟩ := rp1 rv
        cases rx with
        | lst h1 ra =>
          obtain ⟨z, h2, h3, h4⟩ := eqV_get rv' hc.1 ra hc.2 e1
          exact ⟨_, _, v, j, z, rfl, rfl, SqB.l (sqb_mono sub h1), flat_v rv' hc.1, flat_all ra hc.2, h2, h3, h4, q _ _ _ (Alloc.refl sub) (.int _)⟩
      · cases e
    · cases e
  · cases e
/-! ### slices -/
def sliceD (x : D) (lo hi : Option Int) : Option D := match x with
  | .list xs => some (.list ((xs.drop (HT.sIx xs.length 0 lo)).take (HT.sIx xs.length xs.length hi - HT.sIx xs.length 0 lo)))
  | .tuple xs => some (.tuple ((xs.drop (HT.sIx xs.length 0 lo)).take (HT.sIx xs.length xs.length hi - HT.sIx xs.length 0 lo)))
  | .str z => if z.length ≤ 16000000 then some (.str (cutS z lo hi)) else none
  | _ => none
def OM := Slots → Cells → Res (Option Int)
def noO : OM := fun _ cs => .ok none cs
def someO (e : EM) : OM := fun sl cs => match e sl cs with
  | .ok (.int i) cs' => .ok (some i) cs'
  | .ok _ _ => .st
  | .ex c cs' => .ex c cs'
  | .st => .st
def sliceE (e : EM) (lo hi : OM) : EM := bindE e fun x sl cs => match lo sl cs with
  | .ok l cs1 => (match hi sl cs1 with
    | .ok h cs2 => (match sliceD x l h with
      | some d => .ok d cs2
      | none => .st)
    | .ex c cs' => .ex c cs'
    | .st => .st)
  | .ex c cs' => .ex c cs'
  | .st => .st
variable (X W m) in
def RunO (σ : L2.St) (sl : Slots) (fps : List (List Addr)) (Hf H : Hp) (r : Res (Option Int)) (Q : Option Int → Hp → Prop) : Prop :=
  match r with
  | .st => False
  | .ok o cs' => ∀ fps' Hf' H', Ext m fps Hf H fps' Hf' H' → RelX X sl cs' σ Hf' H' fps' → Q o H'
  | .ex c cs' => ∀ fps' Hf' H', Ext m fps Hf H fps' Hf' H' → RelX X sl cs' σ Hf' H' fps' → ∀ C, X.mg c.name = some (.ref C) → W (.ref C) none σ H'
variable (X W m) in
structure POD (x : Option Expr) (e : OM) : Prop where
  po : PO X x fun σ H Q => ∃ sl cs fps Hf, RelX X sl cs σ Hf H fps ∧ RunO X W m σ sl fps Hf H (e sl cs) Q
theorem PO.imp' {e : Option Expr} {t t' : TO} (h : PO X e t) (i : ∀ σ H Q, t' σ H Q → t σ H Q) : PO X e t' := ⟨fun pins s σ H Q I q => h.run pins s σ H Q I (i _ _ _ q)⟩
theorem pod_none : POD X W m none noO := ⟨PO.imp' po_none fun σ H Q ⟨sl, cs, fps, Hf, R, h⟩ => h fps Hf H (Ext.refl ..) R⟩
theorem pod_some (ha : PED X W m a ea) : POD X W m (some a) (someO ea) := by
  refine ⟨PO.imp' (po_some ha.pe) fun σ H Q ⟨sl, cs, fps, Hf, R, h⟩ => ⟨sl, cs, fps, Hf, R, ?_⟩⟩
  unfold someO at h
  cases he : ea sl cs with
  | st => rw [he] at h; exact h
  | ex c cs' => rw [he] at h; exact h
  | ok d cs1 =>
    rw [he] at h
    cases d with
    | int i =>
      intro v f A B x R1 r
      cases r
      exact ⟨i, rfl, h f A B x R1⟩
    | _ => exact h.elim
theorem cut_rp {H : Hp} {xs : List V} {ds : List D} (r : RpAllX X H xs ds) (l u : Option Int) : RpAllX X H (cutV xs l u) ((ds.drop (HT.sIx ds.length 0 l)).take (HT.sIx ds.length ds.length u - HT.sIx ds.length 0 l)) := by
  unfold cutV
  rw [r.length]
  exact (r.drop _).take _
def rSl3 (K : PySem.W.Frag) : V → Option Int → Option Int → Hp → VK → Prop := fun x lo hi H Q => rSlL K x lo hi H Q ∨ rSlA K x lo hi H Q ∨ rSlS x lo hi H Q
theorem o_sl : SlR X (rSl3 X.K) := sl_list.or (sl_tupA.or sl_str)
theorem RunO.after {σ : L2.St} {sl : Slots} {fps fps1 : List (List Addr)} {Hf H Hf1 H1 : Hp} {r : Res (Option Int)} {Q : Option Int → Hp → Prop} (x : Ext m fps Hf H fps1 Hf1 H1) (h : RunO X W m σ sl fps Hf H r Q) : RunO X W m σ sl fps1 Hf1 H1 r Q := by
  cases r with
  | st => exact h
  | ok d cs' => exact fun f A B y R => h f A B (x.trans y) R
  | ex c cs' => exact fun f A B y R C hC => h f A B (x.trans y) R C hC
theorem ped_sl {lo hi : Option Expr} {el eh : OM} {p2 : Pos} (ha : PED X W m a ea) (hl : POD X W m lo el) (hh : POD X W m hi eh) : PED X W m (.Subscript a (.Slice lo hi none p2) pos) (sliceE ea el eh) := by
  refine ⟨(pe_slice o_sl ha.pe hl.po hh.po).imp fun σ H Q ⟨sl, cs, fps, Hf, R, h⟩ => ?_⟩
  refine rd_seq R h fun d1 cs1 x fps1 Hf1 H1 X1 R1 r1 h1 => ?_
  refine ⟨sl, cs1, fps1, Hf1, R1, ?_⟩
  cases e1 : el sl cs1 with
  | st => rw [e1] at h1; exact h1
  | ex c cs' => rw [e1] at h1; exact h1
  | ok l cs2 =>
    rw [e1] at h1
    intro f2 A2 H2 X2 R2
    refine ⟨sl, cs2, f2, A2, R2, ?_⟩
    have h2 : Run X W m σ sl f2 A2 H2 (match eh sl cs2 with | .ok h cs2 => (match sliceD d1 l h with | some d => .ok d cs2 | none => .st) | .ex c cs' => .ex c cs' | .st => .st) Q := Run.after X2 h1
    cases e2 : eh sl cs2 with
    | st => rw [e2] at h2; exact h2
    | ex c cs' => rw [e2] at h2; exact h2
    | ok u cs3 =>
      rw [e2] at h2
      intro f3 A3 H3 X3 R3
      have h3 : Run X W m σ sl f3 A3 H3 (match sliceD d1 l u with | some d => .ok d cs3 | none => .st) Q := Run.after X3 h2
      cases e3 : sliceD d1 l u with
      | none => rw [e3] at h3; exact h3.elim
      | some d =>
        rw [e3] at h3
        have q : ∀ v Hf' H', Alloc A3 H3 Hf' H' → RpX X Hf' v d → Q v H' := fun v A B al r => h3 v f3 A B al.ext (R3.alloc al) r
        have r3 := (r1.mono X2.mono).mono X3.mono
        have sub := R3.sub
        unfold sliceD at e3
        split at e3
        · cases e3
          cases r3 with
          | @lst _ xs ds h1 ra =>
            refine .inl ⟨_, xs, rfl, SqB.l (sqb_mono sub h1), fun p hp => ?_⟩
            have al := Alloc.new sub (.lst (cutV xs l u)) hp
            refine q _ _ _ al (.lst (.inl (.inl upd_same)) ?_)
            exact cut_rp (ra.mono al.mono) l u
        · cases e3
          cases r3 with
          | @tup a0 xs ds h1 ra =>
            refine .inr (.inl ⟨_, xs, rfl, seqT_mono sub h1, fun hw => ?_, fun hw p hp => ?_⟩)
            · refine q _ _ _ (Alloc.refl sub) ?_
              rw [← ra.length, hw.1, hw.2, List.drop_zero, Nat.sub_zero, ra.length, List.take_length]
              exact .tup h1 ra
            · have al := Alloc.new sub (.tup (cutV xs l u)) hp
              refine q _ _ _ al (.tup (SqT.of upd_same) ?_)
              exact cut_rp (ra.mono al.mono) l u
        · split at e3
          · rename_i hz
            cases e3
            cases r3
            exact .inr (.inr ⟨_, rfl, Nat.le_trans hz line64, q _ _ _ (Alloc.refl sub) (.str _)⟩)
          · cases e3
        · cases e3
end
end SS
namespace SS
open PySem PySem.Spec L2
/-! ### statements' meanings -/
def nilS : SM := fun sl cs => .nx sl cs
def seqS (a b : SM) : SM := fun sl cs => match a sl cs with
  | .nx sl' cs' => b sl' cs'
  | r => r
def exprS (e : EM) : SM := fun sl cs => match e sl cs with
  | .ok _ cs' => .nx sl cs'
  | .ex c cs' => .ex c cs'
  | .st => .st
def retS (e : EM) : SM := fun sl cs => match e sl cs with
  | .ok d cs' => .rt d cs'
  | .ex c cs' => .ex c cs'
  | .st => .st
def retN : SM := fun _ cs => .rt .none cs
def ifS (c : EM) (a b : SM) : SM := fun sl cs => match c sl cs with
  | .ok (.bool true) cs' => a sl cs'
  | .ok (.bool false) cs' => b sl cs'
  | .ok _ _ => .st
  | .ex c cs' => .ex c cs'
  | .st => .st
def setS (i : Nat) (e : EM) : SM := fun sl cs => match e sl cs with
  | .ok d cs' => .nx (sl.set i (.v d)) cs'
  | .ex c cs' => .ex c cs'
  | .st => .st
def raiseS (c : Exc) : SM := fun _ cs => .ex c cs
abbrev BM := D → Slots → Option Slots
def bName (i : Nat) : BM := fun d sl => some (sl.set i (.v d))
def bAll : List BM → List D → Slots → Option Slots
  | [], [], sl => some sl
  | b :: bs, d :: ds, sl => (b d sl).bind (bAll bs ds)
  | _, _, _ => none
def bTup (bs : List BM) : BM := fun d sl => match d with
  | .tuple ds => bAll bs ds sl
  | _ => none
/-- a, b = x, y -/
def parS (is : List Nat) (a : AM) : SM := fun sl cs => match a sl cs with
  | .ok as cs' => (match valsA as with
    | some ds => if ds.length = is.length then .nx ((is.zip ds).foldl (fun s p => s.set p.1 (.v p.2)) sl) cs' else .st
    | none => .st)
  | .ex c cs' => .ex c cs'
  | .st => .st
def bindS (b : BM) (e : EM) : SM := fun sl cs => match e sl cs with
  | .ok d cs' => (match b d sl with
    | some sl' => .nx sl' cs'
    | none => .st)
  | .ex c cs' => .ex c cs'
  | .st => .st
abbrev IM := Slots → Cells → Res (List D)
def loopS (b : BM) (body : SM) : List D → SM
  | [], sl, cs => .nx sl cs
  | d :: ds, sl, cs => match b d sl with
    | none => .st
    | some sl1 => match body sl1 cs with
      | .nx s c => loopS b body ds s c
      | .ct s c => loopS b body ds s c
      | .bk s c => .nx s c
      | .rt d c => .rt d c
      | .ex e c => .ex e c
      | .st => .st
def forS (b : BM) (it : IM) (body : SM) : SM := fun sl cs => match it sl cs with
  | .ok ds cs' => loopS b body ds sl cs'
  | .ex c cs' => .ex c cs'
  | .st => .st
def whileS (c : EM) (body : SM) : Nat → SM
  | 0, _, _ => .st
  | n + 1, sl, cs => match c sl cs with
    | .ok (.bool true) cs1 => (match body sl cs1 with
      | .nx s c' => whileS c body n s c'
      | .ct s c' => whileS c body n s c'
      | .bk s c' => .nx s c'
      | .rt d c => .rt d c
      | .ex e c => .ex e c
      | .st => .st)
    | .ok (.bool false) cs1 => .nx sl cs1
    | .ok _ _ => .st
    | .ex c cs' => .ex c cs'
    | .st => .st
/-- comprehensions -/
def wipeS (sl : Slots) : List Nat → Slots
  | [] => sl
  | v :: vs => (wipeS sl vs).set v .un
def lcLoop (b : BM) (t e : EM) (sl : Slots) : List D → List D → Cells → Res (List D)
  | [], acc, cs => .ok acc cs
  | d :: ds, acc, cs => match b d sl with
    | none => .st
    | some sl1 => match t sl1 cs with
      | .ok (.bool true) cs1 => (match e sl1 cs1 with
        | .ok x cs2 => if acc.length < 16000000 then lcLoop b t e sl ds (acc ++ [x]) cs2 else .st
        | _ => .st)
      | .ok (.bool false) cs1 => lcLoop b t e sl ds acc cs1
      | _ => .st
def lcF (b : BM) (vs : List Nat) (it : IM) (t e : EM) : IM := fun sl cs => match it sl cs with
  | .ok ds cs1 => lcLoop b t e (wipeS sl vs) ds [] cs1
  | .ex c cs' => .ex c cs'
  | .st => .st
/-- a new list as a value -/
def frE (f : IM) : EM := fun sl cs => match f sl cs with
  | .ok ds cs' => .ok (.list ds) cs'
  | .ex c cs' => .ex c cs'
  | .st => .st
/-- a new list as a cell -/
def cellS (i : Nat) (f : IM) : SM := fun sl cs => match f sl cs with
  | .ok ds cs' => if i < sl.length then .nx (sl.set i .c) (cs'.set i (.lst ds)) else .st
  | .ex c cs' => .ex c cs'
  | .st => .st
/-- a display as a new list -/
def dispF (a : AM) : IM := fun sl cs => match a sl cs with
  | .ok as cs' => (match valsA as with
    | some ds => if ds.length ≤ 16000000 then .ok ds cs' else .st
    | none => .st)
  | .ex c cs' => .ex c cs'
  | .st => .st
/-- list(x) as a new list -/
def listF (a : AM) : IM := fun sl cs => match a sl cs with
  | .ok as cs' => (match (valsA as).bind listD with
    | some (.list ds) => .ok ds cs'
    | _ => .st)
  | .ex c cs' => .ex c cs'
  | .st => .st
/-- a list's method that changes it: (list, arguments) to (list, value) -/
def cellE (i : Nat) (f : List D → List D → Option (List D × D)) (a : AM) : EM := fun sl cs => match sl[i]?, cs[i]? with
  | some .c, some (.lst _) => (match a sl cs with
    | .ok as cs' => (match cs'[i]?, valsA as with
      | some (.lst ds), some args => (match f ds args with
        | some (ds', d) => .ok d (cs'.set i (.lst ds'))
        | none => .st)
      | _, _ => .st)
    | .ex c cs' => .ex c cs'
    | .st => .st)
  | _, _ => .st
mutual
def lf : D → Bool
  | .none => true
  | .bool _ => true
  | .int _ => true
  | .str _ => true
  | .tuple ds => lfAll ds
  | .list _ => false
  | .dict _ => false
def lfAll : List D → Bool
  | [] => true
  | d :: ds => lf d && lfAll ds
end
def Cell.lf : Cell → Bool
  | .dead => true
  | .lst ds => lfAll ds
  | .dic kvs => lfAll (kvs.map (·.1)) && lfAll (kvs.map (·.2))
def Cell.val : Cell → Option D
  | .dead => none
  | .lst ds => some (.list ds)
  | .dic kvs => some (.dict kvs)
/-- the list, the dict in cell i, read within e -/
def borE (i : Nat) (e : EM) : EM := fun sl cs => match sl[i]?, cs[i]? with
  | some .c, some c => (match c.val with
    | some x => (match e (sl.set i (.v x)) (cs.set i .dead) with
      | .ok d cs' => if lf d && cs'.all Cell.lf then .ok d (cs'.set i c) else .st
      | _ => .st)
    | none => .st)
  | _, _ => .st
/-- cell i is a value from now on -/
def frzS (i : Nat) (s : SM) : SM := fun sl cs => match sl[i]?, cs[i]? with
  | some .c, some c => (match c.val with
    | some x => s (sl.set i (.v x)) (cs.set i .dead)
    | none => .st)
  | _, _ => .st
section
variable {X : Cx} {W : WX} {m : Nat} {σ : L2.St} {sl : Slots} {cs : Cells} {fps fps1 : List (List Addr)} {Hf H Hf1 H1 : Hp}
/-! ### the relation, changed -/
theorem Rel.set {v : V} {d : D} (R : RelX X sl cs σ Hf H fps) (i : Nat) (r : RpX X Hf v d) : RelX X (sl.set i (.v d)) cs (σ.set i (some v)) Hf H fps := by
  refine ⟨R.sub, R.cells, R.nd, fun j s e => ?_, by rw [List.length_set, List.length_set]; exact R.len, by rw [List.length_set]; exact R.clen⟩
  by_cases hj : i = j
  · subst hj
    by_cases hi : i < sl.length
    · rw [List.getElem?_set_self hi] at e
      cases e
      exact ⟨v, List.getElem?_set_self (by rw [← R.len]; exact hi), r⟩
    · rw [List.getElem?_eq_none (by rw [List.length_set]; omega)] at e
      cases e
  · rw [List.getElem?_set_ne hj] at e
    rw [List.getElem?_set_ne hj]
    exact R.slots j s e
theorem Rel.wipe1 (R : RelX X sl cs σ Hf H fps) (i : Nat) (o : Option V) : RelX X (sl.set i .un) cs (σ.set i o) Hf H fps := by
  refine ⟨R.sub, R.cells, R.nd, fun j s e => ?_, by rw [List.length_set, List.length_set]; exact R.len, by rw [List.length_set]; exact R.clen⟩
  by_cases hj : i = j
  · subst hj
    by_cases hi : i < sl.length
    · rw [List.getElem?_set_self hi] at e
      cases e
      trivial
    · rw [List.getElem?_eq_none (by rw [List.length_set]; omega)] at e
      cases e
  · rw [List.getElem?_set_ne hj] at e
    rw [List.getElem?_set_ne hj]
    exact R.slots j s e
theorem Rel.wipe (R : RelX X sl cs σ Hf H fps) : ∀ vs : List Nat, RelX X (wipeS sl vs) cs (L2.wipe σ vs) Hf H fps
  | [] => R
  | v :: vs => (Rel.wipe R vs).wipe1 v none
theorem cell_addr {cs : Cells} {fps : List (List Addr)} (R : Paired (CellR X.prog X.w X.K Hf H) cs fps) : ∀ a, a ∈ fps.flatten → H a ≠ none ∧ Hf a = none := by
  induction R with
  | nil => intro a h; cases h
  | @cons c fp cs fps h _ ih =>
    intro a ha
    rw [List.flatten_cons, List.mem_append] at ha
    rcases ha with ha | ha
    · cases c with
      | dead => subst h; cases ha
      | lst ds =>
        obtain ⟨b, xs, e, h1, h2, _⟩ := h
        subst e
        rw [List.mem_singleton] at ha
        subst ha
        exact ⟨by rw [h1]; simp, h2⟩
      | dic kvs =>
        obtain ⟨b, xs, e, h1, h2, _⟩ := h
        subst e
        rw [List.mem_singleton] at ha
        subst ha
        exact ⟨by rw [h1]; simp, h2⟩
    · exact ih a ha
/-- an object outside is changed -/
theorem CellR.out {c : Cell} {fp : List Addr} {D : Addr} (h : CellR X.prog X.w X.K Hf H c fp) (hD : D ∉ fp) (o : HO) : CellR X.prog X.w X.K Hf (upd H D o) c fp := by
  cases c with
  | dead => exact h
  | lst ds =>
    obtain ⟨b, xs, e, h1, h2⟩ := h
    refine ⟨b, xs, e, ?_, h2⟩
    rw [upd_ne (fun z => hD (by rw [e, ← z]; simp))]
    exact h1
  | dic kvs =>
    obtain ⟨b, xs, e, h1, h2⟩ := h
    refine ⟨b, xs, e, ?_, h2⟩
    rw [upd_ne (fun z => hD (by rw [e, ← z]; simp))]
    exact h1
theorem cells_out {cs : Cells} {fps : List (List Addr)} {D : Addr} (R : Paired (CellR X.prog X.w X.K Hf H) cs fps) (hD : D ∉ fps.flatten) (o : HO) : Paired (CellR X.prog X.w X.K Hf (upd H D o)) cs fps := by
  induction R with
  | nil => exact .nil
  | @cons c fp cs fps h _ ih =>
    rw [List.flatten_cons, List.mem_append, not_or] at hD
    exact .cons (h.out hD.1 o) (ih hD.2)
theorem Rel.out {D : Addr} (R : RelX X sl cs σ Hf H fps) (hD : D ∉ fps.flatten) (hf : Hf D = none) (o : HO) : RelX X sl cs σ Hf (upd H D o) fps :=
  ⟨fun b u e => by rw [upd_ne (fun z => by rw [z, hf] at e; cases e)]; exact R.sub b u e, cells_out R.cells hD o, R.nd, R.slots, R.len, R.clen⟩
theorem CellR.frz {c : Cell} {fp : List Addr} {D : Addr} {o : HO} (h : CellR X.prog X.w X.K Hf H c fp) (hD : D ∉ fp) (hf : Hf D = none) : CellR X.prog X.w X.K (upd Hf D o) H c fp := by
  have up : Same Hf (upd Hf D o) := fun b u e => by rw [upd_ne (fun z => by rw [z, hf] at e; cases e)]; exact e
  cases c with
  | dead => exact h
  | lst ds =>
    obtain ⟨b, xs, e, h1, h2, r⟩ := h
    refine ⟨b, xs, e, h1, ?_, r.mono up⟩
    rw [upd_ne (fun z => hD (by rw [e, ← z]; simp))]
    exact h2
  | dic kvs =>
    obtain ⟨b, xs, e, h1, h2, r1, r2, k⟩ := h
    refine ⟨b, xs, e, h1, ?_, r1.mono up, r2.mono up, k⟩
    rw [upd_ne (fun z => hD (by rw [e, ← z]; simp))]
    exact h2
theorem cells_frz {cs : Cells} {fps : List (List Addr)} {D : Addr} {o : HO} (R : Paired (CellR X.prog X.w X.K Hf H) cs fps) (hD : D ∉ fps.flatten) (hf : Hf D = none) : Paired (CellR X.prog X.w X.K (upd Hf D o) H) cs fps := by
  induction R with
  | nil => exact .nil
  | @cons c fp cs fps h _ ih =>
    rw [List.flatten_cons, List.mem_append, not_or] at hD
    exact .cons (h.frz hD.1 hf) (ih hD.2)
theorem same_frz {D : Addr} {o : HO} (hf : Hf D = none) : Same Hf (upd Hf D o) := fun b u e => by rw [upd_ne (fun z => by rw [z, hf] at e; cases e)]; exact e
/-- an object outside is frozen -/
theorem Rel.frz {D : Addr} {o : HO} (R : RelX X sl cs σ Hf H fps) (hD : D ∉ fps.flatten) (hf : Hf D = none) (ho : H D = some o) : RelX X sl cs σ (upd Hf D o) H fps :=
  ⟨fun b u e => by
    by_cases hb : b = D
    · subst hb; rw [upd_same] at e; cases e; exact ho
    · rw [upd_ne hb] at e; exact R.sub b u e, cells_frz R.cells hD hf, R.nd, fun i s e => (R.slots i s e).mono (same_frz hf), R.len, R.clen⟩
theorem Ext.out {D : Addr} {o : HO} (x : Ext m fps Hf H fps1 Hf1 H1) (h0 : H D = none) : Ext m fps Hf H fps1 Hf1 (upd H1 D o) :=
  ⟨x.mono, x.fresh, fun b u e hb => by rw [upd_ne (fun z => by rw [z, h0] at e; cases e)]; exact x.keep b u e hb, fun b e => x.there b (by
    by_cases hb : b = D
    · subst hb; rw [upd_same] at e; cases e
    · rw [upd_ne hb] at e; exact e), x.own, x.fix⟩
theorem Ext.frz {D : Addr} {o : HO} (x : Ext m fps Hf H fps1 Hf1 H1) (h0 : H D = none) (hf1 : Hf1 D = none) : Ext m fps Hf H fps1 (upd Hf1 D o) H1 :=
  ⟨x.mono.trans (same_frz hf1), fun b e e' => by
    by_cases hb : b = D
    · subst hb; exact .inl h0
    · rw [upd_ne hb] at e'; exact x.fresh b e e', x.keep, x.there, x.own, x.fix⟩
/-- an object outside stays as it is -/
theorem Ext.stay {D : Addr} {o : HO} (x : Ext m fps Hf H fps1 Hf1 H1) (ho : H D = some o) (hD : D ∉ fps.flatten) (hf : Hf D = none) : H1 D = some o ∧ D ∉ fps1.flatten ∧ Hf1 D = none := by
  refine ⟨x.keep D o ho hD, fun z => ?_, ?_⟩
  · rcases x.own D z with z | z
    · exact hD z
    · rw [ho] at z; cases z
  · cases e : Hf1 D with
    | none => rfl
    | some u =>
      rcases x.fresh D hf (by rw [e]; simp) with z | z
      · rw [ho] at z; cases z
      · exact absurd z hD
/-! ### statements -/
variable {a b : Expr} {ea eb : EM} {pos : Pos} {s t : SM} {st : Stmt} {rest : List Stmt}
theorem RunS.st_false {E : Ends} (h : RunS X W m σ fps Hf H .st E) : False := h
theorem pssd_nil : PSsD X W m [] nilS := ⟨pss_nil.imp fun σ H E ⟨sl, cs, fps, Hf, R, h⟩ => h σ fps Hf H (Ext.refl ..) R⟩
theorem runS_seq {E : Ends} (R : RelX X sl cs σ Hf H fps) (h : RunS X W m σ fps Hf H (seqS s t sl cs) E) : RunS X W m σ fps Hf H (s sl cs) { E with nx := SD X W m t E } := by
  unfold seqS at h
  cases hs : s sl cs with
  | st => rw [hs] at h; exact h
  | nx sl' cs' =>
    rw [hs] at h
    intro σ' f A B x R'
    exact ⟨sl', cs', f, A, R', by
      have h : RunS X W m σ fps Hf H (t sl' cs') E := h
      cases ht : t sl' cs' with
      | st => rw [ht] at h; exact h
      | nx s2 c2 => rw [ht] at h; exact fun s f A B y R => h s f A B (x.trans y) R
      | bk s2 c2 => rw [ht] at h; exact fun s f A B y R => h s f A B (x.trans y) R
      | ct s2 c2 => rw [ht] at h; exact fun s f A B y R => h s f A B (x.trans y) R
      | rt d c2 => rw [ht] at h; exact fun v f A B y S P N r => h v f A B (x.trans y) S P N r
      | ex c c2 => rw [ht] at h; exact fun s f A B y S P N C hC => h s f A B (x.trans y) S P N C hC⟩
  | bk s2 c2 => rw [hs] at h; exact h
  | ct s2 c2 => rw [hs] at h; exact h
  | rt d c2 => rw [hs] at h; exact h
  | ex c c2 => rw [hs] at h; exact h
theorem pssd_cons (h1 : PSD X W m st s) (h2 : PSsD X W m rest t) : PSsD X W m (st :: rest) (seqS s t) :=
  ⟨(pss_cons h1.ps h2.ps).imp fun σ H E ⟨sl, cs, fps, Hf, R, h⟩ => ⟨sl, cs, fps, Hf, R, runS_seq R h⟩⟩
theorem pssd_one (h1 : PSD X W m st s) : PSsD X W m [st] s := ⟨pss_one h1.ps⟩
theorem psd_pass : PSD X W m (.Pass pos) nilS := ⟨ps_pass.imp fun σ H E ⟨sl, cs, fps, Hf, R, h⟩ => h σ fps Hf H (Ext.refl ..) R⟩
/-- an expression, then an end that depends on its value -/
theorem rd_end {e : EM} {k : D → Cells → SRes} {E : Ends} {Q' : VK} (R : RelX X sl cs σ Hf H fps) (h : RunS X W m σ fps Hf H (match e sl cs with | .ok d cs' => k d cs' | .ex c cs' => .ex c cs' | .st => .st) E)
    (c : ∀ d cs1 v fps1 Hf1 H1, Ext m fps Hf H fps1 Hf1 H1 → RelX X sl cs1 σ Hf1 H1 fps1 → RpX X Hf1 v d → RunS X W m σ fps1 Hf1 H1 (k d cs1) E → Q' v H1) : RD X W m e σ H Q' := by
  refine ⟨sl, cs, fps, Hf, R, ?_⟩
  cases he : e sl cs with
  | st => rw [he] at h; exact h
  | ok d cs1 => rw [he] at h; exact fun v f A B x R1 r => c d cs1 v f A B x R1 r (RunS.after x h)
  | ex c' cs1 => rw [he] at h; exact fun f A B x R1 C hC => h σ f A B x R1.sub R1.cells R1.nd C hC
theorem psd_expr (ha : PED X W m a ea) (hs : swapsWith a none pos.line X.env = pure false := by rfl) : PSD X W m (.Expr a pos) (exprS ea) :=
  ⟨(ps_expr ha.pe hs).imp fun σ H E ⟨sl, cs, fps, Hf, R, h⟩ => rd_end (k := fun _ cs' => .nx sl cs') R h fun d cs1 v f A B x R1 r h1 => h1 σ f A B (Ext.refl ..) R1⟩
theorem psd_ret (ha : PED X W m a ea) : PSD X W m (.Return (some a) pos) (retS ea) :=
  ⟨(ps_ret ha.pe).imp fun σ H E ⟨sl, cs, fps, Hf, R, h⟩ => rd_end (k := fun d cs' => .rt d cs') R h fun d cs1 v f A B x R1 r h1 => h1 v f A B (Ext.refl ..) R1.sub R1.cells R1.nd r⟩
theorem psd_retN : PSD X W m (.Return none pos) retN :=
  ⟨ps_retN.imp fun σ H E ⟨sl, cs, fps, Hf, R, h⟩ => h .non fps Hf H (Ext.refl ..) R.sub R.cells R.nd .non⟩
theorem psd_if {c : Expr} {ec : EM} {as bs : List Stmt} (hc : PTD X W m c ec) (ha : PSsD X W m as s) (hb : PSsD X W m bs t) : PSD X W m (.If c as bs pos) (ifS ec s t) := by
  refine ⟨(ps_if hc.pt ha.ps hb.ps).imp fun σ H E ⟨sl, cs, fps, Hf, R, h⟩ => ?_⟩
  refine ⟨sl, cs, fps, Hf, R, ?_⟩
  unfold ifS at h
  cases he : ec sl cs with
  | st => rw [he] at h; exact h
  | ex c' cs1 => rw [he] at h; exact fun f A B x R1 C hC => h σ f A B x R1.sub R1.cells R1.nd C hC
  | ok d cs1 =>
    rw [he] at h
    cases d with
    | bool b =>
      intro f A B x R1
      cases b with
      | true => exact iteT ⟨sl, cs1, f, A, R1, RunS.after x h⟩
      | false => exact iteF ⟨sl, cs1, f, A, R1, RunS.after x h⟩
    | _ => exact h.elim
theorem psd_set {i : Nat} {x : Str} {pos' : Pos} (hN : X.N.Nodup) (ha : PED X W m a ea) (hi : X.N[i]? = some x := by rfl) (hx : Loc X.env.scope x := by first | exact Or.inl rfl | exact Or.inr rfl) (hs : swapsWith a (some (.Name x pos')) pos.line X.env = pure false := by rfl)
    (hf : X.fn x = true ∨ X.env.scope.names.lookup x = some .local := by first | exact .inl rfl | exact .inr rfl) : PSD X W m (.Assign [.Name x pos'] a pos) (setS i ea) :=
  ⟨(ps_set hN hi hx ha.pe hs hf).imp fun σ H E ⟨sl, cs, fps, Hf, R, h⟩ => rd_end (k := fun d cs' => .nx (sl.set i (.v d)) cs') R h fun d cs1 v f A B y R1 r h1 => h1 _ f A B (Ext.refl ..) (R1.set i r)⟩
/-! ### targets -/
def GD (X : Cx) (b : BM) (vs : List Nat) : TG := fun v σ H Q => ∃ sl cs fps Hf d sl1, RelX X sl cs σ Hf H fps ∧ RpX X Hf v d ∧ b d sl = some sl1 ∧
  ∀ σ' : L2.St, (∀ j, j ∉ vs → σ'[j]? = σ[j]?) → σ'.length = σ.length → RelX X sl1 cs σ' Hf H fps → Q σ' H
structure PGD (X : Cx) (tg : Expr) (b : BM) (vs : List Nat) : Prop where
  pg : PG X tg (GD X b vs)
  ch : ∀ d sl sl1, b d sl = some sl1 → ∀ j, j ∉ vs → sl1[j]? = sl[j]?
def GsD (X : Cx) (bs : List BM) (vs : List Nat) : TGs := fun xs σ H Q => ∃ sl cs fps Hf ds sl1, RelX X sl cs σ Hf H fps ∧ RpAllX X Hf xs ds ∧ bAll bs ds sl = some sl1 ∧
  ∀ σ' : L2.St, (∀ j, j ∉ vs → σ'[j]? = σ[j]?) → σ'.length = σ.length → RelX X sl1 cs σ' Hf H fps → Q σ' H
structure PGsD (X : Cx) (tgs : List Expr) (bs : List BM) (vs : List Nat) : Prop where
  pgs : PGs X tgs (GsD X bs vs)
  ch : ∀ ds sl sl1, bAll bs ds sl = some sl1 → ∀ j, j ∉ vs → sl1[j]? = sl[j]?
theorem PG.imp {e : Expr} {t t' : TG} (h : PG X e t) (i : ∀ v σ H Q, t' v σ H Q → t v σ H Q) : PG X e t' := ⟨fun pins s σ H v u Q I r q => h.run pins s σ H v u Q I r (i _ _ _ _ q)⟩
theorem PGs.imp {e : List Expr} {t t' : TGs} (h : PGs X e t) (i : ∀ v σ H Q, t' v σ H Q → t v σ H Q) : PGs X e t' := ⟨fun pins s σ H v u Q I r q => h.run pins s σ H v u Q I r (i _ _ _ _ q)⟩
theorem pgd_name {i : Nat} {x : Str} (hN : X.N.Nodup) (hi : X.N[i]? = some x := by rfl) (hx : Loc X.env.scope x := by first | exact Or.inl rfl | exact Or.inr rfl)
    (hf : X.fn x = true ∨ X.env.scope.names.lookup x = some .local := by first | exact .inl rfl | exact .inr rfl) : PGD X (.Name x pos) (bName i) [i] := by
  refine ⟨PG.imp (pg_name hN hi hx hf) fun v σ H Q ⟨sl, cs, fps, Hf, d, sl1, R, r, e, q⟩ => ?_, fun d sl sl1 e j hj => by cases e; exact List.getElem?_set_ne (by intro z; subst z; exact hj (by simp))⟩
  cases e
  exact q _ (fun j hj => List.getElem?_set_ne (by intro z; subst z; exact hj (by simp))) (by rw [List.length_set]) (R.set i r)
theorem pgsd_nil : PGsD X [] [] [] := by
  refine ⟨PGs.imp pgs_nil fun v σ H Q ⟨sl, cs, fps, Hf, ds, sl1, R, r, e, q⟩ => ?_, fun ds sl sl1 e j _ => by cases ds <;> cases e; rfl⟩
  cases r with
  | nil => cases e; exact ⟨rfl, q σ (fun _ _ => rfl) rfl R⟩
  | cons _ _ => cases e
theorem pgsd_cons {x : Expr} {xs : List Expr} {bm : BM} {bs : List BM} {vs ws : List Nat} (h1 : PGD X x bm vs) (h2 : PGsD X xs bs ws) (hs : (assignEach (x :: xs) X.env).map (·.2) = assign x X.env :: (assignEach xs X.env).map (·.2) := by rfl) : PGsD X (x :: xs) (bm :: bs) (vs ++ ws) := by
  refine ⟨PGs.imp (pgs_cons h1.pg h2.pgs hs) fun v σ H Q ⟨sl, cs, fps, Hf, ds, sl1, R, r, e, q⟩ => ?_, fun ds sl sl1 e j hj => by
    rw [List.mem_append, not_or] at hj
    cases ds with
    | nil => cases e
    | cons d ds =>
      have e : (bm d sl).bind (bAll bs ds) = some sl1 := e
      cases e1 : bm d sl with
      | none => rw [e1] at e; cases e
      | some sl2 => rw [e1] at e; exact (h2.ch ds sl2 sl1 e j hj.2).trans (h1.ch d sl sl2 e1 j hj.1)⟩
  cases r with
  | nil => cases e
  | @cons v vs' d ds' r1 r2 =>
    have e : (bm d sl).bind (bAll bs ds') = some sl1 := e
    cases e1 : bm d sl with
    | none => rw [e1] at e; cases e
    | some sl2 =>
      rw [e1] at e
      refine ⟨v, vs', rfl, sl, cs, fps, Hf, d, sl2, R, r1, e1, fun σ' k l R' => ?_⟩
      exact ⟨sl2, cs, fps, Hf, ds', sl1, R', r2, e, fun σ2 k2 l2 R2 => q σ2 (fun j hj => by
        rw [List.mem_append, not_or] at hj
        exact (k2 j hj.2).trans (k j hj.1)) (l2.trans l) R2⟩
theorem bAll_len : ∀ {bs : List BM} {ds : List D} {sl sl1 : Slots}, bAll bs ds sl = some sl1 → ds.length = bs.length
  | [], [], _, _, _ => rfl
  | [], _ :: _, _, _, h => by cases h
  | _ :: _, [], _, _, h => by cases h
  | b :: bs, d :: ds, sl, sl1, h => by
    have h : (b d sl).bind (bAll bs ds) = some sl1 := h
    cases e1 : b d sl with
    | none => rw [e1] at h; cases h
    | some s2 => rw [e1] at h; rw [List.length_cons, List.length_cons, bAll_len h]
theorem pgd_tup {xs : List Expr} {k : Nat} {bs : List BM} {vs : List Nat} {n : Nat} (hc : X.calm = true) (h : PGsD X xs bs vs) (hn : (assignEach xs X.env).length = n := by rfl) (hst : (assignEach xs X.env).findIdx? (·.1) = none := by rfl) (hb : bs.length = n := by rfl) : PGD X (.Tuple xs k pos) (bTup bs) vs := by
  refine ⟨PG.imp (pg_tup hc h.pgs hn hst) fun v σ H Q ⟨sl, cs, fps, Hf, d, sl1, R, r, e, q⟩ => ?_, fun d sl sl1 e j hj => by
    unfold bTup at e
    split at e
    · exact h.ch _ sl sl1 e j hj
    · cases e⟩
  unfold bTup at e
  split at e
  · cases r with
    | tup h1 ra => exact ⟨_, _, rfl, seqT_mono R.sub h1, by rw [ra.length, bAll_len e, hb], sl, cs, fps, Hf, _, sl1, R, ra, e, q⟩
  · cases e
theorem psd_asg {tg : Expr} {bm : BM} {vs : List Nat} (ha : PED X W m a ea) (hg : PGD X tg bm vs) (hs : swapsWithSole [tg] a pos.line X.env = pure false := by rfl) (hw : swappedStores [tg] a X.env = pure none := by rfl)
    (h1 : (assignEach [tg] X.env).map (·.2) = [assign tg X.env] := by rfl) : PSD X W m (.Assign [tg] a pos) (bindS bm ea) := by
  refine ⟨(ps_asg ha.pe hg.pg hs hw h1).imp fun σ H E ⟨sl, cs, fps, Hf, R, h⟩ => ?_⟩
  refine rd_end (k := fun d cs' => match bm d sl with | some sl' => .nx sl' cs' | none => .st) R h fun d cs1 v f A B y R1 r h1 => ?_
  cases e : bm d sl with
  | none => rw [e] at h1; exact h1.elim
  | some sl1 =>
    rw [e] at h1
    exact ⟨sl, cs1, f, A, d, sl1, R1, r, e, fun σ' _ _ R' => h1 σ' f A B (Ext.refl ..) R'⟩
/-- a, b = x, y of plain locals -/
theorem psd_par {i j : Nat} {x y : Str} {eas : AM} {px py pt : Pos} {kt k2 pt2} (hc : X.calm = true) (hN : X.N.Nodup) (ha : PAD X W m [a, b] eas) (hi : X.N[i]? = some x := by rfl) (hj : X.N[j]? = some y := by rfl) (hij : i ≠ j := by decide)
    (hx : X.env.scope.names.lookup x = some .local := by rfl) (hy : X.env.scope.names.lookup y = some .local := by rfl)
    (hw : swappedStores [.Tuple [.Name x px, .Name y py] kt pt] (.Tuple [a, b] k2 pt2) X.env = pure (some [x, y]) := by rfl)
    (hs : swapsWithSole [.Tuple [.Name x px, .Name y py] kt pt] (.Tuple [a, b] k2 pt2) pos.line X.env = pure false := by rfl) :
    PSD X W m (.Assign [.Tuple [.Name x px, .Name y py] kt pt] (.Tuple [a, b] k2 pt2) pos) (parS [i, j] eas) := by
  refine ⟨(ps_par hc hN hi hj hij hx hy ha.pa hw hs).imp fun σ H E ⟨sl, cs, fps, Hf, R, h⟩ => ?_⟩
  refine ⟨sl, cs, fps, Hf, R, ?_⟩
  unfold parS at h
  cases he : eas sl cs with
  | st => rw [he] at h; exact h
  | ex c' cs1 => rw [he] at h; exact fun f A B x R1 C hC => h σ f A B x R1.sub R1.cells R1.nd C hC
  | ok as cs1 =>
    rw [he] at h
    intro vs f A B x R1 rv
    have h : RunS X W m σ fps Hf H (match valsA as with | some ds => if ds.length = 2 then .nx (([i, j].zip ds).foldl (fun s p => s.set p.1 (.v p.2)) sl) cs1 else .st | none => .st) E := h
    cases e1 : valsA as with
    | none => rw [e1] at h; exact h.elim
    | some ds =>
      rw [e1] at h
      have h : RunS X W m σ fps Hf H (if ds.length = 2 then .nx (([i, j].zip ds).foldl (fun s p => s.set p.1 (.v p.2)) sl) cs1 else .st) E := h
      by_cases hl : ds.length = 2
      · rw [if_pos hl] at h
        have rd := vals_of rv e1
        match ds, rd, hl with
        | [d1, d2], .cons r1 (.cons r2 .nil), _ =>
          exact ⟨_, _, rfl, h _ f A B x ((R1.set i r1).set j r2)⟩
      · rw [if_neg hl] at h; exact h.elim
/-! ### what is walked -/
def ItD (X : Cx) (J : It) (Hf0 : Hp) (ds : List D) : Prop := ∀ (i : Nat) (Hf H : Hp), Same Hf0 Hf → Same Hf H →
  (∀ d, ds[i]? = some d → J.go i H ∧ ∀ x H', J.yld i H x H' → ∃ Hf', Alloc Hf H Hf' H' ∧ RpX X Hf' x d) ∧ (i = ds.length → J.stop i H)
variable (X W m) in
def RunI (σ : L2.St) (sl : Slots) (fps : List (List Addr)) (Hf H : Hp) (r : Res (List D)) (R : It → Hp → Prop) : Prop :=
  match r with
  | .st => False
  | .ok ds cs' => ∀ J fps' Hf' H', Ext m fps Hf H fps' Hf' H' → RelX X sl cs' σ Hf' H' fps' → ItD X J Hf' ds → R J H'
  | .ex c cs' => ∀ fps' Hf' H', Ext m fps Hf H fps' Hf' H' → RelX X sl cs' σ Hf' H' fps' → ∀ C, X.mg c.name = some (.ref C) → W (.ref C) none σ H'
variable (X W m) in
def RDI (it : IM) : TI := fun σ H R => ∃ sl cs fps Hf, RelX X sl cs σ Hf H fps ∧ RunI X W m σ sl fps Hf H (it sl cs) R
variable (X W m) in
structure PID (tg iter : Expr) (it : IM) : Prop where
  pi : PI X tg iter (RDI X W m it)
theorem PI.imp {tg e : Expr} {t t' : TI} (h : PI X tg e t) (i : ∀ σ H R, t' σ H R → t σ H R) : PI X tg e t' := ⟨fun pins s σ H R I q => h.run pins s σ H R I (i _ _ _ q)⟩
/-- a list, a tuple -/
def seqI (e : EM) : IM := fun sl cs => match e sl cs with
  | .ok (.list ds) cs' => .ok ds cs'
  | .ok _ _ => .st
  | .ex c cs' => .ex c cs'
  | .st => .st
def tupI (e : EM) : IM := fun sl cs => match e sl cs with
  | .ok (.tuple ds) cs' => .ok ds cs'
  | .ok _ _ => .st
  | .ex c cs' => .ex c cs'
  | .st => .st
theorem itd_list {K : PySem.W.Frag} (hK : X.K = K) {a : Addr} {xs : List V} {ds : List D} (h : SqB X.K Hf a xs) (r : RpAllX X Hf xs ds) : ItD X (Itl K a) Hf ds := by
  subst hK
  intro i A B s1 s2
  have hq : SqL X.K B a xs := SqB.l (sqb_mono (s1.trans s2) h)
  refine ⟨fun d hd => ?_, fun e => ⟨xs, hq, by rw [r.length, e]; exact Nat.le_refl _⟩⟩
  obtain ⟨v, hv, rv⟩ := r.get hd
  refine ⟨⟨xs, v, hq, hv⟩, fun x H' ⟨e, y⟩ => ?_⟩
  subst e
  have := y xs hq
  rw [hv] at this
  cases this
  exact ⟨A, Alloc.refl s2, rv.mono s1⟩
theorem itd_tup {K : PySem.W.Frag} (hK : X.K = K) {a : Addr} {xs : List V} {ds : List D} (h : SqT X.K Hf a xs) (r : RpAllX X Hf xs ds) : ItD X (Itt K a) Hf ds := by
  subst hK
  intro i A B s1 s2
  have hq : SqT X.K B a xs := seqT_mono (s1.trans s2) h
  refine ⟨fun d hd => ?_, fun e => ⟨xs, hq, by rw [r.length, e]; exact Nat.le_refl _⟩⟩
  obtain ⟨v, hv, rv⟩ := r.get hd
  refine ⟨⟨xs, v, hq, hv⟩, fun x H' ⟨e, y⟩ => ?_⟩
  subst e
  have := y xs hq
  rw [hv] at this
  cases this
  exact ⟨A, Alloc.refl s2, rv.mono s1⟩
/-- an expression's value, then an iterator over it -/
theorem rd_iter {e : EM} {k : D → Option (List D)} {R : It → Hp → Prop} {Q' : VK} (Rl : RelX X sl cs σ Hf H fps)
    (h : RunI X W m σ sl fps Hf H (match e sl cs with | .ok d cs' => (match k d with | some ds => .ok ds cs' | none => .st) | .ex c cs' => .ex c cs' | .st => .st) R)
    (c : ∀ d ds v Hf1 H1, k d = some ds → Same Hf1 H1 → RpX X Hf1 v d → (∀ J, ItD X J Hf1 ds → R J H1) → Q' v H1) : RD X W m e σ H Q' := by
  refine ⟨sl, cs, fps, Hf, Rl, ?_⟩
  cases he : e sl cs with
  | st => rw [he] at h; exact h
  | ex c' cs1 => rw [he] at h; exact h
  | ok d cs1 =>
    rw [he] at h
    have h : RunI X W m σ sl fps Hf H (match k d with | some ds => .ok ds cs1 | none => .st) R := h
    cases e1 : k d with
    | none => rw [e1] at h; exact h.elim
    | some ds => rw [e1] at h; exact fun v f A B x R1 r => c d ds v A B e1 R1.sub r fun J j => h J f A B x R1 j
theorem pid_list {tg : Expr} (ha : PED X W m a ea) : PID X W m tg a (seqI ea) := by
  refine ⟨PI.imp (pi_list ha.pe) fun σ H R ⟨sl, cs, fps, Hf, Rl, h⟩ => ?_⟩
  refine rd_iter (k := fun d => match d with | .list ds => some ds | _ => none) Rl (by
    unfold seqI at h
    cases he : ea sl cs with
    | st => rw [he] at h; exact h
    | ex c' cs1 => rw [he] at h; exact h
    | ok d cs1 => rw [he] at h; cases d <;> exact h) fun d ds v A B e s r q => ?_
  split at e
  · cases e
    cases r with
    | lst h1 ra => exact ⟨_, rfl, ⟨_, SqB.l (sqb_mono s h1)⟩, q _ (itd_list rfl h1 ra)⟩
  · cases e
theorem pid_tup {tg : Expr} (ha : PED X W m a ea) : PID X W m tg a (tupI ea) := by
  refine ⟨PI.imp (pi_tup ha.pe) fun σ H R ⟨sl, cs, fps, Hf, Rl, h⟩ => ?_⟩
  refine rd_iter (k := fun d => match d with | .tuple ds => some ds | _ => none) Rl (by
    unfold tupI at h
    cases he : ea sl cs with
    | st => rw [he] at h; exact h
    | ex c' cs1 => rw [he] at h; exact h
    | ok d cs1 => rw [he] at h; cases d <;> exact h) fun d ds v A B e s r q => ?_
  split at e
  · cases e
    cases r with
    | tup h1 ra => exact ⟨_, rfl, ⟨_, seqT_mono s h1⟩, q _ (itd_tup rfl h1 ra)⟩
  · cases e
end
end SS
namespace SS
open PySem PySem.Spec L2
/-! ### ranges, texts walked -/
def rng1 (n : Int) : List D := (List.range n.toNat).map fun (k : Nat) => PyData.int (k : Int)
def rngI (e : EM) : IM := fun sl cs => match e sl cs with
  | .ok (.int n) cs' => if 0 ≤ n ∧ n ≤ 1000000 then .ok (rng1 n) cs' else .st
  | .ok _ _ => .st
  | .ex c cs' => .ex c cs'
  | .st => .st
def rng2I (a b : EM) : IM := fun sl cs => match a sl cs with
  | .ok (.int n) cs' => (match b sl cs' with
    | .ok (.int k) cs2 => if -1000000 ≤ n ∧ n ≤ 1000000 ∧ -1000000 ≤ k ∧ k ≤ 1000000 then .ok ((List.range (k - n).toNat).map fun (j : Nat) => PyData.int (n + j)) cs2 else .st
    | .ok _ _ => .st
    | .ex c cs' => .ex c cs'
    | .st => .st)
  | .ok _ _ => .st
  | .ex c cs' => .ex c cs'
  | .st => .st
def strI (e : EM) : IM := fun sl cs => match e sl cs with
  | .ok (.str x) cs' => .ok (x.cps.toList.map fun c => PyData.str ⟨#[c]⟩) cs'
  | .ok _ _ => .st
  | .ex c cs' => .ex c cs'
  | .st => .st
section
variable {X : Cx} {W : WX} {m : Nat} {σ : L2.St} {sl : Slots} {cs : Cells} {fps fps1 : List (List Addr)} {Hf H Hf1 H1 : Hp}
variable {a b : Expr} {ea eb : EM} {pos : Pos} {s t : SM} {st : Stmt} {rest : List Stmt}
theorem itd_rng (lo : Int) (n : Nat) : ItD X (Itr lo n) Hf ((List.range n).map fun (j : Nat) => PyData.int (lo + j)) := by
  intro i A B s1 s2
  refine ⟨fun d hd => ?_, fun e => ?_⟩
  · rw [List.getElem?_map] at hd
    obtain ⟨j, h1, h2⟩ := Option.map_eq_some_iff.mp hd
    have hi : i < n := by
      have := (List.getElem?_eq_some_iff.mp h1).1
      simpa using this
    have hj : j = i := by
      rw [List.getElem?_range hi] at h1
      exact (Option.some.inj h1).symm
    subst hj
    subst h2
    refine ⟨hi, fun x H' ⟨e1, e2⟩ => ?_⟩
    subst e1 e2
    exact ⟨A, Alloc.refl s2, .int _⟩
  · show n ≤ i
    rw [e, List.length_map, List.length_range]
    exact Nat.le_refl _
theorem rng1_eq (n : Int) : rng1 n = (List.range n.toNat).map fun (j : Nat) => PyData.int (0 + j) := by
  unfold rng1
  refine List.map_congr_left fun j _ => ?_
  rw [Int.zero_add]
theorem pid_rng1 {tg : Expr} {p : Pos} (ha : PED X W m a ea) (hm : X.mg "range" = none) (hg : Gl X "range" := by rfl) (hs : starEach [a] X.env = [(false, eval a X.env)] := by rfl) : PID X W m tg (.Call (.Name "range" p) [a] [] pos) (rngI ea) := by
  refine ⟨PI.imp (pi_range1 hg hm (pa_cons ha.pe pa_nil hs) hs) fun σ H R ⟨sl, cs, fps, Hf, Rl, h⟩ => ?_⟩
  refine rd_iter (k := fun d => match d with | .int n => if 0 ≤ n ∧ n ≤ 1000000 then some (rng1 n) else none | _ => none) Rl (by
    unfold rngI at h
    cases he : ea sl cs with
    | st => rw [he] at h; exact h
    | ex c' cs1 => rw [he] at h; exact h
    | ok d cs1 =>
      rw [he] at h
      cases d with
      | int n =>
        have h : RunI X W m σ sl fps Hf H (if 0 ≤ n ∧ n ≤ 1000000 then .ok (rng1 n) cs1 else .st) R := h
        show RunI X W m σ sl fps Hf H (match (if 0 ≤ n ∧ n ≤ 1000000 then some (rng1 n) else none) with | some ds => .ok ds cs1 | none => .st) R
        by_cases hc : 0 ≤ n ∧ n ≤ 1000000
        · rw [if_pos hc] at h ⊢; exact h
        · rw [if_neg hc] at h; exact h.elim
      | _ => exact h) fun d ds v A B e s r q => ?_
  split at e
  · rename_i n
    split at e
    · rename_i hc
      cases e
      cases r
      refine ⟨n, rfl, by omega, by omega, q _ ?_⟩
      rw [rng1_eq]
      exact itd_rng 0 n.toNat
    · cases e
  · cases e
theorem itd_str (x : Str) : ItD X (Its x) Hf (x.cps.toList.map fun c => PyData.str ⟨#[c]⟩) := by
  intro i A B s1 s2
  refine ⟨fun d hd => ?_, fun e => ?_⟩
  · rw [List.getElem?_map] at hd
    obtain ⟨c, h1, h2⟩ := Option.map_eq_some_iff.mp hd
    have hi : i < x.cps.size := by
      have := (List.getElem?_eq_some_iff.mp h1).1
      simpa using this
    subst h2
    refine ⟨hi, fun v H' ⟨e1, c', e2, e3⟩ => ?_⟩
    subst e1 e3
    have : c' = c := by
      rw [← Array.getElem?_toList, h1] at e2
      exact (Option.some.inj e2).symm
    subst this
    exact ⟨A, Alloc.refl s2, .str _⟩
  · show x.cps.size ≤ i
    rw [e, List.length_map, Array.length_toList]
    exact Nat.le_refl _
theorem pid_str {tg : Expr} (ha : PED X W m a ea) : PID X W m tg a (strI ea) := by
  refine ⟨PI.imp (pi_str ha.pe) fun σ H R ⟨sl, cs, fps, Hf, Rl, h⟩ => ?_⟩
  refine rd_iter (k := fun d => match d with | .str x => some (x.cps.toList.map fun c => PyData.str ⟨#[c]⟩) | _ => none) Rl (by
    unfold strI at h
    cases he : ea sl cs with
    | st => rw [he] at h; exact h
    | ex c' cs1 => rw [he] at h; exact h
    | ok d cs1 => rw [he] at h; cases d <;> exact h) fun d ds v A B e s r q => ?_
  split at e
  · cases e
    cases r
    exact ⟨_, rfl, q _ (itd_str _)⟩
  · cases e
/-! ### for -/
theorem runS_slot {r : SRes} {E : Ends} {σ' : L2.St} (h : RunS X W m σ fps Hf H r E) : RunS X W m σ' fps Hf H r E := by
  cases r <;> exact h
theorem Ext.back {E : Ends} {r : SRes} (x : Ext m fps Hf H fps1 Hf1 H1) (h : RunS X W m σ fps Hf H r E) : RunS X W m σ fps1 Hf1 H1 r E := RunS.after x h
theorem rd_for {bm : BM} {vs : List Nat} {it : IM} {body : SM} {E : Ends} (h : SD X W m (forS bm it body) E σ H) : tFor (RDI X W m it) (GD X bm vs) (SD X W m body) E σ H := by
  obtain ⟨sl, cs, fps, Hf, R, h⟩ := h
  refine ⟨sl, cs, fps, Hf, R, ?_⟩
  unfold forS at h
  cases he : it sl cs with
  | st => rw [he] at h; exact h
  | ex c cs' => rw [he] at h; exact fun f A B x R1 C hC => h σ f A B x R1.sub R1.cells R1.nd C hC
  | ok ds cs1 =>
    rw [he] at h
    intro J f0 A0 B0 X0 R0 J0
    have h := RunS.after X0 h
    refine ⟨fun i k σ H => k = ds.length - i ∧ i ≤ ds.length ∧ ∃ sl cs fps Hf, RelX X sl cs σ Hf H fps ∧ Same A0 Hf ∧ RunS X W m σ fps Hf H (loopS bm body (ds.drop i) sl cs) E,
      ⟨ds.length, by simp, Nat.zero_le _, sl, cs1, f0, A0, R0, Same.refl _, by simpa using h⟩, ?_⟩
    rintro i k σ H ⟨rfl, hi, sl, cs, fps, Hf, R, mono, h⟩
    obtain ⟨go, stop⟩ := J0 i Hf H mono R.sub
    by_cases hlt : i < ds.length
    · have hd : ds[i]? = some ds[i] := by simp [hlt]
      obtain ⟨g1, g2⟩ := go _ hd
      refine .inr ⟨g1, fun σ' H' => ∃ sl cs fps Hf, RelX X sl cs σ' Hf H' fps ∧ Same A0 Hf ∧ RunS X W m σ' fps Hf H' (loopS bm body (ds.drop (i + 1)) sl cs) E,
        fun σ' H' q => ⟨ds.length - (i + 1), by omega, rfl, hlt, q⟩, fun x H' y => ?_⟩
      obtain ⟨Hf', al, rx⟩ := g2 x H' y
      have h := RunS.after al.ext h
      rw [List.drop_eq_getElem_cons hlt] at h
      unfold loopS at h
      cases e1 : bm ds[i] sl with
      | none => rw [e1] at h; exact h.elim
      | some sl1 =>
        rw [e1] at h
        refine ⟨sl, cs, fps, Hf', ds[i], sl1, R.alloc al, rx, e1, fun σ' _ _ R' => ⟨sl1, cs, fps, Hf', R', ?_⟩⟩
        have mono' := mono.trans al.mono
        have next : ∀ {s c}, RunS X W m σ' fps Hf' H' (loopS bm body (ds.drop (i + 1)) s c) E → ∀ σ2 f A B, Ext m fps Hf' H' f A B → RelX X s c σ2 A B f → ∃ sl cs fps Hf, RelX X sl cs σ2 Hf B fps ∧ Same A0 Hf ∧ RunS X W m σ2 fps Hf B (loopS bm body (ds.drop (i + 1)) sl cs) E := by
          intro s c h σ2 f A B x R
          refine ⟨s, c, f, A, R, mono'.trans x.mono, ?_⟩
          have h := RunS.after x h
          cases hh : loopS bm body (ds.drop (i + 1)) s c <;> (rw [hh] at h; exact h)
        have h : RunS X W m σ' fps Hf' H' (match body sl1 cs with | .nx s c => loopS bm body (ds.drop (i + 1)) s c | .ct s c => loopS bm body (ds.drop (i + 1)) s c | .bk s c => .nx s c | .rt d c => .rt d c | .ex e c => .ex e c | .st => .st) E := runS_slot h
        cases hb : body sl1 cs with
        | st => rw [hb] at h; exact h
        | nx s c => rw [hb] at h; exact next h
        | ct s c => rw [hb] at h; exact next h
        | bk s c => rw [hb] at h; exact h
        | rt d c => rw [hb] at h; exact h
        | ex e c => rw [hb] at h; exact h
    · have e : i = ds.length := by omega
      refine .inl ⟨stop e, ?_⟩
      rw [e, List.drop_length] at h
      exact h σ fps Hf H (Ext.refl ..) R
theorem psd_for {tg iter : Expr} {bm : BM} {vs : List Nat} {it : IM} {body : SM} {bs : List Stmt} (hp : PassesOwn (model X.prog X.w) X.A X.env X.xe) (hc : X.calm = true) (hi : PID X W m tg iter it) (hg : PGD X tg bm vs) (hb : PSsD X W m bs body)
    (hs : ∀ x, foldedSetIterable iter X.env x = pure x := by intro _; rfl) : PSD X W m (.For tg iter bs [] pos) (forS bm it body) :=
  ⟨(ps_for hp hc hi.pi hg.pg hb.ps hs).imp fun σ H E h => rd_for h⟩
/-! ### while -/
theorem psd_while {c : Expr} {ec : EM} {body : SM} {bs : List Stmt} (n : Nat) (hp : PassesOwn (model X.prog X.w) X.A X.env X.xe) (hc : PTD X W m c ec) (hb : PSsD X W m bs body) : PSD X W m (.While c bs [] pos) (whileS ec body n) := by
  refine ⟨(ps_while hp hc.pt hb.ps).imp fun σ H E ⟨sl, cs, fps, Hf, R, h⟩ => ?_⟩
  refine ⟨fun n σ H => ∃ sl cs fps Hf, RelX X sl cs σ Hf H fps ∧ RunS X W m σ fps Hf H (whileS ec body n sl cs) E, ⟨n, sl, cs, fps, Hf, R, h⟩, ?_⟩
  rintro k σ H ⟨sl, cs, fps, Hf, R, h⟩
  cases k with
  | zero => exact h.elim
  | succ k =>
    refine ⟨sl, cs, fps, Hf, R, ?_⟩
    unfold whileS at h
    cases he : ec sl cs with
    | st => rw [he] at h; exact h
    | ex c' cs1 => rw [he] at h; exact fun f A B x R1 C hC => h σ f A B x R1.sub R1.cells R1.nd C hC
    | ok d cs1 =>
      rw [he] at h
      cases d with
      | bool b =>
        intro f A B x R1
        cases b with
        | false => exact iteF (RunS.after x h σ f A B (Ext.refl ..) R1)
        | true =>
          refine iteT ⟨fun σ' H' => ∃ sl cs fps Hf, RelX X sl cs σ' Hf H' fps ∧ RunS X W m σ' fps Hf H' (whileS ec body k sl cs) E, fun σ' H' q => ⟨k, Nat.lt_succ_self _, q⟩, sl, cs1, f, A, R1, ?_⟩
          have h : RunS X W m σ f A B (match body sl cs1 with | .nx s c' => whileS ec body k s c' | .ct s c' => whileS ec body k s c' | .bk s c' => .nx s c' | .rt d c => .rt d c | .ex e c => .ex e c | .st => .st) E := RunS.after x h
          have next : ∀ {s c}, RunS X W m σ f A B (whileS ec body k s c) E → ∀ σ2 f2 A2 B2, Ext m f A B f2 A2 B2 → RelX X s c σ2 A2 B2 f2 → ∃ sl cs fps Hf, RelX X sl cs σ2 Hf B2 fps ∧ RunS X W m σ2 fps Hf B2 (whileS ec body k sl cs) E :=
            fun h σ2 f2 A2 B2 x R => ⟨_, _, f2, A2, R, runS_slot (RunS.after x h)⟩
          cases hb : body sl cs1 with
          | st => rw [hb] at h; exact h
          | nx s c => rw [hb] at h; exact next h
          | ct s c => rw [hb] at h; exact next h
          | bk s c => rw [hb] at h; exact h
          | rt d c => rw [hb] at h; exact h
          | ex e c => rw [hb] at h; exact h
      | _ => exact h.elim
/-! ### new lists -/
variable (X W m) in
def RunF (σ : L2.St) (sl : Slots) (fps : List (List Addr)) (Hf H : Hp) (r : Res (List D)) (Q : VK) : Prop :=
  match r with
  | .st => False
  | .ok ds cs' => ∀ p xs fps' Hf' H', Ext m fps Hf H fps' Hf' H' → RelX X sl cs' σ Hf' H' fps' → H' p = some (.lst xs) → Hf' p = none → p ∉ fps'.flatten → H p = none → RpAllX X Hf' xs ds → Q (.ref p) H'
  | .ex c cs' => ∀ fps' Hf' H', Ext m fps Hf H fps' Hf' H' → RelX X sl cs' σ Hf' H' fps' → ∀ C, X.mg c.name = some (.ref C) → W (.ref C) none σ H'
variable (X W m) in
def RF (f : IM) : TE := fun σ H Q => ∃ sl cs fps Hf, RelX X sl cs σ Hf H fps ∧ RunF X W m σ sl fps Hf H (f sl cs) Q
variable (X W m) in
structure PFD (x : Expr) (f : IM) : Prop where
  pf : PE X x (RF X W m f)
theorem RunF.after {r : Res (List D)} {Q : VK} (x : Ext m fps Hf H fps1 Hf1 H1) (h0 : ∀ p, H1 p = none → H p = none) (h : RunF X W m σ sl fps Hf H r Q) : RunF X W m σ sl fps1 Hf1 H1 r Q := by
  cases r with
  | st => exact h
  | ok d cs' => exact fun p xs f A B y R a b c d r => h p xs f A B (x.trans y) R a b c (h0 p d) r
  | ex c cs' => exact fun f A B y R C hC => h f A B (x.trans y) R C hC
theorem ext_none (x : Ext m fps Hf H fps1 Hf1 H1) (R : RelX X sl cs σ Hf H fps) (R1 : RelX X sl cs σ Hf1 H1 fps1) : True := trivial
theorem rd_fr {f : IM} {Q : VK} (h : RD X W m (frE f) σ H Q) : RF X W m f σ H Q := by
  obtain ⟨sl, cs, fps, Hf, R, h⟩ := h
  refine ⟨sl, cs, fps, Hf, R, ?_⟩
  unfold frE at h
  cases he : f sl cs with
  | st => rw [he] at h; exact h
  | ex c cs' => rw [he] at h; exact h
  | ok ds cs' =>
    rw [he] at h
    intro p xs f A B x R1 hp hf hn h0 r
    exact h (.ref p) f _ B (x.frz h0 hf) (R1.frz hn hf hp) (.lst (.inl (.inl upd_same)) (r.mono (same_frz hf)))
theorem ped_fr {x : Expr} {f : IM} (h : PFD X W m x f) : PED X W m x (frE f) := ⟨h.pf.imp fun _ _ _ q => rd_fr q⟩
/-- the new list becomes cell i -/
theorem mem_set {l : List (List Addr)} {i : Nat} {fp : List Addr} {b : Addr} (hb : b ∈ (l.set i fp).flatten) : b ∈ fp ∨ b ∈ l.flatten := by
  rw [List.mem_flatten] at hb
  obtain ⟨y, hy, hb⟩ := hb
  rcases List.mem_or_eq_of_mem_set hy with h | h
  · exact .inr (List.mem_flatten.mpr ⟨y, h, hb⟩)
  · exact .inl (by rw [← h]; exact hb)
theorem nodup_set {l : List (List Addr)} {i : Nat} {p : Addr} (h : l.flatten.Nodup) (hp : p ∉ l.flatten) : (l.set i [p]).flatten.Nodup := by
  induction l generalizing i with
  | nil => simp
  | cons x l ih =>
    rw [List.flatten_cons, List.nodup_append] at h
    rw [List.flatten_cons, List.mem_append, not_or] at hp
    cases i with
    | zero =>
      rw [List.set_cons_zero, List.flatten_cons, List.nodup_append]
      exact ⟨by simp, h.2.1, fun a ha b hb e => hp.2 (by rw [List.mem_singleton] at ha; rw [← ha, e]; exact hb)⟩
    | succ i =>
      rw [List.set_cons_succ, List.flatten_cons, List.nodup_append]
      refine ⟨h.1, ih h.2.1 hp.2, fun a ha b hb e => ?_⟩
      have hb' : b = p ∨ b ∈ l.flatten := (mem_set hb).imp_left fun z => by simpa using z
      rcases hb' with z | z
      · exact hp.1 (by rw [← z, ← e]; exact ha)
      · exact h.2.2 a ha b z e
theorem paired_set {α β : Type} {F : α → β → Prop} {x : α} {y : β} (h : F x y) : ∀ {l : List α} {l' : List β} (i : Nat), Paired F l l' → Paired F (l.set i x) (l'.set i y)
  | _, _, _, .nil => .nil
  | _, _, 0, .cons _ t => .cons h t
  | _, _, i + 1, .cons r t => .cons r (paired_set h i t)
theorem paired_len {α β : Type} {F : α → β → Prop} : ∀ {l : List α} {l' : List β}, Paired F l l' → l.length = l'.length
  | _, _, .nil => rfl
  | _, _, .cons _ t => by rw [List.length_cons, List.length_cons, paired_len t]
theorem paired_at {α β : Type} {F : α → β → Prop} : ∀ {l : List α} {l' : List β} {i : Nat} {x : α}, Paired F l l' → l[i]? = some x → ∃ y, l'[i]? = some y ∧ F x y
  | _, _, _, _, .nil, h => by simp at h
  | _, _, 0, _, .cons r _, h => by simp at h; subst h; exact ⟨_, rfl, r⟩
  | _, _, i + 1, _, .cons _ t, h => by
    obtain ⟨y, h1, h2⟩ := paired_at (i := i) t (by simpa using h)
    exact ⟨y, by simpa using h1, h2⟩
theorem Rel.cell {p : Addr} {xs : List V} {ds : List D} (R : RelX X sl cs σ Hf H fps) (i : Nat) (hi : i < sl.length) (hp : H p = some (.lst xs)) (hf : Hf p = none) (hn : p ∉ fps.flatten) (r : RpAllX X Hf xs ds) :
    RelX X (sl.set i .c) (cs.set i (.lst ds)) (σ.set i (some (.ref p))) Hf H (fps.set i [p]) := by
  have lf := paired_len R.cells
  refine ⟨R.sub, paired_set ⟨p, xs, rfl, hp, hf, r⟩ i R.cells, nodup_set R.nd hn, fun j s e => ?_, by rw [List.length_set, List.length_set]; exact R.len, by rw [List.length_set, List.length_set]; exact R.clen⟩
  by_cases hj : i = j
  · subst hj
    rw [List.getElem?_set_self hi] at e
    cases e
    refine ⟨p, [], List.getElem?_set_self (by rw [← lf, R.clen]; exact hi), List.getElem?_set_self (by rw [← R.len]; exact hi)⟩
  · rw [List.getElem?_set_ne hj] at e
    rw [List.getElem?_set_ne hj]
    have q := R.slots j s e
    cases s with
    | c =>
      obtain ⟨a, r, h1, h2⟩ := q
      exact ⟨a, r, by rw [List.getElem?_set_ne hj]; exact h1, h2⟩
    | un => trivial
    | v d => exact q
    | fn x => exact q
theorem Ext.cell {p : Addr} (x : Ext m fps Hf H fps1 Hf1 H1) (h0 : H p = none) (i : Nat) (hi : m ≤ i) : Ext m fps Hf H (fps1.set i [p]) Hf1 H1 :=
  ⟨x.mono, x.fresh, x.keep, x.there, fun b hb => by
    rcases mem_set hb with z | z
    · rw [List.mem_singleton] at z; subst z; exact .inr h0
    · exact x.own b z, fun k hk => by rw [List.getElem?_set_ne (by omega)]; exact x.fix k hk⟩
theorem rd_cell {f : IM} {i : Nat} {E : Ends} (hm : m ≤ i) (h : SD X W m (cellS i f) E σ H) : RF X W m f σ H fun x H1 => gName i x σ H1 E.nx := by
  obtain ⟨sl, cs, fps, Hf, R, h⟩ := h
  refine ⟨sl, cs, fps, Hf, R, ?_⟩
  unfold cellS at h
  cases he : f sl cs with
  | st => rw [he] at h; exact h
  | ex c cs' => rw [he] at h; exact fun f A B x R1 C hC => h σ f A B x R1.sub R1.cells R1.nd C hC
  | ok ds cs' =>
    rw [he] at h
    by_cases hi : i < sl.length
    · have h : RunS X W m σ fps Hf H (if i < sl.length then .nx (sl.set i .c) (cs'.set i (.lst ds)) else .st) E := h
      rw [if_pos hi] at h
      intro p xs f A B x R1 hp hf hn h0 r
      exact h _ _ A B (x.cell h0 i hm) (R1.cell i hi hp hf hn r)
    · have h : RunS X W m σ fps Hf H (if i < sl.length then .nx (sl.set i .c) (cs'.set i (.lst ds)) else .st) E := h
      rw [if_neg hi] at h
      exact h.elim
end
end SS
namespace SS
open PySem PySem.Spec L2
def W0 : WX := fun _ _ _ _ => False
def notCell (sl : Slots) (i : Nat) : Bool := match sl[i]? with
  | some .c => false
  | _ => true
/-- a comprehension's meaning: no cell is hidden by its own names -/
def lcG (b : BM) (vs : List Nat) (it : IM) (t e : EM) : IM := fun sl cs => if vs.all (notCell sl) then lcF b vs it t e sl cs else .st
section
variable {X : Cx} {W : WX} {m : Nat} {σ : L2.St} {sl : Slots} {cs : Cells} {fps fps1 : List (List Addr)} {Hf H Hf1 H1 : Hp}
variable {a b : Expr} {ea eb : EM} {pos : Pos} {s t : SM} {st : Stmt} {rest : List Stmt}
/-! ### comprehensions -/
theorem wipe_eq {σ1 σ2 : L2.St} (hl : σ1.length = σ2.length) : ∀ {vs ws : List Nat}, (∀ j, j ∉ ws → σ1[j]? = σ2[j]?) → (∀ j ∈ ws, j ∈ vs) → L2.wipe σ1 vs = L2.wipe σ2 vs := by
  intro vs ws h hs
  have len : ∀ (σ : L2.St) (vs : List Nat), (L2.wipe σ vs).length = σ.length := wipe_length
  have get : ∀ (σ : L2.St) (vs : List Nat) (j : Nat), (L2.wipe σ vs)[j]? = if j ∈ vs ∧ j < σ.length then some none else σ[j]? := by
    intro σ vs
    induction vs with
    | nil => intro j; simp [L2.wipe]
    | cons v vs ih =>
      intro j
      show ((L2.wipe σ vs).set v none)[j]? = _
      by_cases hv : v = j
      · subst hv
        by_cases hj : v < σ.length
        · rw [List.getElem?_set_self (by rw [len]; exact hj), if_pos ⟨by simp, hj⟩]
        · rw [List.getElem?_eq_none (by rw [List.length_set, len]; omega), if_neg (fun z => hj z.2), List.getElem?_eq_none (by omega)]
      · rw [List.getElem?_set_ne hv, ih]
        have e : (j ∈ v :: vs) ↔ j ∈ vs := by
          rw [List.mem_cons]
          exact ⟨fun z => z.elim (fun q => absurd q.symm hv) id, .inr⟩
        simp only [e]
  refine List.ext_getElem? fun j => ?_
  rw [get, get, hl]
  by_cases hj : j ∈ vs
  · by_cases hj2 : j < σ2.length
    · rw [if_pos ⟨hj, hj2⟩, if_pos ⟨hj, hj2⟩]
    · rw [if_neg (fun z => hj2 z.2), if_neg (fun z => hj2 z.2), List.getElem?_eq_none (by omega), List.getElem?_eq_none (by omega)]
  · rw [if_neg (fun z => hj z.1), if_neg (fun z => hj z.1)]
    exact h j fun z => hj (hs j z)
theorem wipeS_get (sl : Slots) (vs : List Nat) (j : Nat) (hj : j ∉ vs) : (wipeS sl vs)[j]? = sl[j]? := by
  induction vs with
  | nil => rfl
  | cons v vs ih =>
    rw [List.mem_cons, not_or] at hj
    show ((wipeS sl vs).set v .un)[j]? = _
    rw [List.getElem?_set_ne (Ne.symm hj.1)]
    exact ih hj.2
theorem wipe_get (σ : L2.St) (vs : List Nat) (j : Nat) (hj : j ∉ vs) : (L2.wipe σ vs)[j]? = σ[j]? := by
  induction vs with
  | nil => rfl
  | cons v vs ih =>
    rw [List.mem_cons, not_or] at hj
    show ((L2.wipe σ vs).set v none)[j]? = _
    rw [List.getElem?_set_ne (Ne.symm hj.1)]
    exact ih hj.2
/-- behind a comprehension the slots are as they were -/
theorem Rel.unwipe {vs : List Nat} {cs' : Cells} {Hf' H' : Hp} {fps' : List (List Addr)} (R : RelX X sl cs σ Hf H fps) (hv : vs.all (notCell sl) = true) (R' : RelX X (wipeS sl vs) cs' (L2.wipe σ vs) Hf' H' fps') (mono : Same Hf Hf') : RelX X sl cs' σ Hf' H' fps' := by
  refine ⟨R'.sub, R'.cells, R'.nd, fun j s e => ?_, R.len, ?_⟩
  · have q := R.slots j s e
    cases s with
    | un => trivial
    | v d => exact SlotR.mono mono q
    | fn x => exact q
    | c =>
      have hj : j ∉ vs := fun z => by
        have := List.all_eq_true.mp hv j z
        unfold notCell at this
        rw [e] at this
        cases this
      obtain ⟨a, r, h1, h2⟩ := R'.slots j .c (by rw [wipeS_get sl vs j hj]; exact e)
      rw [wipe_get σ vs j hj] at h2
      exact ⟨a, r, h1, h2⟩
  · rw [R'.clen]
    have : ∀ vs : List Nat, (wipeS sl vs).length = sl.length := fun vs => by
      induction vs with
      | nil => rfl
      | cons v vs ih => show ((wipeS sl vs).set v .un).length = _; rw [List.length_set]; exact ih
    exact this vs
theorem wipeS_un (sl : Slots) (vs : List Nat) (j : Nat) (hj : j ∈ vs) {s : Slot} (h : (wipeS sl vs)[j]? = some s) : s = .un := by
  induction vs with
  | nil => cases hj
  | cons v vs ih =>
    have h : ((wipeS sl vs).set v .un)[j]? = some s := h
    by_cases hv : v = j
    · subst hv
      by_cases hl : v < (wipeS sl vs).length
      · rw [List.getElem?_set_self hl] at h; cases h; rfl
      · rw [List.getElem?_eq_none (by rw [List.length_set]; omega)] at h; cases h
    · rw [List.getElem?_set_ne hv] at h
      exact ih (by rcases List.mem_cons.mp hj with z | z; exact absurd z.symm hv; exact z) h
theorem lcLoop_ne {bm : BM} {et ee : EM} {sl : Slots} : ∀ {ds acc : List D} {cs cs' : Cells} {c : Exc}, lcLoop bm et ee sl ds acc cs ≠ .ex c cs'
  | [], _, _, _, _, h => by cases h
  | d :: ds, acc, cs, cs', c, h => by
    unfold lcLoop at h
    split at h
    · cases h
    · split at h
      · split at h
        · split at h
          · exact lcLoop_ne h
          · cases h
        · cases h
      · exact lcLoop_ne h
      · cases h
theorem rf_lc {bm : BM} {vs ws : List Nat} {it : IM} {et ee : EM} {Q : VK} (hw : ∀ j ∈ ws, j ∈ vs) (hch : ∀ d sl sl1, bm d sl = some sl1 → ∀ j, j ∉ ws → sl1[j]? = sl[j]?) (h : RF X W m (lcG bm vs it et ee) σ H Q) : tLc (RDI X W m it) (GD X bm ws) (RDT X W0 m et) (RD X W0 m ee) vs σ H Q := by
  obtain ⟨sl, cs, fps, Hf, R, h⟩ := h
  refine ⟨sl, cs, fps, Hf, R, ?_⟩
  unfold lcG at h
  rcases Classical.em (vs.all (notCell sl) = true) with hv | hv
  rotate_left
  · rw [if_neg hv] at h; exact h.elim
  rw [if_pos hv] at h
  unfold lcF at h
  cases he : it sl cs with
  | st => rw [he] at h; exact h
  | ex c cs' => rw [he] at h; exact h
  | ok ds cs1 =>
    rw [he] at h
    intro J f0 A0 B0 X0 R0 J0 D hD
    have h : RunF X W m σ sl fps Hf H (lcLoop bm et ee (wipeS sl vs) ds [] cs1) Q := h
    have hD0 : H D = none := X0.there D hD
    have hDA : A0 D = none := by
      cases e : A0 D with
      | none => rfl
      | some o => have := R0.sub D o e; rw [hD] at this; cases this
    have hDf : D ∉ f0.flatten := fun z => (cell_addr R0.cells D z).1 hD
    cases hl : lcLoop bm et ee (wipeS sl vs) ds [] cs1 with
    | st => rw [hl] at h; exact h.elim
    | ex c cs' => exact absurd hl lcLoop_ne
    | ok es csE =>
      rw [hl] at h
      refine ⟨fun i k H' => k = ds.length - i ∧ i ≤ ds.length ∧ ∃ cs' fps' Hf' xs acc, Ext m f0 A0 B0 fps' Hf' H' ∧ RelX X (wipeS sl vs) cs' (L2.wipe σ vs) Hf' H' fps' ∧ H' D = some (.lst xs) ∧ Hf' D = none ∧ D ∉ fps'.flatten ∧ RpAllX X Hf' xs acc ∧
          lcLoop bm et ee (wipeS sl vs) (ds.drop i) acc cs' = .ok es csE,
        ⟨ds.length, by simp, Nat.zero_le _, cs1, f0, A0, [], [], (Ext.refl ..).out hD, (R0.wipe vs).out hDf hDA _, upd_same, hDA, hDf, .nil, by simpa using hl⟩, ?_⟩
      rintro i k H' ⟨rfl, hi, cs', fps', Hf', xs, acc, x, R1, hDH, hDn, hDp, racc, e⟩
      obtain ⟨go, stop⟩ := J0 i Hf' H' x.mono R1.sub
      by_cases hlt : i < ds.length
      · have hd : ds[i]? = some ds[i] := by simp [hlt]
        obtain ⟨g1, g2⟩ := go _ hd
        rw [List.drop_eq_getElem_cons hlt] at e
        unfold lcLoop at e
        refine .inr ⟨g1, fun H' => ∃ cs' fps' Hf' xs acc, Ext m f0 A0 B0 fps' Hf' H' ∧ RelX X (wipeS sl vs) cs' (L2.wipe σ vs) Hf' H' fps' ∧ H' D = some (.lst xs) ∧ Hf' D = none ∧ D ∉ fps'.flatten ∧ RpAllX X Hf' xs acc ∧
            lcLoop bm et ee (wipeS sl vs) (ds.drop (i + 1)) acc cs' = .ok es csE, fun H2 q => ⟨ds.length - (i + 1), by omega, rfl, hlt, q⟩, fun v H2 y => ?_⟩
        obtain ⟨A2, al, rv⟩ := g2 v H2 y
        have x2 := x.trans (al.ext (m := m) (fps := fps'))
        have R2 := R1.alloc al
        obtain ⟨hDH2, hDp2, hDn2⟩ := (al.ext (m := m) (fps := fps')).stay hDH hDp hDn
        cases e1 : bm ds[i] (wipeS sl vs) with
        | none => rw [e1] at e; cases e
        | some sl1 =>
          rw [e1] at e
          refine ⟨_, cs', fps', A2, ds[i], sl1, R2, rv, e1, fun σ' k' l' R3 => ⟨?_, sl1, cs', fps', A2, R3, ?_⟩⟩
          · have hw2 : L2.wipe (L2.wipe σ vs) vs = L2.wipe σ vs := by
              have := wipe_eq (σ1 := L2.wipe σ vs) (σ2 := σ) (wipe_length σ vs) (vs := vs) (ws := vs) (fun j hj => wipe_get σ vs j hj) (fun j hj => hj)
              exact this
            rw [← hw2]
            exact wipe_eq l' k' hw
          · have e : (match et sl1 cs' with | .ok (.bool true) cs1 => (match ee sl1 cs1 with | .ok x cs2 => if acc.length < 16000000 then lcLoop bm et ee (wipeS sl vs) (ds.drop (i + 1)) (acc ++ [x]) cs2 else .st | _ => .st) | .ok (.bool false) cs1 => lcLoop bm et ee (wipeS sl vs) (ds.drop (i + 1)) acc cs1 | _ => .st) = Res.ok es csE := e
            cases e2 : et sl1 cs' with
            | st => rw [e2] at e; cases e
            | ex c c2 => rw [e2] at e; cases e
            | ok d cs2 =>
              rw [e2] at e
              have back : ∀ {f3 A3 B3 cs3}, RelX X sl1 cs3 σ' A3 B3 f3 → Ext m fps' A2 H2 f3 A3 B3 → RelX X (wipeS sl vs) cs3 (L2.wipe σ vs) A3 B3 f3 := fun {f3 A3 B3 cs3} R4 x4 => by
                refine ⟨R4.sub, R4.cells, R4.nd, fun j s es => ?_, R2.len, ?_⟩
                · have q := R2.slots j s es
                  cases s with
                  | un => trivial
                  | v d => exact SlotR.mono x4.mono q
                  | fn x => exact q
                  | c =>
                    have hj : j ∉ vs := fun z => by have := wipeS_un sl vs j z es; cases this
                    have hjw : j ∉ ws := fun z => hj (hw j z)
                    obtain ⟨a, r, h1, h2⟩ := R4.slots j .c ((hch _ _ _ e1 j hjw).trans es)
                    exact ⟨a, r, h1, (k' j hjw).symm.trans h2⟩
                · rw [R4.clen, R4.len, l', ← R2.len]
              cases d with
              | bool b =>
                intro f3 A3 B3 x3 R4
                cases b with
                | false =>
                  refine iteF ⟨cs2, f3, A3, xs, acc, x2.trans x3, back R4 x3, ?_⟩
                  obtain ⟨q1, q2, q3⟩ := x3.stay hDH2 hDp2 hDn2
                  exact ⟨q1, q3, q2, racc.mono (al.mono.trans x3.mono), e⟩
                | true =>
                  refine iteT ⟨sl1, cs2, f3, A3, R4, ?_⟩
                  have e : (match ee sl1 cs2 with | .ok x cs2 => if acc.length < 16000000 then lcLoop bm et ee (wipeS sl vs) (ds.drop (i + 1)) (acc ++ [x]) cs2 else .st | _ => .st) = Res.ok es csE := e
                  cases e3 : ee sl1 cs2 with
                  | st => rw [e3] at e; cases e
                  | ex c c2 => rw [e3] at e; cases e
                  | ok d cs3 =>
                    rw [e3] at e
                    intro v f4 A4 B4 x4 R5 r5
                    have e : (if acc.length < 16000000 then lcLoop bm et ee (wipeS sl vs) (ds.drop (i + 1)) (acc ++ [d]) cs3 else .st) = Res.ok es csE := e
                    by_cases hlen : acc.length < 16000000
                    · rw [if_pos hlen] at e
                      have x34 := x3.trans x4
                      obtain ⟨q1, q2, q3⟩ := x34.stay hDH2 hDp2 hDn2
                      have rl := racc.length
                      refine ⟨xs, q1, by rw [rl]; exact Nat.lt_of_lt_of_le hlen line64, cs3, f4, A4, xs ++ [v], acc ++ [d], (x2.trans x34).out hD, (back R5 x34).out q2 q3 _, upd_same, q3, q2, ?_, e⟩
                      exact (racc.mono (al.mono.trans x34.mono)).append (.cons r5 .nil)
                    · rw [if_neg hlen] at e; cases e
              | _ => cases e
      · have ei : i = ds.length := by omega
        rw [ei, List.drop_length] at e
        cases e
        exact .inl ⟨stop ei, h D xs fps' Hf' H' (X0.trans x) (R.unwipe hv R1 (X0.mono.trans x.mono)) hDH hDn hDp hD0 racc⟩
end
end SS
namespace SS
open PySem PySem.Spec L2
section
variable {X : Cx} {W : WX} {m : Nat} {σ : L2.St} {sl : Slots} {cs : Cells} {fps fps1 : List (List Addr)} {Hf H Hf1 H1 : Hp}
variable {a b : Expr} {ea eb : EM} {pos : Pos} {s t : SM} {st : Stmt} {rest : List Stmt}
variable (X W m) in
structure PTsD (ifs : List Expr) (e : EM) : Prop where
  pts : PTs X ifs (RDT X W m e)
def yesE : EM := retE (.bool true)
theorem PTs.imp {ifs : List Expr} {t t' : TT} (h : PTs X ifs t) (i : ∀ σ H Q, t' σ H Q → t σ H Q) : PTs X ifs t' := ⟨fun pins s σ H Q I q => h.run pins s σ H Q I (i _ _ _ q)⟩
theorem ptsd_nil : PTsD X W m [] yesE := ⟨PTs.imp pts_nil fun σ H Q ⟨sl, cs, fps, Hf, R, h⟩ => runT_ret R h⟩
theorem ptsd_one (h : PTD X W m a ea) : PTsD X W m [a] ea := ⟨pts_one h.pt⟩
variable {elt tg iter : Expr} {ifs : List Expr} {scope : Scope} {own : List (Str × Nat)} {bm : BM} {ws : List Nat} {it : IM} {et ee : EM}
theorem pfd_lc (own : List (Str × Nat)) (hc : X.calm = true) (hN : X.N.Nodup) (hi : PID X W m tg iter it) (ok : BlkOk X.N X.env.scope scope own) (hw : ∀ j ∈ ws, j ∈ own.map (·.2))
    (hg : ∀ (s : Shared) (H : Hp) (C : Addr) (cl : List (Str × Addr)) (fp : List Addr), PGD (X.blk s H scope (compEnvC scope cl C X.env) fp) tg bm ws)
    (ht : ∀ (s : Shared) (H : Hp) (C : Addr) (cl : List (Str × Addr)) (fp : List Addr), PTsD (X.blk s H scope (compEnvC scope cl C X.env) fp) W0 m ifs et)
    (he : ∀ (s : Shared) (H : Hp) (C : Addr) (cl : List (Str × Addr)) (fp : List Addr), PED (X.blk s H scope (compEnvC scope cl C X.env) fp) W0 m elt ee)
    (hs : ∀ x, foldedSetIterable iter X.env x = pure x := by intro _; rfl) : PFD X W m (.ListComp elt [⟨tg, iter, ifs, 0⟩] scope pos) (lcG bm (own.map (·.2)) it et ee) :=
  ⟨(pe_lc (g := GD X bm ws) (tt := RDT X W0 m et) (te := RD X W0 m ee) hc hN hi.pi ok (fun s H C cl fp => (hg s H C cl fp).pg) (fun s H C cl fp => (ht s H C cl fp).pts) (fun s H C cl fp => (he s H C cl fp).pe) hs).imp fun σ H Q h =>
    rf_lc hw (hg X.s_0 X.H_0 0 [] []).ch h⟩
/-- name = [..] on one line, the name a plain local: the value, or the cell i -/
theorem rd_setF {f : IM} {i : Nat} {E : Ends} (h : SD X W m (setS i (frE f)) E σ H) : RF X W m f σ H fun x H1 => gName i x σ H1 E.nx := by
  obtain ⟨sl, cs, fps, Hf, R, h⟩ := h
  refine ⟨sl, cs, fps, Hf, R, ?_⟩
  unfold setS frE at h
  cases he : f sl cs with
  | st => rw [he] at h; exact h
  | ex c cs' => rw [he] at h; exact fun f A B x R1 C hC => h σ f A B x R1.sub R1.cells R1.nd C hC
  | ok ds cs' =>
    rw [he] at h
    intro p xs f A B x R1 hp hf hn h0 r
    exact h _ f _ B (x.frz h0 hf) ((R1.frz hn hf hp).set i (.lst (.inl (.inl upd_same)) (r.mono (same_frz hf))))
theorem psd_setLc {i : Nat} {y : Str} {py spos : Pos} (own : List (Str × Nat)) (hc : X.calm = true) (hN : X.N.Nodup) (hi : PID X W m tg iter it) (ok : BlkOk X.N X.env.scope scope own) (hw : ∀ j ∈ ws, j ∈ own.map (·.2))
    (hg : ∀ (s : Shared) (H : Hp) (C : Addr) (cl : List (Str × Addr)) (fp : List Addr), PGD (X.blk s H scope (compEnvC scope cl C X.env) fp) tg bm ws)
    (ht : ∀ (s : Shared) (H : Hp) (C : Addr) (cl : List (Str × Addr)) (fp : List Addr), PTsD (X.blk s H scope (compEnvC scope cl C X.env) fp) W0 m ifs et)
    (he : ∀ (s : Shared) (H : Hp) (C : Addr) (cl : List (Str × Addr)) (fp : List Addr), PED (X.blk s H scope (compEnvC scope cl C X.env) fp) W0 m elt ee)
    (hy : X.N[i]? = some y := by rfl) (hyl : X.env.scope.names.lookup y = some .local := by rfl)
    (hsw : swapsWith (.ListComp elt [⟨tg, iter, ifs, 0⟩] scope pos) (some (.Name y py)) spos.line X.env = pure true := by exact sw_true rfl rfl rfl (by decide +kernel))
    (hs : ∀ x, foldedSetIterable iter X.env x = pure x := by intro _; rfl) : PSD X W m (.Assign [.Name y py] (.ListComp elt [⟨tg, iter, ifs, 0⟩] scope pos) spos) (setS i (frE (lcG bm (own.map (·.2)) it et ee))) :=
  ⟨(ps_setLc (g := GD X bm ws) (tt := RDT X W0 m et) (te := RD X W0 m ee) hc hN hy hyl hsw hi.pi ok (fun s H C cl fp => (hg s H C cl fp).pg) (fun s H C cl fp => (ht s H C cl fp).pts) (fun s H C cl fp => (he s H C cl fp).pe) hs).imp fun σ H E h =>
    rf_lc hw (hg X.s_0 X.H_0 0 [] []).ch (rd_setF h)⟩
theorem psd_cellLc {i : Nat} {y : Str} {py spos : Pos} (own : List (Str × Nat)) (hm : m ≤ i) (hc : X.calm = true) (hN : X.N.Nodup) (hi : PID X W m tg iter it) (ok : BlkOk X.N X.env.scope scope own) (hw : ∀ j ∈ ws, j ∈ own.map (·.2))
    (hg : ∀ (s : Shared) (H : Hp) (C : Addr) (cl : List (Str × Addr)) (fp : List Addr), PGD (X.blk s H scope (compEnvC scope cl C X.env) fp) tg bm ws)
    (ht : ∀ (s : Shared) (H : Hp) (C : Addr) (cl : List (Str × Addr)) (fp : List Addr), PTsD (X.blk s H scope (compEnvC scope cl C X.env) fp) W0 m ifs et)
    (he : ∀ (s : Shared) (H : Hp) (C : Addr) (cl : List (Str × Addr)) (fp : List Addr), PED (X.blk s H scope (compEnvC scope cl C X.env) fp) W0 m elt ee)
    (hy : X.N[i]? = some y := by rfl) (hyl : X.env.scope.names.lookup y = some .local := by rfl)
    (hsw : swapsWith (.ListComp elt [⟨tg, iter, ifs, 0⟩] scope pos) (some (.Name y py)) spos.line X.env = pure true := by exact sw_true rfl rfl rfl (by decide +kernel))
    (hs : ∀ x, foldedSetIterable iter X.env x = pure x := by intro _; rfl) : PSD X W m (.Assign [.Name y py] (.ListComp elt [⟨tg, iter, ifs, 0⟩] scope pos) spos) (cellS i (lcG bm (own.map (·.2)) it et ee)) :=
  ⟨(ps_setLc (g := GD X bm ws) (tt := RDT X W0 m et) (te := RD X W0 m ee) hc hN hy hyl hsw hi.pi ok (fun s H C cl fp => (hg s H C cl fp).pg) (fun s H C cl fp => (ht s H C cl fp).pts) (fun s H C cl fp => (he s H C cl fp).pe) hs).imp fun σ H E h =>
    rf_lc hw (hg X.s_0 X.H_0 0 [] []).ch (rd_cell hm h)⟩
/-- a new list by any expression becomes cell i -/
theorem psd_cell {i : Nat} {x : Str} {pos' : Pos} {f : IM} (hm : m ≤ i) (hN : X.N.Nodup) (ha : PFD X W m a f) (hi : X.N[i]? = some x := by rfl) (hx : Loc X.env.scope x := by first | exact Or.inl rfl | exact Or.inr rfl) (hs : swapsWith a (some (.Name x pos')) pos.line X.env = pure false := by rfl)
    (hf : X.fn x = true ∨ X.env.scope.names.lookup x = some .local := by first | exact .inl rfl | exact .inr rfl) : PSD X W m (.Assign [.Name x pos'] a pos) (cellS i f) :=
  ⟨(ps_set hN hi hx ha.pf hs hf).imp fun σ H E h => rd_cell hm h⟩
/-- a display -/
theorem new_out {p : Addr} {xs : List V} (R : RelX X sl cs σ Hf H fps) (hp : H p = none) : Hf p = none ∧ p ∉ fps.flatten ∧ RelX X sl cs σ Hf (upd H p (.lst xs)) fps := by
  have h1 : Hf p = none := by
    cases e : Hf p with
    | none => rfl
    | some o => have := R.sub p o e; rw [hp] at this; cases this
  have h2 : p ∉ fps.flatten := fun z => (cell_addr R.cells p z).1 hp
  exact ⟨h1, h2, R.out h2 h1 _⟩
theorem pfd_disp {xs : List Expr} {e : AM} (h : PAD X W m xs e) : PFD X W m (.List xs pos) (dispF e) := by
  refine ⟨(pe_lst h.pa).imp fun σ H Q ⟨sl, cs, fps, Hf, R, h⟩ => ?_⟩
  refine ⟨sl, cs, fps, Hf, R, ?_⟩
  unfold dispF at h
  cases he : e sl cs with
  | st => rw [he] at h; exact h
  | ex c cs' => rw [he] at h; exact h
  | ok as cs1 =>
    rw [he] at h
    intro vs f A B x R1 rv
    have h : RunF X W m σ sl fps Hf H (match valsA as with | some ds => if ds.length ≤ 16000000 then .ok ds cs1 else .st | none => .st) Q := h
    cases e1 : valsA as with
    | none => rw [e1] at h; exact h.elim
    | some ds =>
      rw [e1] at h
      have h : RunF X W m σ sl fps Hf H (if ds.length ≤ 16000000 then .ok ds cs1 else .st) Q := h
      by_cases hl : ds.length ≤ 16000000
      · rw [if_pos hl] at h
        have rd := vals_of rv e1
        refine ⟨by rw [rd.length]; exact Nat.le_trans hl line64, fun p hp => ?_⟩
        obtain ⟨q1, q2, q3⟩ := new_out (xs := vs) R1 hp
        exact h p vs f A _ (x.out (x.there p hp)) q3 upd_same q1 q2 (x.there p hp) rd
      · rw [if_neg hl] at h; exact h.elim
/-- list(x) -/
theorem pfd_list {x : Str} {p : Pos} {e1 : Expr} {es : List Expr} {eas : AM} (hm : X.mg x = none) (hv : bootBuiltins x = some (.type "list")) (ha : PAD X W m (e1 :: es) eas)
    (hg : Gl X x := by rfl) (hn : x ≠ "__name__" := by decide) (hdb : (x == ("__debug__" : Str)) = false := by decide)
    (he : starEach (e1 :: es) X.env = (false, eval e1 X.env) :: starEach es X.env := by rfl) (hpl : (backTo pos (starEach es X.env)).any (·.1) = false := by rfl) : PFD X W m (.Call (.Name x p) (e1 :: es) [] pos) (listF eas) := by
  refine ⟨(pe_callTy call_list_of hg hm hv ha.pa hn hdb he hpl).imp fun σ H Q ⟨sl, cs, fps, Hf, R, h⟩ => ?_⟩
  refine ⟨sl, cs, fps, Hf, R, ?_⟩
  unfold listF at h
  cases he : eas sl cs with
  | st => rw [he] at h; exact h
  | ex c cs' => rw [he] at h; exact h
  | ok as cs1 =>
    rw [he] at h
    intro vs f A B x R1 rv
    have h : RunF X W m σ sl fps Hf H (match (valsA as).bind listD with | some (.list ds) => .ok ds cs1 | _ => .st) Q := h
    cases e1 : valsA as with
    | none => rw [e1] at h; exact h.elim
    | some ds =>
      rw [e1] at h
      have h : RunF X W m σ sl fps Hf H (match listD ds with | some (.list ds) => .ok ds cs1 | _ => .st) Q := h
      have rd := vals_of rv e1
      have fin : ∀ (ys : List V) (es : List D), RpAllX X A ys es → RunF X W m σ sl fps Hf H (.ok es cs1) Q → ∀ p, B p = none → Q (.ref p) (upd B p (.lst ys)) := fun ys es ry h p hp => by
        obtain ⟨q1, q2, q3⟩ := new_out (xs := ys) R1 hp
        exact h p ys f A _ (x.out (x.there p hp)) q3 upd_same q1 q2 (x.there p hp) ry
      match ds, rd, h with
      | [.list es], rd, h =>
        obtain ⟨v, rfl, r⟩ := rp1 rd
        cases r with
        | @lst q ys _ h1 ry => exact ⟨q, ys, rfl, .inl (SqB.l (sqb_mono R1.sub h1)), fin ys es ry h⟩
      | [.tuple es], rd, h =>
        obtain ⟨v, rfl, r⟩ := rp1 rd
        cases r with
        | @tup q ys _ h1 ry => exact ⟨q, ys, rfl, .inr (seqT_mono R1.sub h1), fin ys es ry h⟩
      | [], _, h => exact h.elim
      | [.none], _, h => exact h.elim
      | [.bool _], _, h => exact h.elim
      | [.int _], _, h => exact h.elim
      | [.str _], _, h => exact h.elim
      | [.dict _], _, h => exact h.elim
      | _ :: _ :: _, _, h => exact (by simp only [listD] at h; exact h.elim)
/-! ### cells written -/
theorem Rel.cellAt {i : Nat} {ds : List D} (R : RelX X sl cs σ Hf H fps) (hs : sl[i]? = some .c) (hc : cs[i]? = some (.lst ds)) : ∃ p xs, σ[i]? = some (some (.ref p)) ∧ fps[i]? = some [p] ∧ H p = some (.lst xs) ∧ Hf p = none ∧ RpAllX X Hf xs ds := by
  obtain ⟨a, r, h1, h2⟩ := R.slots i .c hs
  obtain ⟨fp, h3, p, xs, h4, h5, h6, h7⟩ := paired_at R.cells hc
  subst h4
  rw [h1] at h3
  cases h3
  exact ⟨_, xs, h2, h1, h5, h6, h7⟩
theorem mem_at {l : List (List Addr)} {i : Nat} {p : Addr} (h : l[i]? = some [p]) : p ∈ l.flatten := List.mem_flatten.mpr ⟨[p], List.mem_of_getElem? h, by simp⟩
theorem set_at {α : Type} {l : List α} {i : Nat} {x : α} (h : l[i]? = some x) : l.set i x = l := by
  refine List.ext_getElem? fun j => ?_
  by_cases hj : i = j
  · subst hj
    rw [List.getElem?_set_self (List.getElem?_eq_some_iff.mp h).1, h]
  · rw [List.getElem?_set_ne hj]
theorem nodup_others {l : List (List Addr)} {i j : Nat} {p : Addr} {fp : List Addr} (nd : l.flatten.Nodup) (hi : l[i]? = some [p]) (hj : l[j]? = some fp) (hij : i ≠ j) : p ∉ fp := by
  induction l generalizing i j with
  | nil => simp at hi
  | cons x l ih =>
    rw [List.flatten_cons, List.nodup_append] at nd
    cases i with
    | zero =>
      cases j with
      | zero => exact absurd rfl hij
      | succ j =>
        have hx : x = [p] := by simpa using hi
        subst hx
        intro hp
        exact nd.2.2 p (by simp) p (List.mem_flatten.mpr ⟨fp, List.mem_of_getElem? (by simpa using hj), hp⟩) rfl
    | succ i =>
      cases j with
      | zero =>
        have hx : x = fp := by simpa using hj
        subst hx
        intro hp
        exact nd.2.2 p hp p (List.mem_flatten.mpr ⟨[p], List.mem_of_getElem? (by simpa using hi), by simp⟩) rfl
      | succ j => exact ih nd.2.1 (by simpa using hi) (by simpa using hj) fun e => hij (by rw [e])
theorem cells_upd {p : Addr} {o : HO} : ∀ {cs : Cells} {fps : List (List Addr)} (i : Nat) (c : Cell), Paired (CellR X.prog X.w X.K Hf H) cs fps → fps.flatten.Nodup → fps[i]? = some [p] → CellR X.prog X.w X.K Hf (upd H p o) c [p] → Paired (CellR X.prog X.w X.K Hf (upd H p o)) (cs.set i c) fps
  | _, _, _, _, .nil, _, h, _ => by simp at h
  | _, _, 0, c, .cons (a := c0) (b := fp) r t, nd, h, hc => by
    have e : fp = [p] := by simpa using h
    subst e
    rw [List.flatten_cons, List.nodup_append] at nd
    exact .cons hc (cells_out t (fun z => nd.2.2 p (by simp) p z rfl) o)
  | _, _, i + 1, c, .cons (a := c0) (b := fp) r t, nd, h, hc => by
    have h : _ := h
    rw [List.getElem?_cons_succ] at h
    rw [List.flatten_cons, List.nodup_append] at nd
    exact .cons (r.out (fun z => nd.2.2 p z p (mem_at h) rfl) o) (cells_upd i c t nd.2.1 h hc)
theorem Rel.write {i : Nat} {p : Addr} {xs : List V} {ds : List D} (R : RelX X sl cs σ Hf H fps) (hf : fps[i]? = some [p]) (hn : Hf p = none) (r : RpAllX X Hf xs ds) : RelX X sl (cs.set i (.lst ds)) σ Hf (upd H p (.lst xs)) fps :=
  ⟨fun b u e => by rw [upd_ne (fun z => by rw [z, hn] at e; cases e)]; exact R.sub b u e, cells_upd i _ R.cells R.nd hf ⟨p, xs, rfl, upd_same, hn, r⟩, R.nd, R.slots, R.len, by rw [List.length_set]; exact R.clen⟩
theorem Ext.write {p : Addr} {o : HO} (x : Ext m fps Hf H fps1 Hf1 H1) (hp : p ∈ fps1.flatten) : Ext m fps Hf H fps1 Hf1 (upd H1 p o) :=
  ⟨x.mono, x.fresh, fun b u e hb => by
    have : b ≠ p := fun z => by
      subst z
      rcases x.own b hp with z | z
      · exact hb z
      · rw [z] at e; cases e
    rw [upd_ne this]; exact x.keep b u e hb, fun b e => by
    by_cases hb : b = p
    · subst hb; rw [upd_same] at e; cases e
    · rw [upd_ne hb] at e; exact x.there b e, x.own, x.fix⟩
/-- a method that changes cell i -/
def CellD (X : Cx) (f : List D → List D → Option (List D × D)) (r : V → List V → Hp → VK → Prop) : Prop := ∀ (ds args ds' : List D) (d : D) (p : Addr) (xs vs : List V) (Hf H : Hp) (Q : VK), f ds args = some (ds', d) → Same Hf H → H p = some (.lst xs) → RpAllX X Hf xs ds → RpAllX X Hf vs args →
  (∀ v ys, RpAllX X Hf ys ds' → RpX X Hf v d → Q v (upd H p (.lst ys))) → r (.ref p) vs H Q
theorem ped_cellM {id : String} {i : Nat} {x name : Str} {e1 : Expr} {es : List Expr} {eas : AM} {f : List D → List D → Option (List D × D)} {r : V → List V → Hp → VK → Prop} {xpos apos cpos : Pos} (slot : PySem.Slot "list" name id) (hty : typeOf (.builtin id) = pure (.type "method_descriptor"))
    (hm : MtR X id r) (hr : CellD X f r) (ha : PAD X W m (e1 :: es) eas) (hv : PE X (.Name x xpos) (tVar i) := by exact pv _)
    (hbase : attributeBase (.Name x xpos) name X.env (eval (.Name x xpos) X.env) = eval (.Name x xpos) X.env := by rfl)
    (hfew : ((backTo cpos (starEach (e1 :: es) X.env)).all (fun x => !x.1) && (backToKw cpos (keywordEach [] X.env)).all (fun x => x.1.isSome)
      && decide ((e1 :: es).length + ([] : List Keyword).length + (if ([] : List Keyword).isEmpty then 0 else 1) < 30)) = true := by rfl)
    (hline : (apos.endLine == cpos.line) = true := by rfl) (hs : starEach (e1 :: es) X.env = (false, eval e1 X.env) :: starEach es X.env := by rfl) (hplain : (backTo cpos (starEach es X.env)).any (·.1) = false := by rfl) :
    PED X W m (.Call (.Attribute (.Name x xpos) name apos) (e1 :: es) [] cpos) (cellE i f eas) := by
  refine ⟨(pe_bm PySem.F.plainAttrs_list slot hty hm hv ha.pa hbase hfew hline hs hplain).imp fun σ H Q ⟨sl, cs, fps, Hf, R, h⟩ => ?_⟩
  unfold cellE at h
  cases hs0 : sl[i]? with
  | none => rw [hs0] at h; exact h.elim
  | some s0 =>
    cases s0 with
    | un => rw [hs0] at h; exact h.elim
    | v d => rw [hs0] at h; exact h.elim
    | fn x => rw [hs0] at h; exact h.elim
    | c =>
      rw [hs0] at h
      cases hc0 : cs[i]? with
      | none => rw [hc0] at h; exact h.elim
      | some c0 =>
        rw [hc0] at h
        cases c0 with
        | dead => exact h.elim
        | dic _ => exact h.elim
        | lst ds0 =>
          obtain ⟨p, xs0, h1, h2, h3, h4, h5⟩ := R.cellAt hs0 hc0
          refine ⟨.ref p, h1, .inl ⟨rfl, xs0, .inl (.inl h3)⟩, sl, cs, fps, Hf, R, ?_⟩
          have h : Run X W m σ sl fps Hf H (match eas sl cs with
            | .ok as cs' => (match cs'[i]?, valsA as with
              | some (.lst ds), some args => (match f ds args with
                | some (ds', d) => .ok d (cs'.set i (.lst ds'))
                | none => .st)
              | _, _ => .st)
            | .ex c cs' => .ex c cs'
            | .st => .st) Q := h
          cases he : eas sl cs with
          | st => rw [he] at h; exact h
          | ex c cs' => rw [he] at h; exact h
          | ok as cs1 =>
            rw [he] at h
            intro vs f1 A B y R1 rv
            have h : Run X W m σ sl fps Hf H (match cs1[i]?, valsA as with
              | some (.lst ds), some args => (match f ds args with
                | some (ds', d) => .ok d (cs1.set i (.lst ds'))
                | none => .st)
              | _, _ => .st) Q := h
            cases hc1 : cs1[i]? with
            | none => rw [hc1] at h; exact h.elim
            | some c1 =>
              cases hv1 : valsA as with
              | none => rw [hc1, hv1] at h; cases c1 <;> exact h.elim
              | some args =>
                rw [hc1, hv1] at h
                cases c1 with
                | dead => exact h.elim
                | dic _ => exact h.elim
                | lst ds =>
                  have h : Run X W m σ sl fps Hf H (match f ds args with | some (ds', d) => .ok d (cs1.set i (.lst ds')) | none => .st) Q := h
                  cases hf : f ds args with
                  | none => rw [hf] at h; exact h.elim
                  | some z =>
                    obtain ⟨ds', d⟩ := z
                    rw [hf] at h
                    obtain ⟨p1, xs1, g1, g2, g3, g4, g5⟩ := R1.cellAt hs0 hc1
                    rw [h1] at g1
                    cases g1
                    exact hr ds args ds' d p xs1 vs A B Q hf R1.sub g3 g5 (vals_of rv hv1) fun v ys r1 r2 => h v f1 A _ (y.write (mem_at g2)) (R1.write g2 g4 r1) r2
end
end SS
namespace SS
open PySem PySem.Spec L2
/-! ### methods of cells -/
def appendD : List D → List D → Option (List D × D)
  | ds, [x] => if ds.length < 16000000 then some (ds ++ [x], .none) else none
  | _, _ => none
def extendD : List D → List D → Option (List D × D)
  | ds, [.list es] => if ds.length + es.length ≤ 16000000 then some (ds ++ es, .none) else none
  | _, _ => none
def popD : List D → List D → Option (List D × D)
  | ds, [.int i] => if ds.length ≤ 16000000 then (ixN ds.length i).bind fun j => ds[j]?.map fun d => (ds.eraseIdx j, d) else none
  | _, _ => none
def insertD : List D → List D → Option (List D × D)
  | ds, [.int i, x] => if 0 ≤ i ∧ i ≤ 16000000 ∧ ds.length < 16000000 then some (ds.take i.toNat ++ [x] ++ ds.drop i.toNat, .none) else none
  | _, _ => none
/-- x[i] = e -/
def setItemS (i : Nat) (ei e : EM) : SM := fun sl cs => match e sl cs with
  | .ok d cs1 => (match sl[i]? with
    | some .c => (match ei sl cs1 with
      | .ok (.int k) cs2 => (match cs2[i]? with
        | some (.lst ds) => (match ixN ds.length k with
          | some j => .nx sl (cs2.set i (.lst (ds.set j d)))
          | none => .st)
        | _ => .st)
      | .ok _ _ => .st
      | .ex c cs' => .ex c cs'
      | .st => .st)
    | _ => .st)
  | .ex c cs' => .ex c cs'
  | .st => .st
/-- x[i] += e of ints -/
def augItemS (i : Nat) (ei e : EM) : SM := fun sl cs => match sl[i]? with
  | some .c => (match ei sl cs with
    | .ok (.int k) cs1 => (match cs1[i]? with
      | some (.lst ds) => (match ixN ds.length k with
        | some j => (match ds[j]? with
          | some (.int old) => (match e sl cs1 with
            | .ok (.int new) cs2 => (match cs2[i]? with
              | some (.lst es) => if es.length = ds.length then .nx sl (cs2.set i (.lst (es.set j (.int (old + new))))) else .st
              | _ => .st)
            | .ok _ _ => .st
            | .ex c cs' => .ex c cs'
            | .st => .st)
          | _ => .st)
        | none => .st)
      | _ => .st)
    | .ok _ _ => .st
    | .ex c cs' => .ex c cs'
    | .st => .st)
  | _ => .st
/-- an item of the list in cell i -/
def cidxE (i : Nat) (ei : EM) : EM := fun sl cs => match sl[i]? with
  | some .c => (match ei sl cs with
    | .ok (.int k) cs1 => (match cs1[i]? with
      | some (.lst ds) => (match atI ds k with
        | some d => .ok d cs1
        | none => .st)
      | _ => .st)
    | .ok _ _ => .st
    | .ex c cs' => .ex c cs'
    | .st => .st)
  | _ => .st
section
variable {X : Cx} {W : WX} {m : Nat} {σ : L2.St} {sl : Slots} {cs : Cells} {fps fps1 : List (List Addr)} {Hf H Hf1 H1 : Hp}
variable {a b : Expr} {ea eb : EM} {pos : Pos} {s t : SM} {st : Stmt} {rest : List Stmt}
theorem RpAll.erase : ∀ {xs : List V} {ds : List D} (n : Nat), RpAllX X Hf xs ds → RpAllX X Hf (xs.eraseIdx n) (ds.eraseIdx n)
  | _, _, _, .nil => .nil
  | _, _, 0, .cons _ t => t
  | _, _, n + 1, .cons r t => .cons r (RpAll.erase n t)
theorem c_append : CellD X appendD rAppend := by
  intro ds args ds' d p xs vs Hf H Q e sub hp r rv q
  unfold appendD at e
  split at e
  · split at e
    · rename_i hz
      cases e
      obtain ⟨v, rfl, rv'⟩ := rp1 rv
      exact ⟨p, xs, v, rfl, rfl, hp, by rw [r.length]; exact Nat.lt_of_lt_of_le hz line64, q _ _ (r.append (.cons rv' .nil)) .non⟩
    · cases e
  · cases e
def rExtL (K : PySem.W.Frag) : V → List V → Hp → VK → Prop := fun x vs H Q => ∃ l b xs zs, x = .ref l ∧ vs = [.ref b] ∧ H l = some (.lst xs) ∧ SqB K H b zs ∧ xs.length + zs.length ≤ sizeLine ∧ Q .non (upd H l (.lst (xs ++ zs)))
theorem mt_extL : MtR X "list.extend" (rExtL X.K) := by
  intro pins s σ H x vs v us Q I rx rv h
  obtain ⟨l, b, xs, zs, rfl, rfl, hH, hB, hz, q⟩ := h
  cases rx
  obtain ⟨u, rfl, ru⟩ := rv.one
  cases ru
  obtain ⟨z, its, n, r, hl, e⟩ := I.lstM hH
  obtain ⟨z2, its2, n2, r2, e2⟩ := rd_list I hB
  have hl2 := r2.length
  have hsz : its.toArray.size + its2.toArray.size ≤ sizeLine := by rw [List.size_toArray, List.size_toArray]; omega
  have hlong : ¬ (!its.toArray.isEmpty && Builtin.List.listTooLong (its.toArray.size + its2.toArray.size)) = true := by
    rw [notLongL hsz, Bool.and_false]
    exact Bool.false_ne_true
  refine call_meets PySem.F.slot_list_extend ⟨_, e, rfl⟩ PySem.F.entry_list_extend (PySem.F.args_list_extend_2 _ _)
    (PySem.AutoSeq1.list_extend_list_list_0 l its.toArray n b its2.toArray n2 hlong (by rw [List.size_toArray]; omega) (by omega)) ⟨e, e2, ?_⟩
  refine ⟨.non, _, I.lset (its' := its ++ its2) hH e (by simp) (r.append r2) ?_, rfl, q⟩
  rw [List.length_append]
  omega
theorem c_extend : CellD X extendD (rExtL X.K) := by
  intro ds args ds' d p xs vs Hf H Q e sub hp r rv q
  unfold extendD at e
  split at e
  · split at e
    · rename_i hz
      cases e
      obtain ⟨v, rfl, rv'⟩ := rp1 rv
      cases rv' with
      | lst h1 ra => exact ⟨p, _, xs, _, rfl, rfl, hp, sqb_mono sub h1, by rw [r.length, ra.length]; exact Nat.le_trans hz line64, q _ _ (r.append ra) .non⟩
    · cases e
  · cases e
theorem lt63 : (16000000 : Int) < 2 ^ 63 := by decide
theorem c_pop : CellD X popD rPopAt := by
  intro ds args ds' d p xs vs Hf H Q e sub hp r rv q
  unfold popD at e
  split at e
  · rename_i i
    split at e
    · rename_i hz
      obtain ⟨v, rfl, rv'⟩ := rp1 rv
      cases rv'
      cases e1 : ixN ds.length i with
      | none => rw [e1] at e; cases e
      | some j =>
        rw [e1] at e
        obtain ⟨d0, h1, h2⟩ := Option.map_eq_some_iff.mp e
        cases h2
        obtain ⟨y, h3, h4⟩ := r.get h1
        obtain ⟨g1, g2, g3, g4⟩ := ixN_seq e1
        have := lt63
        exact ⟨p, xs, i, j, y, rfl, rfl, hp, by omega, by omega, by rw [r.length]; exact g1, h3, q _ _ (RpAll.erase j r) h4⟩
    · cases e
  · cases e
def rIns : V → List V → Hp → VK → Prop := fun x vs H Q => ∃ (l : Addr) (xs : List V) (i : Int) (y : V), x = .ref l ∧ vs = [.int i, y] ∧ H l = some (.lst xs) ∧ xs.length < sizeLine ∧ 0 ≤ i ∧ i < 2 ^ 63 ∧
  Q .non (upd H l (.lst (xs.take i.toNat ++ [y] ++ xs.drop i.toNat)))
theorem rp2 {vs : List V} {x y : D} (r : RpAllX X Hf vs [x, y]) : ∃ a b, vs = [a, b] ∧ RpX X Hf a x ∧ RpX X Hf b y := by
  cases r with
  | cons r1 t =>
    obtain ⟨b, rfl, r2⟩ := rp1 t
    exact ⟨_, _, rfl, r1, r2⟩
theorem c_insert : CellD X insertD rIns := by
  intro ds args ds' d p xs vs Hf H Q e sub hp r rv q
  unfold insertD at e
  split at e
  · split at e
    · rename_i hz
      cases e
      obtain ⟨v, y, rfl, r1, r2⟩ := rp2 rv
      cases r1
      have := lt63
      exact ⟨p, xs, _, y, rfl, rfl, hp, by rw [r.length]; exact Nat.lt_of_lt_of_le hz.2.2 line64, hz.1, by omega, q _ _ (((r.take _).append (.cons r2 .nil)).append (r.drop _)) .non⟩
    · cases e
  · cases e
end
end SS
namespace SS
open PySem PySem.Spec L2
section
variable {X : Cx} {W : WX} {m : Nat} {σ : L2.St} {sl : Slots} {cs : Cells} {fps fps1 : List (List Addr)} {Hf H Hf1 H1 : Hp}
variable {a b : Expr} {ea eb : EM} {pos : Pos} {s t : SM} {st : Stmt} {rest : List Stmt}
/-! ### items of cells -/
def rGetL : V → V → Hp → VK → Prop := fun o i H Q => ∃ p xs k v, o = .ref p ∧ i = .int k ∧ H p = some (.lst xs) ∧ atI xs k = some v ∧ Q v H
theorem get_list : PGet X rGetL := by
  intro pins s σ H o i ov iv Q I ro ri h
  obtain ⟨p, xs, k, z, rfl, rfl, hq, he, q⟩ := h
  cases ro
  obtain ⟨t, rfl⟩ := ri
  obtain ⟨its, r, pl, hz⟩ := I.list (.inl (.inl hq))
  obtain ⟨j, h1, h2, h3, h4, h5⟩ := atI_get he
  obtain ⟨w, ew, rw'⟩ := r.get h2
  have hl := r.length
  have hn := line63
  have fin : EP X pins σ Q w s := ⟨z, H, I, rw', q⟩
  by_cases h0 : 0 ≤ k
  · have hj : k.toNat = j := by
      rw [seqIndex_of h0 h5] at h1
      exact Option.some.inj h1
    exact wpAny_getItem_list pl.isList h0 (by omega) (by rw [hj]; simpa using ew) fin
  · have hj : (k + (its.toArray.size : Int)).toNat = j := by
      rw [seqIndex_neg (by omega) h4] at h1
      rw [List.size_toArray, ← hl]
      exact Option.some.inj h1
    exact wpAny_getItem_list_neg pl.isList (by omega) (by rw [List.size_toArray] <;> omega) (by omega) (by rw [hj]; simpa using ew) fin
theorem Rel.cellA {i : Nat} (R : RelX X sl cs σ Hf H fps) (hs : sl[i]? = some .c) : ∃ p, σ[i]? = some (some (.ref p)) := by
  obtain ⟨a, r, h1, h2⟩ := R.slots i .c hs
  exact ⟨a, h2⟩
theorem psd_setItem {i : Nat} {x : Str} {ix e : Expr} {ei ee : EM} {p1 p2 : Pos} (ha : PED X W m e ee) (hi : PED X W m ix ei) (hv : PE X (.Name x p1) (tVar i) := by exact pv _)
    (has : ∀ v, assign (.Subscript (.Name x p1) ix p2) X.env v = (do
      let ov ← holding [v] (eval (.Name x p1) X.env)
      let iv ← holding [v, ov] (eval ix X.env)
      standAt p2
      holding [v, ov, iv] (setItem ov iv v)
      release [v, ov, iv] []) := by intro _; rfl)
    (hs : swapsWithSole [.Subscript (.Name x p1) ix p2] e pos.line X.env = pure false := by rfl) (hw : swappedStores [.Subscript (.Name x p1) ix p2] e X.env = pure none := by rfl)
    (h1 : (assignEach [.Subscript (.Name x p1) ix p2] X.env).map (·.2) = [assign (.Subscript (.Name x p1) ix p2) X.env] := by rfl) : PSD X W m (.Assign [.Subscript (.Name x p1) ix p2] e pos) (setItemS i ei ee) := by
  refine ⟨(ps_asg ha.pe (pg_sub hv hi.pe set_list has) hs hw h1).imp fun σ H E ⟨sl, cs, fps, Hf, R, h⟩ => ?_⟩
  refine rd_end (k := fun d cs1 => match sl[i]? with
    | some .c => (match ei sl cs1 with
      | .ok (.int k) cs2 => (match cs2[i]? with
        | some (.lst ds) => (match ixN ds.length k with
          | some j => .nx sl (cs2.set i (.lst (ds.set j d)))
          | none => .st)
        | _ => .st)
      | .ok _ _ => .st
      | .ex c cs' => .ex c cs'
      | .st => .st)
    | _ => .st) R h fun d cs1 v f A B y R1 r h1 => ?_
  cases hs0 : sl[i]? with
  | none => rw [hs0] at h1; exact h1.elim
  | some s0 =>
    cases s0 with
    | un => rw [hs0] at h1; exact h1.elim
    | v d => rw [hs0] at h1; exact h1.elim
    | fn x => rw [hs0] at h1; exact h1.elim
    | c =>
      rw [hs0] at h1
      obtain ⟨p, hp⟩ := R1.cellA hs0
      refine ⟨.ref p, hp, sl, cs1, f, A, R1, ?_⟩
      have h1 : RunS X W m σ f A B (match ei sl cs1 with
        | .ok (.int k) cs2 => (match cs2[i]? with
          | some (.lst ds) => (match ixN ds.length k with
            | some j => .nx sl (cs2.set i (.lst (ds.set j d)))
            | none => .st)
          | _ => .st)
        | .ok _ _ => .st
        | .ex c cs' => .ex c cs'
        | .st => .st) E := h1
      cases he : ei sl cs1 with
      | st => rw [he] at h1; exact h1
      | ex c cs' => rw [he] at h1; exact fun f A B x R1 C hC => h1 σ f A B x R1.sub R1.cells R1.nd C hC
      | ok dk cs2 =>
        rw [he] at h1
        intro kv f2 A2 B2 x2 R2 r2
        cases dk with
        | int k =>
          cases r2
          have h1 : RunS X W m σ f A B (match cs2[i]? with
            | some (.lst ds) => (match ixN ds.length k with
              | some j => .nx sl (cs2.set i (.lst (ds.set j d)))
              | none => .st)
            | _ => .st) E := h1
          cases hc : cs2[i]? with
          | none => rw [hc] at h1; exact h1.elim
          | some c2 =>
            rw [hc] at h1
            cases c2 with
            | dead => exact h1.elim
            | dic _ => exact h1.elim
            | lst ds =>
              have h1 : RunS X W m σ f A B (match ixN ds.length k with
                | some j => .nx sl (cs2.set i (.lst (ds.set j d)))
                | none => .st) E := h1
              cases hj : ixN ds.length k with
              | none => rw [hj] at h1; exact h1.elim
              | some j =>
                rw [hj] at h1
                obtain ⟨p1, xs1, g1, g2, g3, g4, g5⟩ := R2.cellAt hs0 hc
                rw [hp] at g1
                cases g1
                refine ⟨p, xs1, k, j, rfl, rfl, g3, by rw [g5.length]; exact hj, ?_⟩
                exact h1 σ f2 A2 _ (x2.write (mem_at g2)) (R2.write g2 g4 (RpAll.set (r.mono x2.mono) j g5))
        | _ => exact h1.elim
theorem psd_augItem {i : Nat} {x : Str} {ix e : Expr} {ei ee : EM} {p1 p2 : Pos} (ha : PED X W m e ee) (hi : PED X W m ix ei) (hv : PE X (.Name x p1) (tVar i) := by exact pv _)
    (has : ∀ ov iv new, augStore ix ov iv new = (do holding [new, ov, iv] (setItem ov iv new); release [new, ov, iv] []; pure .next) := by intros; rfl) : PSD X W m (.AugAssign (.Subscript (.Name x p1) ix p2) .Add e pos) (augItemS i ei ee) := by
  refine ⟨(ps_augS hv hi.pe get_list ha.pe ip_add set_list has).imp fun σ H E ⟨sl, cs, fps, Hf, R, h⟩ => ?_⟩
  unfold augItemS at h
  cases hs0 : sl[i]? with
  | none => rw [hs0] at h; exact h.elim
  | some s0 =>
    cases s0 with
    | un => rw [hs0] at h; exact h.elim
    | v d => rw [hs0] at h; exact h.elim
    | fn x => rw [hs0] at h; exact h.elim
    | c =>
      rw [hs0] at h
      obtain ⟨p, hp⟩ := R.cellA hs0
      refine ⟨.ref p, hp, sl, cs, fps, Hf, R, ?_⟩
      have h : RunS X W m σ fps Hf H (match ei sl cs with
        | .ok (.int k) cs1 => (match cs1[i]? with
          | some (.lst ds) => (match ixN ds.length k with
            | some j => (match ds[j]? with
              | some (.int old) => (match ee sl cs1 with
                | .ok (.int new) cs2 => (match cs2[i]? with
                  | some (.lst es) => if es.length = ds.length then .nx sl (cs2.set i (.lst (es.set j (.int (old + new))))) else .st
                  | _ => .st)
                | .ok _ _ => .st
                | .ex c cs' => .ex c cs'
                | .st => .st)
              | _ => .st)
            | none => .st)
          | _ => .st)
        | .ok _ _ => .st
        | .ex c cs' => .ex c cs'
        | .st => .st) E := h
      cases he : ei sl cs with
      | st => rw [he] at h; exact h
      | ex c cs' => rw [he] at h; exact fun f A B x R1 C hC => h σ f A B x R1.sub R1.cells R1.nd C hC
      | ok dk cs1 =>
        rw [he] at h
        intro kv f2 A2 B2 x2 R2 r2
        cases dk with
        | int k =>
          cases r2
          have h : RunS X W m σ fps Hf H (match cs1[i]? with
            | some (.lst ds) => (match ixN ds.length k with
              | some j => (match ds[j]? with
                | some (.int old) => (match ee sl cs1 with
                  | .ok (.int new) cs2 => (match cs2[i]? with
                    | some (.lst es) => if es.length = ds.length then .nx sl (cs2.set i (.lst (es.set j (.int (old + new))))) else .st
                    | _ => .st)
                  | .ok _ _ => .st
                  | .ex c cs' => .ex c cs'
                  | .st => .st)
                | _ => .st)
              | none => .st)
            | _ => .st) E := h
          cases hc : cs1[i]? with
          | none => rw [hc] at h; exact h.elim
          | some c1 =>
            rw [hc] at h
            cases c1 with
            | dead => exact h.elim
            | dic _ => exact h.elim
            | lst ds =>
              have h : RunS X W m σ fps Hf H (match ixN ds.length k with
                | some j => (match ds[j]? with
                  | some (.int old) => (match ee sl cs1 with
                    | .ok (.int new) cs2 => (match cs2[i]? with
                      | some (.lst es) => if es.length = ds.length then .nx sl (cs2.set i (.lst (es.set j (.int (old + new))))) else .st
                      | _ => .st)
                    | .ok _ _ => .st
                    | .ex c cs' => .ex c cs'
                    | .st => .st)
                  | _ => .st)
                | none => .st) E := h
              cases hj : ixN ds.length k with
              | none => rw [hj] at h; exact h.elim
              | some j =>
                rw [hj] at h
                have h : RunS X W m σ fps Hf H (match ds[j]? with
                  | some (.int old) => (match ee sl cs1 with
                    | .ok (.int new) cs2 => (match cs2[i]? with
                      | some (.lst es) => if es.length = ds.length then .nx sl (cs2.set i (.lst (es.set j (.int (old + new))))) else .st
                      | _ => .st)
                    | .ok _ _ => .st
                    | .ex c cs' => .ex c cs'
                    | .st => .st)
                  | _ => .st) E := h
                cases hd : ds[j]? with
                | none => rw [hd] at h; exact h.elim
                | some d0 =>
                  rw [hd] at h
                  cases d0 with
                  | int old =>
                    have h : RunS X W m σ f2 A2 B2 (match ee sl cs1 with
                      | .ok (.int new) cs2 => (match cs2[i]? with
                        | some (.lst es) => if es.length = ds.length then .nx sl (cs2.set i (.lst (es.set j (.int (old + new))))) else .st
                        | _ => .st)
                      | .ok _ _ => .st
                      | .ex c cs' => .ex c cs'
                      | .st => .st) E := RunS.after x2 h
                    obtain ⟨p1, xs1, g1, g2, g3, g4, g5⟩ := R2.cellAt hs0 hc
                    rw [hp] at g1
                    cases g1
                    obtain ⟨ov, ho1, ho2⟩ := g5.get hd
                    cases ho2
                    refine ⟨p, xs1, k, .int old, rfl, rfl, g3, ?_, sl, cs1, f2, A2, R2, ?_⟩
                    · unfold atI
                      rw [g5.length, hj]
                      exact ho1
                    · cases he2 : ee sl cs1 with
                      | st => rw [he2] at h; exact h
                      | ex c cs' => rw [he2] at h; exact fun f A B x R1 C hC => h σ f A B x R1.sub R1.cells R1.nd C hC
                      | ok dn cs2 =>
                        rw [he2] at h
                        intro nv f3 A3 B3 x3 R3 r3
                        cases dn with
                        | int new =>
                          cases r3
                          have h : RunS X W m σ f3 A3 B3 (match cs2[i]? with
                            | some (.lst es) => if es.length = ds.length then .nx sl (cs2.set i (.lst (es.set j (.int (old + new))))) else .st
                            | _ => .st) E := RunS.after x3 h
                          cases hc2 : cs2[i]? with
                          | none => rw [hc2] at h; exact h.elim
                          | some c2 =>
                            rw [hc2] at h
                            cases c2 with
                            | dead => exact h.elim
                            | dic _ => exact h.elim
                            | lst es =>
                              have h : RunS X W m σ f3 A3 B3 (if es.length = ds.length then .nx sl (cs2.set i (.lst (es.set j (.int (old + new))))) else .st) E := h
                              by_cases hl : es.length = ds.length
                              · rw [if_pos hl] at h
                                obtain ⟨p1, xs2, g1', g2', g3', g4', g5'⟩ := R3.cellAt hs0 hc2
                                rw [hp] at g1'
                                cases g1'
                                refine ⟨old, new, rfl, rfl, p, xs2, k, j, rfl, rfl, g3', by rw [g5'.length, hl]; exact hj, ?_⟩
                                exact h σ f3 A3 _ ((Ext.refl ..).write (mem_at g2')) (R3.write g2' g4' (RpAll.set (.int _) j g5'))
                              · rw [if_neg hl] at h; exact h.elim
                        | _ => exact h.elim
                  | _ => exact h.elim
        | _ => exact h.elim
theorem ped_cidx {i : Nat} {x : Str} {ix : Expr} {ei : EM} {p1 : Pos} (hi : PED X W m ix ei) (hv : PE X (.Name x p1) (tVar i) := by exact pv _) (hs : PlainIx ix := by intro _ _; rfl) : PED X W m (.Subscript (.Name x p1) ix pos) (cidxE i ei) := by
  refine ⟨(pe_ix o_idx hv hi.pe hs).imp fun σ H Q ⟨sl, cs, fps, Hf, R, h⟩ => ?_⟩
  unfold cidxE at h
  cases hs0 : sl[i]? with
  | none => rw [hs0] at h; exact h.elim
  | some s0 =>
    cases s0 with
    | un => rw [hs0] at h; exact h.elim
    | v d => rw [hs0] at h; exact h.elim
    | fn x => rw [hs0] at h; exact h.elim
    | c =>
      rw [hs0] at h
      obtain ⟨p, hp⟩ := R.cellA hs0
      refine ⟨.ref p, hp, sl, cs, fps, Hf, R, ?_⟩
      have h : Run X W m σ sl fps Hf H (match ei sl cs with
        | .ok (.int k) cs1 => (match cs1[i]? with
          | some (.lst ds) => (match atI ds k with
            | some d => .ok d cs1
            | none => .st)
          | _ => .st)
        | .ok _ _ => .st
        | .ex c cs' => .ex c cs'
        | .st => .st) Q := h
      cases he : ei sl cs with
      | st => rw [he] at h; exact h
      | ex c cs' => rw [he] at h; exact h
      | ok dk cs1 =>
        rw [he] at h
        intro kv f2 A2 B2 x2 R2 r2
        cases dk with
        | int k =>
          cases r2
          have h : Run X W m σ sl fps Hf H (match cs1[i]? with
            | some (.lst ds) => (match atI ds k with
              | some d => .ok d cs1
              | none => .st)
            | _ => .st) Q := h
          cases hc : cs1[i]? with
          | none => rw [hc] at h; exact h.elim
          | some c1 =>
            rw [hc] at h
            cases c1 with
            | dead => exact h.elim
            | dic _ => exact h.elim
            | lst ds =>
              have h : Run X W m σ sl fps Hf H (match atI ds k with
                | some d => .ok d cs1
                | none => .st) Q := h
              cases hd : atI ds k with
              | none => rw [hd] at h; exact h.elim
              | some d =>
                rw [hd] at h
                obtain ⟨p1, xs1, g1, g2, g3, g4, g5⟩ := R2.cellAt hs0 hc
                rw [hp] at g1
                cases g1
                obtain ⟨v, h2, h3⟩ := atI_rp g5 hd
                exact .inl ⟨p, xs1, k, v, rfl, rfl, .inl (.inl g3), h2, h v f2 A2 B2 x2 R2 h3⟩
        | _ => exact h.elim
/-! ### borrowing, freezing -/
def NSeq (u : HO) : Prop := (∀ xs, u ≠ .tup xs) ∧ ∀ o xs, u ≠ .frz o (.tup xs)
theorem seqT_del {p a : Addr} {u : HO} {xs : List V} (hp : Hf p = some u) (hu : NSeq u) (e : ∀ b, b ≠ p → Hf1 b = Hf b) (h : SqT X.K Hf a xs) : SqT X.K Hf1 a xs := by
  rcases h with (h | ⟨o, h⟩) | h
  · refine .inl (.inl ?_)
    by_cases ha : a = p
    · subst ha; rw [hp] at h; cases h; exact absurd rfl (hu.1 _)
    · rw [e a ha]; exact h
  · refine .inl (.inr ⟨o, ?_⟩)
    by_cases ha : a = p
    · subst ha; rw [hp] at h; cases h; exact absurd rfl (hu.2 _ _)
    · rw [e a ha]; exact h
  · exact .inr h
mutual
theorem Rp.del {p : Addr} {u : HO} (hp : Hf p = some u) (hu : NSeq u) (e : ∀ b, b ≠ p → Hf1 b = Hf b) : ∀ {v : V} {d : D}, RpX X Hf v d → lf d = true → RpX X Hf1 v d
  | _, _, .non, _ => .non
  | _, _, .bl b, _ => .bl b
  | _, _, .int i, _ => .int i
  | _, _, .str x, _ => .str x
  | _, _, .lst h r, c => by simp [lf] at c
  | _, _, .tup h r, c => .tup (seqT_del hp hu e h) (RpAll.del hp hu e r (by simpa [lf] using c))
  | _, _, .dct _ _ _ _, c => by simp [lf] at c
  | _, _, .dcl _ _ _, c => by simp [lf] at c
theorem RpAll.del {p : Addr} {u : HO} (hp : Hf p = some u) (hu : NSeq u) (e : ∀ b, b ≠ p → Hf1 b = Hf b) : ∀ {vs : List V} {ds : List D}, RpAllX X Hf vs ds → lfAll ds = true → RpAllX X Hf1 vs ds
  | _, _, .nil, _ => .nil
  | _, _, .cons r t, c => by
    rw [lfAll, Bool.and_eq_true] at c
    exact .cons (Rp.del hp hu e r c.1) (RpAll.del hp hu e t c.2)
end
theorem CellR.del {p : Addr} {u : HO} (hp : Hf p = some u) (hu : NSeq u) (e : ∀ b, b ≠ p → Hf1 b = Hf b) (e0 : Hf1 p = none) {c : Cell} {fp : List Addr} (h : CellR X.prog X.w X.K Hf H c fp) (hl : c.lf = true) : CellR X.prog X.w X.K Hf1 H c fp := by
  have key : ∀ a, Hf a = none → Hf1 a = none := fun a ha => by
    by_cases hap : a = p
    · subst hap; exact e0
    · rw [e a hap]; exact ha
  cases c with
  | dead => exact h
  | lst ds =>
    obtain ⟨a, xs, e1, h1, h2, r⟩ := h
    exact ⟨a, xs, e1, h1, key a h2, RpAll.del hp hu e r hl⟩
  | dic kvs =>
    obtain ⟨a, es, e1, h1, h2, r1, r2, k⟩ := h
    simp only [Cell.lf, Bool.and_eq_true] at hl
    exact ⟨a, es, e1, h1, key a h2, RpAll.del hp hu e r1 hl.1, RpAll.del hp hu e r2 hl.2, k⟩
theorem cells_del {p : Addr} {u : HO} (hp : Hf p = some u) (hu : NSeq u) (e : ∀ b, b ≠ p → Hf1 b = Hf b) (e0 : Hf1 p = none) {cs : Cells} {fps : List (List Addr)} (R : Paired (CellR X.prog X.w X.K Hf H) cs fps) (hl : cs.all Cell.lf = true) : Paired (CellR X.prog X.w X.K Hf1 H) cs fps := by
  induction R with
  | nil => exact .nil
  | cons h _ ih =>
    rw [List.all_cons, Bool.and_eq_true] at hl
    exact .cons (h.del hp hu e e0 hl.1) (ih hl.2)
/-- the object of a cell -/
theorem Rel.cellV {i : Nat} {c : Cell} {d : D} (R : RelX X sl cs σ Hf H fps) (hs : sl[i]? = some .c) (hc : cs[i]? = some c) (hv : c.val = some d) : ∃ p u, σ[i]? = some (some (.ref p)) ∧ fps[i]? = some [p] ∧ H p = some u ∧ NSeq u ∧ Hf p = none ∧
    (∀ A, Same Hf A → A p = some u → RpX X A (.ref p) d) ∧ ∀ A B, Same Hf A → A p = none → B p = some u → CellR X.prog X.w X.K A B c [p] := by
  obtain ⟨a, r, h1, h2⟩ := R.slots i .c hs
  obtain ⟨fp, h3, h4⟩ := paired_at R.cells hc
  rw [h1] at h3
  cases h3
  cases c with
  | dead => cases hv
  | lst ds =>
    obtain ⟨p, xs, e, g1, g2, g3⟩ := h4
    cases e
    cases hv
    exact ⟨_, _, h2, h1, g1, ⟨fun _ => (fun z => nomatch z), fun _ _ => (fun z => nomatch z)⟩, g2, fun A m q => .lst (.inl (.inl q)) (g3.mono m), fun A B m q z => ⟨_, xs, rfl, z, q, g3.mono m⟩⟩
  | dic kvs =>
    obtain ⟨p, es, e, g1, g2, g3, g4, g5⟩ := h4
    cases e
    cases hv
    exact ⟨_, _, h2, h1, g1, ⟨fun _ => (fun z => nomatch z), fun _ _ => (fun z => nomatch z)⟩, g2, fun A m q => .dct q (g3.mono m) (g4.mono m) g5, fun A B m q z => ⟨_, es, rfl, z, q, g3.mono m, g4.mono m, g5⟩⟩
theorem nil_set {l : List (List Addr)} {i : Nat} {p : Addr} (nd : l.flatten.Nodup) (h : l[i]? = some [p]) : (l.set i []).flatten.Nodup ∧ p ∉ (l.set i []).flatten ∧ ∀ b ∈ (l.set i []).flatten, b ∈ l.flatten := by
  induction l generalizing i with
  | nil => simp at h
  | cons x l ih =>
    rw [List.flatten_cons, List.nodup_append] at nd
    cases i with
    | zero =>
      have e : x = [p] := by simpa using h
      subst e
      rw [List.set_cons_zero, List.flatten_cons, List.nil_append]
      exact ⟨nd.2.1, fun z => nd.2.2 p (by simp) p z rfl, fun b hb => by rw [List.flatten_cons]; exact List.mem_append_right _ hb⟩
    | succ i =>
      rw [List.getElem?_cons_succ] at h
      obtain ⟨h1, h2, h3⟩ := ih nd.2.1 h
      rw [List.set_cons_succ, List.flatten_cons]
      refine ⟨List.nodup_append.mpr ⟨nd.1, h1, fun a ha b hb e => nd.2.2 a ha b (h3 b hb) e⟩, fun z => ?_, fun b hb => ?_⟩
      · rcases List.mem_append.mp z with z | z
        · exact nd.2.2 p z p (mem_at h) rfl
        · exact h2 z
      · rw [List.flatten_cons]
        rcases List.mem_append.mp hb with z | z
        · exact List.mem_append_left _ z
        · exact List.mem_append_right _ (h3 b z)
/-- a cell's object is frozen -/
theorem Rel.lend {i : Nat} {c : Cell} {d : D} (R : RelX X sl cs σ Hf H fps) (hs : sl[i]? = some .c) (hc : cs[i]? = some c) (hv : c.val = some d) : ∃ p u, fps[i]? = some [p] ∧ H p = some u ∧ NSeq u ∧ Hf p = none ∧ σ[i]? = some (some (.ref p)) ∧
    (∀ A B, Same Hf A → A p = none → B p = some u → CellR X.prog X.w X.K A B c [p]) ∧ RelX X (sl.set i (.v d)) (cs.set i .dead) σ (upd Hf p u) H (fps.set i []) := by
  obtain ⟨p, u, h1, h2, h3, h4, h5, h6, h7⟩ := R.cellV hs hc hv
  refine ⟨p, u, h2, h3, h4, h5, h1, h7, ?_⟩
  obtain ⟨n1, n2, n3⟩ := nil_set R.nd h2
  have cd : Paired (CellR X.prog X.w X.K Hf H) (cs.set i .dead) (fps.set i []) := paired_set (show CellR X.prog X.w X.K Hf H .dead [] from rfl) i R.cells
  refine ⟨fun b o e => ?_, cells_frz cd n2 h5, n1, fun j s e => ?_, by rw [List.length_set]; exact R.len, by rw [List.length_set, List.length_set]; exact R.clen⟩
  · by_cases hb : b = p
    · subst hb; rw [upd_same] at e; cases e; exact h3
    · rw [upd_ne hb] at e; exact R.sub b o e
  · by_cases hj : i = j
    · subst hj
      rw [List.getElem?_set_self (List.getElem?_eq_some_iff.mp hs).1] at e
      cases e
      exact ⟨.ref p, h1, h6 _ (same_frz h5) upd_same⟩
    · rw [List.getElem?_set_ne hj] at e
      have q := R.slots j s e
      cases s with
      | un => trivial
      | v d => exact SlotR.mono (same_frz h5) q
      | fn x => exact q
      | c =>
        obtain ⟨a, r, g1, g2⟩ := q
        exact ⟨a, r, by rw [List.getElem?_set_ne hj]; exact g1, g2⟩
/-- and given back -/
theorem Rel.back {i : Nat} {c : Cell} {d : D} {p : Addr} {u : HO} {cs2 : Cells} {f2 : List (List Addr)} {A2 B2 : Hp} (R : RelX X sl cs σ Hf H fps) (hs : sl[i]? = some .c) (hf : fps[i]? = some [p]) (hu : NSeq u) (h0 : Hf p = none) (hp : σ[i]? = some (some (.ref p))) (hH : H p = some u)
    (hc : ∀ A B, Same Hf A → A p = none → B p = some u → CellR X.prog X.w X.K A B c [p]) (x : Ext m (fps.set i []) (upd Hf p u) H f2 A2 B2) (R2 : RelX X (sl.set i (.v d)) cs2 σ A2 B2 f2) (hl : cs2.all Cell.lf = true) :
    ∃ f3 A3, Ext m fps Hf H f3 A3 B2 ∧ RelX X sl (cs2.set i c) σ A3 B2 f3 ∧ ∀ v d, RpX X A2 v d → lf d = true → RpX X A3 v d := by
  have hA2 : A2 p = some u := x.mono p u upd_same
  have hn2 : p ∉ f2.flatten := fun z => by have := (cell_addr R2.cells p z).2; rw [hA2] at this; cases this
  let A3 : Hp := fun b => if b = p then none else A2 b
  have e3 : ∀ b, b ≠ p → A3 b = A2 b := fun b hb => if_neg hb
  have e0 : A3 p = none := if_pos rfl
  have mono : Same Hf A3 := fun b o e => by
    have hb : b ≠ p := fun z => by rw [z, h0] at e; cases e
    rw [e3 b hb]
    exact x.mono b o (by rw [upd_ne hb]; exact e)
  obtain ⟨n1, n2, n3⟩ := nil_set R.nd hf
  have hp1 := mem_at hf
  have li : i < sl.length := (List.getElem?_eq_some_iff.mp hs).1
  have l2 : f2.length = sl.length := by rw [← paired_len R2.cells, R2.clen, List.length_set]
  refine ⟨f2.set i [p], A3, ⟨mono, fun b e e' => ?_, fun b o e hb => x.keep b o e fun z => hb (n3 b z), fun b e => x.there b e, fun b hb => ?_, fun k hk => ?_⟩, ⟨fun b o e => ?_, ?_, nodup_set R2.nd hn2, fun j s e => ?_, R.len, by rw [List.length_set, R2.clen, List.length_set]⟩, fun v d r l => Rp.del hA2 hu e3 r l⟩
  · have hb : b ≠ p := fun z => by rw [z, e0] at e'; exact e' rfl
    rw [e3 b hb] at e'
    rcases x.fresh b (by rw [upd_ne hb]; exact e) e' with z | z
    · exact .inl z
    · exact .inr (n3 b z)
  · rcases mem_set hb with z | z
    · rw [List.mem_singleton] at z; subst z; exact .inl hp1
    · rcases x.own b z with z | z
      · exact .inl (n3 b z)
      · exact .inr z
  · by_cases hki : i = k
    · subst hki
      rw [List.getElem?_set_self (by omega), hf]
    · rw [List.getElem?_set_ne hki, x.fix k hk, List.getElem?_set_ne hki]
  · by_cases hb : b = p
    · subst hb; rw [e0] at e; cases e
    · rw [e3 b hb] at e; exact R2.sub b o e
  · have := cells_del hA2 hu e3 e0 R2.cells hl
    exact paired_set (hc A3 B2 mono e0 (R2.sub p u hA2)) i this
  · by_cases hj : i = j
    · subst hj
      rw [hs] at e
      cases e
      exact ⟨p, [], List.getElem?_set_self (by omega), hp⟩
    · have q := R.slots j s e
      cases s with
      | un => trivial
      | v d => exact SlotR.mono mono q
      | fn x => exact q
      | c =>
        obtain ⟨a, r, g1, g2⟩ := R2.slots j .c (by rw [List.getElem?_set_ne hj]; exact e)
        exact ⟨a, r, by rw [List.getElem?_set_ne hj]; exact g1, g2⟩
theorem bor_split {i : Nat} {e : EM} {P : Res D → Prop} (hst : P .st → False) (h : P (borE i e sl cs)) : ∃ c x d cs', sl[i]? = some .c ∧ cs[i]? = some c ∧ c.val = some x ∧ e (sl.set i (.v x)) (cs.set i .dead) = .ok d cs' ∧ lf d = true ∧ cs'.all Cell.lf = true ∧ P (.ok d (cs'.set i c)) := by
  unfold borE at h
  cases hs0 : sl[i]? with
  | none => rw [hs0] at h; exact (hst h).elim
  | some s0 =>
    cases s0 with
    | un => rw [hs0] at h; exact (hst h).elim
    | v d => rw [hs0] at h; exact (hst h).elim
    | fn x => rw [hs0] at h; exact (hst h).elim
    | c =>
      rw [hs0] at h
      cases hc : cs[i]? with
      | none => rw [hc] at h; exact (hst h).elim
      | some c =>
        rw [hc] at h
        have h : P (match c.val with
          | some x => (match e (sl.set i (.v x)) (cs.set i .dead) with
            | .ok d cs' => if lf d && cs'.all Cell.lf then .ok d (cs'.set i c) else .st
            | _ => .st)
          | none => .st) := h
        cases hv : c.val with
        | none => rw [hv] at h; exact (hst h).elim
        | some x =>
          rw [hv] at h
          have h : P (match e (sl.set i (.v x)) (cs.set i .dead) with
            | .ok d cs' => if lf d && cs'.all Cell.lf then .ok d (cs'.set i c) else .st
            | _ => .st) := h
          cases he : e (sl.set i (.v x)) (cs.set i .dead) with
          | st => rw [he] at h; exact (hst h).elim
          | ex c cs' => rw [he] at h; exact (hst h).elim
          | ok d cs' =>
            rw [he] at h
            have h : P (if lf d && cs'.all Cell.lf then .ok d (cs'.set i c) else .st) := h
            by_cases hl : (lf d && cs'.all Cell.lf) = true
            · rw [if_pos hl] at h
              rw [Bool.and_eq_true] at hl
              exact ⟨c, x, d, cs', rfl, rfl, hv, he, hl.1, hl.2, h⟩
            · rw [if_neg hl] at h; exact (hst h).elim
theorem ped_bor (i : Nat) (h : PED X W m a ea) : PED X W m a (borE i ea) := by
  refine ⟨h.pe.imp fun σ H Q ⟨sl, cs, fps, Hf, R, h⟩ => ?_⟩
  obtain ⟨c, x, d, cs', h1, h2, h3, h4, h5, h6, h⟩ := bor_split (P := fun r => Run X W m σ sl fps Hf H r Q) (fun z => z) h
  obtain ⟨p, u, g1, g2, g3, g4, g5, g6, R1⟩ := R.lend h1 h2 h3
  refine ⟨_, _, _, _, R1, ?_⟩
  rw [h4]
  intro v f2 A2 B2 x2 R2 r2
  obtain ⟨f3, A3, x3, R3, b3⟩ := R.back h1 g1 g3 g4 g5 g2 g6 x2 R2 h6
  exact h v f3 A3 B2 x3 R3 (b3 v d r2 h5)
theorem ptd_bor (i : Nat) (h : PTD X W m a ea) : PTD X W m a (borE i ea) := by
  refine ⟨h.pt.imp fun σ H Q ⟨sl, cs, fps, Hf, R, h⟩ => ?_⟩
  obtain ⟨c, x, d, cs', h1, h2, h3, h4, h5, h6, h⟩ := bor_split (P := fun r => RunT X W m σ sl fps Hf H r Q) (fun z => z) h
  obtain ⟨p, u, g1, g2, g3, g4, g5, g6, R1⟩ := R.lend h1 h2 h3
  refine ⟨_, _, _, _, R1, ?_⟩
  rw [h4]
  cases d with
  | bool k =>
    intro f2 A2 B2 x2 R2
    obtain ⟨f3, A3, x3, R3, b3⟩ := R.back h1 g1 g3 g4 g5 g2 g6 x2 R2 h6
    exact h f3 A3 B2 x3 R3
  | _ => exact h.elim
theorem Ext.lend {i : Nat} {p : Addr} {u : HO} (hm : m ≤ i) (nd : fps.flatten.Nodup) (hf : fps[i]? = some [p]) (h0 : Hf p = none) : Ext m fps Hf H (fps.set i []) (upd Hf p u) H :=
  ⟨same_frz h0, fun b e e' => by
    by_cases hb : b = p
    · subst hb; exact .inr (mem_at hf)
    · rw [upd_ne hb] at e'; exact absurd e e', fun _ _ h _ => h, fun _ h => h, fun b hb => .inl ((nil_set nd hf).2.2 b hb), fun k hk => by rw [List.getElem?_set_ne (by omega)]⟩
theorem runS_frz {i : Nat} {E : Ends} {Q : Prop} (hm : m ≤ i) (R : RelX X sl cs σ Hf H fps) (h : RunS X W m σ fps Hf H (frzS i s sl cs) E) : SD X W m s E σ H := by
  unfold frzS at h
  cases hs0 : sl[i]? with
  | none => rw [hs0] at h; exact h.elim
  | some s0 =>
    cases s0 with
    | un => rw [hs0] at h; exact h.elim
    | v d => rw [hs0] at h; exact h.elim
    | fn x => rw [hs0] at h; exact h.elim
    | c =>
      rw [hs0] at h
      cases hc : cs[i]? with
      | none => rw [hc] at h; exact h.elim
      | some c =>
        rw [hc] at h
        have h : RunS X W m σ fps Hf H (match c.val with
          | some x => s (sl.set i (.v x)) (cs.set i .dead)
          | none => .st) E := h
        cases hv : c.val with
        | none => rw [hv] at h; exact h.elim
        | some x =>
          rw [hv] at h
          obtain ⟨p, u, g1, g2, g3, g4, g5, g6, R1⟩ := R.lend hs0 hc hv
          exact ⟨_, _, _, _, R1, RunS.after (Ext.lend hm R.nd g1 g4) h⟩
theorem psd_frz (i : Nat) (hm : m ≤ i) (h : PSD X W m st s) : PSD X W m st (frzS i s) := ⟨h.ps.imp fun σ H E ⟨sl, cs, fps, Hf, R, h⟩ => runS_frz (Q := True) hm R h⟩
/-! ### name op= e -/
def iaddD : D → D → Option D
  | .int i, .int j => some (.int (i + j))
  | _, _ => none
theorem rd_aug {i : Nat} {E : Ends} (h : SD X W m (setS i (op2 iaddD (varE i) ea)) E σ H) : tAug i (RD X W m ea) (ipI fun i j => i + j) E σ H := by
  obtain ⟨sl, cs, fps, Hf, R, h⟩ := h
  unfold setS op2 bindE varE at h
  cases hs0 : sl[i]? with
  | none => rw [hs0] at h; exact h.elim
  | some s0 =>
    cases s0 with
    | un => rw [hs0] at h; exact h.elim
    | c => rw [hs0] at h; exact h.elim
    | fn x => rw [hs0] at h; exact h.elim
    | v d0 =>
      rw [hs0] at h
      obtain ⟨v0, g1, g2⟩ := R.slots i _ hs0
      refine ⟨v0, g1, sl, cs, fps, Hf, R, ?_⟩
      dsimp only at h
      cases he : ea sl cs with
      | st => rw [he] at h; exact h
      | ex c cs' => rw [he] at h; exact fun f A B x R1 C hC => h σ f A B x R1.sub R1.cells R1.nd C hC
      | ok d1 cs1 =>
        rw [he] at h
        dsimp only at h
        intro v f A B x R1 r1
        unfold liftE at h
        cases ho : iaddD d0 d1 with
        | none => rw [ho] at h; exact h.elim
        | some d2 =>
          rw [ho] at h
          unfold iaddD at ho
          split at ho
          · cases ho
            cases g2
            cases r1
            exact ⟨_, _, rfl, rfl, h _ f A B x (R1.set i (.int _))⟩
          · cases ho
theorem psd_aug {i : Nat} {x : Str} {pos' : Pos} (hN : X.N.Nodup) (ha : PED X W m a ea) (hi : X.N[i]? = some x := by rfl) (hx : Loc X.env.scope x := by first | exact Or.inl rfl | exact Or.inr rfl)
    (hf : X.fn x = true ∨ X.env.scope.names.lookup x = some .local := by first | exact .inl rfl | exact .inr rfl) : PSD X W m (.AugAssign (.Name x pos') .Add a pos) (setS i (op2 iaddD (varE i) ea)) :=
  ⟨(ps_aug hN hi hx ha.pe ip_add hf).imp fun σ H E h => rd_aug h⟩
end
end SS
namespace SS
open PySem PySem.Spec L2
open PyProof.Rows (envOfC)
/-! ### defs -/
inductive Arg where
  | v (d : D)
  | r (c : Cell)
  | fn (x : Str)
inductive FRes where
  | st
  | ok (d : D) (outs : List Cell)
  | ex (c : Exc) (outs : List Cell)
abbrev FM := List Arg → FRes
def Arg.slot : Arg → Slot
  | .v d => .v d
  | .r _ => .c
  | .fn x => .fn x
def Arg.cell : Arg → Cell
  | .r c => c
  | _ => .dead
def runF (n : Nat) (s : SM) : FM := fun args =>
  match s (args.map Arg.slot ++ List.replicate (n - args.length) .un) (args.map Arg.cell ++ List.replicate (n - args.length) .dead) with
  | .rt d cs => .ok d (cs.take args.length)
  | .nx _ cs => .ok .none (cs.take args.length)
  | .ex c cs => .ex c (cs.take args.length)
  | _ => .st
/-- the arguments as the call hands them on -/
def argOf (sl : Slots) (cs : Cells) : AV → Option Arg
  | .v d => some (.v d)
  | .r i => match sl[i]?, cs[i]? with
    | some .c, some c => some (.r c)
    | _, _ => none
  | .fn x => some (.fn x)
def argsOf (sl : Slots) (cs : Cells) : List AV → Option (List Arg)
  | [] => some []
  | a :: as => (argOf sl cs a).bind fun x => (argsOf sl cs as).map (x :: ·)
def refs : List AV → List Nat
  | [] => []
  | .r i :: as => i :: refs as
  | _ :: as => refs as
def putB : List AV → List Cell → Cells → Cells
  | .r i :: as, c :: outs, cs => (putB as outs cs).set i c
  | .v _ :: as, _ :: outs, cs => putB as outs cs
  | .fn _ :: as, _ :: outs, cs => putB as outs cs
  | _, _, cs => cs
def callE (n : Nat) (F : FM) (ea : AM) : EM := fun sl cs => match ea sl cs with
  | .ok as cs1 => (match argsOf sl cs1 as with
    | some args => if as.length = n ∧ (refs as).Nodup then (match F args with
      | .ok d outs => if outs.length = as.length then .ok d (putB as outs cs1) else .st
      | .ex c outs => if outs.length = as.length then .ex c (putB as outs cs1) else .st
      | .st => .st) else .st
    | none => .st)
  | .ex c cs' => .ex c cs'
  | .st => .st
section
variable (P : Program) (w : World) (K : PySem.W.Frag) (mg : Str → Option Value)
inductive ArgR (Hf H : Hp) : V → Arg → List Addr → Prop
  | v {x : V} {d : D} : Rp P w K Hf x d → ArgR Hf H x (.v d) []
  | r {p : Addr} {c : Cell} : CellR P w K Hf H c [p] → ArgR Hf H (.ref p) (.r c) [p]
  | fn {a : Addr} {x : Str} : mg x = some (.ref a) → ArgR Hf H (.ref a) (.fn x) []
inductive ArgsR (Hf H : Hp) : List V → List Arg → List (List Addr) → Prop
  | nil : ArgsR Hf H [] [] []
  | cons {v : V} {a : Arg} {fp : List Addr} {vs : List V} {as : List Arg} {fps : List (List Addr)} : ArgR P w K mg Hf H v a fp → ArgsR Hf H vs as fps → ArgsR Hf H (v :: vs) (a :: as) (fp :: fps)
def RunFn (n : Nat) (fps : List (List Addr)) (Hf H : Hp) (r : FRes) (Q : VK) (E : XK) : Prop := match r with
  | .st => False
  | .ok d outs => ∀ v fps' Hf' H', Ext n fps Hf H fps' Hf' H' → Same Hf' H' → Paired (CellR P w K Hf' H') outs fps' → fps'.flatten.Nodup → Rp P w K Hf' v d → Q v H'
  | .ex c outs => ∀ fps' Hf' H', Ext n fps Hf H fps' Hf' H' → Same Hf' H' → Paired (CellR P w K Hf' H') outs fps' → fps'.flatten.Nodup → ∀ C, mg c.name = some (.ref C) → E (.ref C) none H'
/-- a def's promise -/
def spF (n : Nat) (F : FM) : Sp := fun vs H Q E => ∃ args fps Hf, Same Hf H ∧ ArgsR P w K mg Hf H vs args fps ∧ fps.flatten.Nodup ∧ args.length = n ∧ RunFn P w K mg n fps Hf H (F args) Q E
end
section
variable {P : Program} {w : World} {K : PySem.W.Frag} {mg : Str → Option Value} {base : Heap} {Hf H : Hp}
theorem ArgsR.len : ∀ {vs : List V} {as : List Arg} {fps : List (List Addr)}, ArgsR P w K mg Hf H vs as fps → vs.length = as.length ∧ fps.length = as.length
  | _, _, _, .nil => ⟨rfl, rfl⟩
  | _, _, _, .cons _ t => ⟨by simp [(ArgsR.len t).1], by simp [(ArgsR.len t).2]⟩
theorem ArgsR.cells : ∀ {vs : List V} {as : List Arg} {fps : List (List Addr)}, ArgsR P w K mg Hf H vs as fps → Paired (CellR P w K Hf H) (as.map Arg.cell) fps
  | _, _, _, .nil => .nil
  | _, _, _, .cons (.v _) t => .cons (show CellR P w K Hf H .dead [] from rfl) (ArgsR.cells t)
  | _, _, _, .cons (.r h) t => .cons h (ArgsR.cells t)
  | _, _, _, .cons (.fn _) t => .cons (show CellR P w K Hf H .dead [] from rfl) (ArgsR.cells t)
theorem ArgsR.at : ∀ {vs : List V} {as : List Arg} {fps : List (List Addr)} {i : Nat} {a : Arg}, ArgsR P w K mg Hf H vs as fps → as[i]? = some a → ∃ v fp, vs[i]? = some v ∧ fps[i]? = some fp ∧ ArgR P w K mg Hf H v a fp
  | _, _, _, _, _, .nil, h => by simp at h
  | _, _, _, 0, _, .cons r _, h => by simp at h; subst h; exact ⟨_, _, rfl, rfl, r⟩
  | _, _, _, i + 1, _, .cons _ t, h => by
    obtain ⟨v, fp, h1, h2, h3⟩ := ArgsR.at (i := i) t (by simpa using h)
    exact ⟨v, fp, by simpa using h1, by simpa using h2, h3⟩
theorem paired_append {α β : Type} {F : α → β → Prop} : ∀ {l m : List α} {l' m' : List β}, Paired F l l' → Paired F m m' → Paired F (l ++ m) (l' ++ m')
  | _, _, _, _, .nil, s => s
  | _, _, _, _, .cons r t, s => .cons r (paired_append t s)
theorem paired_take {α β : Type} {F : α → β → Prop} : ∀ {l : List α} {l' : List β} (n : Nat), Paired F l l' → Paired F (l.take n) (l'.take n)
  | _, _, 0, _ => by simp only [List.take_zero]; exact .nil
  | _, _, _ + 1, .nil => .nil
  | _, _, n + 1, .cons r t => .cons r (paired_take n t)
theorem paired_rep {α β : Type} {F : α → β → Prop} {x : α} {y : β} (h : F x y) : ∀ n : Nat, Paired F (List.replicate n x) (List.replicate n y)
  | 0 => .nil
  | n + 1 => .cons h (paired_rep h n)
theorem flat_nils (fps : List (List Addr)) (n : Nat) : (fps ++ List.replicate n []).flatten = fps.flatten := by
  rw [List.flatten_append]
  have : (List.replicate n ([] : List Addr)).flatten = [] := by
    induction n with
    | zero => rfl
    | succ n ih => rw [List.replicate_succ, List.flatten_cons, ih]; rfl
  rw [this, List.append_nil]
theorem Ext.cut {m n : Nat} {fps fps' : List (List Addr)} {Hf' H' : Hp} (hl : fps.length = m) (x : Ext m (fps ++ List.replicate n []) Hf H fps' Hf' H') : Ext m fps Hf H (fps'.take m) Hf' H' := by
  have sub : ∀ b ∈ (fps'.take m).flatten, b ∈ fps'.flatten := fun b hb => by
    obtain ⟨l, h1, h2⟩ := List.mem_flatten.mp hb
    exact List.mem_flatten.mpr ⟨l, List.mem_of_mem_take h1, h2⟩
  refine ⟨x.mono, fun b e e' => ?_, fun b o e hb => x.keep b o e (by rw [flat_nils]; exact hb), x.there, fun b hb => ?_, fun k hk => ?_⟩
  · have := x.fresh b e e'; rw [flat_nils] at this; exact this
  · have := x.own b (sub b hb); rw [flat_nils] at this; exact this
  · have := x.fix k hk
    rw [List.getElem?_append_left (by omega)] at this
    rw [List.getElem?_take_of_lt hk]
    exact this
theorem nodup_take {fps : List (List Addr)} (m : Nat) (h : fps.flatten.Nodup) : (fps.take m).flatten.Nodup := by
  have e : fps.flatten = (fps.take m).flatten ++ (fps.drop m).flatten := by rw [← List.flatten_append, List.take_append_drop]
  rw [e] at h
  exact (List.nodup_append.mp h).1
/-- THE RULE for a def -/
theorem fn_ok {x qual : Str} {st : Stmt} {f : Addr} {fd : FuncData} {N ps : List Str} {k n nN : Nat} {s : SM} (Fn : Fun K x qual st f fd) (S : FnScope N ps (defScope st)) (hn : ps.length = n) (hN : N.length = nN)
    (hbody : ∀ (cdv : Value) (A : Around) (outer : List Env) (s0 : Shared) (H0 : Hp) (E : XK), Room k (cxOf (L2.CX P w) P w K mg base N qual (defScope st) f cdv A outer s0 H0 E).A →
      Takes (cxOf (L2.CX P w) P w K mg base N qual (defScope st) f cdv A outer s0 H0 E) (fun cls d _ H => E cls d H) →
      PassesOwn (model P w) (cxOf (L2.CX P w) P w K mg base N qual (defScope st) f cdv A outer s0 H0 E).A (cxOf (L2.CX P w) P w K mg base N qual (defScope st) f cdv A outer s0 H0 E).env (cxOf (L2.CX P w) P w K mg base N qual (defScope st) f cdv A outer s0 H0 E).xe →
      PSsD (cxOf (L2.CX P w) P w K mg base N qual (defScope st) f cdv A outer s0 H0 E) (fun cls d _ H => E cls d H) n (defBody st) s) :
    FnOk P w K mg base (L2.CX P w) (k + 1) f fd ps (spF P w K mg n (runF nN s)) := by
  subst hn hN
  refine Fn.okX S (fun vs H Q E ⟨args, fps, Hf, _, h, _, hl, _⟩ => by rw [← hl]; exact h.len.1) fun cdv A outer s0 H vs Q E hr h => ?_
  obtain ⟨args, fps, Hf, sub, ha, nd, hl, h⟩ := h
  refine ⟨_, (hbody cdv A outer s0 H E hr (takes_of rfl rfl rfl rfl) (passes_of (X := cxOf (L2.CX P w) P w K mg base N qual (defScope st) f cdv A outer s0 H E) (K := fun e s'' => L2.CX P w outer H s0 E e s'') (E₁ := fun e' s'' => L2.CX P w outer H s0 E e' s'') rfl)).ps, ?_⟩
  have hpl : ps.length ≤ N.length := by have := congrArg List.length S.pre; rw [List.length_take] at this; omega
  obtain ⟨l1, l2⟩ := ha.len
  have lf : fps.length = ps.length := l2.trans hl
  refine ⟨args.map Arg.slot ++ List.replicate (N.length - args.length) .un, args.map Arg.cell ++ List.replicate (N.length - args.length) .dead, fps ++ List.replicate (N.length - args.length) [], Hf, ⟨sub, ?_, ?_, fun i s1 e => ?_, ?_, ?_⟩, ?_⟩
  · exact paired_append ha.cells (paired_rep (show CellR P w K Hf H .dead [] from rfl) _)
  · rw [flat_nils]; exact nd
  · by_cases hi : i < args.length
    · rw [List.getElem?_append_left (by simpa using hi), List.getElem?_map] at e
      obtain ⟨a, e1, e2⟩ := Option.map_eq_some_iff.mp e
      obtain ⟨v, fp, g1, g2, g3⟩ := ha.at e1
      have hs : (L2.start N vs)[i]? = some (some v) := by
        unfold L2.start
        rw [List.getElem?_append_left (by rw [List.length_map]; omega), List.getElem?_map, g1]
        rfl
      subst e2
      cases g3 with
      | v r => exact ⟨v, hs, r⟩
      | fn hm => exact ⟨_, hm, hs⟩
      | r hc => exact ⟨_, [], by rw [List.getElem?_append_left (by omega)]; exact g2, hs⟩
    · rw [List.getElem?_append_right (by simpa using hi), List.getElem?_replicate] at e
      split at e
      · cases e; trivial
      · cases e
  · unfold L2.start
    simp only [List.length_append, List.length_map, List.length_replicate]
    omega
  · simp only [List.length_append, List.length_map, List.length_replicate]
  · unfold runF at h
    cases he : s (args.map Arg.slot ++ List.replicate (N.length - args.length) .un) (args.map Arg.cell ++ List.replicate (N.length - args.length) .dead) with
    | st => rw [he] at h; exact h
    | bk _ _ => rw [he] at h; exact h.elim
    | ct _ _ => rw [he] at h; exact h.elim
    | nx sl' cs' =>
      rw [he] at h
      intro σ' fps' Hf' H' x R
      exact h .non _ Hf' H' (x.cut lf) R.sub (by rw [hl]; exact paired_take _ R.cells) (nodup_take _ R.nd) .non
    | rt d cs' =>
      rw [he] at h
      intro v fps' Hf' H' x S C N r
      exact h v _ Hf' H' (x.cut lf) S (by rw [hl]; exact paired_take _ C) (nodup_take _ N) r
    | ex c cs' =>
      rw [he] at h
      intro σ' fps' Hf' H' x S Cc N C hC
      exact h _ Hf' H' (x.cut lf) S (by rw [hl]; exact paired_take _ Cc) (nodup_take _ N) C hC
/-- another form of the same meaning -/
theorem spF_imp {n : Nat} {F F' : FM} (h : ∀ args, args.length = n → F' args = .st ∨ F args = F' args) {vs : List V} {H : Hp} {Q : VK} {E : XK} (q : spF P w K mg n F' vs H Q E) : spF P w K mg n F vs H Q E := by
  obtain ⟨args, fps, Hf, sub, ha, nd, hl, r⟩ := q
  refine ⟨args, fps, Hf, sub, ha, nd, hl, ?_⟩
  rcases h args hl with e | e
  · rw [e] at r; exact r.elim
  · rw [e]; exact r
end
/-! ### calls -/
/-- a def as its callers see it -/
structure Cal (P : Program) (w : World) (K : PySem.W.Frag) (mg : Str → Option Value) (x : Str) (k : Nat) (ps : List Str) (F : FM) : Prop where
  ex : ∃ f fd, mg x = some (.ref f) ∧ (∀ base : Heap, FnOk P w K mg base (L2.CX P w) k f fd ps (spF P w K mg ps.length F)) ∧ PySem.W.keepIn K (.ref f) = true ∧ Binds K fd ps []
section
variable {X : Cx} {W : WX} {m : Nat} {σ : L2.St} {sl : Slots} {cs : Cells} {fps fps1 : List (List Addr)} {Hf H Hf1 H1 : Hp}
variable {a b : Expr} {ea eb : EM} {pos : Pos} {s t : SM} {st : Stmt} {rest : List Stmt}
theorem CellR.one {c : Cell} {p : Addr} {r : List Addr} (h : CellR X.prog X.w X.K Hf H c (p :: r)) : r = [] := by
  cases c with
  | dead => cases h
  | lst ds => obtain ⟨_, _, e, _⟩ := h; cases e; rfl
  | dic kvs => obtain ⟨_, _, e, _⟩ := h; cases e; rfl
/-- the arguments' footprints -/
def refFp (fps : List (List Addr)) : List AV → List (List Addr)
  | [] => []
  | .r i :: as => (fps[i]?.getD []) :: refFp fps as
  | _ :: as => [] :: refFp fps as
theorem args_of (R : RelX X sl cs σ Hf H fps) : ∀ {vs : List V} {as : List AV} {args : List Arg}, Paired (AVR X σ Hf) vs as → argsOf sl cs as = some args → ArgsR X.prog X.w X.K X.mg Hf H vs args (refFp fps as) ∧ args.length = as.length
  | _, _, _, .nil, e => by cases e; exact ⟨.nil, rfl⟩
  | _, _, _, .cons (b := a) (l₂ := as) h t, e => by
    have e : (argOf sl cs a).bind (fun x => (argsOf sl cs as).map (x :: ·)) = some _ := e
    cases e1 : argOf sl cs a with
    | none => rw [e1] at e; cases e
    | some x =>
      rw [e1] at e
      obtain ⟨xs, e2, e3⟩ := Option.map_eq_some_iff.mp e
      subst e3
      obtain ⟨q1, q2⟩ := args_of R t e2
      refine ⟨?_, by rw [List.length_cons, List.length_cons, q2]⟩
      cases h with
      | v r => cases e1; exact .cons (.v r) q1
      | fn hm => cases e1; exact .cons (.fn hm) q1
      | @r x0 i hs =>
        have e1 : (match sl[i]?, cs[i]? with | some .c, some c => some (Arg.r c) | _, _ => none) = some x := e1
        cases g1 : sl[i]? with
        | none => rw [g1] at e1; cases e1
        | some s0 =>
          cases s0 with
          | un => rw [g1] at e1; cases e1
          | v d => rw [g1] at e1; cases e1
          | fn y => rw [g1] at e1; cases e1
          | c =>
            rw [g1] at e1
            cases g2 : cs[i]? with
            | none => rw [g2] at e1; cases e1
            | some c =>
              rw [g2] at e1
              cases e1
              obtain ⟨p, r, h1, h2⟩ := R.slots i .c g1
              rw [hs] at h2
              cases h2
              obtain ⟨fp, h3, h4⟩ := paired_at R.cells g2
              rw [h1] at h3
              cases h3
              have er := h4.one
              subst er
              have e4 : refFp fps (.r i :: as) = [p] :: refFp fps as := by
                show (fps[i]?.getD []) :: refFp fps as = _
                rw [h1]; rfl
              rw [e4]
              exact .cons (.r h4) q1
theorem mem_refFp : ∀ {as : List AV} {b : Addr}, b ∈ (refFp fps as).flatten → ∃ i ∈ refs as, ∃ fp, fps[i]? = some fp ∧ b ∈ fp
  | [], b, h => by cases h
  | .v _ :: as, b, h => by
    have h : b ∈ ([] :: refFp fps as).flatten := h
    rw [List.flatten_cons, List.nil_append] at h
    exact mem_refFp (as := as) h
  | .fn _ :: as, b, h => by
    have h : b ∈ ([] :: refFp fps as).flatten := h
    rw [List.flatten_cons, List.nil_append] at h
    exact mem_refFp (as := as) h
  | .r i :: as, b, h => by
    have h : b ∈ ((fps[i]?.getD []) :: refFp fps as).flatten := h
    rw [List.flatten_cons, List.mem_append] at h
    rcases h with h | h
    · cases e : fps[i]? with
      | none => rw [e] at h; cases h
      | some fp => rw [e] at h; exact ⟨i, List.mem_cons_self, fp, e, h⟩
    · obtain ⟨j, hj, q⟩ := mem_refFp (as := as) h
      exact ⟨j, List.mem_cons_of_mem _ hj, q⟩
theorem disj_at {l : List (List Addr)} {i j : Nat} {fi fj : List Addr} {b : Addr} (nd : l.flatten.Nodup) (hi : l[i]? = some fi) (hj : l[j]? = some fj) (bi : b ∈ fi) (bj : b ∈ fj) : i = j := by
  induction l generalizing i j with
  | nil => simp at hi
  | cons x l ih =>
    rw [List.flatten_cons, List.nodup_append] at nd
    cases i with
    | zero =>
      cases j with
      | zero => rfl
      | succ j =>
        have hx : x = fi := by simpa using hi
        subst hx
        exact absurd rfl (nd.2.2 b bi b (List.mem_flatten.mpr ⟨fj, List.mem_of_getElem? (by simpa using hj), bj⟩))
    | succ i =>
      cases j with
      | zero =>
        have hx : x = fj := by simpa using hj
        subst hx
        exact absurd rfl (nd.2.2 b bj b (List.mem_flatten.mpr ⟨fi, List.mem_of_getElem? (by simpa using hi), bi⟩))
      | succ j => exact congrArg (· + 1) (ih nd.2.1 (by simpa using hi) (by simpa using hj))
theorem nodup_flat_at {l : List (List Addr)} (nd : l.flatten.Nodup) {fp : List Addr} {i : Nat} (h : l[i]? = some fp) : fp.Nodup := by
  induction l generalizing i with
  | nil => simp at h
  | cons x l ih =>
    rw [List.flatten_cons, List.nodup_append] at nd
    cases i with
    | zero => have hx : x = fp := by simpa using h
              subst hx; exact nd.1
    | succ i => exact ih nd.2.1 (by simpa using h)
theorem nodup_refFp (nd : fps.flatten.Nodup) : ∀ {as : List AV}, (refs as).Nodup → (refFp fps as).flatten.Nodup
  | [], _ => .nil
  | .v _ :: as, h => by
    show ([] :: refFp fps as).flatten.Nodup
    rw [List.flatten_cons, List.nil_append]
    exact nodup_refFp nd (as := as) h
  | .fn _ :: as, h => by
    show ([] :: refFp fps as).flatten.Nodup
    rw [List.flatten_cons, List.nil_append]
    exact nodup_refFp nd (as := as) h
  | .r i :: as, h => by
    have h : (i :: refs as).Nodup := h
    obtain ⟨h1, h2⟩ := List.nodup_cons.mp h
    show ((fps[i]?.getD []) :: refFp fps as).flatten.Nodup
    rw [List.flatten_cons, List.nodup_append]
    refine ⟨?_, nodup_refFp nd h2, fun a ha b hb e => ?_⟩
    · cases e : fps[i]? with
      | none => exact List.nodup_nil
      | some fp => exact nodup_flat_at nd e
    · subst e
      cases e : fps[i]? with
      | none => rw [e] at ha; cases ha
      | some fp =>
        rw [e] at ha
        obtain ⟨j, hj, fq, e2, hq⟩ := mem_refFp hb
        exact h1 (by rw [disj_at nd e e2 ha hq]; exact hj)
/-- behind the call: the cells that were handed on have their ends, the others are as they were -/
theorem paired_point {α β : Type} {F : α → β → Prop} : ∀ {l : List α} {l' : List β}, l.length = l'.length → (∀ (i : Nat) (x : α) (y : β), l[i]? = some x → l'[i]? = some y → F x y) → Paired F l l'
  | [], [], _, _ => .nil
  | [], _ :: _, h, _ => by cases h
  | _ :: _, [], h, _ => by cases h
  | x :: l, y :: l', h, f => .cons (f 0 x y rfl rfl) (paired_point (by simpa using h) fun i a b h1 h2 => f (i + 1) a b (by simpa using h1) (by simpa using h2))
theorem putB_len : ∀ (as : List AV) (outs : List Cell) (cs : Cells), (putB as outs cs).length = cs.length
  | [], _, _ => by simp [putB]
  | .v _ :: as, [], _ => rfl
  | .fn _ :: as, [], _ => rfl
  | .r _ :: as, [], _ => rfl
  | .v _ :: as, _ :: outs, cs => putB_len as outs cs
  | .fn _ :: as, _ :: outs, cs => putB_len as outs cs
  | .r i :: as, c :: outs, cs => by
    show ((putB as outs cs).set i c).length = _
    rw [List.length_set]
    exact putB_len as outs cs
/-- a cell behind the call: one of the callee's, or untouched -/
theorem putB_at : ∀ {as : List AV} {outs : List Cell} {cs : Cells} {f' : List (List Addr)} {F : Cell → List Addr → Prop}, Paired F outs f' → outs.length = as.length → (∀ k, k < as.length → (f'[k]?.bind List.head?) = ((refFp fps as)[k]?.bind List.head?)) → (refs as).Nodup →
    (∀ i ∈ refs as, ∃ p, fps[i]? = some [p]) → (∀ c p r, F c (p :: r) → r = []) → ∀ i c fp, (putB as outs cs)[i]? = some c → fps[i]? = some fp → (i ∈ refs as ∧ F c fp) ∨ (i ∉ refs as ∧ cs[i]? = some c)
  | [], outs, cs, f', F, p, hl, hh, nd, hr, ho, i, c, fp, h, hf => .inr ⟨(fun z => by cases z), by simpa [putB] using h⟩
  | a :: as, [], cs, f', F, p, hl, hh, nd, hr, ho, i, c, fp, h, hf => by cases hl
  | .v _ :: as, o :: outs, cs, _, F, .cons p1 p2, hl, hh, nd, hr, ho, i, c, fp, h, hf =>
    putB_at (as := as) p2 (by simpa using hl) (fun k hk => by have := hh (k + 1) (by simpa using hk); simpa [refFp] using this) nd hr ho i c fp h hf
  | .fn _ :: as, o :: outs, cs, _, F, .cons p1 p2, hl, hh, nd, hr, ho, i, c, fp, h, hf =>
    putB_at (as := as) p2 (by simpa using hl) (fun k hk => by have := hh (k + 1) (by simpa using hk); simpa [refFp] using this) nd hr ho i c fp h hf
  | .r j :: as, o :: outs, cs, fo :: f', F, .cons p1 p2, hl, hh, nd, hr, ho, i, c, fp, h, hf => by
    have h : ((putB as outs cs).set j o)[i]? = some c := h
    have nd : (j :: refs as).Nodup := nd
    obtain ⟨n1, n2⟩ := List.nodup_cons.mp nd
    by_cases hij : j = i
    · subst hij
      obtain ⟨p, hp⟩ := hr j List.mem_cons_self
      have hh0 := hh 0 (by simp)
      have e0 : (refFp fps (.r j :: as))[0]? = some [p] := by
        show some (fps[j]?.getD []) = _
        rw [hp]; rfl
      rw [e0] at hh0
      have hh0 : fo.head? = some p := hh0
      cases fo with
      | nil => cases hh0
      | cons q r =>
        cases hh0
        have er := ho _ _ _ p1
        subst er
        rw [hp] at hf
        cases hf
        have : c = o := by
          by_cases hlt : j < (putB as outs cs).length
          · rw [List.getElem?_set_self hlt] at h; cases h; rfl
          · rw [List.getElem?_eq_none (by rw [List.length_set]; omega)] at h; cases h
        subst this
        exact .inl ⟨List.mem_cons_self, p1⟩
    · rw [List.getElem?_set_ne hij] at h
      rcases putB_at (as := as) p2 (by simpa using hl) (fun k hk => by have := hh (k + 1) (by simpa using hk); simpa [refFp] using this) n2 (fun i hi => hr i (List.mem_cons_of_mem _ hi)) ho i c fp h hf with ⟨q1, q2⟩ | ⟨q1, q2⟩
      · exact .inl ⟨List.mem_cons_of_mem _ q1, q2⟩
      · exact .inr ⟨fun z => by rcases List.mem_cons.mp z with z | z; exact hij z.symm; exact q1 z, q2⟩
theorem CellR.stay {c : Cell} {fp : List Addr} {n : Nat} {f0 f1 : List (List Addr)} (x : Ext n f0 Hf H f1 Hf1 H1) (h : CellR X.prog X.w X.K Hf H c fp) (hd : ∀ b ∈ fp, b ∉ f0.flatten) : CellR X.prog X.w X.K Hf1 H1 c fp := by
  cases c with
  | dead => exact h
  | lst ds =>
    obtain ⟨a, xs, e, h1, h2, r⟩ := h
    obtain ⟨q1, q2, q3⟩ := x.stay h1 (hd a (by rw [e]; simp)) h2
    exact ⟨a, xs, e, q1, q3, r.mono x.mono⟩
  | dic kvs =>
    obtain ⟨a, es, e, h1, h2, r1, r2, k⟩ := h
    obtain ⟨q1, q2, q3⟩ := x.stay h1 (hd a (by rw [e]; simp)) h2
    exact ⟨a, es, e, q1, q3, r1.mono x.mono, r2.mono x.mono, k⟩
theorem refs_fp (R : RelX X sl cs σ Hf H fps) : ∀ {as : List AV} {args : List Arg}, argsOf sl cs as = some args → ∀ i ∈ refs as, ∃ p, fps[i]? = some [p]
  | [], _, _, i, hi => by cases hi
  | a :: as, args, e, i, hi => by
    have e : (argOf sl cs a).bind (fun x => (argsOf sl cs as).map (x :: ·)) = some args := e
    cases e1 : argOf sl cs a with
    | none => rw [e1] at e; cases e
    | some x =>
      rw [e1] at e
      obtain ⟨xs, e2, e3⟩ := Option.map_eq_some_iff.mp e
      have go := refs_fp R (as := as) e2
      cases a with
      | v d => exact go i hi
      | fn y => exact go i hi
      | r j =>
        rcases List.mem_cons.mp (show i ∈ j :: refs as from hi) with z | z
        · subst z
          have e1 : (match sl[i]?, cs[i]? with | some .c, some c => some (Arg.r c) | _, _ => none) = some x := e1
          cases g1 : sl[i]? with
          | none => rw [g1] at e1; cases e1
          | some s0 =>
            cases s0 with
            | un => rw [g1] at e1; cases e1
            | v d => rw [g1] at e1; cases e1
            | fn y => rw [g1] at e1; cases e1
            | c =>
              rw [g1] at e1
              cases g2 : cs[i]? with
              | none => rw [g2] at e1; cases e1
              | some c =>
                obtain ⟨p, r, h1, h2⟩ := R.slots i .c g1
                obtain ⟨fp, h3, h4⟩ := paired_at R.cells g2
                rw [h1] at h3
                cases h3
                have er := h4.one
                subst er
                exact ⟨p, h1⟩
        · exact go i z
/-- behind the call -/
theorem Rel.called {as : List AV} {args : List Arg} {outs : List Cell} {f' : List (List Addr)} {n : Nat} (R : RelX X sl cs σ Hf H fps) (ha : argsOf sl cs as = some args) (hn : n = as.length) (nd : (refs as).Nodup)
    (x : Ext n (refFp fps as) Hf H f' Hf1 H1) (sub : Same Hf1 H1) (pc : Paired (CellR X.prog X.w X.K Hf1 H1) outs f') (ho : outs.length = as.length) : RelX X sl (putB as outs cs) σ Hf1 H1 fps ∧ Ext m fps Hf H fps Hf1 H1 := by
  have rf := refs_fp R ha
  have sb : ∀ b ∈ (refFp fps as).flatten, b ∈ fps.flatten := fun b hb => by
    obtain ⟨i, _, fp, e, h⟩ := mem_refFp hb
    exact List.mem_flatten.mpr ⟨fp, List.mem_of_getElem? e, h⟩
  refine ⟨⟨sub, ?_, R.nd, fun i s e => ?_, R.len, by rw [putB_len]; exact R.clen⟩, ⟨x.mono, fun b e e' => (x.fresh b e e').imp_right (sb b), fun b o e hb => x.keep b o e fun z => hb (sb b z), x.there, fun b hb => .inl hb, fun _ _ => rfl⟩⟩
  · refine paired_point (by rw [putB_len]; exact paired_len R.cells) fun i c fp h1 h2 => ?_
    rcases putB_at (fps := fps) pc ho (fun k hk => x.fix k (by omega)) nd rf (fun c p r h => CellR.one h) i c fp h1 h2 with ⟨q1, q2⟩ | ⟨q1, q2⟩
    · exact q2
    · obtain ⟨fp', e1, e2⟩ := paired_at R.cells q2
      rw [h2] at e1
      cases e1
      refine e2.stay x fun b hb z => ?_
      obtain ⟨j, hj, fq, e3, hq⟩ := mem_refFp z
      exact q1 (by rw [disj_at R.nd h2 e3 hb hq]; exact hj)
  · have q := R.slots i s e
    cases s with
    | un => trivial
    | v d => exact SlotR.mono x.mono q
    | fn x => exact q
    | c => exact q
theorem refFp_len : ∀ as : List AV, (refFp fps as).length = as.length
  | [] => rfl
  | .v _ :: as => congrArg (· + 1) (refFp_len as)
  | .fn _ :: as => congrArg (· + 1) (refFp_len as)
  | .r _ :: as => congrArg (· + 1) (refFp_len as)
theorem rd_call {F : FM} {eas : AM} {n : Nat} {Q : VK} (h : RD X W m (callE n F eas) σ H Q) : RDA X W m eas σ H fun vs H1 => spF X.prog X.w X.K X.mg n F vs H1 Q (WE W σ) := by
  obtain ⟨sl, cs, fps, Hf, R, h⟩ := h
  refine ⟨sl, cs, fps, Hf, R, ?_⟩
  unfold callE at h
  cases he : eas sl cs with
  | st => rw [he] at h; exact h
  | ex c cs' => rw [he] at h; exact h
  | ok as cs1 =>
    rw [he] at h
    intro vs f1 A1 H1 x1 R1 rv
    have h : Run X W m σ sl f1 A1 H1 (match argsOf sl cs1 as with
      | some args => if as.length = n ∧ (refs as).Nodup then (match F args with
        | .ok d outs => if outs.length = as.length then .ok d (putB as outs cs1) else .st
        | .ex c outs => if outs.length = as.length then .ex c (putB as outs cs1) else .st
        | .st => .st) else .st
      | none => .st) Q := Run.after x1 h
    cases ha : argsOf sl cs1 as with
    | none => rw [ha] at h; exact h.elim
    | some args =>
      rw [ha] at h
      have h : Run X W m σ sl f1 A1 H1 (if as.length = n ∧ (refs as).Nodup then (match F args with
        | .ok d outs => if outs.length = as.length then .ok d (putB as outs cs1) else .st
        | .ex c outs => if outs.length = as.length then .ex c (putB as outs cs1) else .st
        | .st => .st) else .st) Q := h
      by_cases nd : as.length = n ∧ (refs as).Nodup
      · rw [if_pos nd] at h
        obtain ⟨hn', nd⟩ := nd
        obtain ⟨q1, q2⟩ := args_of R1 rv ha
        refine ⟨args, refFp f1 as, A1, R1.sub, q1, nodup_refFp R1.nd nd, by omega, ?_⟩
        cases hr : F args with
        | st => rw [hr] at h; exact h
        | ok d outs =>
          rw [hr] at h
          intro v f' A2 H2 x2 S2 pc nd2 r
          have h : Run X W m σ sl f1 A1 H1 (if outs.length = as.length then .ok d (putB as outs cs1) else .st) Q := h
          by_cases hl : outs.length = as.length
          · rw [if_pos hl] at h
            obtain ⟨g1, g2⟩ := R1.called (m := m) ha hn'.symm nd x2 S2 pc hl
            exact h v f1 A2 H2 g2 g1 r
          · rw [if_neg hl] at h; exact h.elim
        | ex c outs =>
          rw [hr] at h
          intro f' A2 H2 x2 S2 pc nd2 C hC
          have h : Run X W m σ sl f1 A1 H1 (if outs.length = as.length then .ex c (putB as outs cs1) else .st) Q := h
          by_cases hl : outs.length = as.length
          · rw [if_pos hl] at h
            obtain ⟨g1, g2⟩ := R1.called (m := m) ha hn'.symm nd x2 S2 pc hl
            exact h f1 A2 H2 g2 g1 C hC
          · rw [if_neg hl] at h; exact h.elim
      · rw [if_neg nd] at h; exact h.elim
end
end SS
namespace SS
open PySem PySem.Spec L2
open PyProof.Rows (envOfC)
/-- a cell handed on -/
def consR (i : Nat) (r : AM) : AM := fun sl cs => match sl[i]? with
  | some .c => (match r sl cs with
    | .ok as cs2 => .ok (.r i :: as) cs2
    | .ex c cs2 => .ex c cs2
    | .st => .st)
  | _ => .st
/-- a def handed on -/
def consFn (x : Str) (r : AM) : AM := fun sl cs => match r sl cs with
  | .ok as cs2 => .ok (.fn x :: as) cs2
  | .ex c cs2 => .ex c cs2
  | .st => .st
def revD : D → Option D
  | .list xs => some (.list xs.reverse)
  | .tuple xs => some (.tuple xs.reverse)
  | _ => none
/-- an own exception class as the written part has it -/
structure ExcC (K : PySem.W.Frag) (mg : Str → Option Value) (c : Exc) : Prop where
  ex : ∃ C, mg c.name = some (.ref C) ∧ PySem.W.excIn K C [.type "ValueError", .type "Exception", .type "BaseException", .type "object"] "ValueError.__new__" = true ∧ PySem.W.keepIn K (.ref C) = true ∧ PySem.W.subIn K (.ref C) (.type "BaseException") = some true ∧ PySem.W.typeIn K (.ref C) = some (.type "type")
section
variable {X : Cx} {W : WX} {m : Nat} {σ : L2.St} {sl : Slots} {cs : Cells} {fps fps1 : List (List Addr)} {Hf H Hf1 H1 : Hp}
variable {a b : Expr} {ea eb : EM} {pos : Pos} {s t : SM} {st : Stmt} {rest : List Stmt}
theorem pad_ref (i : Nat) {x : Str} {p : Pos} {xs : List Expr} {r : AM} (hr : PAD X W m xs r) (hv : PE X (.Name x p) (tVar i) := by exact pv _) (hs : starEach (.Name x p :: xs) X.env = (false, eval (.Name x p) X.env) :: starEach xs X.env := by rfl) : PAD X W m (.Name x p :: xs) (consR i r) := by
  refine ⟨(pa_cons hv hr.pa hs).imp fun σ H Q ⟨sl, cs, fps, Hf, R, h⟩ => ?_⟩
  unfold consR at h
  cases hs0 : sl[i]? with
  | none => rw [hs0] at h; exact h.elim
  | some s0 =>
    cases s0 with
    | un => rw [hs0] at h; exact h.elim
    | v d => rw [hs0] at h; exact h.elim
    | fn x => rw [hs0] at h; exact h.elim
    | c =>
      rw [hs0] at h
      obtain ⟨p, hp⟩ := R.cellA hs0
      refine ⟨.ref p, hp, sl, cs, fps, Hf, R, ?_⟩
      have h : RunA X W m σ sl fps Hf H (match r sl cs with | .ok as cs2 => .ok (.r i :: as) cs2 | .ex c cs2 => .ex c cs2 | .st => .st) Q := h
      cases he : r sl cs with
      | st => rw [he] at h; exact h
      | ex c cs' => rw [he] at h; exact h
      | ok as cs2 =>
        rw [he] at h
        intro vs f A B x R1 rv
        exact h (.ref p :: vs) f A B x R1 (.cons (.r hp) rv)
theorem pad_fn {x : Str} {p : Pos} {xs : List Expr} {r : AM} (hf : ∃ f, X.mg x = some (.ref f)) (hr : PAD X W m xs r) (hg : Gl X x := by rfl) (hd : (x == ("__debug__" : Str)) = false := by decide)
    (hs : starEach (.Name x p :: xs) X.env = (false, eval (.Name x p) X.env) :: starEach xs X.env := by rfl) : PAD X W m (.Name x p :: xs) (consFn x r) := by
  obtain ⟨f, hf⟩ := hf
  refine ⟨(pa_cons (pe_glob hg hf (v := .ref f) rfl hd) hr.pa hs).imp fun σ H Q ⟨sl, cs, fps, Hf, R, h⟩ => ?_⟩
  refine ⟨sl, cs, fps, Hf, R, ?_⟩
  unfold consFn at h
  cases he : r sl cs with
  | st => rw [he] at h; exact h
  | ex c cs' => rw [he] at h; exact h
  | ok as cs2 =>
    rw [he] at h
    intro vs g A B x R1 rv
    exact h (.ref f :: vs) g A B x R1 (.cons (.fn hf) rv)
theorem ped_call {x : Str} {p : Pos} {e1 : Expr} {es : List Expr} {eas : AM} {k n : Nat} {ps : List Str} {F : FM} (c : Cal X.prog X.w X.K X.mg x k ps F) (hr : Room k X.A) (tk : Takes X W) (ha : PAD X W m (e1 :: es) eas) (hn : ps.length = n := by rfl)
    (hg : Gl X x := by rfl) (hdb : (x == ("__debug__" : Str)) = false := by decide) (he : starEach (e1 :: es) X.env = (false, eval e1 X.env) :: starEach es X.env := by rfl) (hpl : (backTo pos (starEach es X.env)).any (·.1) = false := by rfl) :
    PED X W m (.Call (.Name x p) (e1 :: es) [] pos) (callE n F eas) := by
  subst hn
  obtain ⟨f, fd, hm, hF, hk, hb⟩ := c.ex
  exact ⟨(pe_callS (hF X.base) hr hg hm hk hb (E := WE W) (passAt tk) ha.pa hdb he hpl).imp fun σ H Q h => rd_call h⟩
theorem ped_call0 {x : Str} {p : Pos} {k : Nat} {F : FM} (c : Cal X.prog X.w X.K X.mg x k [] F) (hr : Room k X.A) (tk : Takes X W) (hg : Gl X x := by rfl) (hdb : (x == ("__debug__" : Str)) = false := by decide) :
    PED X W m (.Call (.Name x p) [] [] pos) (callE 0 F nilA) := by
  obtain ⟨f, fd, hm, hF, hk, hb⟩ := c.ex
  refine ⟨⟨fun pins s σ H Q I h => ?_⟩⟩
  have h := rd_call (n := 0) h
  obtain ⟨sl, cs, fps, Hf, R, h⟩ := h
  have h := h [] fps Hf H (Ext.refl ..) R .nil
  refine wpAny_Call_Name_kw (ld_glob I hg hm ?_ hdb)
  exact PySem.W.callWith_K0 I.kIn hk (run_fnS (us := []) (vs := []) (E := WE W) (hF X.base) hr hb (passAt tk σ) I .nil h)
/-! ### raise -/
theorem pmk_own0 {C : Addr} {bmB : List Value} {B newId initId : String} {x : Str} {p pos : Pos} (F : ExcBaseFacts B newId initId bmB) (q : PySem.W.excIn X.K C bmB newId = true) (gC : X.mg x = some (.ref C))
    (kC : PySem.W.keepIn X.K (.ref C) = true) (r : Raises X (.ref C)) (hg : Gl X x) (hdb : (x == ("__debug__" : Str)) = false := by decide) :
    PMk X (.Call (.Name x p) [] [] pos) (fun σ H Q => Q (.ref C) none H) := by
  intro pins s σ H Q I h
  refine wpAny_Call_Name_kw (ld_glob I hg gC ?_ hdb)
  refine PySem.W.callWith_K0 I.kIn kC ?_
  obtain ⟨bm, N, nm, qn, bs, hdct, sn, sub, ab, col, dd, k0, k1, k2, k3, k5, mN, hC, hN, hni, T⟩ := exc_obj I.kIn q
  exact wpAny_call_exc_subT F T hC hN hni (fun h' e hm => mk_of I hm r h (I.hok.gone hm.new)) (Nat.zero_le _)
theorem psd_raise {p p2 : Pos} {x : Str} (c : Exc) (hx : x = c.name) (hc : X.calm = true) (tk : Takes X W) (T : ExcC X.K X.mg c) (hg : Gl X x := by rfl) (hdb : (x == ("__debug__" : Str)) = false := by decide) :
    PSD X W m (.Raise (some (.Call (.Name x p) [] [] p2)) none pos) (raiseS c) := by
  subst hx
  obtain ⟨C, hm, h1, h2, h3, h4⟩ := T.ex
  refine ⟨(ps_raise hc tk (pmk_own0 PySem.F.excBase_ValueError h1 hm h2 (raises_own h3 h4) hg hdb)).imp fun σ H E ⟨sl, cs, fps, Hf, R, h⟩ => ?_⟩
  exact h σ fps Hf H (Ext.refl ..) R.sub R.cells R.nd C hm
end
end SS
namespace SS
open PySem PySem.Spec L2
open PyProof.Rows
/-! ### t[::-1] -/
section
variable {prog : Program} {w : World} {A : Around} {E : Value → Shared → Prop} {s : Shared}
theorem sliceBack {sl : Addr} {vl vu vs : Value} {n : Nat} {Q : Int × Int × Nat → Shared → Prop} (hs : s.heap.IsSliceOf sl vl vu vs) (pl : IsPart vl none) (pu : IsPart vu none) (ps : IsPart vs (some (-1)))
    (h : Q ((n : Int) - 1, -1, n) s) : wpAny (model prog w) A (Builtin.Slice.sliceApplied (.ref sl) (pure (n : Int))) Q E s := by
  obtain ⟨os, hos, hcs, hds⟩ := id hs
  unfold Builtin.Slice.sliceApplied Builtin.Slice.sliceFields
  refine wpAny_bind (wpAny_bind (wpAny_field hos hds (x := vl) rfl (wpAny_bind (wpAny_field hos hds (x := vu) rfl (wpAny_bind (wpAny_field hos hds (x := vs) rfl (wpAny_pure ?_)))))))
  refine wpAny_bind (HT.slicePart_ ps ?_)
  show wpAny _ _ (if ((-1 : Int) == 0) = true then _ else _) _ _ s
  rw [if_neg (by decide)]
  refine wpAny_bind (HT.slicePart_ pl (wpAny_bind (HT.slicePart_ pu (wpAny_bind (wpAny_pure ?_)))))
  have e1 : Builtin.Slice.sliceAdjust none none (-1) (n : Int) = ((n : Int) - 1, -1) := rfl
  have e2 : Builtin.Slice.slicePlaces ((n : Int) - 1) (-1) (-1) = n := by
    unfold Builtin.Slice.slicePlaces
    rw [if_neg (by decide)]
    have e3 : (-(-1) : Int) = 1 := by decide
    rw [e3, Int.ediv_one]
    split <;> omega
  show wpAny _ _ (match Builtin.Slice.sliceAdjust none none (-1) (n : Int) with | (lo, hi) => pure (lo, (-1 : Int), Builtin.Slice.slicePlaces lo hi (-1))) _ _ s
  rw [e1]
  show wpAny _ _ (pure ((n : Int) - 1, (-1 : Int), Builtin.Slice.slicePlaces ((n : Int) - 1) (-1) (-1))) _ _ s
  rw [e2]
  exact wpAny_pure h
theorem fm_some {α β : Type} {f : α → Option β} {g : α → β} : ∀ {l : List α}, (∀ k ∈ l, f k = some (g k)) → l.filterMap f = l.map g
  | [], _ => rfl
  | x :: l, h => by
    rw [List.filterMap_cons, h x List.mem_cons_self, List.map_cons]
    exact congrArg _ (fm_some fun k hk => h k (List.mem_cons_of_mem _ hk))
theorem pick_back (xs : Array Value) : ((List.range xs.size).filterMap fun (k : Nat) => xs[(((xs.size : Int) - 1) + (k : Int) * (-1)).toNat]?) = xs.toList.reverse := by
  refine List.ext_getElem? fun i => ?_
  have e : ((List.range xs.size).filterMap fun (k : Nat) => xs[(((xs.size : Int) - 1) + (k : Int) * (-1)).toNat]?) = (List.range xs.size).map fun (k : Nat) => xs[xs.size - 1 - k]?.getD .none := by
    refine fm_some fun k hk => ?_
    rw [List.mem_range] at hk
    have e1 : (((xs.size : Int) - 1) + (k : Int) * (-1)).toNat = xs.size - 1 - k := by omega
    rw [e1]
    have : xs.size - 1 - k < xs.size := by omega
    simp [this]
  rw [e]
  by_cases hi : i < xs.size
  · rw [List.getElem?_map, List.getElem?_range hi, List.getElem?_reverse (by simpa using hi)]
    have h2 : xs.size - 1 - i < xs.size := by omega
    simp [h2]
  · rw [List.getElem?_eq_none (by simpa using hi), List.getElem?_eq_none (by simpa using hi)]
theorem getItem_back {t sl : Addr} {items : Array Value} {vl vu vs : Value} {Q : Value → Shared → Prop} (ht : IsTup s.heap t items) (hs : s.heap.IsSliceOf sl vl vu vs) (pl : IsPart vl none) (pu : IsPart vu none) (ps : IsPart vs (some (-1)))
    (h : Q (.ref s.heap.objs.size) { s with heap := s.heap.push { cls := .type "tuple", data := .seq items.toList.reverse.toArray } })
    (hsz : items.size ≤ sizeLine) : wpAny (model prog w) A (getItem (.ref t) (.ref sl)) Q E s := by
  have htake : sizeOk (.seq items.toList.reverse.toArray) := by
    show items.toList.reverse.toArray.size ≤ sizeLine
    simpa using hsz
  obtain ⟨os, hos, hcs, hds⟩ := id hs
  have hTs : s.TypeIs (.ref sl) "slice" := ⟨os, hos, hcs⟩
  unfold getItem
  try with_reducible refine wpAny_holding ?_
  first | refine wpAny_bind (wpAny_pure ?_) | skip
  refine wpAny_bind (wpAny_sequenceKey ht.typeIs (by decide) ?_)
  refine wpAny_bind (wpAny_callSpecial?_slot (name := Str.ofString "__getitem__") ht.typeIs PyProof.Rows.slot_tuple_getitem
    (wpAny_call_entry PyProof.Rows.slot_tuple_getitem ht.typeIs entry_tuple_getitem ?_ (args_tuple_getitem _ _)))
  show wpAny _ _ (Builtin.Tuple.tupleItemsOf (.ref t) >>= _) _ _ s
  refine wpAny_bind (tupleItemsOf_ ht ?_)
  refine wpAny_bind (wpAny_typeOf hTs ?_)
  rw [if_pos (by decide)]
  refine wpAny_bind (sliceBack hs pl pu ps ?_)
  show wpAny _ _ (if (((items.size : Int) - 1) == 0 && (-1 : Int) == 1 && items.size == items.size) = true then _ else _) _ _ s
  rw [if_neg (by simp), pick_back]
  first
    | exact wpAny_bind (m := Builtin.Tuple.tupleExact _) (wpAny_newObj_type (wpAny_pure ⟨_, rfl, wpAny_pure h⟩) htake)
    | exact wpAny_bind (m := Builtin.Tuple.tupleExact _) (wpAny_newObj_type (wpAny_bind (wpAny_pure (wpAny_pure ⟨_, rfl, wpAny_pure h⟩))) htake)
    | exact wpAny_bind (wpAny_bind (m := Builtin.Tuple.tupleExact _) (wpAny_newObj_type (wpAny_pure (wpAny_pure ⟨_, rfl, wpAny_pure h⟩)) htake))
    | exact wpAny_bind (wpAny_bind (m := Builtin.Tuple.tupleExact _) (wpAny_newObj_type (wpAny_pure ⟨_, rfl, wpAny_pure h⟩) htake))
end
section
variable {X : Cx} {W : WX} {m : Nat} {σ : L2.St} {sl : Slots} {cs : Cells} {fps fps1 : List (List Addr)} {Hf H Hf1 H1 : Hp}
variable {a b : Expr} {ea eb : EM} {pos : Pos} {s t : SM} {st : Stmt} {rest : List Stmt}
def tRevA (K : PySem.W.Frag) (te : TE) : TE := fun σ H Q => te σ H fun x H1 => ∃ a xs, x = .ref a ∧ ((SqL K H1 a xs ∧ ∀ p, H1 p = none → Q (.ref p) (upd H1 p (.lst xs.reverse))) ∨ (SqT K H1 a xs ∧ ∀ p, H1 p = none → Q (.ref p) (upd H1 p (.tup xs.reverse))))
theorem pe_revA {e : Expr} {te : TE} {k : Nat} {p1 p2 p3 pos : Pos} (he : PE X e te) : PE X (.Subscript e (.Slice none none (some (.UnaryOp .USub (.Constant (.int 1) k p1) p2)) p3) pos) (tRevA X.K te) := by
  refine ⟨fun pins s σ H Q I h => ?_⟩
  refine Subscript_ (thn (he.run pins s σ H _ I h) fun v s1 ⟨x, H1, I1, r1, q1⟩ => ?_)
  obtain ⟨a, xs, ex, q⟩ := q1
  subst ex
  cases r1
  have hst : PO X (some (.UnaryOp .USub (.Constant (.int 1) k p1) p2)) (tPart (tUn (rU fun i => .int (-i)) (tC (.int 1)))) := po_some (pe_un un_neg pe_int)
  refine wpAny_Slice (thn (po_none.run pins s1 σ H1 (fun o H2 => o = none ∧ H2 = H1) I1 ⟨rfl, rfl⟩) fun vl s2 ⟨l, H2, I2, pl, el, e2⟩ => ?_)
  subst el e2
  refine thn (po_none.run pins s2 σ H2 (fun o H3 => o = none ∧ H3 = H2) I2 ⟨rfl, rfl⟩) fun vu s3 ⟨u, H3, I3, pu, eu, e3⟩ => ?_
  subst eu e3
  refine thn (hst.run pins s3 σ H3 (fun o H4 => o = some (-1) ∧ H4 = H3) I3 ⟨1, rfl, -1, rfl, rfl, rfl⟩) fun vs s4 ⟨o, H4, I4, ps, eo, e4⟩ => ?_
  subst eo e4
  have I5 : Inv X pins σ H4 { s4 with heap := s4.heap.push { cls := .type "slice", data := .fields #[vl, vu, vs] } } := I4.kept (t' := s4.toks) fun b ob q => Heap.get?_push_of_some _ q
  rcases q with ⟨hx, q⟩ | ⟨hx, q⟩
  · obtain ⟨its, r, ht, hz⟩ := I5.list hx
    have hlen := r.length
    show wpAny (model X.prog X.w) X.A (subscriptTail e (.Slice none none (some (.UnaryOp .USub (.Constant (.int 1) k p1) p2)) p3) (.ref a) (.ref s4.heap.objs.size)) (EP X pins σ Q) X.xe { s4 with heap := s4.heap.push { cls := .type "slice", data := .fields #[vl, vu, vs] } }
    refine tail_any (ops := [.ref a, .ref s4.heap.objs.size]) ht.isList.typeIs (PySem.slot_list_getitem.lookup) ?_ (by with_unfolding_all rfl)
    refine wpAny_getItem_list_slice ht.isList (Heap.IsSliceOf.new _ vl vu vs) pl pu ps (by decide) ?_ (by rw [List.size_toArray]; omega)
    rw [PySem.W.krv_pick]
    refine ⟨.ref _, _, I5.laid (t' := s4.toks) (o := .lst xs.reverse) (fun b ob q => Heap.get?_push_of_some _ q) (Nat.le_refl _) ?_, rfl, q _ (I5.hok.fresh (Nat.le_refl _))⟩
    exact ⟨by rw [List.length_reverse]; exact hz, _, 0, r.reverse, Heap.get?_push_size _ rfl⟩
  · obtain ⟨its, r, ht, hz⟩ := I5.tuple hx
    have hlen := r.length
    show wpAny (model X.prog X.w) X.A (subscriptTail e (.Slice none none (some (.UnaryOp .USub (.Constant (.int 1) k p1) p2)) p3) (.ref a) (.ref s4.heap.objs.size)) (EP X pins σ Q) X.xe { s4 with heap := s4.heap.push { cls := .type "slice", data := .fields #[vl, vu, vs] } }
    refine tail_any (ops := [.ref a, .ref s4.heap.objs.size]) ht.typeIs (PyProof.Rows.slot_tuple_getitem.lookup) ?_ (by with_unfolding_all rfl)
    refine getItem_back ht (Heap.IsSliceOf.new _ vl vu vs) pl pu ps ?_ (by rw [List.size_toArray, ← hlen]; exact hz)
    refine ⟨.ref _, _, I5.laid (t' := s4.toks) (o := .tup xs.reverse) (fun b ob q => Heap.get?_push_of_some _ q) (Nat.le_refl _) ?_, rfl, q _ (I5.hok.fresh (Nat.le_refl _))⟩
    exact ⟨by rw [List.length_reverse]; exact hz, _, r.reverse, IsTup.new _ _⟩
theorem ped_rev {e : Expr} {ee : EM} {k : Nat} {p1 p2 p3 pos : Pos} (ha : PED X W m e ee) : PED X W m (.Subscript e (.Slice none none (some (.UnaryOp .USub (.Constant (.int 1) k p1) p2)) p3) pos) (op1 revD ee) := by
  refine ⟨(pe_revA ha.pe).imp fun σ H Q ⟨sl, cs, fps, Hf, R, h⟩ => ?_⟩
  refine rd_seq R h fun d1 cs1 x fps1 Hf1 H1 X1 R1 r1 h1 => ?_
  obtain ⟨d, e, q⟩ := run_lift R1 h1
  unfold revD at e
  split at e
  · cases e
    cases r1 with
    | @lst _ xs _ g1 ra =>
      refine ⟨_, xs, rfl, .inl ⟨SqB.l (sqb_mono R1.sub g1), fun p hp => ?_⟩⟩
      have al := Alloc.new R1.sub (.lst xs.reverse) hp
      exact q _ _ _ al (.lst (.inl (.inl upd_same)) (ra.reverse.mono al.mono))
  · cases e
    cases r1 with
    | @tup _ xs _ g1 ra =>
      refine ⟨_, xs, rfl, .inr ⟨seqT_mono R1.sub g1, fun p hp => ?_⟩⟩
      have al := Alloc.new R1.sub (.tup xs.reverse) hp
      exact q _ _ _ al (.tup (SqT.of upd_same) (ra.reverse.mono al.mono))
  · cases e
end
end SS
namespace SS
open PySem PySem.Spec L2
/-! ### comprehensions of two clauses -/
def lcLoop2 (b : BM) (t : EM) (it1 : IM) (vs1 : List Nat) (b1 : BM) (t1 e : EM) (sl : Slots) : List D → List D → Cells → Res (List D)
  | [], acc, cs => .ok acc cs
  | d :: ds, acc, cs => match b d sl with
    | none => .st
    | some sl1 => match t sl1 cs with
      | .ok (.bool true) cs1 => (match it1 sl1 cs1 with
        | .ok ds1 cs2 => (match lcLoop b1 t1 e (wipeS sl1 vs1) ds1 acc cs2 with
          | .ok acc2 cs3 => lcLoop2 b t it1 vs1 b1 t1 e sl ds acc2 cs3
          | _ => .st)
        | _ => .st)
      | .ok (.bool false) cs1 => lcLoop2 b t it1 vs1 b1 t1 e sl ds acc cs1
      | _ => .st
def lcG2 (b : BM) (vs : List Nat) (it : IM) (t : EM) (it1 : IM) (vs1 : List Nat) (b1 : BM) (t1 e : EM) : IM := fun sl cs => if vs.all (notCell sl) then (match it sl cs with
  | .ok ds cs1 => lcLoop2 b t it1 vs1 b1 t1 e (wipeS sl vs) ds [] cs1
  | .ex c cs' => .ex c cs'
  | .st => .st) else .st
section
variable {X : Cx} {W : WX} {m : Nat} {σ : L2.St} {sl : Slots} {cs : Cells} {fps fps1 : List (List Addr)} {Hf H Hf1 H1 : Hp}
variable {a b : Expr} {ea eb : EM} {pos : Pos} {s t : SM} {st : Stmt} {rest : List Stmt}
theorem lcLoop2_ne {bm : BM} {et : EM} {it1 : IM} {vs1 : List Nat} {bm1 : BM} {et1 ee : EM} {sl : Slots} : ∀ {ds acc : List D} {cs cs' : Cells} {c : Exc}, lcLoop2 bm et it1 vs1 bm1 et1 ee sl ds acc cs ≠ .ex c cs'
  | [], _, _, _, _, h => by cases h
  | d :: ds, acc, cs, cs', c, h => by
    unfold lcLoop2 at h
    split at h
    · cases h
    · split at h
      · split at h
        · split at h
          · exact lcLoop2_ne h
          · cases h
        · cases h
      · exact lcLoop2_ne h
      · cases h
theorem rf_lc2 {bm bm1 : BM} {vs vs1 ws ws1 : List Nat} {it it1 : IM} {et et1 ee : EM} {Q : VK} (hw : ∀ j ∈ ws, j ∈ vs) (hw1 : ∀ j ∈ ws1, j ∈ vs1) (hv1 : ∀ j ∈ vs1, j ∈ vs) (hch : ∀ d sl sl1, bm d sl = some sl1 → ∀ j, j ∉ ws → sl1[j]? = sl[j]?)
    (hch1 : ∀ d sl sl1, bm1 d sl = some sl1 → ∀ j, j ∉ ws1 → sl1[j]? = sl[j]?) (h : RF X W m (lcG2 bm vs it et it1 vs1 bm1 et1 ee) σ H Q) :
    tLc2 (RDI X W m it) (GD X bm ws) (RDT X W0 m et) (RDI X W0 m it1) (GD X bm1 ws1) (RDT X W0 m et1) (RD X W0 m ee) vs vs1 σ H Q := by
  obtain ⟨sl, cs, fps, Hf, R, h⟩ := h
  refine ⟨sl, cs, fps, Hf, R, ?_⟩
  unfold lcG2 at h
  rcases Classical.em (vs.all (notCell sl) = true) with hv | hv
  rotate_left
  · rw [if_neg hv] at h; exact h.elim
  rw [if_pos hv] at h
  cases he : it sl cs with
  | st => rw [he] at h; exact h
  | ex c cs' => rw [he] at h; exact h
  | ok ds cs1 =>
    rw [he] at h
    intro J f0 A0 B0 X0 R0 J0 D hD
    have h : RunF X W m σ sl fps Hf H (lcLoop2 bm et it1 vs1 bm1 et1 ee (wipeS sl vs) ds [] cs1) Q := h
    have hD0 : H D = none := X0.there D hD
    have hDA : A0 D = none := by
      cases e : A0 D with
      | none => rfl
      | some o => have := R0.sub D o e; rw [hD] at this; cases this
    have hDf : D ∉ f0.flatten := fun z => (cell_addr R0.cells D z).1 hD
    cases hl : lcLoop2 bm et it1 vs1 bm1 et1 ee (wipeS sl vs) ds [] cs1 with
    | st => rw [hl] at h; exact h.elim
    | ex c cs' => exact absurd hl lcLoop2_ne
    | ok es csE =>
      rw [hl] at h
      refine ⟨fun i k H' => k = ds.length - i ∧ i ≤ ds.length ∧ ∃ cs' fps' Hf' xs acc, Ext m f0 A0 B0 fps' Hf' H' ∧ RelX X (wipeS sl vs) cs' (L2.wipe σ vs) Hf' H' fps' ∧ H' D = some (.lst xs) ∧ Hf' D = none ∧ D ∉ fps'.flatten ∧ RpAllX X Hf' xs acc ∧
          lcLoop2 bm et it1 vs1 bm1 et1 ee (wipeS sl vs) (ds.drop i) acc cs' = .ok es csE,
        ⟨ds.length, by simp, Nat.zero_le _, cs1, f0, A0, [], [], (Ext.refl ..).out hD, (R0.wipe vs).out hDf hDA _, upd_same, hDA, hDf, .nil, by simpa using hl⟩, ?_⟩
      rintro i k H' ⟨rfl, hi, cs', fps', Hf', xs, acc, x, R1, hDH, hDn, hDp, racc, e⟩
      obtain ⟨go, stop⟩ := J0 i Hf' H' x.mono R1.sub
      by_cases hlt : i < ds.length
      · have hd : ds[i]? = some ds[i] := by simp [hlt]
        obtain ⟨g1, g2⟩ := go _ hd
        rw [List.drop_eq_getElem_cons hlt] at e
        unfold lcLoop2 at e
        refine .inr ⟨g1, fun H' => ∃ cs' fps' Hf' xs acc, Ext m f0 A0 B0 fps' Hf' H' ∧ RelX X (wipeS sl vs) cs' (L2.wipe σ vs) Hf' H' fps' ∧ H' D = some (.lst xs) ∧ Hf' D = none ∧ D ∉ fps'.flatten ∧ RpAllX X Hf' xs acc ∧
            lcLoop2 bm et it1 vs1 bm1 et1 ee (wipeS sl vs) (ds.drop (i + 1)) acc cs' = .ok es csE, fun H2 q => ⟨ds.length - (i + 1), by omega, rfl, hlt, q⟩, fun v H2 y => ?_⟩
        obtain ⟨A2, al, rv⟩ := g2 v H2 y
        have x2 := x.trans (al.ext (m := m) (fps := fps'))
        have R2 := R1.alloc al
        obtain ⟨hDH2, hDp2, hDn2⟩ := (al.ext (m := m) (fps := fps')).stay hDH hDp hDn
        cases e1 : bm ds[i] (wipeS sl vs) with
        | none => rw [e1] at e; cases e
        | some sl1 =>
          rw [e1] at e
          refine ⟨_, cs', fps', A2, ds[i], sl1, R2, rv, e1, fun σ' k' l' R3 => ⟨?_, sl1, cs', fps', A2, R3, ?_⟩⟩
          · have hw2 : L2.wipe (L2.wipe σ vs) vs = L2.wipe σ vs :=
              wipe_eq (σ1 := L2.wipe σ vs) (σ2 := σ) (wipe_length σ vs) (vs := vs) (ws := vs) (fun j hj => wipe_get σ vs j hj) (fun j hj => hj)
            rw [← hw2]
            exact wipe_eq l' k' hw
          · have e : (match et sl1 cs' with
                | .ok (.bool true) cs1 => (match it1 sl1 cs1 with
                  | .ok ds1 cs2 => (match lcLoop bm1 et1 ee (wipeS sl1 vs1) ds1 acc cs2 with
                    | .ok acc2 cs3 => lcLoop2 bm et it1 vs1 bm1 et1 ee (wipeS sl vs) (ds.drop (i + 1)) acc2 cs3
                    | _ => .st)
                  | _ => .st)
                | .ok (.bool false) cs1 => lcLoop2 bm et it1 vs1 bm1 et1 ee (wipeS sl vs) (ds.drop (i + 1)) acc cs1
                | _ => .st) = Res.ok es csE := e
            have back : ∀ {f3 A3 B3 cs3 sl3 σ3}, RelX X sl3 cs3 σ3 A3 B3 f3 → Same A2 A3 → (∀ j, j ∉ vs → sl3[j]? = sl1[j]?) → (∀ j, j ∉ vs → σ3[j]? = σ'[j]?) → σ3.length = σ'.length → RelX X (wipeS sl vs) cs3 (L2.wipe σ vs) A3 B3 f3 := fun {f3 A3 B3 cs3 sl3 σ3} R4 x4 hs3 hσ3 hl3 => by
              refine ⟨R4.sub, R4.cells, R4.nd, fun j s es => ?_, R2.len, ?_⟩
              · have q := R2.slots j s es
                cases s with
                | un => trivial
                | v d => exact SlotR.mono x4 q
                | fn x => exact q
                | c =>
                  have hj : j ∉ vs := fun z => by have := wipeS_un sl vs j z es; cases this
                  have hjw : j ∉ ws := fun z => hj (hw j z)
                  obtain ⟨a, r, h1, h2⟩ := R4.slots j .c ((hs3 j hj).trans ((hch _ _ _ e1 j hjw).trans es))
                  exact ⟨a, r, h1, (k' j hjw).symm.trans ((hσ3 j hj).symm.trans h2)⟩
              · rw [R4.clen, R4.len, hl3, l', ← R2.len]
            cases e2 : et sl1 cs' with
            | st => rw [e2] at e; cases e
            | ex c c2 => rw [e2] at e; cases e
            | ok d cs2 =>
              rw [e2] at e
              cases d with
              | bool b =>
                intro f3 A3 B3 x3 R4
                obtain ⟨q1, q2, q3⟩ := x3.stay hDH2 hDp2 hDn2
                cases b with
                | false =>
                  exact iteF ⟨cs2, f3, A3, xs, acc, x2.trans x3, back R4 x3.mono (fun _ _ => rfl) (fun _ _ => rfl) rfl, q1, q3, q2, racc.mono (al.mono.trans x3.mono), e⟩
                | true =>
                  refine iteT ⟨sl1, cs2, f3, A3, R4, ?_⟩
                  have e : (match it1 sl1 cs2 with
                    | .ok ds1 cs2 => (match lcLoop bm1 et1 ee (wipeS sl1 vs1) ds1 acc cs2 with
                      | .ok acc2 cs3 => lcLoop2 bm et it1 vs1 bm1 et1 ee (wipeS sl vs) (ds.drop (i + 1)) acc2 cs3
                      | _ => .st)
                    | _ => .st) = Res.ok es csE := e
                  cases e3 : it1 sl1 cs2 with
                  | st => rw [e3] at e; cases e
                  | ex c c2 => rw [e3] at e; cases e
                  | ok ds1 cs3 =>
                    rw [e3] at e
                    intro J1 f4 A4 B4 x4 R5 J4
                    obtain ⟨p1, p2, p3⟩ := x4.stay q1 q2 q3
                    have x24 := (x2.trans x3).trans x4
                    have m24 := al.mono.trans (x3.mono.trans x4.mono)
                    have e : (match lcLoop bm1 et1 ee (wipeS sl1 vs1) ds1 acc cs3 with
                      | .ok acc2 cs3 => lcLoop2 bm et it1 vs1 bm1 et1 ee (wipeS sl vs) (ds.drop (i + 1)) acc2 cs3
                      | _ => .st) = Res.ok es csE := e
                    cases e4 : lcLoop bm1 et1 ee (wipeS sl1 vs1) ds1 acc cs3 with
                    | st => rw [e4] at e; cases e
                    | ex c c2 => rw [e4] at e; cases e
                    | ok accE cs4 =>
                      rw [e4] at e
                      refine ⟨fun j k H' => k = ds1.length - j ∧ j ≤ ds1.length ∧ ∃ cs' fps' Hf' xs acc, Ext m f0 A0 B0 fps' Hf' H' ∧ Same A4 Hf' ∧ RelX X (wipeS sl1 vs1) cs' (L2.wipe σ' vs1) Hf' H' fps' ∧ H' D = some (.lst xs) ∧ Hf' D = none ∧ D ∉ fps'.flatten ∧ RpAllX X Hf' xs acc ∧
                          lcLoop bm1 et1 ee (wipeS sl1 vs1) (ds1.drop j) acc cs' = .ok accE cs4,
                        ⟨ds1.length, by simp, Nat.zero_le _, cs3, f4, A4, xs, acc, x24, Same.refl _, R5.wipe vs1, p1, p3, p2, racc.mono m24, by simpa using e4⟩, ?_⟩
                      rintro j k H' ⟨rfl, hj, cs', fps', Hf', xs, acc, x, s4, R1, hDH, hDn, hDp, racc, e5⟩
                      obtain ⟨go, stop⟩ := J4 j Hf' H' s4 R1.sub
                      by_cases hlt1 : j < ds1.length
                      · have hd : ds1[j]? = some ds1[j] := by simp [hlt1]
                        obtain ⟨g1, g2⟩ := go _ hd
                        rw [List.drop_eq_getElem_cons hlt1] at e5
                        unfold lcLoop at e5
                        refine .inr ⟨g1, fun H' => ∃ cs' fps' Hf' xs acc, Ext m f0 A0 B0 fps' Hf' H' ∧ Same A4 Hf' ∧ RelX X (wipeS sl1 vs1) cs' (L2.wipe σ' vs1) Hf' H' fps' ∧ H' D = some (.lst xs) ∧ Hf' D = none ∧ D ∉ fps'.flatten ∧ RpAllX X Hf' xs acc ∧
                            lcLoop bm1 et1 ee (wipeS sl1 vs1) (ds1.drop (j + 1)) acc cs' = .ok accE cs4, fun H2 q => ⟨ds1.length - (j + 1), by omega, rfl, hlt1, q⟩, fun v H2 y => ?_⟩
                        obtain ⟨A6, al6, rv6⟩ := g2 v H2 y
                        have x6 := x.trans (al6.ext (m := m) (fps := fps'))
                        have R6 := R1.alloc al6
                        obtain ⟨hDH6, hDp6, hDn6⟩ := (al6.ext (m := m) (fps := fps')).stay hDH hDp hDn
                        cases e6 : bm1 ds1[j] (wipeS sl1 vs1) with
                        | none => rw [e6] at e5; cases e5
                        | some sl6 =>
                          rw [e6] at e5
                          refine ⟨_, cs', fps', A6, ds1[j], sl6, R6, rv6, e6, fun σ6 k6 l6 R7 => ⟨?_, sl6, cs', fps', A6, R7, ?_⟩⟩
                          · have hw2 : L2.wipe (L2.wipe σ' vs1) vs1 = L2.wipe σ' vs1 :=
                              wipe_eq (σ1 := L2.wipe σ' vs1) (σ2 := σ') (wipe_length σ' vs1) (vs := vs1) (ws := vs1) (fun j hj => wipe_get σ' vs1 j hj) (fun j hj => hj)
                            rw [← hw2]
                            exact wipe_eq l6 k6 hw1
                          · have e5 : (match et1 sl6 cs' with | .ok (.bool true) cs1 => (match ee sl6 cs1 with | .ok x cs2 => if acc.length < 16000000 then lcLoop bm1 et1 ee (wipeS sl1 vs1) (ds1.drop (j + 1)) (acc ++ [x]) cs2 else .st | _ => .st) | .ok (.bool false) cs1 => lcLoop bm1 et1 ee (wipeS sl1 vs1) (ds1.drop (j + 1)) acc cs1 | _ => .st) = Res.ok accE cs4 := e5
                            cases e7 : et1 sl6 cs' with
                            | st => rw [e7] at e5; cases e5
                            | ex c c2 => rw [e7] at e5; cases e5
                            | ok d cs7 =>
                              rw [e7] at e5
                              have back1 : ∀ {f3 A3 B3 cs3}, RelX X sl6 cs3 σ6 A3 B3 f3 → Ext m fps' A6 H2 f3 A3 B3 → RelX X (wipeS sl1 vs1) cs3 (L2.wipe σ' vs1) A3 B3 f3 := fun {f3 A3 B3 cs3} R8 x8 => by
                                refine ⟨R8.sub, R8.cells, R8.nd, fun j s es => ?_, R6.len, ?_⟩
                                · have q := R6.slots j s es
                                  cases s with
                                  | un => trivial
                                  | v d => exact SlotR.mono x8.mono q
                                  | fn x => exact q
                                  | c =>
                                    have hj : j ∉ vs1 := fun z => by have := wipeS_un sl1 vs1 j z es; cases this
                                    have hjw : j ∉ ws1 := fun z => hj (hw1 j z)
                                    obtain ⟨a, r, h1, h2⟩ := R8.slots j .c ((hch1 _ _ _ e6 j hjw).trans es)
                                    exact ⟨a, r, h1, (k6 j hjw).symm.trans h2⟩
                                · rw [R8.clen, R8.len, l6, ← R6.len]
                              cases d with
                              | bool b =>
                                intro f8 A8 B8 x8 R8
                                cases b with
                                | false =>
                                  obtain ⟨q1, q2, q3⟩ := x8.stay hDH6 hDp6 hDn6
                                  exact iteF ⟨cs7, f8, A8, xs, acc, x6.trans x8, s4.trans (al6.mono.trans x8.mono), back1 R8 x8, q1, q3, q2, racc.mono (al6.mono.trans x8.mono), e5⟩
                                | true =>
                                  refine iteT ⟨sl6, cs7, f8, A8, R8, ?_⟩
                                  have e5 : (match ee sl6 cs7 with | .ok x cs2 => if acc.length < 16000000 then lcLoop bm1 et1 ee (wipeS sl1 vs1) (ds1.drop (j + 1)) (acc ++ [x]) cs2 else .st | _ => .st) = Res.ok accE cs4 := e5
                                  cases e8 : ee sl6 cs7 with
                                  | st => rw [e8] at e5; cases e5
                                  | ex c c2 => rw [e8] at e5; cases e5
                                  | ok d cs8 =>
                                    rw [e8] at e5
                                    intro v f9 A9 B9 x9 R9 r9
                                    have e5 : (if acc.length < 16000000 then lcLoop bm1 et1 ee (wipeS sl1 vs1) (ds1.drop (j + 1)) (acc ++ [d]) cs8 else .st) = Res.ok accE cs4 := e5
                                    by_cases hlen : acc.length < 16000000
                                    · rw [if_pos hlen] at e5
                                      have x89 := x8.trans x9
                                      obtain ⟨q1, q2, q3⟩ := x89.stay hDH6 hDp6 hDn6
                                      have rl := racc.length
                                      refine ⟨xs, q1, by rw [rl]; exact Nat.lt_of_lt_of_le hlen line64, cs8, f9, A9, xs ++ [v], acc ++ [d], (x6.trans x89).out hD, s4.trans (al6.mono.trans x89.mono), (back1 R9 x89).out q2 q3 _, upd_same, q3, q2, ?_, e5⟩
                                      exact (racc.mono (al6.mono.trans x89.mono)).append (.cons r9 .nil)
                                    · rw [if_neg hlen] at e5; cases e5
                              | _ => cases e5
                      · have ej : j = ds1.length := by omega
                        rw [ej, List.drop_length] at e5
                        cases e5
                        refine .inl ⟨stop ej, cs4, fps', Hf', xs, accE, x, back R1 ((x3.mono.trans x4.mono).trans s4) (fun j hj => ?_) (fun j hj => ?_) (wipe_length _ _), hDH, hDn, hDp, racc, e⟩
                        · exact wipeS_get sl1 vs1 j fun z => hj (hv1 j z)
                        · exact wipe_get σ' vs1 j fun z => hj (hv1 j z)
              | _ => cases e
      · have ei : i = ds.length := by omega
        rw [ei, List.drop_length] at e
        cases e
        exact .inl ⟨stop ei, h D xs fps' Hf' H' (X0.trans x) (R.unwipe hv R1 (X0.mono.trans x.mono)) hDH hDn hDp hD0 racc⟩
variable {elt tg iter tg1 iter1 : Expr} {ifs ifs1 : List Expr} {scope : Scope} {own : List (Str × Nat)} {bm bm1 : BM} {ws ws1 vs1 : List Nat} {it it1 : IM} {et et1 ee : EM}
theorem psd_setLc2 {i : Nat} {y : Str} {py spos : Pos} (own : List (Str × Nat)) (vs1 : List Nat) (hc : X.calm = true) (hN : X.N.Nodup) (hi : PID X W m tg iter it) (ok : BlkOk X.N X.env.scope scope own) (hw : ∀ j ∈ ws, j ∈ own.map (·.2)) (hw1 : ∀ j ∈ ws1, j ∈ vs1) (hv1 : ∀ j ∈ vs1, j ∈ own.map (·.2))
    (hg : ∀ (s : Shared) (H : Hp) (C : Addr) (cl : List (Str × Addr)) (fp : List Addr), PGD (X.blk s H scope (compEnvC scope cl C X.env) fp) tg bm ws)
    (ht : ∀ (s : Shared) (H : Hp) (C : Addr) (cl : List (Str × Addr)) (fp : List Addr), PTsD (X.blk s H scope (compEnvC scope cl C X.env) fp) W0 m ifs et)
    (hi1 : ∀ (s : Shared) (H : Hp) (C : Addr) (cl : List (Str × Addr)) (fp : List Addr), PID (X.blk s H scope (compEnvC scope cl C X.env) fp) W0 m tg1 iter1 it1)
    (hg1 : ∀ (s : Shared) (H : Hp) (C : Addr) (cl : List (Str × Addr)) (fp : List Addr), PGD (X.blk s H scope (compEnvC scope cl C X.env) fp) tg1 bm1 ws1)
    (ht1 : ∀ (s : Shared) (H : Hp) (C : Addr) (cl : List (Str × Addr)) (fp : List Addr), PTsD (X.blk s H scope (compEnvC scope cl C X.env) fp) W0 m ifs1 et1)
    (he : ∀ (s : Shared) (H : Hp) (C : Addr) (cl : List (Str × Addr)) (fp : List Addr), PED (X.blk s H scope (compEnvC scope cl C X.env) fp) W0 m elt ee)
    (hy : X.N[i]? = some y := by rfl) (hyl : X.env.scope.names.lookup y = some .local := by rfl)
    (hsw : swapsWith (.ListComp elt [⟨tg, iter, ifs, 0⟩, ⟨tg1, iter1, ifs1, 0⟩] scope pos) (some (.Name y py)) spos.line X.env = pure true := by exact sw_true rfl rfl rfl (by decide +kernel))
    (hs : ∀ x, foldedSetIterable iter X.env x = pure x := by intro _; rfl) (hs1 : ∀ env x, foldedSetIterable iter1 env x = pure x := by intro _ _; rfl) :
    PSD X W m (.Assign [.Name y py] (.ListComp elt [⟨tg, iter, ifs, 0⟩, ⟨tg1, iter1, ifs1, 0⟩] scope pos) spos) (setS i (frE (lcG2 bm (own.map (·.2)) it et it1 vs1 bm1 et1 ee))) :=
  ⟨(ps_setLc2 (g := GD X bm ws) (tt := RDT X W0 m et) (g1 := GD X bm1 ws1) (tt1 := RDT X W0 m et1) (wi1 := RDI X W0 m it1) (te := RD X W0 m ee) hc hN hy hyl hsw hi.pi ok hv1 (fun s H C cl fp => (hg s H C cl fp).pg) (fun s H C cl fp => (ht s H C cl fp).pts)
    (fun s H C cl fp => (hi1 s H C cl fp).pi) (fun s H C cl fp => (hg1 s H C cl fp).pg) (fun s H C cl fp => (ht1 s H C cl fp).pts) (fun s H C cl fp => (he s H C cl fp).pe) hs hs1).imp fun σ H E h =>
    rf_lc2 hw hw1 hv1 (hg X.s_0 X.H_0 0 [] []).ch (hg1 X.s_0 X.H_0 0 [] []).ch (rd_setF h)⟩
end
end SS
namespace SS
open PySem PySem.Spec L2
/-! ### a, b = .., .. with new lists among the values -/
inductive NV where
  | v (d : D)
  | lst (ds : List D)
abbrev NM := Slots → Cells → Res (List NV)
def nilN : NM := fun _ cs => .ok [] cs
def consNV (e : EM) (r : NM) : NM := fun sl cs => match e sl cs with
  | .ok d cs' => (match r sl cs' with
    | .ok as cs2 => .ok (.v d :: as) cs2
    | .ex c cs2 => .ex c cs2
    | .st => .st)
  | .ex c cs' => .ex c cs'
  | .st => .st
def consNL (f : IM) (r : NM) : NM := fun sl cs => match f sl cs with
  | .ok ds cs' => (match r sl cs' with
    | .ok as cs2 => .ok (.lst ds :: as) cs2
    | .ex c cs2 => .ex c cs2
    | .st => .st)
  | .ex c cs' => .ex c cs'
  | .st => .st
def setSl : List Nat → List NV → Slots → Slots
  | i :: is, .v d :: as, sl => setSl is as (sl.set i (.v d))
  | i :: is, .lst _ :: as, sl => setSl is as (sl.set i .c)
  | _, _, sl => sl
def setCs : List Nat → List NV → Cells → Cells
  | _ :: is, .v _ :: as, cs => setCs is as cs
  | i :: is, .lst ds :: as, cs => setCs is as (cs.set i (.lst ds))
  | _, _, cs => cs
def parN (is : List Nat) (r : NM) : SM := fun sl cs => match r sl cs with
  | .ok as cs' => if as.length = is.length ∧ (is.all fun i => decide (i < sl.length)) = true then .nx (setSl is as sl) (setCs is as cs') else .st
  | .ex c cs' => .ex c cs'
  | .st => .st
section
variable {X : Cx} {W : WX} {m : Nat} {σ : L2.St} {sl : Slots} {cs : Cells} {fps fps1 : List (List Addr)} {Hf H Hf1 H1 : Hp}
variable {a b : Expr} {ea eb : EM} {pos : Pos} {s t : SM} {st : Stmt} {rest : List Stmt}
variable (X) in
inductive NVsR (Hf H : Hp) (fps : List (List Addr)) (H0 : Hp) : List V → List NV → List Addr → Prop
  | nil : NVsR Hf H fps H0 [] [] []
  | v {x : V} {d : D} {vs : List V} {as : List NV} {ps : List Addr} : RpX X Hf x d → NVsR Hf H fps H0 vs as ps → NVsR Hf H fps H0 (x :: vs) (.v d :: as) ps
  | lst {p : Addr} {xs : List V} {ds : List D} {vs : List V} {as : List NV} {ps : List Addr} : H p = some (.lst xs) → Hf p = none → p ∉ fps.flatten → H0 p = none → RpAllX X Hf xs ds → p ∉ ps → NVsR Hf H fps H0 vs as ps → NVsR Hf H fps H0 (.ref p :: vs) (.lst ds :: as) (p :: ps)
theorem NVsR.at {A B H0 H0' : Hp} {f : List (List Addr)} (h : ∀ p, H0' p = none → H0 p = none) : ∀ {vs : List V} {as : List NV} {ps : List Addr}, NVsR X A B f H0' vs as ps → NVsR X A B f H0 vs as ps ∧ ∀ p ∈ ps, H0' p = none
  | _, _, _, .nil => ⟨.nil, fun _ z => by cases z⟩
  | _, _, _, .v r t => ⟨.v r (NVsR.at h t).1, (NVsR.at h t).2⟩
  | _, _, _, .lst h1 h2 h3 h4 h5 h6 t => ⟨.lst h1 h2 h3 (h _ h4) h5 h6 (NVsR.at h t).1, fun p hp => by
    rcases List.mem_cons.mp hp with z | z
    · rw [z]; exact h4
    · exact (NVsR.at h t).2 p z⟩
variable (X W m) in
def RunN (σ : L2.St) (sl : Slots) (fps : List (List Addr)) (Hf H : Hp) (r : Res (List NV)) (Q : List V → Hp → Prop) : Prop :=
  match r with
  | .st => False
  | .ok as cs' => ∀ vs ps fps' Hf' H', Ext m fps Hf H fps' Hf' H' → RelX X sl cs' σ Hf' H' fps' → NVsR X Hf' H' fps' H vs as ps → Q vs H'
  | .ex c cs' => ∀ fps' Hf' H', Ext m fps Hf H fps' Hf' H' → RelX X sl cs' σ Hf' H' fps' → ∀ C, X.mg c.name = some (.ref C) → W (.ref C) none σ H'
variable (X W m) in
def RDN (e : NM) : TA := fun σ H Q => ∃ sl cs fps Hf, RelX X sl cs σ Hf H fps ∧ RunN X W m σ sl fps Hf H (e sl cs) Q
variable (X W m) in
structure PAN (xs : List Expr) (e : NM) : Prop where
  pa : PA X xs (RDN X W m e)
theorem pan_nil : PAN X W m [] nilN := ⟨pa_nil.imp fun σ H Q ⟨sl, cs, fps, Hf, R, h⟩ => h [] [] fps Hf H (Ext.refl ..) R .nil⟩
theorem pan_v {x : Expr} {xs : List Expr} {e : EM} {r : NM} (ha : PED X W m x e) (hr : PAN X W m xs r) (hs : starEach (x :: xs) X.env = (false, eval x X.env) :: starEach xs X.env := by rfl) : PAN X W m (x :: xs) (consNV e r) := by
  refine ⟨(pa_cons ha.pe hr.pa hs).imp fun σ H Q ⟨sl, cs, fps, Hf, R, h⟩ => ?_⟩
  refine ⟨sl, cs, fps, Hf, R, ?_⟩
  unfold consNV at h
  cases he : e sl cs with
  | st => rw [he] at h; exact h
  | ex c cs' => rw [he] at h; exact h
  | ok d cs1 =>
    rw [he] at h
    intro v f1 A1 H1 X1 R1 r1
    refine ⟨sl, cs1, f1, A1, R1, ?_⟩
    have h : RunN X W m σ sl fps Hf H (match r sl cs1 with | .ok as cs2 => .ok (.v d :: as) cs2 | .ex c cs2 => .ex c cs2 | .st => .st) Q := h
    cases hr' : r sl cs1 with
    | st => rw [hr'] at h; exact h
    | ex c cs' => rw [hr'] at h; exact fun f A B x R C hC => h f A B (X1.trans x) R C hC
    | ok as cs2 =>
      rw [hr'] at h
      intro vs ps f2 A2 H2 X2 R2 r2
      exact h (v :: vs) ps f2 A2 H2 (X1.trans X2) R2 (.v (r1.mono X2.mono) (r2.at X1.there).1)
theorem pan_l {x : Expr} {xs : List Expr} {e : IM} {r : NM} (ha : PFD X W m x e) (hr : PAN X W m xs r) (hs : starEach (x :: xs) X.env = (false, eval x X.env) :: starEach xs X.env := by rfl) : PAN X W m (x :: xs) (consNL e r) := by
  refine ⟨(pa_cons ha.pf hr.pa hs).imp fun σ H Q ⟨sl, cs, fps, Hf, R, h⟩ => ?_⟩
  refine ⟨sl, cs, fps, Hf, R, ?_⟩
  unfold consNL at h
  cases he : e sl cs with
  | st => rw [he] at h; exact h
  | ex c cs' => rw [he] at h; exact h
  | ok ds cs1 =>
    rw [he] at h
    intro p xs f1 A1 H1 X1 R1 g1 g2 g3 g4 g5
    refine ⟨sl, cs1, f1, A1, R1, ?_⟩
    have h : RunN X W m σ sl fps Hf H (match r sl cs1 with | .ok as cs2 => .ok (.lst ds :: as) cs2 | .ex c cs2 => .ex c cs2 | .st => .st) Q := h
    cases hr' : r sl cs1 with
    | st => rw [hr'] at h; exact h
    | ex c cs' => rw [hr'] at h; exact fun f A B x R C hC => h f A B (X1.trans x) R C hC
    | ok as cs2 =>
      rw [hr'] at h
      intro vs ps f2 A2 H2 X2 R2 r2
      obtain ⟨q1, q2, q3⟩ := X2.stay g1 g3 g2
      obtain ⟨z1, z2⟩ := r2.at X1.there
      exact h (.ref p :: vs) (p :: ps) f2 A2 H2 (X1.trans X2) R2 (.lst q1 q3 q2 g4 (g5.mono X2.mono) (fun z => by have := z2 p z; rw [g1] at this; cases this) z1)
def setSt : List Nat → List V → L2.St → L2.St
  | i :: is, v :: vs, σ => setSt is vs (σ.set i (some v))
  | _, _, σ => σ
theorem NVsR.cell {A B H0 : Hp} {f : List (List Addr)} {p : Addr} (i : Nat) : ∀ {vs : List V} {as : List NV} {ps : List Addr}, NVsR X A B f H0 vs as ps → p ∉ ps → NVsR X A B (f.set i [p]) H0 vs as ps
  | _, _, _, .nil, _ => .nil
  | _, _, _, .v r t, h => .v r (NVsR.cell i t h)
  | _, _, _, .lst (p := q) h1 h2 h3 h4 h5 h6 t, h => by
    rw [List.mem_cons, not_or] at h
    refine .lst h1 h2 (fun z => ?_) h4 h5 h6 (NVsR.cell i t h.2)
    rcases mem_set z with z | z
    · rw [List.mem_singleton] at z; exact h.1 z.symm
    · exact h3 z
theorem Rel.parN {f0 : List (List Addr)} {A0 H0 : Hp} : ∀ {vs : List V} {as : List NV} {ps : List Addr} {is : List Nat} {sl : Slots} {cs : Cells} {σ : L2.St} {fps : List (List Addr)}, RelX X sl cs σ Hf H fps → Ext m f0 A0 H0 fps Hf H → NVsR X Hf H fps H0 vs as ps → as.length = is.length → (is.all fun i => decide (i < sl.length)) = true → (∀ i ∈ is, m ≤ i) →
    ∃ fps', RelX X (setSl is as sl) (setCs is as cs) (setSt is vs σ) Hf H fps' ∧ Ext m f0 A0 H0 fps' Hf H
  | _, _, _, [], sl, cs, σ, fps, R, x, .nil, _, _, _ => ⟨fps, R, x⟩
  | _, _, _, i :: is, sl, cs, σ, fps, R, x, .v r t, hl, hi, hm => by
    rw [List.all_cons, Bool.and_eq_true] at hi
    have q := Rel.parN (is := is) (R.set i r) x t (by simpa using hl) (by simpa only [List.length_set] using hi.2) fun j hj => hm j (List.mem_cons_of_mem _ hj)
    exact q
  | _, _, _, i :: is, sl, cs, σ, fps, R, x, .lst h1 h2 h3 h4 h5 h6 t, hl, hi, hm => by
    rw [List.all_cons, Bool.and_eq_true, decide_eq_true_eq] at hi
    have q := Rel.parN (is := is) (R.cell i hi.1 h1 h2 h3 h5) (x.cell h4 i (hm i List.mem_cons_self)) (t.cell i h6) (by simpa using hl) (by simpa only [List.length_set] using hi.2) fun j hj => hm j (List.mem_cons_of_mem _ hj)
    exact q
  | _, _, _, _ :: _, _, _, _, _, _, _, .nil, hl, _, _ => by cases hl
  | _, _, _, [], _, _, _, _, _, _, .v _ _, hl, _, _ => by cases hl
  | _, _, _, [], _, _, _, _, _, _, .lst _ _ _ _ _ _ _, hl, _, _ => by cases hl
theorem NVsR.len {A B H0 : Hp} {f : List (List Addr)} : ∀ {vs : List V} {as : List NV} {ps : List Addr}, NVsR X A B f H0 vs as ps → vs.length = as.length
  | _, _, _, .nil => rfl
  | _, _, _, .v _ t => congrArg (· + 1) (NVsR.len t)
  | _, _, _, .lst _ _ _ _ _ _ t => congrArg (· + 1) (NVsR.len t)
theorem psd_parN2 {i j : Nat} {x y : Str} {r : NM} {px py pt : Pos} {kt k2 pt2} (hm : m ≤ i) (hm2 : m ≤ j) (hc : X.calm = true) (hN : X.N.Nodup) (ha : PAN X W m [a, b] r) (hi : X.N[i]? = some x := by rfl) (hj : X.N[j]? = some y := by rfl) (hij : i ≠ j := by decide)
    (hx : X.env.scope.names.lookup x = some .local := by rfl) (hy : X.env.scope.names.lookup y = some .local := by rfl)
    (hw : swappedStores [.Tuple [.Name x px, .Name y py] kt pt] (.Tuple [a, b] k2 pt2) X.env = pure (some [x, y]) := by rfl)
    (hs : swapsWithSole [.Tuple [.Name x px, .Name y py] kt pt] (.Tuple [a, b] k2 pt2) pos.line X.env = pure false := by rfl) :
    PSD X W m (.Assign [.Tuple [.Name x px, .Name y py] kt pt] (.Tuple [a, b] k2 pt2) pos) (parN [i, j] r) := by
  refine ⟨(ps_par hc hN hi hj hij hx hy ha.pa hw hs).imp fun σ H E ⟨sl, cs, fps, Hf, R, h⟩ => ?_⟩
  refine ⟨sl, cs, fps, Hf, R, ?_⟩
  unfold parN at h
  cases he : r sl cs with
  | st => rw [he] at h; exact h
  | ex c' cs1 => rw [he] at h; exact fun f A B x R1 C hC => h σ f A B x R1.sub R1.cells R1.nd C hC
  | ok as cs1 =>
    rw [he] at h
    intro vs ps f A B x R1 rv
    have h : RunS X W m σ fps Hf H (if as.length = [i, j].length ∧ ([i, j].all fun i => decide (i < sl.length)) = true then .nx (setSl [i, j] as sl) (setCs [i, j] as cs1) else .st) E := h
    by_cases hl : as.length = [i, j].length ∧ ([i, j].all fun i => decide (i < sl.length)) = true
    · rw [if_pos hl] at h
      obtain ⟨f', R2, x2⟩ := Rel.parN R1 x rv hl.1 hl.2 (fun k hk => by
        rcases List.mem_cons.mp hk with z | z
        · rw [z]; exact hm
        · rw [List.mem_singleton] at z; rw [z]; exact hm2)
      have hv := rv.len
      rw [hl.1] at hv
      match vs, hv with
      | [v, w], _ => exact ⟨v, w, rfl, h _ f' A B x2 R2⟩
    · rw [if_neg hl] at h; exact h.elim
/-- names as targets -/
def gNames : List Nat → TGs
  | [] => gNil
  | i :: is => gCons (gName i) (gNames is)
theorem gNames_set : ∀ {is : List Nat} {vs : List V} {σ : L2.St} {H : Hp} {Q : L2.St → Hp → Prop}, vs.length = is.length → Q (setSt is vs σ) H → gNames is vs σ H Q
  | [], [], _, _, _, _, q => ⟨rfl, q⟩
  | _ :: is, v :: vs, _, _, _, hl, q => ⟨v, vs, rfl, gNames_set (is := is) (by simpa using hl) q⟩
theorem pgs_name {i : Nat} {x : Str} {es : List Expr} {is : List Nat} (hN : X.N.Nodup) (hr : PGs X es (gNames is)) (hi : X.N[i]? = some x := by rfl) (hx : Loc X.env.scope x := by first | exact Or.inl rfl | exact Or.inr rfl)
    (hf : X.fn x = true ∨ X.env.scope.names.lookup x = some .local := by first | exact .inl rfl | exact .inr rfl) (hs : (assignEach (.Name x pos :: es) X.env).map (·.2) = assign (.Name x pos) X.env :: (assignEach es X.env).map (·.2) := by rfl) : PGs X (.Name x pos :: es) (gNames (i :: is)) :=
  pgs_cons (pg_name hN hi hx hf) hr hs
theorem psd_parN {is : List Nat} {tgs es : List Expr} {r : NM} {kt : Nat} {pt pt2 : Pos} {k2} (hm : ∀ i ∈ is, m ≤ i) (hc : X.calm = true) (hg : PGs X tgs (gNames is)) (ha : PAN X W m es r) (hsm : is.length ≤ 16000000 := by decide) (hn : (assignEach tgs X.env).length = is.length := by rfl) (hst : (assignEach tgs X.env).findIdx? (·.1) = none := by rfl)
    (hs : swapsWithSole [.Tuple tgs kt pt] (.Tuple es k2 pt2) pos.line X.env = pure false := by rfl) (hw : swappedStores [.Tuple tgs kt pt] (.Tuple es k2 pt2) X.env = pure none := by rfl)
    (h1 : (assignEach [.Tuple tgs kt pt] X.env).map (·.2) = [assign (.Tuple tgs kt pt) X.env] := by rfl) : PSD X W m (.Assign [.Tuple tgs kt pt] (.Tuple es k2 pt2) pos) (parN is r) := by
  refine ⟨(ps_asg (pe_tup ha.pa) (pg_tup hc hg hn hst) hs hw h1).imp fun σ H E ⟨sl, cs, fps, Hf, R, h⟩ => ?_⟩
  refine ⟨sl, cs, fps, Hf, R, ?_⟩
  unfold parN at h
  cases he : r sl cs with
  | st => rw [he] at h; exact h
  | ex c' cs1 => rw [he] at h; exact fun f A B x R1 C hC => h σ f A B x R1.sub R1.cells R1.nd C hC
  | ok as cs1 =>
    rw [he] at h
    intro vs ps f A B x R1 rv
    have h : RunS X W m σ fps Hf H (if as.length = is.length ∧ (is.all fun i => decide (i < sl.length)) = true then .nx (setSl is as sl) (setCs is as cs1) else .st) E := h
    by_cases hl : as.length = is.length ∧ (is.all fun i => decide (i < sl.length)) = true
    · rw [if_pos hl] at h
      obtain ⟨f', R2, x2⟩ := Rel.parN R1 x rv hl.1 hl.2 hm
      have hv := rv.len
      rw [hl.1] at hv
      have hsz : is.length ≤ sizeLine := line_of hsm
      refine ⟨by rw [hv]; exact hsz, fun p hp => ⟨p, vs, rfl, SqT.of upd_same, hv, gNames_set hv ?_⟩⟩
      have hp1 : p ∉ f'.flatten := fun z => (cell_addr R2.cells p z).1 hp
      have hp2 : A p = none := by
        cases e : A p with
        | none => rfl
        | some o => have := R2.sub p o e; rw [hp] at this; cases this
      exact h _ f' A _ (x2.out (x2.there p hp)) (R2.out hp1 hp2 _)
    · rw [if_neg hl] at h; exact h.elim
end
end SS
namespace SS
open PySem PySem.Spec L2
/-! ### what is walked: any of the kinds -/
def anyI (e : EM) : IM := fun sl cs => match e sl cs with
  | .ok (.list ds) cs' => .ok ds cs'
  | .ok (.tuple ds) cs' => .ok ds cs'
  | .ok (.str x) cs' => .ok (x.cps.toList.map fun c => PyData.str ⟨#[c]⟩) cs'
  | .ok _ _ => .st
  | .ex c cs' => .ex c cs'
  | .st => .st
section
variable {X : Cx} {W : WX} {m : Nat} {a : Expr} {ea : EM}
theorem pid_any {tg : Expr} (ha : PED X W m a ea) : PID X W m tg a (anyI ea) := by
  refine ⟨⟨fun pins s σ H R I ⟨sl, cs, fps, Hf, Rl, h⟩ => ?_⟩⟩
  unfold anyI at h
  cases he : ea sl cs with
  | st => rw [he] at h; exact h.elim
  | ex c cs' =>
    refine (pid_list (tg := tg) ha).pi.run pins s σ H R I ⟨sl, cs, fps, Hf, Rl, ?_⟩
    unfold seqI
    rw [he] at h ⊢
    exact h
  | ok d cs' =>
    rw [he] at h
    cases d with
    | list ds =>
      refine (pid_list (tg := tg) ha).pi.run pins s σ H R I ⟨sl, cs, fps, Hf, Rl, ?_⟩
      unfold seqI
      rw [he]
      exact h
    | tuple ds =>
      refine (pid_tup (tg := tg) ha).pi.run pins s σ H R I ⟨sl, cs, fps, Hf, Rl, ?_⟩
      unfold tupI
      rw [he]
      exact h
    | str x =>
      refine (pid_str (tg := tg) ha).pi.run pins s σ H R I ⟨sl, cs, fps, Hf, Rl, ?_⟩
      unfold strI
      rw [he]
      exact h
    | _ => exact h.elim
/-! ### constants of the module -/
mutual
def valD : Value → Option D
  | .none => some .none
  | .int i _ => some (.int i)
  | .str x _ => some (.str x)
  | .bool b => some (.bool b)
  | _ => none
end
def valsD : List Value → Option (List D)
  | [] => some []
  | v :: vs => (valD v).bind fun d => (valsD vs).map (d :: ·)
theorem valD_rp {P : Program} {w : World} {K : PySem.W.Frag} {u : Value} {d : D} (h : valD u = some d) : ∃ v, RelV v u ∧ ∀ Hf, Rp P w K Hf v d := by
  cases u with
  | none => cases h; exact ⟨.non, rfl, fun _ => .non⟩
  | int i t => cases h; exact ⟨.int i, ⟨t, rfl⟩, fun _ => .int i⟩
  | str x t => cases h; exact ⟨.str x, ⟨t, rfl⟩, fun _ => .str x⟩
  | bool b => cases h; exact ⟨.bl b, rfl, fun _ => .bl b⟩
  | _ => cases h
theorem valsD_rp {P : Program} {w : World} {K : PySem.W.Frag} : ∀ {us : List Value} {ds : List D}, valsD us = some ds → ∃ vs, Vals vs us ∧ ∀ Hf, RpAll P w K Hf vs ds
  | [], _, h => by cases h; exact ⟨[], .nil, fun _ => .nil⟩
  | u :: us, _, h => by
    have h : (valD u).bind (fun d => (valsD us).map (d :: ·)) = some _ := h
    cases e : valD u with
    | none => rw [e] at h; cases h
    | some d =>
      rw [e] at h
      obtain ⟨ds, e1, e2⟩ := Option.map_eq_some_iff.mp h
      subst e2
      obtain ⟨v, r1, r2⟩ := valD_rp (P := P) (w := w) (K := K) e
      obtain ⟨vs, q1, q2⟩ := valsD_rp (P := P) (w := w) (K := K) e1
      exact ⟨v :: vs, .cons r1 q1, fun Hf => .cons (r2 Hf) (q2 Hf)⟩
/-- as KRp, by the parts -/
def KRq (P : Program) (w : World) (K : PySem.W.Frag) (mg : Str → Option Value) (x : Str) (d : D) : Prop := ∃ v u, mg x = some u ∧ RelV v u ∧ ∀ Hf, Rp P w K Hf v d
theorem kr_val {P : Program} {w : World} {K : PySem.W.Frag} {mg : Str → Option Value} {x : Str} {u : Value} {d : D} (hm : mg x = some u) (h : valD u = some d) : KRq P w K mg x d := by
  obtain ⟨v, r1, r2⟩ := valD_rp (P := P) (w := w) (K := K) h
  exact ⟨v, u, hm, r1, r2⟩
theorem kr_tup {P : Program} {w : World} {K : PySem.W.Frag} {mg : Str → Option Value} {x : Str} {a : Addr} {od : Option Addr} {its : Array Value} {n : Nat} {osl : Array (Option Value)} {ds : List D} (hm : mg x = some (.ref a))
    (l : K.lookup a = some ⟨.type "tuple", od, .seq its n, osl⟩) (h : valsD its.toList = some ds) (hz : its.size ≤ 1000) : KRq P w K mg x (.tuple ds) := by
  obtain ⟨vs, r1, r2⟩ := valsD_rp (P := P) (w := w) (K := K) h
  exact ⟨.ref a, .ref a, hm, rfl, fun Hf => .tup (.inr ⟨_, its, n, l, rfl, rfl, Nat.le_trans hz (by rw [sizeLine_eq]; decide), r1⟩) (r2 Hf)⟩
end
end SS
namespace SS
open PySem PySem.Spec L2
theorem bt_len : bootBuiltins "len" = some (.builtin "len") := by decide +kernel
theorem bt_all : bootBuiltins "all" = some (.builtin "all") := by decide +kernel
theorem bt_sorted : bootBuiltins "sorted" = some (.builtin "sorted") := by decide +kernel
theorem bt_tuple : bootBuiltins "tuple" = some (.type "tuple") := by decide +kernel
theorem bt_list : bootBuiltins "list" = some (.type "list") := by decide +kernel
theorem bt_str : bootBuiltins "str" = some (.type "str") := by decide +kernel
theorem bt_int : bootBuiltins "int" = some (.type "int") := by decide +kernel
theorem bt_bool : bootBuiltins "bool" = some (.type "bool") := by decide +kernel
theorem bt_range : bootBuiltins "range" = some (.type "range") := by decide +kernel
theorem bt_isinstance : bootBuiltins "isinstance" = some (.builtin "isinstance") := by decide +kernel
theorem bt_sum : bootBuiltins "sum" = some (.builtin "sum") := by decide +kernel
theorem bt_max : bootBuiltins "max" = some (.builtin "max") := by decide +kernel
theorem bt_zip : bootBuiltins "zip" = some (.type "zip") := by decide +kernel
theorem bt_enumerate : bootBuiltins "enumerate" = some (.type "enumerate") := by decide +kernel
theorem bt_repr : bootBuiltins "repr" = some (.builtin "repr") := by decide +kernel
theorem hmd_append : typeOf (.builtin "list.append") = pure (.type "method_descriptor") := by rfl
theorem hmd_extend : typeOf (.builtin "list.extend") = pure (.type "method_descriptor") := by rfl
theorem hmd_pop : typeOf (.builtin "list.pop") = pure (.type "method_descriptor") := by rfl
theorem hmd_insert : typeOf (.builtin "list.insert") = pure (.type "method_descriptor") := by rfl
theorem hmd_index : typeOf (.builtin "list.index") = pure (.type "method_descriptor") := by rfl
theorem Cal.name {P : Program} {w : World} {K : PySem.W.Frag} {mg : Str → Option Value} {x : Str} {k : Nat} {ps : List Str} {F : FM} (c : Cal P w K mg x k ps F) : ∃ f, mg x = some (.ref f) := by
  obtain ⟨f, _, h, _⟩ := c.ex
  exact ⟨f, h⟩
end SS
namespace SS
open PySem PySem.Spec L2
/-! ### the law's own promise, and its end -/
def intsD (ns : List Int) : D := .list (ns.map .int)
def spLaw (K : PySem.W.Frag) : Sp := fun vs H Q _ => ∃ (a : Addr) (ns : List Int), vs = [.ref a] ∧ SqB K H a (ns.map V.int) ∧ ns.length ≤ 63 ∧ ∀ H', Q (.bl true) H'
theorem rp_ints {P : Program} {w : World} {K : PySem.W.Frag} {H : Hp} : ∀ ns : List Int, RpAll P w K H (ns.map V.int) (ns.map .int)
  | [] => .nil
  | n :: ns => .cons (.int n) (rp_ints ns)
theorem law_sp {P : Program} {w : World} {K : PySem.W.Frag} {mg : Str → Option Value} {F : FM} (hF : ∀ ns : List Int, ns.length ≤ 63 → ∃ outs, F [.v (intsD ns)] = .ok (.bool true) outs) {vs : List V} {H : Hp} {Q : VK} {E : XK} (h : spLaw K vs H Q E) : spF P w K mg 1 F vs H Q E := by
  obtain ⟨a, ns, rfl, hs, hl, q⟩ := h
  obtain ⟨outs, e⟩ := hF ns hl
  refine ⟨[.v (intsD ns)], [[]], H, Same.refl H, .cons (.v (.lst hs (rp_ints ns))) .nil, by simp, rfl, ?_⟩
  rw [e]
  intro v fps' Hf' H' x S C N r
  cases r
  exact q H'
theorem law_end {l : PySem.W.OpenLaw} {k : Nat} {q : Program} {loose : List Str} {XP : (Str → Option Value) → Heap → Prop} {YP : World → Heap → Prop} {d : DefRec} {K : Params → PySem.W.Frag} {x : Str} (hn : l.most = some 63) (hdf : d.params.defaults = []) (hr : Room k callerA) (hY : ∀ (w : World) (h : Heap), YP w h → (K w.params).In h)
    (go : ∀ (w : World) (mg : Str → Option Value) (fa : Addr) (h : Heap), (K w.params).In h → h.Ns mainGlobals mg → mg d.name = some (.ref fa) →
      ∃ fd : FuncData, (∀ (s : Shared) (u : Value), BindsTo s fd ⟨[u], []⟩ [(x, u)]) ∧ ∀ base : Heap, FnOk l.prog w (K w.params) mg base (L2.CX l.prog w) k fa fd [x] (spLaw (K w.params))) :
    PySem.W.WalkO q loose XP YP l.row.toRowW d [] (fun f vs => PySem.call f vs) := by
  refine Att.attach_callB hn hdf fun w s0 s1 mg mb fa o pm cd doc a vs ns G Y ho hd hcd hmg hobj hints hlen _ hg => ?_
  obtain ⟨fd, hb, hF⟩ := go w mg fa _ (hY w _ Y) G.T.g hmg
  have hn2 : ns.length ≤ sizeLine := Nat.le_trans hlen (by rw [sizeLine_eq]; decide)
  refine law_call (hY w _ Y) G.T.g G.T.b G.T.builtins G.T.nolimit hg hobj hints hn2 hr (fun base _ _ => hF base) hb (fun H _ hS => ⟨a, ns, rfl, ?_, hlen, fun _ => rfl⟩) fun H e s' z => ?_
  · rcases hS with h | ⟨o2, its, n, h1, h2, h3, h4, h5, h6⟩
    · exact .inl h
    · have e := hY w _ Y _ _ h1
      rw [hobj] at e
      cases e
      have h4' : its = vs.toArray := by cases h4; rfl
      subst h4'
      exact .inr ⟨vs, 0, h1, by simpa using h5, by simpa using h6⟩
  · obtain ⟨_, _, _, _, _, _, _, _, _, _, _, _, z⟩ := z
    exact z
theorem cal_mk {P : Program} {w : World} {K : PySem.W.Frag} {mg : Str → Option Value} {x : Str} {k : Nat} {ps : List Str} {F : FM} {f : Addr} {fd : FuncData} (hm : mg x = some (.ref f)) (h : ∀ base : Heap, FnOk P w K mg base (L2.CX P w) k f fd ps (spF P w K mg ps.length F)) (hk : PySem.W.keepIn K (.ref f) = true) (hb : Binds K fd ps []) : Cal P w K mg x k ps F := ⟨⟨f, fd, hm, h, hk, hb⟩⟩
end SS
namespace Pg
open PySem L2 SS
/-! what each def of the program means -/
def k_DIGITS : D := (.str "0123456789")
def k_KINDS : D := (.tuple [(.str "none"), (.str "number"), (.str "text")])
def k_LARGEST : D := (.int 999999999)
def k_LETTERS : D := (.str "abcdefghijklmnopqrstuvwxyz")
def k_LETTERS_MOST : D := (.int 12)
def k_NAMES : D := (.tuple [(.str "number"), (.str "text"), (.str "length"), (.str "spelling")])
def k_NUMBERS : D := (.tuple [(.int 0), (.int 1), (.int 2), (.int 10)])
def k_STEPS : D := (.int 6)
def k_TEXTS : D := (.tuple [(.str "a"), (.str "b"), (.str "c"), (.str "aa"), (.str "bb")])
def L_kind_of_1 : IM := (lcG (bName 1) [1] (anyI (varE 0)) yesE (op2 inD (varE 1) (retE k_LETTERS)))
def M_kind_of : SM := (seqS (ifS (op2 isD (varE 0) (retE .none)) (retS (retE (.str "none"))) nilS) (seqS (ifS (andE (op1 (isaD .int) (varE 0)) (andE (op1 notD (op1 (isaD .bool) (varE 0))) (chainE leD leD (retE (.int 0)) (varE 0) (retE k_LARGEST)))) (retS (retE (.str "number"))) nilS) (seqS (ifS (andE (op1 (isaD .str) (varE 0)) (andE (chainE leD leD (retE (.int 1)) (appE lenD (consA (varE 0) nilA)) (retE k_LETTERS_MOST)) (appE allD (consA (frE L_kind_of_1) nilA)))) (retS (retE (.str "text"))) nilS) (retS (retE (.str ""))))))
def F_kind_of : FM := runF 2 M_kind_of
def M_spelling_of : SM := (retS (ifE (op1 (isaD .str) (varE 0)) (varE 0) (appE strD (consA (varE 0) nilA))))
def F_spelling_of : FM := runF 1 M_spelling_of
def L_is_record_1 : IM := (lcG (bName 2) [2] (anyI (varE 0)) yesE (op2 neD (callE 1 F_kind_of (consA (varE 2) nilA)) (retE (.str ""))))
def M_is_record : SM := (retS (andE (op1 (isaD .tuple) (varE 0)) (andE (op2 eqD (appE lenD (consA (varE 0) nilA)) (varE 1)) (appE allD (consA (frE L_is_record_1) nilA)))))
def F_is_record : FM := runF 3 M_is_record
def L_are_groups_1 : IM := (lcG (bName 1) [1] (anyI (varE 0)) yesE (andE (op1 (isaD .tuple) (varE 1)) (op2 neD (varE 1) (appE tupD nilA))))
def L_are_groups_2 : IM := (lcG2 (bName 1) [1, 3] (anyI (varE 0)) yesE (anyI (varE 1)) [3] (bName 3) yesE (varE 3))
def L_are_groups_3 : IM := (lcG (bName 3) [3] (anyI (varE 2)) yesE (op1 (isaD .str) (varE 3)))
def L_are_groups_4 : IM := (lcG (bName 1) [1] (anyI (varE 0)) yesE (op2 eqD (appE tupleD (consA (appE sortedD (consA (varE 1) nilA)) nilA)) (varE 1)))
def M_are_groups : SM := (seqS (ifS (orE (op1 notD (op1 (isaD .tuple) (varE 0))) (op1 notD (appE allD (consA (frE L_are_groups_1) nilA)))) (retS (retE (.bool false))) nilS) (seqS (setS 2 (frE L_are_groups_2)) (seqS (ifS (orE (op1 notD (appE allD (consA (frE L_are_groups_3) nilA))) (op2 neD (appE tupleD (consA (appE sortedD (consA (varE 2) nilA)) nilA)) (retE k_KINDS))) (retS (retE (.bool false))) nilS) (retS (appE allD (consA (frE L_are_groups_4) nilA))))))
def F_are_groups : FM := runF 4 M_are_groups
def M_is_step : SM := (seqS (ifS (orE (op1 notD (op1 (isaD .tuple) (varE 0))) (orE (op2 neD (appE lenD (consA (varE 0) nilA)) (retE (.int 3))) (op1 notD (op1 (isaD .str) (op2 idxD (varE 0) (retE (.int 0))))))) (retS (retE (.bool false))) nilS) (seqS (bindS (bTup ((bName 2) :: ((bName 3) :: ((bName 4) :: [])))) (varE 0)) (seqS (ifS (orE (op1 notD (op1 (isaD .int) (varE 3))) (orE (op1 (isaD .bool) (varE 3)) (op1 notD (chainE leD ltD (retE (.int 0)) (varE 3) (varE 1))))) (retS (retE (.bool false))) nilS) (seqS (ifS (op2 eqD (varE 2) (retE (.str "rank"))) (retS (callE 1 F_are_groups (consA (varE 4) nilA))) nilS) (retS (andE (op2 inD (varE 2) (retE k_NAMES)) (andE (op1 (isaD .str) (varE 4)) (op2 inD (varE 4) (appE tupD (consA (retE (.str "asc")) (consA (retE (.str "desc")) nilA)))))))))))
def F_is_step : FM := runF 5 M_is_step
def M_is_width : SM := (retS (andE (op1 (isaD .int) (varE 0)) (andE (op1 notD (op1 (isaD .bool) (varE 0))) (chainE leD leD (retE (.int 1)) (varE 0) (retE (.int 2))))))
def F_is_width : FM := runF 1 M_is_width
def L_is_spec_1 : IM := (lcG (bName 1) [1] (anyI (op2 idxD (varE 0) (retE (.int 1)))) yesE (callE 2 F_is_step (consA (varE 1) (consA (op2 idxD (varE 0) (retE (.int 0))) nilA))))
def M_is_spec : SM := (seqS (ifS (orE (op1 notD (op1 (isaD .tuple) (varE 0))) (orE (op2 neD (appE lenD (consA (varE 0) nilA)) (retE (.int 2))) (orE (op1 notD (callE 1 F_is_width (consA (op2 idxD (varE 0) (retE (.int 0))) nilA))) (op1 notD (op1 (isaD .tuple) (op2 idxD (varE 0) (retE (.int 1)))))))) (retS (retE (.bool false))) nilS) (retS (andE (op2 leD (appE lenD (consA (op2 idxD (varE 0) (retE (.int 1))) nilA)) (retE k_STEPS)) (appE allD (consA (frE L_is_spec_1) nilA)))))
def F_is_spec : FM := runF 2 M_is_spec
def M_need_spec : SM := (ifS (op1 notD (callE 1 F_is_spec (consA (varE 0) nilA))) (raiseS .invalidSpec) nilS)
def F_need_spec : FM := runF 1 M_need_spec
def M_need_record : SM := (ifS (op1 notD (callE 2 F_is_record (consA (varE 1) (consA (op2 idxD (varE 0) (retE (.int 0))) nilA)))) (raiseS .invalidRecord) nilS)
def F_need_record : FM := runF 2 M_need_record
def M_need_pair : SM := (seqS (exprS (callE 1 F_need_spec (consA (varE 0) nilA))) (seqS (exprS (callE 1 F_need_spec (consA (varE 1) nilA))) (ifS (op2 neD (op2 idxD (varE 0) (retE (.int 0))) (op2 idxD (varE 1) (retE (.int 0)))) (raiseS .incomparable) nilS)))
def F_need_pair : FM := runF 2 M_need_pair
def M_sign : SM := (retS (op2 subD (op2 gtD (varE 0) (varE 1)) (op2 ltD (varE 0) (varE 1))))
def F_sign : FM := runF 2 M_sign
def L_rank_1 : IM := (lcG (bName 2) [2] (anyI (varE 0)) yesE (op2 inD (varE 1) (varE 2)))
def M_rank : SM := (retS (meth "list" indexD (frE L_rank_1) (consA (retE (.bool true)) nilA)))
def F_rank : FM := runF 3 M_rank
def M_step_result : SM := (seqS (bindS (bTup ((bName 3) :: ((bName 4) :: ((bName 5) :: [])))) (varE 0)) (seqS (setS 6 (appE tupD (consA (callE 1 F_kind_of (consA (varE 1) nilA)) (consA (callE 1 F_kind_of (consA (varE 2) nilA)) nilA)))) (seqS (ifS (op2 eqD (varE 3) (retE (.str "rank"))) (retS (callE 2 F_sign (consA (callE 2 F_rank (consA (varE 5) (consA (op2 idxD (varE 6) (retE (.int 0))) nilA))) (consA (callE 2 F_rank (consA (varE 5) (consA (op2 idxD (varE 6) (retE (.int 1))) nilA))) nilA)))) nilS) (seqS (setS 7 (retE (.int 0))) (seqS (ifS (andE (op2 eqD (varE 3) (retE (.str "number"))) (op2 eqD (varE 6) (appE tupD (consA (retE (.str "number")) (consA (retE (.str "number")) nilA))))) (setS 7 (callE 2 F_sign (consA (varE 1) (consA (varE 2) nilA)))) (ifS (andE (op2 eqD (varE 3) (retE (.str "text"))) (op2 eqD (varE 6) (appE tupD (consA (retE (.str "text")) (consA (retE (.str "text")) nilA))))) (setS 7 (callE 2 F_sign (consA (varE 1) (consA (varE 2) nilA)))) (ifS (andE (op2 eqD (varE 3) (retE (.str "length"))) (op2 eqD (varE 6) (appE tupD (consA (retE (.str "text")) (consA (retE (.str "text")) nilA))))) (setS 7 (callE 2 F_sign (consA (appE lenD (consA (varE 1) nilA)) (consA (appE lenD (consA (varE 2) nilA)) nilA)))) (ifS (andE (op2 eqD (varE 3) (retE (.str "spelling"))) (op2 notInD (retE (.str "none")) (varE 6))) (setS 7 (callE 2 F_sign (consA (callE 1 F_spelling_of (consA (varE 1) nilA)) (consA (callE 1 F_spelling_of (consA (varE 2) nilA)) nilA)))) nilS)))) (retS (ifE (op2 eqD (varE 5) (retE (.str "desc"))) (op2 subD (retE (.int 0)) (varE 7)) (varE 7))))))))
def F_step_result : FM := runF 8 M_step_result
def B_compared_1 : SM := (seqS (setS 4 (callE 3 F_step_result (consA (varE 3) (consA (op2 idxD (varE 1) (op2 idxD (varE 3) (retE (.int 1)))) (consA (op2 idxD (varE 2) (op2 idxD (varE 3) (retE (.int 1)))) nilA))))) (ifS (op2 neD (varE 4) (retE (.int 0))) (retS (varE 4)) nilS))
def W_compared_1 : SM := (forS (bName 3) (anyI (varE 0)) B_compared_1)
def M_compared : SM := (seqS W_compared_1 (retS (retE (.int 0))))
def F_compared : FM := runF 5 M_compared
def M_compare : SM := (seqS (exprS (callE 1 F_need_spec (consA (varE 0) nilA))) (seqS (exprS (callE 2 F_need_record (consA (varE 0) (consA (varE 1) nilA)))) (seqS (exprS (callE 2 F_need_record (consA (varE 0) (consA (varE 2) nilA)))) (retS (callE 3 F_compared (consA (op2 idxD (varE 0) (retE (.int 1))) (consA (varE 1) (consA (varE 2) nilA))))))))
def F_compare : FM := runF 3 M_compare
def M_reversed_step : SM := (seqS (bindS (bTup ((bName 1) :: ((bName 2) :: ((bName 3) :: [])))) (varE 0)) (seqS (ifS (op2 eqD (varE 1) (retE (.str "rank"))) (retS (appE tupD (consA (varE 1) (consA (varE 2) (consA (op1 revD (varE 3)) nilA))))) nilS) (retS (appE tupD (consA (varE 1) (consA (varE 2) (consA (ifE (op2 eqD (varE 3) (retE (.str "asc"))) (retE (.str "desc")) (retE (.str "asc"))) nilA)))))))
def F_reversed_step : FM := runF 4 M_reversed_step
def L_reversed_spec_1 : IM := (lcG (bName 1) [1] (anyI (op2 idxD (varE 0) (retE (.int 1)))) yesE (callE 1 F_reversed_step (consA (varE 1) nilA)))
def M_reversed_spec : SM := (seqS (exprS (callE 1 F_need_spec (consA (varE 0) nilA))) (retS (appE tupD (consA (op2 idxD (varE 0) (retE (.int 0))) (consA (appE tupleD (consA (frE L_reversed_spec_1) nilA)) nilA)))))
def F_reversed_spec : FM := runF 2 M_reversed_spec
def M_combined : SM := (seqS (exprS (callE 2 F_need_pair (consA (varE 0) (consA (varE 1) nilA)))) (seqS (setS 2 (op2 addD (op2 idxD (varE 0) (retE (.int 1))) (op2 idxD (varE 1) (retE (.int 1))))) (seqS (ifS (op2 gtD (appE lenD (consA (varE 2) nilA)) (retE k_STEPS)) (raiseS .tooLong) nilS) (retS (appE tupD (consA (op2 idxD (varE 0) (retE (.int 0))) (consA (varE 2) nilA)))))))
def F_combined : FM := runF 3 M_combined
def M_size_of : SM := (retS (ifE (op2 isD (varE 0) (retE .none)) (retE (.int 0)) (appE lenD (consA (callE 1 F_spelling_of (consA (varE 0) nilA)) nilA))))
def F_size_of : FM := runF 1 M_size_of
def L_field_steps_1 : IM := (lcG (bName 2) [2] (anyI (varE 0)) (op2 eqD (op2 idxD (varE 2) (retE (.int 1))) (varE 1)) (varE 2))
def M_field_steps : SM := (retS (frE L_field_steps_1))
def F_field_steps : FM := runF 3 M_field_steps
def B_results_1 : SM := (seqS (setS 4 (op2 idxD (varE 3) (retE (.int 1)))) (seqS (setS 5 (op2 idxD (op2 idxD (varE 1) (varE 4)) (op2 idxD (varE 2) (varE 4)))) (seqS (augItemS 2 (varE 4) (retE (.int 1))) (ifS (op2 neD (varE 5) (retE (.int 0))) (retS (varE 5)) nilS))))
def W_results_1 : SM := (forS (bName 3) (anyI (varE 0)) B_results_1)
def M_results : SM := (seqS (setS 2 (op2 mulI (appE lstD (consA (retE (.int 0)) nilA)) (appE lenD (consA (varE 1) nilA)))) (seqS W_results_1 (retS (retE (.int 0)))))
def F_results : FM := runF 6 M_results
def M_first_part : SM := (retS (op2 idxD (varE 0) (retE (.int 0))))
def F_first_part : FM := runF 1 M_first_part
def L_as_records_1 : IM := (lcG (bName 3) [3] (anyI (varE 0)) yesE (op2 idxD (varE 3) (varE 2)))
def B_as_records_1 : SM := (exprS (cellE 1 appendD (consA (appE tupleD (consA (frE L_as_records_1) nilA)) nilA)))
def W_as_records_1 : SM := (forS (bName 2) (rngI (appE lenD (consA (op2 idxD (varE 0) (retE (.int 0))) nilA))) B_as_records_1)
def M_as_records : SM := (seqS (cellS 1 (dispF nilA)) (seqS W_as_records_1 (retS (borE 1 (appE tupleD (consA (varE 1) nilA))))))
def F_as_records : FM := runF 4 M_as_records
def M_differ : SM := (retS (op2 neD (varE 0) (varE 1)))
def F_differ : FM := runF 2 M_differ
def M_contradicts : SM := (retS (andE (op2 neD (varE 1) (retE (.int 0))) (op2 neD (varE 0) (varE 1))))
def F_contradicts : FM := runF 2 M_contradicts
def L_are_records_1 : IM := (lcG (bName 2) [2] (anyI (varE 0)) yesE (callE 2 F_is_record (consA (varE 2) (consA (varE 1) nilA))))
def M_are_records : SM := (retS (andE (op1 (isaD .list) (varE 0)) (appE allD (consA (frE L_are_records_1) nilA))))
def F_are_records : FM := runF 3 M_are_records
def M_need_records : SM := (ifS (op1 notD (callE 2 F_are_records (consA (varE 1) (consA (op2 idxD (varE 0) (retE (.int 0))) nilA)))) (raiseS .invalidList) nilS)
def F_need_records : FM := runF 2 M_need_records
def B_merged_1 : SM := (ifS (op2 leD (callE 3 F_compared (consA (varE 0) (consA (op2 idxD (varE 1) (varE 4)) (consA (op2 idxD (varE 2) (varE 5)) nilA)))) (retE (.int 0))) (seqS (exprS (cellE 3 appendD (consA (op2 idxD (varE 1) (varE 4)) nilA))) (setS 4 (op2 iaddD (varE 4) (retE (.int 1))))) (seqS (exprS (cellE 3 appendD (consA (op2 idxD (varE 2) (varE 5)) nilA))) (setS 5 (op2 iaddD (varE 5) (retE (.int 1))))))
def C_merged_1 : EM := (andE (op2 ltD (varE 4) (appE lenD (consA (varE 1) nilA))) (op2 ltD (varE 5) (appE lenD (consA (varE 2) nilA))))
def W_merged_1 : SM := (whileS C_merged_1 B_merged_1 200)
def M_merged : SM := (seqS (parN [3, 4, 5] (consNL (dispF nilA) (consNV (retE (.int 0)) (consNV (retE (.int 0)) nilN)))) (seqS W_merged_1 (frzS 3 (retS (op2 addD (op2 addD (varE 3) (sliceE (varE 1) (someO (varE 4)) noO)) (sliceE (varE 2) (someO (varE 5)) noO))))))
def F_merged : FM := runF 6 M_merged
def L_place_for_1 : IM := (lcG (bName 3) [3] (anyI (varE 1)) (op2 leD (callE 3 F_compared (consA (varE 0) (consA (varE 3) (consA (varE 2) nilA)))) (retE (.int 0))) (varE 3))
def M_place_for : SM := (retS (appE lenD (consA (frE L_place_for_1) nilA)))
def F_place_for : FM := runF 4 M_place_for
end Pg
namespace SS
open PySem L2
/-! ### evaluating meanings -/
theorem yesE_ok (sl : Slots) (cs : Cells) : yesE sl cs = .ok (.bool true) cs := rfl
theorem lcLoop_map {i : Nat} {e : EM} {sl : Slots} {f : D → D} : ∀ {ds acc : List D} {cs : Cells}, (∀ d ∈ ds, e (sl.set i (.v d)) cs = .ok (f d) cs) → acc.length + ds.length ≤ 16000000 → lcLoop (bName i) yesE e sl ds acc cs = .ok (acc ++ ds.map f) cs
  | [], acc, cs, _, _ => by simp [lcLoop]
  | d :: ds, acc, cs, h, hl => by
    rw [List.length_cons] at hl
    have h0 := h d List.mem_cons_self
    have ih := lcLoop_map (ds := ds) (acc := acc ++ [f d]) (fun x hx => h x (List.mem_cons_of_mem _ hx)) (by rw [List.length_append, List.length_singleton]; omega)
    have hl' : acc.length < 16000000 := by omega
    simp only [lcLoop, bName, yesE_ok, h0, if_pos hl', ih, List.map_cons, List.append_assoc, List.singleton_append]
theorem lcLoop_filter {i : Nat} {t e : EM} {sl : Slots} {p : D → Bool} {f : D → D} : ∀ {ds acc : List D} {cs : Cells}, (∀ d ∈ ds, t (sl.set i (.v d)) cs = .ok (.bool (p d)) cs) → (∀ d ∈ ds, p d = true → e (sl.set i (.v d)) cs = .ok (f d) cs) → acc.length + ds.length ≤ 16000000 → lcLoop (bName i) t e sl ds acc cs = .ok (acc ++ (ds.filter p).map f) cs
  | [], acc, cs, _, _, _ => by simp [lcLoop]
  | d :: ds, acc, cs, ht, he, hl => by
    rw [List.length_cons] at hl
    have h0 := ht d List.mem_cons_self
    have hl' : acc.length < 16000000 := by omega
    cases hp : p d with
    | false =>
      have ih := lcLoop_filter (ds := ds) (acc := acc) (fun x hx => ht x (List.mem_cons_of_mem _ hx)) (fun x hx => he x (List.mem_cons_of_mem _ hx)) (by omega)
      rw [hp] at h0
      simp only [lcLoop, bName, h0, ih, List.filter_cons, hp, Bool.false_eq_true, if_false]
    | true =>
      have h1 := he d List.mem_cons_self hp
      have ih := lcLoop_filter (ds := ds) (acc := acc ++ [f d]) (fun x hx => ht x (List.mem_cons_of_mem _ hx)) (fun x hx => he x (List.mem_cons_of_mem _ hx)) (by rw [List.length_append, List.length_singleton]; omega)
      rw [hp] at h0
      simp only [lcLoop, bName, h0, h1, if_pos hl', ih, List.filter_cons, hp, if_true, List.map_cons, List.append_assoc, List.singleton_append]
theorem lcG_map {i : Nat} {e : EM} {it : IM} {sl : Slots} {cs cs1 : Cells} {ds : List D} (f : D → D) (hn : notCell sl i = true) (hi : it sl cs = .ok ds cs1) (h : ∀ d ∈ ds, e (sl.set i (.v d)) cs1 = .ok (f d) cs1) (hl : ds.length ≤ 16000000) : lcG (bName i) [i] it yesE e sl cs = .ok (ds.map f) cs1 := by
  have := lcLoop_map (i := i) (e := e) (sl := sl.set i .un) (f := f) (ds := ds) (acc := []) (cs := cs1) (fun d hd => by rw [List.set_set]; exact h d hd) (by simpa using hl)
  simp only [lcG, lcF, List.all_cons, List.all_nil, hn, Bool.and_true, if_true, hi, wipeS]
  rw [this, List.nil_append]
theorem lcG_filter {i : Nat} {t e : EM} {it : IM} {sl : Slots} {cs cs1 : Cells} {ds : List D} (p : D → Bool) (f : D → D) (hn : notCell sl i = true) (hi : it sl cs = .ok ds cs1) (ht : ∀ d ∈ ds, t (sl.set i (.v d)) cs1 = .ok (.bool (p d)) cs1) (h : ∀ d ∈ ds, p d = true → e (sl.set i (.v d)) cs1 = .ok (f d) cs1) (hl : ds.length ≤ 16000000) :
    lcG (bName i) [i] it t e sl cs = .ok ((ds.filter p).map f) cs1 := by
  have := lcLoop_filter (i := i) (t := t) (e := e) (sl := sl.set i .un) (p := p) (f := f) (ds := ds) (acc := []) (cs := cs1) (fun d hd => by rw [List.set_set]; exact ht d hd) (fun d hd => by rw [List.set_set]; exact h d hd) (by simpa using hl)
  simp only [lcG, lcF, List.all_cons, List.all_nil, hn, Bool.and_true, if_true, hi, wipeS]
  rw [this, List.nil_append]
/-- where the cells change -/
theorem lcLoop_inv {i : Nat} {e : EM} {sl : Slots} (J : Cells → Prop) (P : D → Prop) : ∀ {ds acc : List D} {cs : Cells}, (∀ d ∈ ds, ∀ cs, J cs → ∃ r cs', e (sl.set i (.v d)) cs = .ok r cs' ∧ J cs' ∧ P r) → J cs → acc.length + ds.length ≤ 16000000 →
    ∃ rs cs', lcLoop (bName i) yesE e sl ds acc cs = .ok (acc ++ rs) cs' ∧ J cs' ∧ rs.length = ds.length ∧ ∀ r ∈ rs, P r
  | [], acc, cs, _, hj, _ => ⟨[], cs, by simp [lcLoop], hj, rfl, fun _ z => by cases z⟩
  | d :: ds, acc, cs, h, hj, hl => by
    rw [List.length_cons] at hl
    obtain ⟨r, cs1, e1, j1, p1⟩ := h d List.mem_cons_self cs hj
    obtain ⟨rs, cs2, e2, j2, l2, p2⟩ := lcLoop_inv J P (ds := ds) (acc := acc ++ [r]) (fun x hx => h x (List.mem_cons_of_mem _ hx)) j1 (by rw [List.length_append, List.length_singleton]; omega)
    have hl' : acc.length < 16000000 := by omega
    refine ⟨r :: rs, cs2, ?_, j2, by simp [l2], fun x hx => ?_⟩
    · simp only [lcLoop, bName, yesE_ok, e1, if_pos hl', e2, List.append_assoc, List.singleton_append]
    · rcases List.mem_cons.mp hx with z | z
      · rw [z]; exact p1
      · exact p2 x z
theorem lcG_inv {i : Nat} {e : EM} {it : IM} {sl : Slots} {cs cs1 : Cells} {ds : List D} (J : Cells → Prop) (P : D → Prop) (hn : notCell sl i = true) (hi : it sl cs = .ok ds cs1) (h : ∀ d ∈ ds, ∀ cs, J cs → ∃ r cs', e (sl.set i (.v d)) cs = .ok r cs' ∧ J cs' ∧ P r) (hj : J cs1) (hl : ds.length ≤ 16000000) :
    ∃ rs cs', lcG (bName i) [i] it yesE e sl cs = .ok rs cs' ∧ J cs' ∧ rs.length = ds.length ∧ ∀ r ∈ rs, P r := by
  obtain ⟨rs, cs', e1, h2⟩ := lcLoop_inv (i := i) (e := e) (sl := sl.set i .un) J P (ds := ds) (acc := []) (cs := cs1) (fun d hd => by rw [List.set_set]; exact h d hd) hj (by simpa using hl)
  refine ⟨rs, cs', ?_, h2⟩
  simp only [lcG, lcF, List.all_cons, List.all_nil, hn, Bool.and_true, if_true, hi, wipeS]
  rw [e1, List.nil_append]
end SS
namespace SS
open PySem L2
/-! ### sorting, as the kernel can do it -/
def mergeF {α : Type} (le : α → α → Bool) : Nat → List α → List α → List α
  | 0, xs, ys => xs ++ ys
  | _ + 1, [], ys => ys
  | _ + 1, xs, [] => xs
  | n + 1, x :: xs, y :: ys => if le x y then x :: mergeF le n xs (y :: ys) else y :: mergeF le n (x :: xs) ys
theorem merge_eq {α : Type} (le : α → α → Bool) : ∀ (n : Nat) (xs ys : List α), xs.length + ys.length ≤ n → List.merge xs ys le = mergeF le n xs ys
  | 0, [], [], _ => by simp [mergeF]
  | 0, _ :: _, _, h => by simp at h
  | 0, [], _ :: _, h => by simp at h
  | n + 1, [], ys, _ => by simp [mergeF]
  | n + 1, x :: xs, [], _ => by simp [mergeF]
  | n + 1, x :: xs, y :: ys, h => by
    simp only [List.length_cons] at h
    have h1 := merge_eq le n xs (y :: ys) (by simp only [List.length_cons]; omega)
    have h2 := merge_eq le n (x :: xs) ys (by simp only [List.length_cons]; omega)
    rw [List.cons_merge_cons, h1, h2]
    rfl
def sortF {α : Type} (le : α → α → Bool) : Nat → List α → List α
  | 0, xs => xs
  | _ + 1, [] => []
  | _ + 1, [a] => [a]
  | n + 1, a :: b :: xs => mergeF le (xs.length + 2) (sortF le n ((a :: b :: xs).take ((xs.length + 3) / 2))) (sortF le n ((a :: b :: xs).drop ((xs.length + 3) / 2)))
theorem sort_eq {α : Type} (le : α → α → Bool) : ∀ (n : Nat) (xs : List α), xs.length ≤ n → List.mergeSort xs le = sortF le n xs
  | 0, [], _ => by simp [sortF]
  | 0, _ :: _, h => by simp at h
  | n + 1, [], _ => by simp [sortF]
  | n + 1, [a], _ => by simp [sortF]
  | n + 1, a :: b :: xs, h => by
    simp only [List.length_cons] at h
    have h1 := sort_eq le n ((a :: b :: xs).take ((xs.length + 3) / 2)) (by simp only [List.length_take, List.length_cons]; omega)
    have h2 := sort_eq le n ((a :: b :: xs).drop ((xs.length + 3) / 2)) (by simp only [List.length_drop, List.length_cons]; omega)
    rw [List.mergeSort]
    simp only [List.MergeSort.Internal.splitInTwo]
    have e1 : (List.splitAt (((a :: b :: xs).length + 1) / 2) (a :: b :: xs)) = ((a :: b :: xs).take ((xs.length + 3) / 2), (a :: b :: xs).drop ((xs.length + 3) / 2)) := by
      rw [List.splitAt_eq]
      simp only [List.length_cons]
    simp only [List.length_cons] at e1 ⊢
    rw [sortF, ← h1, ← h2]
    rw [merge_eq le (xs.length + 2)]
    · simp only [List.splitAt_eq]
    · simp only [List.length_mergeSort, List.splitAt_eq, List.length_take, List.length_drop, List.length_cons]
      omega
def sortedF : List D → Option D
  | [.list ds] => if okSort ds then some (.list (sortF (PySem.W.dataLe false id) ds.length ds)) else none
  | [.tuple ds] => if okSort ds then some (.list (sortF (PySem.W.dataLe false id) ds.length ds)) else none
  | _ => none
theorem sorted_eq : sortedD = sortedF := by
  funext l
  unfold sortedD sortedF sortDs
  split <;> simp only [sort_eq _ _ _ (Nat.le_refl _)]
/-- a result that the kernel can look at -/
def okTrue : FRes → Bool
  | .ok (.bool true) [.dead] => true
  | _ => false
theorem okTrue_eq {r : FRes} (h : okTrue r = true) : r = .ok (.bool true) [.dead] := by
  unfold okTrue at h
  split at h
  · rfl
  · cases h
end SS
namespace SS
open PySem L2
theorem idxT {xs : List D} {i : Nat} {d : D} (h : xs[i]? = some d) : idxD (.tuple xs) (.int i) = some d := by
  have hl : i < xs.length := (List.getElem?_eq_some_iff.mp h).1
  show atI xs (i : Int) = some d
  unfold atI ixN
  rw [if_pos (by omega), if_pos (by omega)]
  simpa using h
theorem idxL {xs : List D} {i : Nat} {d : D} (h : xs[i]? = some d) : idxD (.list xs) (.int i) = some d := by
  have hl : i < xs.length := (List.getElem?_eq_some_iff.mp h).1
  show atI xs (i : Int) = some d
  unfold atI ixN
  rw [if_pos (by omega), if_pos (by omega)]
  simpa using h
theorem idx0 (x : D) (xs : List D) : idxD (.tuple (x :: xs)) (.int 0) = some x := idxT (i := 0) rfl
theorem idx1 (x y : D) (xs : List D) : idxD (.tuple (x :: y :: xs)) (.int 1) = some y := idxT (i := 1) rfl
theorem idx2 (x y z : D) (xs : List D) : idxD (.tuple (x :: y :: z :: xs)) (.int 2) = some z := idxT (i := 2) rfl
theorem idl0 (x : D) (xs : List D) : idxD (.list (x :: xs)) (.int 0) = some x := idxL (i := 0) rfl
theorem idl1 (x y : D) (xs : List D) : idxD (.list (x :: y :: xs)) (.int 1) = some y := idxL (i := 1) rfl
theorem bAll_nil (sl : Slots) : bAll [] [] sl = some sl := rfl
theorem bAll_cons (b : BM) (bs : List BM) (d : D) (ds : List D) (sl : Slots) : bAll (b :: bs) (d :: ds) sl = (b d sl).bind (bAll bs ds) := rfl
theorem nd1 (i : Nat) : ([i] : List Nat).Nodup := by simp
theorem ixN_at {n j : Nat} (h : j < n) : ixN n (j : Int) = some j := by
  unfold ixN
  rw [if_pos (by omega), if_pos (by omega)]
  simp
theorem erase_map {α β : Type} (f : α → β) : ∀ (l : List α) (i : Nat), (l.map f).eraseIdx i = (l.eraseIdx i).map f
  | [], _ => rfl
  | _ :: _, 0 => rfl
  | x :: l, i + 1 => congrArg (f x :: ·) (erase_map f l i)
end SS
namespace SS
open PySem L2
/-! # the model: values, records, steps, the comparison -/
inductive Kd where
  | non | num | txt
  deriving DecidableEq
def Kd.s : Kd → Str
  | .non => "none" | .num => "number" | .txt => "text"
def allG : List (List (List Kd)) := [[[.non, .num, .txt]], [[.non], [.num, .txt]], [[.num, .txt], [.non]], [[.num], [.non, .txt]], [[.non, .txt], [.num]], [[.txt], [.non, .num]], [[.non, .num], [.txt]],
  [[.non], [.num], [.txt]], [[.non], [.txt], [.num]], [[.num], [.non], [.txt]], [[.num], [.txt], [.non]], [[.txt], [.non], [.num]], [[.txt], [.num], [.non]]]
def gD (g : List (List Kd)) : D := .tuple (g.map fun l => .tuple (l.map fun k => .str k.s))
def rkI (g : List (List Kd)) (k : Kd) : Int := (g.findIdx fun l => l.contains k : Nat)
inductive Vl where
  | non
  | num (n : Int)
  | txt (x : Str)
  deriving DecidableEq
def Vl.d : Vl → D
  | .non => .none | .num n => .int n | .txt x => .str x
def Vl.kd : Vl → Kd
  | .non => .non | .num _ => .num | .txt _ => .txt
def txtOk (x : Str) : Bool := decide (1 ≤ x.length) && decide (x.length ≤ 12) && x.cps.toList.all fun c => decide (97 ≤ c) && decide (c ≤ 122)
def Vl.ok : Vl → Bool
  | .non => true
  | .num n => decide (0 ≤ n) && decide (n ≤ 999999999)
  | .txt x => txtOk x
def Vl.spell : Vl → Str
  | .non => "" | .num n => toString n | .txt x => x
inductive Nm where
  | number | text | length | spelling
  deriving DecidableEq
def Nm.s : Nm → Str
  | .number => "number" | .text => "text" | .length => "length" | .spelling => "spelling"
inductive Sk where
  | rank (g : List (List Kd))
  | val (n : Nm) (desc : Bool)
  deriving DecidableEq
structure Stp where
  f : Nat
  k : Sk
  deriving DecidableEq
def dirS (desc : Bool) : Str := if desc then "desc" else "asc"
def Stp.d (s : Stp) : D := match s.k with
  | .rank g => .tuple [.str "rank", .int s.f, gD g]
  | .val n desc => .tuple [.str n.s, .int s.f, .str (dirS desc)]
def Sk.ok : Sk → Bool
  | .rank g => decide (g ∈ allG)
  | .val _ _ => true
def Stp.ok (w : Nat) (s : Stp) : Bool := decide (s.f < w) && s.k.ok
def specD (w : Nat) (ss : List Stp) : D := .tuple [.int w, .tuple (ss.map Stp.d)]
def recD (r : List Vl) : D := .tuple (r.map Vl.d)
def sgnI (a b : Int) : Int := if a = b then 0 else if a < b then -1 else 1
def sgnS (x y : Str) : Int := if x = y then 0 else if ltS x y then -1 else 1
def Nm.res : Nm → Vl → Vl → Int
  | .number, .num i, .num j => sgnI i j
  | .text, .txt x, .txt y => sgnS x y
  | .length, .txt x, .txt y => sgnI x.length y.length
  | .spelling, .non, _ => 0
  | .spelling, _, .non => 0
  | .spelling, a, b => sgnS a.spell b.spell
  | _, _, _ => 0
def Sk.res : Sk → Vl → Vl → Int
  | .rank g, a, b => sgnI (rkI g a.kd) (rkI g b.kd)
  | .val n desc, a, b => if desc then -n.res a b else n.res a b
def at' (r : List Vl) (i : Nat) : Vl := r.getD i .non
def cmp : List Stp → List Vl → List Vl → Int
  | [], _, _ => 0
  | s :: ss, a, b => if s.k.res (at' a s.f) (at' b s.f) ≠ 0 then s.k.res (at' a s.f) (at' b s.f) else cmp ss a b
def Sk.rev : Sk → Sk
  | .rank g => .rank g.reverse
  | .val n desc => .val n !desc
def Stp.rev (s : Stp) : Stp := ⟨s.f, s.k.rev⟩
/-! ### laws of the model -/
theorem sgnI_self (a : Int) : sgnI a a = 0 := by simp [sgnI]
theorem sgnI_neg (a b : Int) : sgnI b a = -sgnI a b := by
  unfold sgnI
  by_cases h : a = b
  · subst h; simp
  · rw [if_neg (fun z => h z.symm), if_neg h]
    by_cases h1 : a < b
    · rw [if_pos h1, if_neg (by omega)]; rfl
    · rw [if_neg h1, if_pos (by omega)]
theorem str_ext {x y : Str} (h : x.cps.toList = y.cps.toList) : x = y := by
  cases x with
  | mk a =>
    cases y with
    | mk b =>
      have : a = b := by
        cases a; cases b
        simpa using h
      rw [this]
theorem ltS_irr (x : Str) : ltS x x = false := by
  unfold ltS
  exact decide_eq_false (List.lt_irrefl _)
theorem ltS_asymm {x y : Str} (h : ltS x y = true) : ltS y x = false := by
  unfold ltS at *
  have h := of_decide_eq_true h
  exact decide_eq_false (fun z => List.lt_irrefl _ (List.lt_trans h z))
theorem ltS_tri {x y : Str} (h : x ≠ y) (h1 : ltS x y = false) : ltS y x = true := by
  unfold ltS at *
  have h1 := of_decide_eq_false h1
  refine decide_eq_true ?_
  rcases Classical.em (y.cps.toList < x.cps.toList) with z | z
  · exact z
  · exact absurd (str_ext (List.le_antisymm (List.not_lt.mp z) (List.not_lt.mp h1))) h
theorem sgnS_self (x : Str) : sgnS x x = 0 := by simp [sgnS]
theorem sgnS_neg (x y : Str) : sgnS y x = -sgnS x y := by
  unfold sgnS
  by_cases h : x = y
  · subst h; simp
  · rw [if_neg (fun z => h z.symm), if_neg h]
    cases h1 : ltS x y with
    | true => rw [ltS_asymm h1]; rfl
    | false => rw [ltS_tri h h1]; rfl
theorem Nm.res_neg (n : Nm) (a b : Vl) : n.res b a = -n.res a b := by
  cases n <;> cases a <;> cases b <;> simp only [Nm.res] <;> first
    | rfl
    | exact sgnI_neg _ _
    | exact sgnS_neg _ _
theorem Nm.res_self (n : Nm) (a : Vl) : n.res a a = 0 := by
  have := n.res_neg a a
  omega
theorem Sk.res_neg (k : Sk) (a b : Vl) : k.res b a = -k.res a b := by
  cases k with
  | rank g => exact sgnI_neg _ _
  | val n desc =>
    simp only [Sk.res, n.res_neg a b]
    cases desc <;> simp
theorem Sk.res_self (k : Sk) (a : Vl) : k.res a a = 0 := by
  have := k.res_neg a a
  omega
theorem cmp_neg (ss : List Stp) (a b : List Vl) : cmp ss b a = -cmp ss a b := by
  induction ss with
  | nil => rfl
  | cons s ss ih =>
    simp only [cmp, s.k.res_neg (at' a s.f) (at' b s.f), ih]
    by_cases h : s.k.res (at' a s.f) (at' b s.f) = 0
    · rw [if_neg (by simp [h]), if_neg (by simp [h])]
    · rw [if_pos (by omega), if_pos h]
theorem cmp_self (ss : List Stp) (a : List Vl) : cmp ss a a = 0 := by
  have := cmp_neg ss a a
  omega
theorem rev_rk : ∀ g ∈ allG, ∀ a b : Kd, sgnI (rkI g.reverse a) (rkI g.reverse b) = -sgnI (rkI g a) (rkI g b) := by
  intro g hg a b
  revert g
  cases a <;> cases b <;> decide
theorem Sk.res_rev (k : Sk) (h : k.ok = true) (a b : Vl) : k.rev.res a b = -k.res a b := by
  cases k with
  | rank g => exact rev_rk g (of_decide_eq_true h) a.kd b.kd
  | val n desc => cases desc <;> simp [Sk.rev, Sk.res]
theorem cmp_rev (ss : List Stp) (h : ∀ s ∈ ss, s.k.ok = true) (a b : List Vl) : cmp (ss.map Stp.rev) a b = -cmp ss a b := by
  induction ss with
  | nil => rfl
  | cons s ss ih =>
    have h1 := s.k.res_rev (h s List.mem_cons_self) (at' a s.f) (at' b s.f)
    simp only [List.map_cons, cmp, Stp.rev, h1]
    have ih := ih fun x hx => h x (List.mem_cons_of_mem _ hx)
    rw [ih]
    by_cases h : s.k.res (at' a s.f) (at' b s.f) = 0
    · rw [if_neg (by simp [h]), if_neg (by simp [h])]
    · rw [if_pos (by omega), if_pos h]
theorem cmp_append (ss ts : List Stp) (a b : List Vl) : cmp (ss ++ ts) a b = if cmp ss a b ≠ 0 then cmp ss a b else cmp ts a b := by
  induction ss with
  | nil => rfl
  | cons s ss ih =>
    simp only [List.cons_append, cmp, ih]
    by_cases h : s.k.res (at' a s.f) (at' b s.f) = 0
    · simp [h]
    · simp [h]
theorem rev_ok : ∀ g ∈ allG, g.reverse ∈ allG := by decide
theorem Sk.rev_ok (k : Sk) (h : k.ok = true) : k.rev.ok = true := by
  cases k with
  | rank g => exact decide_eq_true (SS.rev_ok g (of_decide_eq_true h))
  | val n desc => rfl
theorem Stp.rev_ok {w : Nat} (s : Stp) (h : s.ok w = true) : s.rev.ok w = true := by
  unfold Stp.ok at *
  rw [Bool.and_eq_true] at *
  exact ⟨h.1, s.k.rev_ok h.2⟩
theorem Sk.rev_rev (k : Sk) : k.rev.rev = k := by
  cases k with
  | rank g => simp [Sk.rev]
  | val n desc => simp [Sk.rev]
theorem Stp.rev_rev (s : Stp) : s.rev.rev = s := by
  cases s
  simp [Stp.rev, Sk.rev_rev]
end SS
namespace SS
open PySem L2 Pg
/-! # the program's defs by the model -/
theorem letters : (("abcdefghijklmnopqrstuvwxyz" : Str).cps).toList = (List.range 26).map (· + 97) := by decide +kernel
theorem inS (c : Nat) (y : Str) : inD (.str ⟨#[c]⟩) (.str y) = some (.bool (decide (c ∈ y.cps.toList))) := by
  have h : inB (.str ⟨#[c]⟩) (.str y) = some (decide (c ∈ y.cps.toList)) := by
    show (if (⟨#[c]⟩ : Str).length = 1 then some (decide ((⟨#[c]⟩ : Str).cps.getD 0 0 ∈ y.cps.toList)) else none) = _
    rw [if_pos (show (⟨#[c]⟩ : Str).length = 1 from rfl)]
    rfl
  unfold inD
  rw [h]
  rfl
theorem letter_in {c : Nat} (h : 97 ≤ c) (h2 : c ≤ 122) : inD (.str ⟨#[c]⟩) k_LETTERS = some (.bool true) := by
  have e : c ∈ (("abcdefghijklmnopqrstuvwxyz" : Str).cps).toList := by
    rw [letters, List.mem_map]
    exact ⟨c - 97, by rw [List.mem_range]; omega, by omega⟩
  unfold k_LETTERS
  rw [inS]
  exact congrArg (fun b => some (PyData.bool b)) (decide_eq_true e)
theorem txt_all {x : Str} (h : txtOk x = true) : 1 ≤ x.length ∧ x.length ≤ 12 ∧ ∀ c ∈ x.cps.toList, 97 ≤ c ∧ c ≤ 122 := by
  unfold txtOk at h
  simp only [Bool.and_eq_true, decide_eq_true_eq, List.all_eq_true] at h
  exact ⟨h.1.1, h.1.2, h.2⟩
theorem len_toList (x : Str) : x.cps.toList.length = x.length := by simp [Str.length]
theorem allD_bools (bs : List Bool) : allD [.list (bs.map PyData.bool)] = some (.bool (bs.all id)) := by
  have h1 : (bs.map PyData.bool).all (fun d => match d with | .bool _ => true | _ => false) = true := by simp
  have h2 : (bs.map PyData.bool).all (fun d => match d with | .bool b => b | _ => false) = bs.all id := by
    rw [List.all_map]; rfl
  show (if (bs.map PyData.bool).all (fun d => match d with | .bool _ => true | _ => false) = true then some (PyData.bool ((bs.map PyData.bool).all fun d => match d with | .bool b => b | _ => false)) else none) = _
  rw [if_pos h1, h2]
theorem allD_true {α : Type} (l : List α) : allD [.list (l.map fun _ => PyData.bool true)] = some (.bool true) := by
  have e : (l.map fun _ => PyData.bool true) = (l.map fun _ => true).map PyData.bool := by simp
  rw [e, allD_bools]
  simp
theorem kind_spec (v : Vl) (h : v.ok = true) : F_kind_of [.v v.d] = .ok (.str v.kd.s) [.dead] := by
  cases v with
  | non => rfl
  | num n =>
    simp only [Vl.ok, Bool.and_eq_true, decide_eq_true_eq] at h
    simp [F_kind_of, M_kind_of, Vl.d, Vl.kd, Kd.s, k_LARGEST, runF, seqS, ifS, retS, retN, nilS, setS, exprS, raiseS, bindS, bTup, bAll_nil, bAll_cons, bName, orE, andE, ifE, op1, op2, bindE, liftE, varE, retE, notD, appE, consA, nilA, valsA, tupD, lstD, frE, chainE, Arg.slot, Arg.cell, callE, argsOf, argOf, refs, putB, consR, consFn, List.map_cons, List.map_nil, List.length_cons, List.length_nil, List.set_cons_zero, List.set_cons_succ, List.getElem?_cons_zero, List.getElem?_cons_succ, List.replicate, List.cons_append, List.nil_append, Option.bind_some, Option.map_some, List.take_succ_cons, List.take_zero, List.take_nil, List.nodup_nil, Nat.reduceAdd, Nat.reduceSub, Nat.reduceLeDiff, Nat.zero_add, and_true, and_self, if_true, Bool.not_true, Bool.not_false, Nat.sub_self, List.append_nil, Int.cast_ofNat_Int, beq_self_eq_true, nd1, true_and, isaD, leD, ltD, gtD, geD, addD, subD, negD, lenD, isD, isNotD, idx0, idx1, idx2, idl0, idl1, h.1, h.2]
  | txt x =>
    obtain ⟨h1, h2, h3⟩ := txt_all (show txtOk x = true from h)
    have hc : L_kind_of_1 [.v (.str x), .un] [.dead, .dead] = .ok ((x.cps.toList.map fun c => PyData.str ⟨#[c]⟩).map fun _ => PyData.bool true) [.dead, .dead] := by
      refine lcG_map (fun _ => PyData.bool true) rfl rfl (fun d hd => ?_) (by rw [List.length_map, len_toList]; omega)
      obtain ⟨c, hc, rfl⟩ := List.mem_map.mp hd
      obtain ⟨g1, g2⟩ := h3 c hc
      simp only [runF, seqS, ifS, retS, retN, nilS, setS, exprS, raiseS, bindS, bTup, bAll_nil, bAll_cons, bName, orE, andE, ifE, op1, op2, bindE, liftE, varE, retE, notD, appE, consA, nilA, valsA, tupD, lstD, frE, chainE, Arg.slot, Arg.cell, callE, argsOf, argOf, refs, putB, consR, consFn, List.map_cons, List.map_nil, List.length_cons, List.length_nil, List.set_cons_zero, List.set_cons_succ, List.getElem?_cons_zero, List.getElem?_cons_succ, List.replicate, List.cons_append, List.nil_append, Option.bind_some, Option.map_some, List.take_succ_cons, List.take_zero, List.take_nil, List.nodup_nil, Nat.reduceAdd, Nat.reduceSub, Nat.reduceLeDiff, Nat.zero_add, and_true, and_self, if_true, Bool.not_true, Bool.not_false, Nat.sub_self, List.append_nil, Int.cast_ofNat_Int, beq_self_eq_true, nd1, true_and, letter_in g1 g2]
    have h5 : x.length ≤ 16000000 := by omega
    have h6 : (1 : Int) ≤ (x.length : Int) := by omega
    have h7 : (x.length : Int) ≤ 12 := by omega
    simp only [F_kind_of, M_kind_of, Vl.d, Vl.kd, Kd.s, k_LARGEST, k_LETTERS_MOST, runF, seqS, ifS, retS, retN, nilS, setS, exprS, raiseS, bindS, bTup, bAll_nil, bAll_cons, bName, orE, andE, ifE, op1, op2, bindE, liftE, varE, retE, notD, appE, consA, nilA, valsA, tupD, lstD, frE, chainE, Arg.slot, Arg.cell, callE, argsOf, argOf, refs, putB, consR, consFn, List.map_cons, List.map_nil, List.length_cons, List.length_nil, List.set_cons_zero, List.set_cons_succ, List.getElem?_cons_zero, List.getElem?_cons_succ, List.replicate, List.cons_append, List.nil_append, Option.bind_some, Option.map_some, List.take_succ_cons, List.take_zero, List.take_nil, List.nodup_nil, Nat.reduceAdd, Nat.reduceSub, Nat.reduceLeDiff, Nat.zero_add, and_true, and_self, if_true, Bool.not_true, Bool.not_false, Nat.sub_self, List.append_nil, Int.cast_ofNat_Int, beq_self_eq_true, nd1, true_and, isaD, leD, ltD, gtD, geD, addD, subD, negD, lenD, isD, isNotD, idx0, idx1, idx2, idl0, idl1, hc, h5, h6, h7, decide_true, allD_true]
theorem spelling_spec (v : Vl) (h : v.ok = true) (h2 : v ≠ .non) : F_spelling_of [.v v.d] = .ok (.str v.spell) [.dead] := by
  cases v with
  | non => exact absurd rfl h2
  | num n =>
    simp only [Vl.ok, Bool.and_eq_true, decide_eq_true_eq] at h
    have h3 : n.natAbs < 2 ^ 1000 := Nat.lt_trans (by omega : n.natAbs < 2 ^ 30) (Nat.pow_lt_pow_right (by decide) (by decide))
    simp only [F_spelling_of, M_spelling_of, Vl.d, Vl.spell, runF, seqS, ifS, retS, retN, nilS, setS, exprS, raiseS, bindS, bTup, bAll_nil, bAll_cons, bName, orE, andE, ifE, op1, op2, bindE, liftE, varE, retE, notD, appE, consA, nilA, valsA, tupD, lstD, frE, chainE, Arg.slot, Arg.cell, callE, argsOf, argOf, refs, putB, consR, consFn, List.map_cons, List.map_nil, List.length_cons, List.length_nil, List.set_cons_zero, List.set_cons_succ, List.getElem?_cons_zero, List.getElem?_cons_succ, List.replicate, List.cons_append, List.nil_append, Option.bind_some, Option.map_some, List.take_succ_cons, List.take_zero, List.take_nil, List.nodup_nil, Nat.reduceAdd, Nat.reduceSub, Nat.reduceLeDiff, Nat.zero_add, and_true, and_self, if_true, Bool.not_true, Bool.not_false, Nat.sub_self, List.append_nil, Int.cast_ofNat_Int, beq_self_eq_true, nd1, true_and, isaD, leD, ltD, gtD, geD, addD, subD, negD, lenD, isD, isNotD, idx0, idx1, idx2, idl0, idl1, strD, if_pos h3]
  | txt x => simp only [F_spelling_of, M_spelling_of, Vl.d, Vl.spell, runF, seqS, ifS, retS, retN, nilS, setS, exprS, raiseS, bindS, bTup, bAll_nil, bAll_cons, bName, orE, andE, ifE, op1, op2, bindE, liftE, varE, retE, notD, appE, consA, nilA, valsA, tupD, lstD, frE, chainE, Arg.slot, Arg.cell, callE, argsOf, argOf, refs, putB, consR, consFn, List.map_cons, List.map_nil, List.length_cons, List.length_nil, List.set_cons_zero, List.set_cons_succ, List.getElem?_cons_zero, List.getElem?_cons_succ, List.replicate, List.cons_append, List.nil_append, Option.bind_some, Option.map_some, List.take_succ_cons, List.take_zero, List.take_nil, List.nodup_nil, Nat.reduceAdd, Nat.reduceSub, Nat.reduceLeDiff, Nat.zero_add, and_true, and_self, if_true, Bool.not_true, Bool.not_false, Nat.sub_self, List.append_nil, Int.cast_ofNat_Int, beq_self_eq_true, nd1, true_and, isaD, leD, ltD, gtD, geD, addD, subD, negD, lenD, isD, isNotD, idx0, idx1, idx2, idl0, idl1]
theorem neS (x y : Str) : neD (.str x) (.str y) = some (.bool (!(x == y))) := rfl
theorem eqS (x y : Str) : eqD (.str x) (.str y) = some (.bool (x == y)) := rfl
theorem eqI (x y : Int) : eqD (.int x) (.int y) = some (.bool (x == y)) := rfl
theorem neI (x y : Int) : neD (.int x) (.int y) = some (.bool (!(x == y))) := rfl
theorem kd_ne (k : Kd) : (k.s == ("" : Str)) = false := by cases k <;> rfl
theorem is_record_spec (r : List Vl) (w : Nat) (hl : r.length = w) (hw : w ≤ 2) (h : ∀ v ∈ r, v.ok = true) : F_is_record [.v (recD r), .v (.int w)] = .ok (.bool true) [.dead, .dead] := by
  have hc : L_is_record_1 [.v (recD r), .v (.int w), .un] [.dead, .dead, .dead] = .ok ((r.map Vl.d).map fun _ => PyData.bool true) [.dead, .dead, .dead] := by
    refine lcG_map (fun _ => PyData.bool true) rfl rfl (fun d hd => ?_) (by rw [List.length_map]; omega)
    obtain ⟨v, hv, rfl⟩ := List.mem_map.mp hd
    simp only [runF, seqS, ifS, retS, retN, nilS, setS, exprS, raiseS, bindS, bTup, bAll_nil, bAll_cons, bName, orE, andE, ifE, op1, op2, bindE, liftE, varE, retE, notD, appE, consA, nilA, valsA, tupD, lstD, frE, chainE, Arg.slot, Arg.cell, callE, argsOf, argOf, refs, putB, consR, consFn, List.map_cons, List.map_nil, List.length_cons, List.length_nil, List.set_cons_zero, List.set_cons_succ, List.getElem?_cons_zero, List.getElem?_cons_succ, List.replicate, List.cons_append, List.nil_append, Option.bind_some, Option.map_some, List.take_succ_cons, List.take_zero, List.take_nil, List.nodup_nil, Nat.reduceAdd, Nat.reduceSub, Nat.reduceLeDiff, Nat.zero_add, and_true, and_self, if_true, Bool.not_true, Bool.not_false, Nat.sub_self, List.append_nil, Int.cast_ofNat_Int, beq_self_eq_true, nd1, true_and, kind_spec v (h v hv), neS, kd_ne]
  have h5 : (r.map Vl.d).length ≤ 16000000 := by rw [List.length_map]; omega
  have h6 : ((r.map Vl.d).length : Int) = w := by rw [List.length_map, hl]
  simp only [F_is_record, M_is_record, recD, runF, seqS, ifS, retS, retN, nilS, setS, exprS, raiseS, bindS, bTup, bAll_nil, bAll_cons, bName, orE, andE, ifE, op1, op2, bindE, liftE, varE, retE, notD, appE, consA, nilA, valsA, tupD, lstD, frE, chainE, Arg.slot, Arg.cell, callE, argsOf, argOf, refs, putB, consR, consFn, List.map_cons, List.map_nil, List.length_cons, List.length_nil, List.set_cons_zero, List.set_cons_succ, List.getElem?_cons_zero, List.getElem?_cons_succ, List.replicate, List.cons_append, List.nil_append, Option.bind_some, Option.map_some, List.take_succ_cons, List.take_zero, List.take_nil, List.nodup_nil, Nat.reduceAdd, Nat.reduceSub, Nat.reduceLeDiff, Nat.zero_add, and_true, and_self, if_true, Bool.not_true, Bool.not_false, Nat.sub_self, List.append_nil, Int.cast_ofNat_Int, beq_self_eq_true, nd1, true_and, isaD, leD, ltD, gtD, geD, addD, subD, negD, lenD, isD, isNotD, idx0, idx1, idx2, idl0, idl1] at hc ⊢
  simp only [recD, hc, h5, h6, allD_true, runF, seqS, ifS, retS, retN, nilS, setS, exprS, raiseS, bindS, bTup, bAll_nil, bAll_cons, bName, orE, andE, ifE, op1, op2, bindE, liftE, varE, retE, notD, appE, consA, nilA, valsA, tupD, lstD, frE, chainE, Arg.slot, Arg.cell, callE, argsOf, argOf, refs, putB, consR, consFn, List.map_cons, List.map_nil, List.length_cons, List.length_nil, List.set_cons_zero, List.set_cons_succ, List.getElem?_cons_zero, List.getElem?_cons_succ, List.replicate, List.cons_append, List.nil_append, Option.bind_some, Option.map_some, List.take_succ_cons, List.take_zero, List.take_nil, List.nodup_nil, Nat.reduceAdd, Nat.reduceSub, Nat.reduceLeDiff, Nat.zero_add, and_true, and_self, if_true, Bool.not_true, Bool.not_false, Nat.sub_self, List.append_nil, Int.cast_ofNat_Int, beq_self_eq_true, nd1, true_and, eqI, beq_self_eq_true]
theorem need_record_spec (r : List Vl) (w : Nat) (x : D) (hl : r.length = w) (hw : w ≤ 2) (h : ∀ v ∈ r, v.ok = true) : F_need_record [.v (.tuple [.int w, x]), .v (recD r)] = .ok .none [.dead, .dead] := by
  simp only [F_need_record, M_need_record, runF, seqS, ifS, retS, retN, nilS, setS, exprS, raiseS, bindS, bTup, bAll_nil, bAll_cons, bName, orE, andE, ifE, op1, op2, bindE, liftE, varE, retE, notD, appE, consA, nilA, valsA, tupD, lstD, frE, chainE, Arg.slot, Arg.cell, callE, argsOf, argOf, refs, putB, consR, consFn, List.map_cons, List.map_nil, List.length_cons, List.length_nil, List.set_cons_zero, List.set_cons_succ, List.getElem?_cons_zero, List.getElem?_cons_succ, List.replicate, List.cons_append, List.nil_append, Option.bind_some, Option.map_some, List.take_succ_cons, List.take_zero, List.take_nil, List.nodup_nil, Nat.reduceAdd, Nat.reduceSub, Nat.reduceLeDiff, Nat.zero_add, and_true, and_self, if_true, Bool.not_true, Bool.not_false, Nat.sub_self, List.append_nil, Int.cast_ofNat_Int, beq_self_eq_true, nd1, true_and, isaD, leD, ltD, gtD, geD, addD, subD, negD, lenD, isD, isNotD, idx0, idx1, idx2, idl0, idl1, is_record_spec r w hl hw h]
theorem are_groups_spec : ∀ g ∈ allG, F_are_groups [.v (gD g)] = .ok (.bool true) [.dead] := by
  unfold F_are_groups M_are_groups L_are_groups_4
  rw [sorted_eq]
  intro g hg
  refine okTrue_eq ?_
  revert g
  decide +kernel
theorem rank_spec : ∀ g ∈ allG, ∀ k : Kd, F_rank [.v (gD g), .v (.str k.s)] = .ok (.int (rkI g k)) [.dead, .dead] := by
  intro g hg k
  simp only [allG, List.mem_cons, List.not_mem_nil, or_false] at hg
  rcases hg with rfl | rfl | rfl | rfl | rfl | rfl | rfl | rfl | rfl | rfl | rfl | rfl | rfl <;> cases k <;> rfl
theorem nm_rank (n : Nm) : (n.s == ("rank" : Str)) = false := by cases n <;> rfl
theorem nm_in (n : Nm) : inD (.str n.s) k_NAMES = some (.bool true) := by cases n <;> rfl
theorem dir_in (b : Bool) : inD (.str (dirS b)) (.tuple [.str "asc", .str "desc"]) = some (.bool true) := by cases b <;> rfl
theorem is_step_spec (w : Nat) (s : Stp) (h : s.ok w = true) : F_is_step [.v s.d, .v (.int w)] = .ok (.bool true) [.dead, .dead] := by
  obtain ⟨f, k⟩ := s
  simp only [Stp.ok, Bool.and_eq_true, decide_eq_true_eq] at h
  obtain ⟨h1, h2⟩ := h
  have h3 : (0 : Int) ≤ (f : Int) := by omega
  have h4 : (f : Int) < (w : Int) := by omega
  cases k with
  | rank g =>
    have hg := are_groups_spec g (of_decide_eq_true h2)
    simp only [F_is_step, M_is_step, Stp.d, runF, seqS, ifS, retS, retN, nilS, setS, exprS, raiseS, bindS, bTup, bAll_nil, bAll_cons, bName, orE, andE, ifE, op1, op2, bindE, liftE, varE, retE, notD, appE, consA, nilA, valsA, tupD, lstD, frE, chainE, Arg.slot, Arg.cell, callE, argsOf, argOf, refs, putB, consR, consFn, List.map_cons, List.map_nil, List.length_cons, List.length_nil, List.set_cons_zero, List.set_cons_succ, List.getElem?_cons_zero, List.getElem?_cons_succ, List.replicate, List.cons_append, List.nil_append, Option.bind_some, Option.map_some, List.take_succ_cons, List.take_zero, List.take_nil, List.nodup_nil, Nat.reduceAdd, Nat.reduceSub, Nat.reduceLeDiff, Nat.zero_add, and_true, and_self, if_true, Bool.not_true, Bool.not_false, Nat.sub_self, List.append_nil, Int.cast_ofNat_Int, beq_self_eq_true, nd1, true_and, isaD, leD, ltD, gtD, geD, addD, subD, negD, lenD, isD, isNotD, idx0, idx1, idx2, idl0, idl1, neI, eqS, h3, h4, hg, decide_true]
  | val n b =>
    simp only [F_is_step, M_is_step, Stp.d, runF, seqS, ifS, retS, retN, nilS, setS, exprS, raiseS, bindS, bTup, bAll_nil, bAll_cons, bName, orE, andE, ifE, op1, op2, bindE, liftE, varE, retE, notD, appE, consA, nilA, valsA, tupD, lstD, frE, chainE, Arg.slot, Arg.cell, callE, argsOf, argOf, refs, putB, consR, consFn, List.map_cons, List.map_nil, List.length_cons, List.length_nil, List.set_cons_zero, List.set_cons_succ, List.getElem?_cons_zero, List.getElem?_cons_succ, List.replicate, List.cons_append, List.nil_append, Option.bind_some, Option.map_some, List.take_succ_cons, List.take_zero, List.take_nil, List.nodup_nil, Nat.reduceAdd, Nat.reduceSub, Nat.reduceLeDiff, Nat.zero_add, and_true, and_self, if_true, Bool.not_true, Bool.not_false, Nat.sub_self, List.append_nil, Int.cast_ofNat_Int, beq_self_eq_true, nd1, true_and, isaD, leD, ltD, gtD, geD, addD, subD, negD, lenD, isD, isNotD, idx0, idx1, idx2, idl0, idl1, neI, eqS, h3, h4, decide_true, nm_rank, nm_in, dir_in]
theorem is_width_spec (w : Nat) (h1 : 1 ≤ w) (h2 : w ≤ 2) : F_is_width [.v (.int w)] = .ok (.bool true) [.dead] := by
  have h3 : (1 : Int) ≤ (w : Int) := by omega
  have h4 : (w : Int) ≤ 2 := by omega
  simp only [F_is_width, M_is_width, runF, seqS, ifS, retS, retN, nilS, setS, exprS, raiseS, bindS, bTup, bAll_nil, bAll_cons, bName, orE, andE, ifE, op1, op2, bindE, liftE, varE, retE, notD, appE, consA, nilA, valsA, tupD, lstD, frE, chainE, Arg.slot, Arg.cell, callE, argsOf, argOf, refs, putB, consR, consFn, List.map_cons, List.map_nil, List.length_cons, List.length_nil, List.set_cons_zero, List.set_cons_succ, List.getElem?_cons_zero, List.getElem?_cons_succ, List.replicate, List.cons_append, List.nil_append, Option.bind_some, Option.map_some, List.take_succ_cons, List.take_zero, List.take_nil, List.nodup_nil, Nat.reduceAdd, Nat.reduceSub, Nat.reduceLeDiff, Nat.zero_add, and_true, and_self, if_true, Bool.not_true, Bool.not_false, Nat.sub_self, List.append_nil, Int.cast_ofNat_Int, beq_self_eq_true, nd1, true_and, isaD, leD, ltD, gtD, geD, addD, subD, negD, lenD, isD, isNotD, idx0, idx1, idx2, idl0, idl1, h3, h4, decide_true]
theorem is_spec_spec (w : Nat) (ss : List Stp) (h1 : 1 ≤ w) (h2 : w ≤ 2) (hl : ss.length ≤ 6) (h : ∀ s ∈ ss, s.ok w = true) : F_is_spec [.v (specD w ss)] = .ok (.bool true) [.dead] := by
  have hc : L_is_spec_1 [.v (specD w ss), .un] [.dead, .dead] = .ok ((ss.map Stp.d).map fun _ => PyData.bool true) [.dead, .dead] := by
    refine lcG_map (ds := ss.map Stp.d) (fun _ => PyData.bool true) rfl (by simp only [anyI, specD, runF, seqS, ifS, retS, retN, nilS, setS, exprS, raiseS, bindS, bTup, bAll_nil, bAll_cons, bName, orE, andE, ifE, op1, op2, bindE, liftE, varE, retE, notD, appE, consA, nilA, valsA, tupD, lstD, frE, chainE, Arg.slot, Arg.cell, callE, argsOf, argOf, refs, putB, consR, consFn, List.map_cons, List.map_nil, List.length_cons, List.length_nil, List.set_cons_zero, List.set_cons_succ, List.getElem?_cons_zero, List.getElem?_cons_succ, List.replicate, List.cons_append, List.nil_append, Option.bind_some, Option.map_some, List.take_succ_cons, List.take_zero, List.take_nil, List.nodup_nil, Nat.reduceAdd, Nat.reduceSub, Nat.reduceLeDiff, Nat.zero_add, and_true, and_self, if_true, Bool.not_true, Bool.not_false, Nat.sub_self, List.append_nil, Int.cast_ofNat_Int, beq_self_eq_true, nd1, true_and, isaD, leD, ltD, gtD, geD, addD, subD, negD, lenD, isD, isNotD, idx0, idx1, idx2, idl0, idl1]) (fun d hd => ?_) (by rw [List.length_map]; omega)
    obtain ⟨s, hs, rfl⟩ := List.mem_map.mp hd
    simp only [specD, runF, seqS, ifS, retS, retN, nilS, setS, exprS, raiseS, bindS, bTup, bAll_nil, bAll_cons, bName, orE, andE, ifE, op1, op2, bindE, liftE, varE, retE, notD, appE, consA, nilA, valsA, tupD, lstD, frE, chainE, Arg.slot, Arg.cell, callE, argsOf, argOf, refs, putB, consR, consFn, List.map_cons, List.map_nil, List.length_cons, List.length_nil, List.set_cons_zero, List.set_cons_succ, List.getElem?_cons_zero, List.getElem?_cons_succ, List.replicate, List.cons_append, List.nil_append, Option.bind_some, Option.map_some, List.take_succ_cons, List.take_zero, List.take_nil, List.nodup_nil, Nat.reduceAdd, Nat.reduceSub, Nat.reduceLeDiff, Nat.zero_add, and_true, and_self, if_true, Bool.not_true, Bool.not_false, Nat.sub_self, List.append_nil, Int.cast_ofNat_Int, beq_self_eq_true, nd1, true_and, isaD, leD, ltD, gtD, geD, addD, subD, negD, lenD, isD, isNotD, idx0, idx1, idx2, idl0, idl1, is_step_spec w s (h s hs)]
  have h5 : (ss.map Stp.d).length ≤ 16000000 := by rw [List.length_map]; omega
  have h6 : ((ss.map Stp.d).length : Int) ≤ 6 := by rw [List.length_map]; omega
  simp only [specD] at hc
  simp only [F_is_spec, M_is_spec, specD, runF, seqS, ifS, retS, retN, nilS, setS, exprS, raiseS, bindS, bTup, bAll_nil, bAll_cons, bName, orE, andE, ifE, op1, op2, bindE, liftE, varE, retE, notD, appE, consA, nilA, valsA, tupD, lstD, frE, chainE, Arg.slot, Arg.cell, callE, argsOf, argOf, refs, putB, consR, consFn, List.map_cons, List.map_nil, List.length_cons, List.length_nil, List.set_cons_zero, List.set_cons_succ, List.getElem?_cons_zero, List.getElem?_cons_succ, List.replicate, List.cons_append, List.nil_append, Option.bind_some, Option.map_some, List.take_succ_cons, List.take_zero, List.take_nil, List.nodup_nil, Nat.reduceAdd, Nat.reduceSub, Nat.reduceLeDiff, Nat.zero_add, and_true, and_self, if_true, Bool.not_true, Bool.not_false, Nat.sub_self, List.append_nil, Int.cast_ofNat_Int, beq_self_eq_true, nd1, true_and, isaD, leD, ltD, gtD, geD, addD, subD, negD, lenD, isD, isNotD, idx0, idx1, idx2, idl0, idl1, is_width_spec w h1 h2, neI, hc, h5, h6, decide_true, k_STEPS, allD_true]
theorem need_spec_spec (w : Nat) (ss : List Stp) (h1 : 1 ≤ w) (h2 : w ≤ 2) (hl : ss.length ≤ 6) (h : ∀ s ∈ ss, s.ok w = true) : F_need_spec [.v (specD w ss)] = .ok .none [.dead] := by
  simp only [F_need_spec, M_need_spec, runF, seqS, ifS, retS, retN, nilS, setS, exprS, raiseS, bindS, bTup, bAll_nil, bAll_cons, bName, orE, andE, ifE, op1, op2, bindE, liftE, varE, retE, notD, appE, consA, nilA, valsA, tupD, lstD, frE, chainE, Arg.slot, Arg.cell, callE, argsOf, argOf, refs, putB, consR, consFn, List.map_cons, List.map_nil, List.length_cons, List.length_nil, List.set_cons_zero, List.set_cons_succ, List.getElem?_cons_zero, List.getElem?_cons_succ, List.replicate, List.cons_append, List.nil_append, Option.bind_some, Option.map_some, List.take_succ_cons, List.take_zero, List.take_nil, List.nodup_nil, Nat.reduceAdd, Nat.reduceSub, Nat.reduceLeDiff, Nat.zero_add, and_true, and_self, if_true, Bool.not_true, Bool.not_false, Nat.sub_self, List.append_nil, Int.cast_ofNat_Int, beq_self_eq_true, nd1, true_and, isaD, leD, ltD, gtD, geD, addD, subD, negD, lenD, isD, isNotD, idx0, idx1, idx2, idl0, idl1, is_spec_spec w ss h1 h2 hl h]
/-! ### the comparison -/
open PyProof.Rows (b2i) in
theorem sgnI_b (a b : Int) : b2i (decide (b < a)) - b2i (decide (a < b)) = sgnI a b := by
  unfold sgnI
  by_cases h : a = b
  · subst h; simp
  · by_cases h1 : a < b
    · have h2 : ¬ b < a := by omega
      simp [h, h1, h2, b2i]
    · have h2 : b < a := by omega
      simp [h, h1, h2, b2i]
open PyProof.Rows (b2i) in
theorem sgnS_b (x y : Str) : b2i (ltS y x) - b2i (ltS x y) = sgnS x y := by
  unfold sgnS
  by_cases h : x = y
  · subst h; simp
  · cases h1 : ltS x y with
    | true => rw [ltS_asymm h1]; simp [h, b2i]
    | false => rw [ltS_tri h h1]; simp [h, b2i]
theorem sign_int (a b : Int) : F_sign [.v (.int a), .v (.int b)] = .ok (.int (sgnI a b)) [.dead, .dead] := by
  simp only [F_sign, M_sign, runF, seqS, ifS, retS, retN, nilS, setS, exprS, raiseS, bindS, bTup, bAll_nil, bAll_cons, bName, orE, andE, ifE, op1, op2, bindE, liftE, varE, retE, notD, appE, consA, nilA, valsA, tupD, lstD, frE, chainE, Arg.slot, Arg.cell, callE, argsOf, argOf, refs, putB, consR, consFn, List.map_cons, List.map_nil, List.length_cons, List.length_nil, List.set_cons_zero, List.set_cons_succ, List.getElem?_cons_zero, List.getElem?_cons_succ, List.replicate, List.cons_append, List.nil_append, Option.bind_some, Option.map_some, List.take_succ_cons, List.take_zero, List.take_nil, List.nodup_nil, Nat.reduceAdd, Nat.reduceSub, Nat.reduceLeDiff, Nat.zero_add, and_true, and_self, if_true, Bool.not_true, Bool.not_false, Nat.sub_self, List.append_nil, Int.cast_ofNat_Int, beq_self_eq_true, nd1, true_and, isaD, leD, ltD, gtD, geD, addD, subD, negD, lenD, isD, isNotD, idx0, idx1, idx2, idl0, idl1, sgnI_b]
theorem sign_str (x y : Str) : F_sign [.v (.str x), .v (.str y)] = .ok (.int (sgnS x y)) [.dead, .dead] := by
  simp only [F_sign, M_sign, runF, seqS, ifS, retS, retN, nilS, setS, exprS, raiseS, bindS, bTup, bAll_nil, bAll_cons, bName, orE, andE, ifE, op1, op2, bindE, liftE, varE, retE, notD, appE, consA, nilA, valsA, tupD, lstD, frE, chainE, Arg.slot, Arg.cell, callE, argsOf, argOf, refs, putB, consR, consFn, List.map_cons, List.map_nil, List.length_cons, List.length_nil, List.set_cons_zero, List.set_cons_succ, List.getElem?_cons_zero, List.getElem?_cons_succ, List.replicate, List.cons_append, List.nil_append, Option.bind_some, Option.map_some, List.take_succ_cons, List.take_zero, List.take_nil, List.nodup_nil, Nat.reduceAdd, Nat.reduceSub, Nat.reduceLeDiff, Nat.zero_add, and_true, and_self, if_true, Bool.not_true, Bool.not_false, Nat.sub_self, List.append_nil, Int.cast_ofNat_Int, beq_self_eq_true, nd1, true_and, isaD, leD, ltD, gtD, geD, addD, subD, negD, lenD, isD, isNotD, idx0, idx1, idx2, idl0, idl1, sgnS_b]
theorem kk (a b c d : Str) : eqD (.tuple [.str a, .str b]) (.tuple [.str c, .str d]) = if SeqAt.shaped (.tuple [.str a, .str b]) && SeqAt.shaped (.tuple [.str c, .str d]) then some (.bool ((a == c) && ((b == d) && true))) else none := by
  unfold eqD
  rfl
theorem kd_shaped (k l : Kd) : SeqAt.shaped (.tuple [.str k.s, .str l.s]) = true := by cases k <;> cases l <;> decide +kernel
theorem kd_eq (k l : Kd) : (k.s == l.s) = decide (k = l) := by cases k <;> cases l <;> rfl
theorem kk_spec (a b c d : Kd) : eqD (.tuple [.str a.s, .str b.s]) (.tuple [.str c.s, .str d.s]) = some (.bool (decide (a = c) && decide (b = d))) := by
  rw [kk, kd_shaped, kd_shaped, kd_eq, kd_eq]
  simp
theorem nm_eq (a b : Nm) : (a.s == b.s) = decide (a = b) := by cases a <;> cases b <;> rfl
theorem dir_desc (b : Bool) : (dirS b == ("desc" : Str)) = b := by cases b <;> rfl
theorem none_in (a b : Kd) : notInD (.str ("none" : Str)) (.tuple [.str a.s, .str b.s]) = some (.bool (!(decide (a = .non) || decide (b = .non)))) := by cases a <;> cases b <;> rfl
theorem step_rank (f : Nat) (g : List (List Kd)) (hg : g ∈ allG) (a b : Vl) (ha : a.ok = true) (hb : b.ok = true) :
    F_step_result [.v (Stp.d ⟨f, .rank g⟩), .v a.d, .v b.d] = .ok (.int ((Sk.rank g).res a b)) [.dead, .dead, .dead] := by
  simp only [F_step_result, M_step_result, Stp.d, runF, seqS, ifS, retS, retN, nilS, setS, exprS, raiseS, bindS, bTup, bAll_nil, bAll_cons, bName, orE, andE, ifE, op1, op2, bindE, liftE, varE, retE, notD, appE, consA, nilA, valsA, tupD, lstD, frE, chainE, Arg.slot, Arg.cell, callE, argsOf, argOf, refs, putB, consR, consFn, List.map_cons, List.map_nil, List.length_cons, List.length_nil, List.set_cons_zero, List.set_cons_succ, List.getElem?_cons_zero, List.getElem?_cons_succ, List.replicate, List.cons_append, List.nil_append, Option.bind_some, Option.map_some, List.take_succ_cons, List.take_zero, List.take_nil, List.nodup_nil, Nat.reduceAdd, Nat.reduceSub, Nat.reduceLeDiff, Nat.zero_add, and_true, and_self, if_true, Bool.not_true, Bool.not_false, Nat.sub_self, List.append_nil, Int.cast_ofNat_Int, beq_self_eq_true, nd1, true_and, isaD, leD, ltD, gtD, geD, addD, subD, negD, lenD, isD, isNotD, idx0, idx1, idx2, idl0, idl1, eqS, kind_spec a ha, kind_spec b hb, rank_spec g hg, sign_int, Sk.res]
theorem nm_num (n : Nm) : (n.s == ("number" : Str)) = decide (n = .number) := nm_eq n .number
theorem nm_txt (n : Nm) : (n.s == ("text" : Str)) = decide (n = .text) := nm_eq n .text
theorem nm_len (n : Nm) : (n.s == ("length" : Str)) = decide (n = .length) := nm_eq n .length
theorem nm_spl (n : Nm) : (n.s == ("spelling" : Str)) = decide (n = .spelling) := nm_eq n .spelling
theorem kkN (a b : Kd) : eqD (.tuple [.str a.s, .str b.s]) (.tuple [.str "number", .str "number"]) = some (.bool (decide (a = .num) && decide (b = .num))) := kk_spec a b .num .num
theorem kkT (a b : Kd) : eqD (.tuple [.str a.s, .str b.s]) (.tuple [.str "text", .str "text"]) = some (.bool (decide (a = .txt) && decide (b = .txt))) := kk_spec a b .txt .txt
theorem sign_num (i j : Int) : F_sign [.v (Vl.num i).d, .v (Vl.num j).d] = .ok (.int (sgnI i j)) [.dead, .dead] := sign_int i j
theorem sign_txt (x y : Str) : F_sign [.v (Vl.txt x).d, .v (Vl.txt y).d] = .ok (.int (sgnS x y)) [.dead, .dead] := sign_str x y
theorem len_txt (x : Str) (h : (Vl.txt x).ok = true) : lenD [(Vl.txt x).d] = some (.int x.length) := by
  have := (txt_all (show txtOk x = true from h)).2.1
  show (if x.length ≤ 16000000 then some (PyData.int x.length) else none) = _
  rw [if_pos (by omega)]
theorem step_val (f : Nat) (n : Nm) (desc : Bool) (a b : Vl) (ha : a.ok = true) (hb : b.ok = true) :
    F_step_result [.v (Stp.d ⟨f, .val n desc⟩), .v a.d, .v b.d] = .ok (.int ((Sk.val n desc).res a b)) [.dead, .dead, .dead] := by
  have k1 := kind_spec a ha
  have k2 := kind_spec b hb
  have p1 := spelling_spec a ha
  have p2 := spelling_spec b hb
  cases n <;> cases a <;> cases b <;>
    simp only [F_step_result, M_step_result, Stp.d, runF, seqS, ifS, retS, retN, nilS, setS, exprS, raiseS, bindS, bTup, bAll_nil, bAll_cons, bName, orE, andE, ifE, op1, op2, bindE, liftE, varE, retE, notD, appE, consA, nilA, valsA, tupD, lstD, frE, chainE, Arg.slot, Arg.cell, callE, argsOf, argOf, refs, putB, consR, consFn, List.map_cons, List.map_nil, List.length_cons, List.length_nil, List.set_cons_zero, List.set_cons_succ, List.getElem?_cons_zero, List.getElem?_cons_succ, List.replicate, List.cons_append, List.nil_append, Option.bind_some, Option.map_some, List.take_succ_cons, List.take_zero, List.take_nil, List.nodup_nil, Nat.reduceAdd, Nat.reduceSub, Nat.reduceLeDiff, Nat.zero_add, and_true, and_self, if_true, Bool.not_true, Bool.not_false, Nat.sub_self, List.append_nil, Int.cast_ofNat_Int, beq_self_eq_true, nd1, true_and, eqS, k1, k2, p1, p2, ne_eq, not_false_eq_true, nm_rank, nm_num, nm_txt, nm_len, nm_spl, kkN, kkT, none_in, sign_num, sign_txt, sign_int, sign_str, len_txt, ha, hb, Vl.kd, decide_true, decide_false, reduceCtorEq, Bool.and_self, Bool.and_true, Bool.and_false, Bool.or_false, Bool.or_true, Bool.false_or, Bool.or_self, dir_desc, Sk.res, Nm.res] <;>
    (cases desc <;> simp [subD])
end SS
namespace SS
open PySem L2 Pg
theorem step_spec (w : Nat) (s : Stp) (h : s.ok w = true) (a b : Vl) (ha : a.ok = true) (hb : b.ok = true) : F_step_result [.v s.d, .v a.d, .v b.d] = .ok (.int (s.k.res a b)) [.dead, .dead, .dead] := by
  obtain ⟨f, k⟩ := s
  simp only [Stp.ok, Bool.and_eq_true, decide_eq_true_eq] at h
  cases k with
  | rank g => exact step_rank f g (of_decide_eq_true h.2) a b ha hb
  | val n d => exact step_val f n d a b ha hb
theorem idx_f (s : Stp) : idxD s.d (.int 1) = some (.int s.f) := by
  obtain ⟨f, k⟩ := s
  cases k <;> simp only [Stp.d, idx1]
theorem idx_rec {r : List Vl} {i : Nat} (h : i < r.length) : idxD (recD r) (.int i) = some (at' r i).d := by
  refine idxT ?_
  rw [List.getElem?_map, List.getElem?_eq_getElem h]
  simp [at', h]
theorem at_ok {r : List Vl} {i : Nat} (h : i < r.length) (hr : ∀ v ∈ r, v.ok = true) : (at' r i).ok = true := by
  have : at' r i = r[i] := by simp [at', h]
  rw [this]
  exact hr _ (List.getElem_mem h)
/-- a record of width w -/
structure Rec (w : Nat) (r : List Vl) : Prop where
  len : r.length = w
  ok : ∀ v ∈ r, v.ok = true
/-- steps of width w -/
structure Spc (w : Nat) (ss : List Stp) : Prop where
  w1 : 1 ≤ w
  w2 : w ≤ 2
  len : ss.length ≤ 6
  ok : ∀ s ∈ ss, s.ok w = true
theorem f_lt {w : Nat} {s : Stp} (h : s.ok w = true) : s.f < w := by
  simp only [Stp.ok, Bool.and_eq_true, decide_eq_true_eq] at h
  exact h.1
theorem body_compared {w : Nat} {a b : List Vl} (ha : Rec w a) (hb : Rec w b) (s : Stp) (h : s.ok w = true) (T : D) (s4 : Slot) :
    B_compared_1 [.v T, .v (recD a), .v (recD b), .v s.d, s4] [.dead, .dead, .dead, .dead, .dead] =
      if s.k.res (at' a s.f) (at' b s.f) ≠ 0 then .rt (.int (s.k.res (at' a s.f) (at' b s.f))) [.dead, .dead, .dead, .dead, .dead] else .nx [.v T, .v (recD a), .v (recD b), .v s.d, .v (.int (s.k.res (at' a s.f) (at' b s.f)))] [.dead, .dead, .dead, .dead, .dead] := by
  have h1 : s.f < a.length := by rw [ha.len]; exact f_lt h
  have h2 : s.f < b.length := by rw [hb.len]; exact f_lt h
  simp only [B_compared_1, runF, seqS, ifS, retS, retN, nilS, setS, exprS, raiseS, bindS, bTup, bAll_nil, bAll_cons, bName, orE, andE, ifE, op1, op2, bindE, liftE, varE, retE, notD, appE, consA, nilA, valsA, tupD, lstD, frE, chainE, Arg.slot, Arg.cell, callE, argsOf, argOf, refs, putB, consR, consFn, List.map_cons, List.map_nil, List.length_cons, List.length_nil, List.set_cons_zero, List.set_cons_succ, List.getElem?_cons_zero, List.getElem?_cons_succ, List.replicate, List.cons_append, List.nil_append, Option.bind_some, Option.map_some, List.take_succ_cons, List.take_zero, List.take_nil, List.nodup_nil, Nat.reduceAdd, Nat.reduceSub, Nat.reduceLeDiff, Nat.zero_add, and_true, and_self, if_true, Bool.not_true, Bool.not_false, Nat.sub_self, List.append_nil, Int.cast_ofNat_Int, beq_self_eq_true, nd1, true_and, idx_f, idx_rec h1, idx_rec h2, step_spec w s h _ _ (at_ok h1 ha.ok) (at_ok h2 hb.ok), neI]
  generalize s.k.res (at' a s.f) (at' b s.f) = r
  by_cases hz : r = 0
  · subst hz; rfl
  · have e : (r == 0) = false := by simpa using hz
    rw [e, if_pos hz]
    rfl
theorem loop_compared {w : Nat} {a b : List Vl} (ha : Rec w a) (hb : Rec w b) (T : D) : ∀ (ss : List Stp) (s3 s4 : Slot), (∀ s ∈ ss, s.ok w = true) → ∃ x y, loopS (bName 3) B_compared_1 (ss.map Stp.d) [.v T, .v (recD a), .v (recD b), s3, s4] [.dead, .dead, .dead, .dead, .dead] =
    if cmp ss a b ≠ 0 then .rt (.int (cmp ss a b)) [.dead, .dead, .dead, .dead, .dead] else .nx [.v T, .v (recD a), .v (recD b), x, y] [.dead, .dead, .dead, .dead, .dead]
  | [], s3, s4, _ => ⟨s3, s4, by simp [loopS, cmp]⟩
  | s :: ss, s3, s4, h => by
    have hb1 := body_compared ha hb s (h s List.mem_cons_self) T s4
    obtain ⟨x, y, ih⟩ := loop_compared ha hb T ss (.v s.d) (.v (.int (s.k.res (at' a s.f) (at' b s.f)))) fun t ht => h t (List.mem_cons_of_mem _ ht)
    refine ⟨x, y, ?_⟩
    simp only [List.map_cons, loopS, bName, List.set_cons_zero, List.set_cons_succ, hb1]
    by_cases hz : s.k.res (at' a s.f) (at' b s.f) = 0
    · have hc : cmp (s :: ss) a b = cmp ss a b := by simp [cmp, hz]
      rw [hc, if_neg (by simpa using hz)]
      exact ih
    · have hc : cmp (s :: ss) a b = s.k.res (at' a s.f) (at' b s.f) := by simp [cmp, hz]
      rw [hc, if_pos hz, if_pos hz]
theorem compared_spec {w : Nat} {a b : List Vl} (ss : List Stp) (h : ∀ s ∈ ss, s.ok w = true) (ha : Rec w a) (hb : Rec w b) : F_compared [.v (.tuple (ss.map Stp.d)), .v (recD a), .v (recD b)] = .ok (.int (cmp ss a b)) [.dead, .dead, .dead] := by
  obtain ⟨x, y, e⟩ := loop_compared ha hb (.tuple (ss.map Stp.d)) ss .un .un h
  have hW : W_compared_1 [.v (.tuple (ss.map Stp.d)), .v (recD a), .v (recD b), .un, .un] [.dead, .dead, .dead, .dead, .dead] = if cmp ss a b ≠ 0 then .rt (.int (cmp ss a b)) [.dead, .dead, .dead, .dead, .dead] else .nx [.v (.tuple (ss.map Stp.d)), .v (recD a), .v (recD b), x, y] [.dead, .dead, .dead, .dead, .dead] := by
    rw [← e]
    rfl
  simp only [F_compared, M_compared, runF, seqS, ifS, retS, retN, nilS, setS, exprS, raiseS, bindS, bTup, bAll_nil, bAll_cons, bName, orE, andE, ifE, op1, op2, bindE, liftE, varE, retE, notD, appE, consA, nilA, valsA, tupD, lstD, frE, chainE, Arg.slot, Arg.cell, callE, argsOf, argOf, refs, putB, consR, consFn, List.map_cons, List.map_nil, List.length_cons, List.length_nil, List.set_cons_zero, List.set_cons_succ, List.getElem?_cons_zero, List.getElem?_cons_succ, List.replicate, List.cons_append, List.nil_append, Option.bind_some, Option.map_some, List.take_succ_cons, List.take_zero, List.take_nil, List.nodup_nil, Nat.reduceAdd, Nat.reduceSub, Nat.reduceLeDiff, Nat.zero_add, and_true, and_self, if_true, Bool.not_true, Bool.not_false, Nat.sub_self, List.append_nil, Int.cast_ofNat_Int, beq_self_eq_true, nd1, true_and, hW]
  by_cases hz : cmp ss a b = 0
  · simp [hz]
  · simp [hz]
theorem compare_spec {w : Nat} {a b : List Vl} {ss : List Stp} (h : Spc w ss) (ha : Rec w a) (hb : Rec w b) : F_compare [.v (specD w ss), .v (recD a), .v (recD b)] = .ok (.int (cmp ss a b)) [.dead, .dead, .dead] := by
  have e1 := need_spec_spec w ss h.w1 h.w2 h.len h.ok
  have e2 := need_record_spec a w (.tuple (ss.map Stp.d)) ha.len h.w2 ha.ok
  have e3 := need_record_spec b w (.tuple (ss.map Stp.d)) hb.len h.w2 hb.ok
  have e4 := compared_spec ss h.ok ha hb
  simp only [specD] at e1 ⊢
  simp only [F_compare, M_compare, runF, seqS, ifS, retS, retN, nilS, setS, exprS, raiseS, bindS, bTup, bAll_nil, bAll_cons, bName, orE, andE, ifE, op1, op2, bindE, liftE, varE, retE, notD, appE, consA, nilA, valsA, tupD, lstD, frE, chainE, Arg.slot, Arg.cell, callE, argsOf, argOf, refs, putB, consR, consFn, List.map_cons, List.map_nil, List.length_cons, List.length_nil, List.set_cons_zero, List.set_cons_succ, List.getElem?_cons_zero, List.getElem?_cons_succ, List.replicate, List.cons_append, List.nil_append, Option.bind_some, Option.map_some, List.take_succ_cons, List.take_zero, List.take_nil, List.nodup_nil, Nat.reduceAdd, Nat.reduceSub, Nat.reduceLeDiff, Nat.zero_add, and_true, and_self, if_true, Bool.not_true, Bool.not_false, Nat.sub_self, List.append_nil, Int.cast_ofNat_Int, beq_self_eq_true, nd1, true_and, isaD, leD, ltD, gtD, geD, addD, subD, negD, lenD, isD, isNotD, idx0, idx1, idx2, idl0, idl1, e1, e2, e3, e4]
theorem asc_eq (b : Bool) : (dirS b == ("asc" : Str)) = !b := by cases b <;> rfl
theorem rev_gD (g : List (List Kd)) : revD (gD g) = some (gD g.reverse) := by
  simp [revD, gD]
theorem reversed_step_spec (s : Stp) : F_reversed_step [.v s.d] = .ok s.rev.d [.dead] := by
  obtain ⟨f, k⟩ := s
  cases k with
  | rank g => simp only [F_reversed_step, M_reversed_step, Stp.d, Stp.rev, Sk.rev, runF, seqS, ifS, retS, retN, nilS, setS, exprS, raiseS, bindS, bTup, bAll_nil, bAll_cons, bName, orE, andE, ifE, op1, op2, bindE, liftE, varE, retE, notD, appE, consA, nilA, valsA, tupD, lstD, frE, chainE, Arg.slot, Arg.cell, callE, argsOf, argOf, refs, putB, consR, consFn, List.map_cons, List.map_nil, List.length_cons, List.length_nil, List.set_cons_zero, List.set_cons_succ, List.getElem?_cons_zero, List.getElem?_cons_succ, List.replicate, List.cons_append, List.nil_append, Option.bind_some, Option.map_some, List.take_succ_cons, List.take_zero, List.take_nil, List.nodup_nil, Nat.reduceAdd, Nat.reduceSub, Nat.reduceLeDiff, Nat.zero_add, and_true, and_self, if_true, Bool.not_true, Bool.not_false, Nat.sub_self, List.append_nil, Int.cast_ofNat_Int, beq_self_eq_true, nd1, true_and, eqS, rev_gD]
  | val n d =>
    simp only [F_reversed_step, M_reversed_step, Stp.d, Stp.rev, Sk.rev, runF, seqS, ifS, retS, retN, nilS, setS, exprS, raiseS, bindS, bTup, bAll_nil, bAll_cons, bName, orE, andE, ifE, op1, op2, bindE, liftE, varE, retE, notD, appE, consA, nilA, valsA, tupD, lstD, frE, chainE, Arg.slot, Arg.cell, callE, argsOf, argOf, refs, putB, consR, consFn, List.map_cons, List.map_nil, List.length_cons, List.length_nil, List.set_cons_zero, List.set_cons_succ, List.getElem?_cons_zero, List.getElem?_cons_succ, List.replicate, List.cons_append, List.nil_append, Option.bind_some, Option.map_some, List.take_succ_cons, List.take_zero, List.take_nil, List.nodup_nil, Nat.reduceAdd, Nat.reduceSub, Nat.reduceLeDiff, Nat.zero_add, and_true, and_self, if_true, Bool.not_true, Bool.not_false, Nat.sub_self, List.append_nil, Int.cast_ofNat_Int, beq_self_eq_true, nd1, true_and, eqS, nm_rank, asc_eq]
    cases d <;> rfl
theorem reversed_spec_spec {w : Nat} {ss : List Stp} (h : Spc w ss) : F_reversed_spec [.v (specD w ss)] = .ok (specD w (ss.map Stp.rev)) [.dead] := by
  have e1 := need_spec_spec w ss h.w1 h.w2 h.len h.ok
  have hl := h.len
  have hc : L_reversed_spec_1 [.v (specD w ss), .un] [.dead, .dead] = .ok ((ss.map Stp.rev).map Stp.d) [.dead, .dead] := by
    have e : (ss.map Stp.rev).map Stp.d = (ss.map Stp.d).map fun d => match F_reversed_step [.v d] with | .ok x _ => x | _ => .none := by
      rw [List.map_map, List.map_map]
      refine List.map_congr_left fun s _ => ?_
      simp only [Function.comp, reversed_step_spec]
    rw [e]
    refine lcG_map (ds := ss.map Stp.d) _ rfl (by simp only [anyI, specD, runF, seqS, ifS, retS, retN, nilS, setS, exprS, raiseS, bindS, bTup, bAll_nil, bAll_cons, bName, orE, andE, ifE, op1, op2, bindE, liftE, varE, retE, notD, appE, consA, nilA, valsA, tupD, lstD, frE, chainE, Arg.slot, Arg.cell, callE, argsOf, argOf, refs, putB, consR, consFn, List.map_cons, List.map_nil, List.length_cons, List.length_nil, List.set_cons_zero, List.set_cons_succ, List.getElem?_cons_zero, List.getElem?_cons_succ, List.replicate, List.cons_append, List.nil_append, Option.bind_some, Option.map_some, List.take_succ_cons, List.take_zero, List.take_nil, List.nodup_nil, Nat.reduceAdd, Nat.reduceSub, Nat.reduceLeDiff, Nat.zero_add, and_true, and_self, if_true, Bool.not_true, Bool.not_false, Nat.sub_self, List.append_nil, Int.cast_ofNat_Int, beq_self_eq_true, nd1, true_and, isaD, leD, ltD, gtD, geD, addD, subD, negD, lenD, isD, isNotD, idx0, idx1, idx2, idl0, idl1]) (fun d hd => ?_) (by rw [List.length_map]; omega)
    obtain ⟨s, hs, rfl⟩ := List.mem_map.mp hd
    simp only [specD, runF, seqS, ifS, retS, retN, nilS, setS, exprS, raiseS, bindS, bTup, bAll_nil, bAll_cons, bName, orE, andE, ifE, op1, op2, bindE, liftE, varE, retE, notD, appE, consA, nilA, valsA, tupD, lstD, frE, chainE, Arg.slot, Arg.cell, callE, argsOf, argOf, refs, putB, consR, consFn, List.map_cons, List.map_nil, List.length_cons, List.length_nil, List.set_cons_zero, List.set_cons_succ, List.getElem?_cons_zero, List.getElem?_cons_succ, List.replicate, List.cons_append, List.nil_append, Option.bind_some, Option.map_some, List.take_succ_cons, List.take_zero, List.take_nil, List.nodup_nil, Nat.reduceAdd, Nat.reduceSub, Nat.reduceLeDiff, Nat.zero_add, and_true, and_self, if_true, Bool.not_true, Bool.not_false, Nat.sub_self, List.append_nil, Int.cast_ofNat_Int, beq_self_eq_true, nd1, true_and, isaD, leD, ltD, gtD, geD, addD, subD, negD, lenD, isD, isNotD, idx0, idx1, idx2, idl0, idl1, reversed_step_spec]
  simp only [specD] at e1 hc ⊢
  simp only [F_reversed_spec, M_reversed_spec, runF, seqS, ifS, retS, retN, nilS, setS, exprS, raiseS, bindS, bTup, bAll_nil, bAll_cons, bName, orE, andE, ifE, op1, op2, bindE, liftE, varE, retE, notD, appE, consA, nilA, valsA, tupD, lstD, frE, chainE, Arg.slot, Arg.cell, callE, argsOf, argOf, refs, putB, consR, consFn, List.map_cons, List.map_nil, List.length_cons, List.length_nil, List.set_cons_zero, List.set_cons_succ, List.getElem?_cons_zero, List.getElem?_cons_succ, List.replicate, List.cons_append, List.nil_append, Option.bind_some, Option.map_some, List.take_succ_cons, List.take_zero, List.take_nil, List.nodup_nil, Nat.reduceAdd, Nat.reduceSub, Nat.reduceLeDiff, Nat.zero_add, and_true, and_self, if_true, Bool.not_true, Bool.not_false, Nat.sub_self, List.append_nil, Int.cast_ofNat_Int, beq_self_eq_true, nd1, true_and, isaD, leD, ltD, gtD, geD, addD, subD, negD, lenD, isD, isNotD, idx0, idx1, idx2, idl0, idl1, e1, hc, tupleD]
theorem Spc.rev {w : Nat} {ss : List Stp} (h : Spc w ss) : Spc w (ss.map Stp.rev) := ⟨h.w1, h.w2, by rw [List.length_map]; exact h.len, fun s hs => by
  obtain ⟨t, ht, rfl⟩ := List.mem_map.mp hs
  exact t.rev_ok (h.ok t ht)⟩
theorem need_pair_spec {w : Nat} {ss ts : List Stp} (h : Spc w ss) (k : Spc w ts) : F_need_pair [.v (specD w ss), .v (specD w ts)] = .ok .none [.dead, .dead] := by
  have e1 := need_spec_spec w ss h.w1 h.w2 h.len h.ok
  have e2 := need_spec_spec w ts k.w1 k.w2 k.len k.ok
  simp only [specD] at e1 e2 ⊢
  simp only [F_need_pair, M_need_pair, runF, seqS, ifS, retS, retN, nilS, setS, exprS, raiseS, bindS, bTup, bAll_nil, bAll_cons, bName, orE, andE, ifE, op1, op2, bindE, liftE, varE, retE, notD, appE, consA, nilA, valsA, tupD, lstD, frE, chainE, Arg.slot, Arg.cell, callE, argsOf, argOf, refs, putB, consR, consFn, List.map_cons, List.map_nil, List.length_cons, List.length_nil, List.set_cons_zero, List.set_cons_succ, List.getElem?_cons_zero, List.getElem?_cons_succ, List.replicate, List.cons_append, List.nil_append, Option.bind_some, Option.map_some, List.take_succ_cons, List.take_zero, List.take_nil, List.nodup_nil, Nat.reduceAdd, Nat.reduceSub, Nat.reduceLeDiff, Nat.zero_add, and_true, and_self, if_true, Bool.not_true, Bool.not_false, Nat.sub_self, List.append_nil, Int.cast_ofNat_Int, beq_self_eq_true, nd1, true_and, isaD, leD, ltD, gtD, geD, addD, subD, negD, lenD, isD, isNotD, idx0, idx1, idx2, idl0, idl1, e1, e2, neI]
theorem combined_spec {w : Nat} {ss ts : List Stp} (h : Spc w ss) (k : Spc w ts) (hl : ss.length + ts.length ≤ 6) : F_combined [.v (specD w ss), .v (specD w ts)] = .ok (specD w (ss ++ ts)) [.dead, .dead] := by
  have e1 := need_pair_spec h k
  have h1 : (ss.map Stp.d).length + (ts.map Stp.d).length ≤ 16000000 := by rw [List.length_map, List.length_map]; omega
  have h2 : (ss.map Stp.d ++ ts.map Stp.d).length ≤ 16000000 := by rw [List.length_append]; exact h1
  have h3 : ¬ (6 : Int) < ((ss.map Stp.d ++ ts.map Stp.d).length : Int) := by rw [List.length_append, List.length_map, List.length_map]; omega
  simp only [specD] at e1 ⊢
  simp only [F_combined, M_combined, runF, seqS, ifS, retS, retN, nilS, setS, exprS, raiseS, bindS, bTup, bAll_nil, bAll_cons, bName, orE, andE, ifE, op1, op2, bindE, liftE, varE, retE, notD, appE, consA, nilA, valsA, tupD, lstD, frE, chainE, Arg.slot, Arg.cell, callE, argsOf, argOf, refs, putB, consR, consFn, List.map_cons, List.map_nil, List.length_cons, List.length_nil, List.set_cons_zero, List.set_cons_succ, List.getElem?_cons_zero, List.getElem?_cons_succ, List.replicate, List.cons_append, List.nil_append, Option.bind_some, Option.map_some, List.take_succ_cons, List.take_zero, List.take_nil, List.nodup_nil, Nat.reduceAdd, Nat.reduceSub, Nat.reduceLeDiff, Nat.zero_add, and_true, and_self, if_true, Bool.not_true, Bool.not_false, Nat.sub_self, List.append_nil, Int.cast_ofNat_Int, beq_self_eq_true, nd1, true_and, isaD, leD, ltD, gtD, geD, addD, subD, negD, lenD, isD, isNotD, idx0, idx1, idx2, idl0, idl1, e1, if_pos h1, if_pos h2, k_STEPS, h3, decide_false, List.map_append]
theorem Spc.append {w : Nat} {ss ts : List Stp} (h : Spc w ss) (k : Spc w ts) (hl : ss.length + ts.length ≤ 6) : Spc w (ss ++ ts) := ⟨h.w1, h.w2, by rw [List.length_append]; exact hl, fun s hs => by
  rcases List.mem_append.mp hs with z | z
  · exact h.ok s z
  · exact k.ok s z⟩
end SS
namespace k01
open PySem L2 SS Pg
/-! what each def means -/
def M__law_draw : SM := (seqS (ifS (op2 gtD (cidxE 1 (retE (.int 1))) (retE (.int 0))) (seqS (setS 3 (op2 modD (cidxE 1 (retE (.int 1))) (varE 2))) (seqS (setItemS 1 (retE (.int 1)) (op2 fdivD (cidxE 1 (retE (.int 1))) (varE 2))) (retS (varE 3)))) nilS) (seqS (setS 4 (cidxE 1 (retE (.int 0)))) (seqS (augItemS 1 (retE (.int 0)) (retE (.int 1))) (seqS (ifS (op2 eqD (varE 0) (appE lstD nilA)) (retS (op2 modD (varE 4) (varE 2))) nilS) (seqS (ifS (andE (op2 ltD (varE 4) (appE lenD (consA (varE 0) nilA))) (op2 geD (op2 idxD (varE 0) (varE 4)) (op2 powD (retE (.int 10)) (retE (.int 18))))) (seqS (setItemS 1 (retE (.int 1)) (op2 modD (op2 fdivD (op2 idxD (varE 0) (varE 4)) (varE 2)) (op2 mulI (op2 powD (retE (.int 10)) (retE (.int 60))) (op2 powD (retE (.int 10)) (retE (.int 60)))))) (retS (op2 modD (op2 idxD (varE 0) (varE 4)) (varE 2)))) nilS) (seqS (setS 5 (op2 modD (op2 addD (op2 addD (op2 mulI (op2 idxD (varE 0) (op2 modD (varE 4) (appE lenD (consA (varE 0) nilA)))) (retE (.int 1103515245))) (op2 mulI (retE (.int 7919)) (varE 4))) (retE (.int 12345))) (retE (.int 2147483647)))) (retS (op2 modD (op2 modD (op2 modD (op2 powD (varE 5) (retE (.int 5))) (retE (.int 2147483647))) (retE (.int 999983))) (varE 2)))))))))
def F__law_draw : FM := runF 6 M__law_draw
def M__law_pick : SM := (retS (op2 idxD (varE 2) (callE 3 F__law_draw (consA (varE 0) (consR 1 (consA (appE lenD (consA (varE 2) nilA)) nilA))))))
def F__law_pick : FM := runF 3 M__law_pick
def B__law_groups_1 : SM := (seqS (cellS 4 (dispF (consA (cellE 2 popD (consA (callE 3 F__law_draw (consA (varE 0) (consR 1 (consA (borE 2 (appE lenD (consA (varE 2) nilA))) nilA)))) nilA)) nilA))) (seqS (ifS (andE (borE 2 (op2 neD (varE 2) (appE lstD nilA))) (op2 eqD (callE 3 F__law_draw (consA (varE 0) (consR 1 (consA (retE (.int 3)) nilA)))) (retE (.int 0)))) (exprS (cellE 4 appendD (consA (cellE 2 popD (consA (callE 3 F__law_draw (consA (varE 0) (consR 1 (consA (borE 2 (appE lenD (consA (varE 2) nilA))) nilA)))) nilA)) nilA))) nilS) (exprS (cellE 3 appendD (consA (borE 4 (appE tupleD (consA (appE sortedD (consA (varE 4) nilA)) nilA))) nilA)))))
def C__law_groups_1 : EM := (borE 2 (op2 neD (varE 2) (appE lstD nilA)))
def W__law_groups_1 : SM := (whileS C__law_groups_1 B__law_groups_1 200)
def M__law_groups : SM := (seqS (parN [2, 3] (consNL (dispF (consA (retE (.str "none")) (consA (retE (.str "number")) (consA (retE (.str "text")) nilA)))) (consNL (dispF nilA) nilN))) (seqS W__law_groups_1 (retS (borE 3 (appE tupleD (consA (varE 3) nilA))))))
def F__law_groups : FM := runF 5 M__law_groups
def M__law_step : SM := (seqS (setS 3 (callE 3 F__law_pick (consA (varE 0) (consR 1 (consA (appE lstD (consA (retE (.str "rank")) (consA (retE (.str "rank")) (consA (retE (.str "number")) (consA (retE (.str "text")) (consA (retE (.str "length")) (consA (retE (.str "spelling")) nilA))))))) nilA))))) (seqS (setS 4 (ifE (op2 eqD (varE 3) (retE (.str "rank"))) (callE 2 F__law_groups (consA (varE 0) (consR 1 nilA))) (callE 3 F__law_pick (consA (varE 0) (consR 1 (consA (appE lstD (consA (retE (.str "asc")) (consA (retE (.str "desc")) nilA))) nilA)))))) (retS (appE tupD (consA (varE 3) (consA (callE 3 F__law_draw (consA (varE 0) (consR 1 (consA (varE 2) nilA)))) (consA (varE 4) nilA)))))))
def F__law_step : FM := runF 5 M__law_step
def L__law_spec_1 : IM := (lcG (bName 4) [4] (rngI (callE 3 F__law_draw (consA (varE 0) (consR 1 (consA (op2 addD (varE 3) (retE (.int 1))) nilA))))) yesE (callE 3 F__law_step (consA (varE 0) (consR 1 (consA (varE 2) nilA)))))
def M__law_spec : SM := (retS (appE tupD (consA (varE 2) (consA (appE tupleD (consA (frE L__law_spec_1) nilA)) nilA))))
def F__law_spec : FM := runF 5 M__law_spec
def M__law_kind : SM := (retS (ifE (op2 isD (varE 0) (retE .none)) (retE (.str "none")) (ifE (op1 (isaD .int) (varE 0)) (retE (.str "number")) (retE (.str "text")))))
def F__law_kind : FM := runF 1 M__law_kind
def M__law_sign : SM := (retS (ifE (op2 eqD (varE 0) (varE 1)) (retE (.int 0)) (ifE (op2 ltD (varE 0) (varE 1)) (op1 negD (retE (.int 1))) (retE (.int 1)))))
def F__law_sign : FM := runF 2 M__law_sign
def L__law_result_1 : IM := (lcG (bName 9) [9] (anyI (varE 5)) yesE (op2 inD (varE 8) (varE 9)))
def L__law_result_2 : IM := (lcG (bName 8) [8] (anyI (varE 6)) yesE (meth "list" indexD (frE L__law_result_1) (consA (retE (.bool true)) nilA)))
def M__law_result : SM := (seqS (bindS (bTup ((bName 3) :: ((bName 4) :: ((bName 5) :: [])))) (varE 0)) (seqS (setS 6 (appE tupD (consA (callE 1 F__law_kind (consA (varE 1) nilA)) (consA (callE 1 F__law_kind (consA (varE 2) nilA)) nilA)))) (seqS (ifS (op2 eqD (varE 3) (retE (.str "rank"))) (seqS (setS 7 (frE L__law_result_2)) (retS (callE 2 F__law_sign (consA (op2 idxD (varE 7) (retE (.int 0))) (consA (op2 idxD (varE 7) (retE (.int 1))) nilA))))) nilS) (seqS (setS 10 (retE (.int 0))) (seqS (ifS (andE (op2 eqD (varE 6) (appE tupD (consA (retE (.str "number")) (consA (retE (.str "number")) nilA)))) (op2 eqD (varE 3) (retE (.str "number")))) (setS 10 (callE 2 F__law_sign (consA (varE 1) (consA (varE 2) nilA)))) nilS) (seqS (ifS (andE (op2 eqD (varE 6) (appE tupD (consA (retE (.str "text")) (consA (retE (.str "text")) nilA)))) (op2 inD (varE 3) (appE tupD (consA (retE (.str "text")) (consA (retE (.str "length")) nilA))))) (setS 10 (ifE (op2 eqD (varE 3) (retE (.str "text"))) (callE 2 F__law_sign (consA (varE 1) (consA (varE 2) nilA))) (callE 2 F__law_sign (consA (appE lenD (consA (varE 1) nilA)) (consA (appE lenD (consA (varE 2) nilA)) nilA))))) nilS) (seqS (ifS (andE (op2 notInD (retE (.str "none")) (varE 6)) (op2 eqD (varE 3) (retE (.str "spelling")))) (setS 10 (callE 2 F__law_sign (consA (appE strD (consA (varE 1) nilA)) (consA (appE strD (consA (varE 2) nilA)) nilA)))) nilS) (retS (ifE (op2 eqD (varE 5) (retE (.str "asc"))) (varE 10) (op1 negD (varE 10)))))))))))
def F__law_result : FM := runF 11 M__law_result
def B__law_compare_1 : SM := (seqS (setS 4 (callE 3 F__law_result (consA (varE 3) (consA (op2 idxD (varE 1) (op2 idxD (varE 3) (retE (.int 1)))) (consA (op2 idxD (varE 2) (op2 idxD (varE 3) (retE (.int 1)))) nilA))))) (ifS (op2 neD (varE 4) (retE (.int 0))) (retS (varE 4)) nilS))
def W__law_compare_1 : SM := (forS (bName 3) (anyI (varE 0)) B__law_compare_1)
def M__law_compare : SM := (seqS W__law_compare_1 (retS (retE (.int 0))))
def F__law_compare : FM := runF 5 M__law_compare
def M__law_value : SM := (seqS (setS 2 (appE lstD (consA (retE (.int 0)) (consA (retE (.int 1)) (consA (retE (.int 2)) (consA (retE (.int 3)) (consA (retE (.int 9)) (consA (retE (.int 10)) (consA (retE (.int 11)) (consA (retE (.int 12)) (consA (retE (.int 20)) (consA (retE (.int 30)) (consA (retE (.int 100)) (consA (retE (.int 102)) (consA (op2 addD (retE (.int 9)) (callE 3 F__law_draw (consA (varE 0) (consR 1 (consA (retE (.int 300)) nilA))))) nilA))))))))))))))) (seqS (setS 3 (appE lstD (consA (retE (.str "a")) (consA (retE (.str "b")) (consA (retE (.str "c")) (consA (retE (.str "z")) (consA (retE (.str "aa")) (consA (retE (.str "ab")) (consA (retE (.str "b")) (consA (retE (.str "bb")) (consA (retE (.str "ba")) (consA (retE (.str "cc")) (consA (retE (.str "aaa")) (consA (retE (.str "abc")) (consA (retE (.str "bbb")) (consA (retE (.str "zz")) nilA)))))))))))))))) (retS (callE 3 F__law_pick (consA (varE 0) (consR 1 (consA (appE lstD (consA (retE .none) (consA (retE .none) (consA (callE 3 F__law_pick (consA (varE 0) (consR 1 (consA (varE 2) nilA)))) (consA (callE 3 F__law_pick (consA (varE 0) (consR 1 (consA (varE 3) nilA)))) nilA))))) nilA)))))))
def F__law_value : FM := runF 4 M__law_value
def L__law_record_1 : IM := (lcG (bName 3) [3] (rngI (varE 2)) yesE (callE 2 F__law_value (consA (varE 0) (consR 1 nilA))))
def M__law_record : SM := (retS (appE tupleD (consA (frE L__law_record_1) nilA)))
def F__law_record : FM := runF 4 M__law_record
def B_law_1 : SM := (seqS (parS [7, 8] (consA (callE 3 F__law_record (consA (varE 0) (consR 1 (consA (varE 2) nilA)))) (consA (callE 3 F__law_record (consA (varE 0) (consR 1 (consA (varE 2) nilA)))) nilA))) (seqS (setS 9 (callE 3 F__law_compare (consA (op2 idxD (varE 3) (retE (.int 1))) (consA (varE 7) (consA (varE 8) nilA))))) (seqS (ifS (orE (op2 neD (callE 3 F_compare (consA (varE 3) (consA (varE 7) (consA (varE 8) nilA)))) (varE 9)) (op2 neD (callE 3 F_compare (consA (varE 3) (consA (varE 8) (consA (varE 7) nilA)))) (op1 negD (varE 9)))) (retS (retE (.bool false))) nilS) (seqS (ifS (op2 neD (callE 3 F_compare (consA (varE 5) (consA (varE 7) (consA (varE 8) nilA)))) (op1 negD (varE 9))) (retS (retE (.bool false))) nilS) (seqS (ifS (op2 neD (callE 3 F_compare (consA (varE 3) (consA (varE 7) (consA (varE 7) nilA)))) (retE (.int 0))) (retS (retE (.bool false))) nilS) (ifS (op2 ltD (appE lenD (consA (op2 idxD (varE 3) (retE (.int 1))) nilA)) (retE (.int 4))) (seqS (setS 10 (callE 3 F_compare (consA (callE 2 F_combined (consA (varE 3) (consA (varE 4) nilA))) (consA (varE 7) (consA (varE 8) nilA))))) (ifS (op2 neD (varE 10) (ifE (op2 neD (varE 9) (retE (.int 0))) (varE 9) (callE 3 F__law_compare (consA (op2 idxD (varE 4) (retE (.int 1))) (consA (varE 7) (consA (varE 8) nilA)))))) (retS (retE (.bool false))) nilS)) nilS))))))
def W_law_1 : SM := (forS (bName 6) (rngI (retE (.int 8))) B_law_1)
def M_law : SM := (seqS (cellS 1 (dispF (consA (retE (.int 0)) (consA (retE (.int 0)) nilA)))) (seqS (setS 2 (op2 addD (retE (.int 1)) (callE 3 F__law_draw (consA (varE 0) (consR 1 (consA (retE (.int 2)) nilA)))))) (seqS (parS [3, 4] (consA (callE 4 F__law_spec (consA (varE 0) (consR 1 (consA (varE 2) (consA (retE (.int 6)) nilA))))) (consA (callE 4 F__law_spec (consA (varE 0) (consR 1 (consA (varE 2) (consA (retE (.int 3)) nilA))))) nilA))) (seqS (ifS (orE (op2 isNotD (callE 1 F_is_spec (consA (varE 3) nilA)) (retE (.bool true))) (op2 isNotD (callE 1 F_is_spec (consA (varE 4) nilA)) (retE (.bool true)))) (retS (retE (.bool false))) nilS) (seqS (setS 5 (callE 1 F_reversed_spec (consA (varE 3) nilA))) (seqS W_law_1 (retS (andE (op2 isD (callE 1 F_is_spec (consA (varE 5) nilA)) (retE (.bool true))) (op2 eqD (callE 1 F_reversed_spec (consA (varE 5) nilA)) (varE 3))))))))))
def F_law : FM := runF 11 M_law
end k01
set_option exponentiation.threshold 2000
namespace k01
open PySem L2 SS Pg
/-! ### the law's own defs: draws -/
abbrev town (a r : Int) : Cell := .lst [.int a, .int r]
theorem eqv_ints (ns : List Int) : PyData.eqv (intsD ns) (.list []) = decide (ns = []) := by cases ns <;> rfl
theorem lay_ints : ∀ ns : List Int, PyData.canLayAll0 (ns.map .int) = true
  | [] => rfl
  | n :: ns => by
    rw [List.map_cons, PyData.canLayAll0, lay_ints ns]
    rfl
theorem depth_ints : ∀ ns : List Int, PyData.depthAll (ns.map .int) ≤ 1
  | [] => by decide
  | n :: ns => by
    have := depth_ints ns
    simp only [List.map_cons, PyData.depthAll, PyData.depth]
    omega
theorem shaped_ints (ns : List Int) : SeqAt.shaped (intsD ns) = true := by
  have h1 : PyData.canLay0 (intsD ns) = true := lay_ints ns
  have h2 : PyData.depth (intsD ns) ≤ 64 := by
    have := depth_ints ns
    simp only [intsD, PyData.depth]
    omega
  unfold SeqAt.shaped
  rw [h1, decide_eq_true h2]
  rfl
theorem eq_nil (ns : List Int) : eqD (intsD ns) (.list []) = some (.bool (decide (ns = []))) := by
  have h : SeqAt.shaped (.list [] : D) = true := shaped_ints []
  unfold eqD
  rw [shaped_ints, h, eqv_ints]
  simp
theorem at0 (x y : D) : atI [x, y] 0 = some x := rfl
theorem at1 (x y : D) : atI [x, y] 1 = some y := rfl
theorem ix0 : ixN 2 0 = some 0 := rfl
theorem ix1 : ixN 2 1 = some 1 := rfl
theorem len_ints {ns : List Int} (h : ns.length ≤ 63) : lenD [intsD ns] = some (.int ns.length) := by
  show (if (ns.map PyData.int).length ≤ 16000000 then some (PyData.int (ns.map PyData.int).length) else none) = _
  rw [List.length_map, if_pos (by omega)]
theorem idx_ints {ns : List Int} {i : Nat} (h : i < ns.length) : idxD (intsD ns) (.int i) = some (.int (ns.getD i 0)) := by
  refine idxL ?_
  rw [List.getElem?_map, List.getElem?_eq_getElem h]
  simp [h]
theorem draw_spec {ns : List Int} (hl : ns.length ≤ 63) (a r : Int) (k : Nat) (ha : 0 ≤ a) (hk : 1 ≤ k) (hk2 : k < 1000000) :
    ∃ (v : Nat) (a' r' : Int), v < k ∧ 0 ≤ a' ∧ F__law_draw [.v (intsD ns), .r (town a r), .v (.int k)] = .ok (.int v) [.dead, town a' r', .dead] := by
  have k0 : (0 : Int) < (k : Int) := by omega
  have k1 : (k : Int) < 1073741824 := by omega
  have mod : ∀ z : Int, ∃ v : Nat, v < k ∧ z % (k : Int) = (v : Int) := fun z => by
    have h1 := Int.emod_nonneg z (Int.ne_of_gt k0)
    have h2 := Int.emod_lt_of_pos z k0
    exact ⟨(z % (k : Int)).toNat, by omega, by omega⟩
  by_cases hr : 0 < r
  · obtain ⟨v, hv, e⟩ := mod r
    refine ⟨v, a, r / k, hv, ha, ?_⟩
    simp only [F__law_draw, M__law_draw, runF, seqS, ifS, retS, retN, nilS, setS, exprS, raiseS, bindS, bTup, bAll_nil, bAll_cons, bName, orE, andE, ifE, op1, op2, bindE, liftE, varE, retE, notD, appE, consA, nilA, valsA, tupD, lstD, frE, chainE, Arg.slot, Arg.cell, callE, argsOf, argOf, refs, putB, consR, consFn, List.map_cons, List.map_nil, List.length_cons, List.length_nil, List.set_cons_zero, List.set_cons_succ, List.getElem?_cons_zero, List.getElem?_cons_succ, List.replicate, List.cons_append, List.nil_append, Option.bind_some, Option.map_some, List.take_succ_cons, List.take_zero, List.take_nil, List.nodup_nil, Nat.reduceAdd, Nat.reduceSub, Nat.reduceLeDiff, Nat.zero_add, and_true, and_self, if_true, Bool.not_true, Bool.not_false, Nat.sub_self, List.append_nil, Int.cast_ofNat_Int, beq_self_eq_true, nd1, true_and, isaD, leD, ltD, gtD, geD, addD, subD, negD, lenD, isD, isNotD, idx0, idx1, idx2, idl0, idl1, cidxE, setItemS, at1, ix1, hr, decide_true, modD, fdivD, k0, k1, and_self, e]
  · obtain ⟨n, rfl⟩ : ∃ n : Nat, a = n := ⟨a.toNat, by omega⟩
    by_cases hn : ns = []
    · obtain ⟨v, hv, e⟩ := mod n
      refine ⟨v, n + 1, r, hv, by omega, ?_⟩
      simp only [F__law_draw, M__law_draw, runF, seqS, ifS, retS, retN, nilS, setS, exprS, raiseS, bindS, bTup, bAll_nil, bAll_cons, bName, orE, andE, ifE, op1, op2, bindE, liftE, varE, retE, notD, appE, consA, nilA, valsA, tupD, lstD, frE, chainE, Arg.slot, Arg.cell, callE, argsOf, argOf, refs, putB, consR, consFn, List.map_cons, List.map_nil, List.length_cons, List.length_nil, List.set_cons_zero, List.set_cons_succ, List.getElem?_cons_zero, List.getElem?_cons_succ, List.replicate, List.cons_append, List.nil_append, Option.bind_some, Option.map_some, List.take_succ_cons, List.take_zero, List.take_nil, List.nodup_nil, Nat.reduceAdd, Nat.reduceSub, Nat.reduceLeDiff, Nat.zero_add, and_true, and_self, if_true, Bool.not_true, Bool.not_false, Nat.sub_self, List.append_nil, Int.cast_ofNat_Int, beq_self_eq_true, nd1, true_and, isaD, leD, ltD, gtD, geD, addD, subD, negD, lenD, isD, isNotD, idx0, idx1, idx2, idl0, idl1, cidxE, setItemS, augItemS, at0, at1, ix0, hr, decide_false, modD, k0, hn, eq_nil, decide_true, e, Nat.zero_le]
    · have hp : 0 < ns.length := List.length_pos_iff.mpr hn
      have hl0 : (0 : Int) < (ns.length : Int) := by omega
      have elast : ∃ v : Nat, v < k ∧ ∃ m : Nat, m < 2147483647 ∧ (ns.getD (n % ns.length) 0 * 1103515245 + 7919 * (n : Int) + 12345) % 2147483647 = (m : Int) ∧ ((m : Int) ^ 5 % 2147483647 % 999983 % (k : Int)) = (v : Int) := by
        have h1 := Int.emod_nonneg (ns.getD (n % ns.length) 0 * 1103515245 + 7919 * (n : Int) + 12345) (by decide : (2147483647 : Int) ≠ 0)
        have h2 := Int.emod_lt_of_pos (ns.getD (n % ns.length) 0 * 1103515245 + 7919 * (n : Int) + 12345) (by decide : (0 : Int) < 2147483647)
        obtain ⟨m, hm⟩ : ∃ m : Nat, (ns.getD (n % ns.length) 0 * 1103515245 + 7919 * (n : Int) + 12345) % 2147483647 = (m : Int) := ⟨_, (Int.toNat_of_nonneg h1).symm⟩
        obtain ⟨v, hv, e⟩ := mod ((m : Int) ^ 5 % 2147483647 % 999983)
        exact ⟨v, hv, m, by omega, hm, e⟩
      obtain ⟨v, hv, m, hm, e1, e2⟩ := elast
      have eix : idxD (intsD ns) (.int ((n : Int) % (ns.length : Int))) = some (.int (ns.getD (n % ns.length) 0)) := by
        have := idx_ints (ns := ns) (i := n % ns.length) (Nat.mod_lt _ hp)
        rw [← this]
        rfl
      have epow : powD (.int m) (.int 5) = some (.int ((m : Int) ^ 5)) := by
        have h : (0 : Int) ≤ 5 ∧ (5 : Int) ≤ 1000 ∧ (m : Int).natAbs < 18446744073709551616 := ⟨by decide, by decide, by rw [Int.natAbs_natCast]; omega⟩
        show (if (0 : Int) ≤ 5 ∧ (5 : Int) ≤ 1000 ∧ (m : Int).natAbs < 18446744073709551616 then some (PyData.int ((m : Int) ^ (5 : Int).toNat)) else none) = _
        rw [if_pos h]
        rfl
      have em1 : ∀ z : Int, mulI (.int z) (.int 1103515245) = some (.int (z * 1103515245)) := fun z => by
        simp [mulI, smallI]
      have em2 : ∀ z : Int, mulI (.int 7919) (.int z) = some (.int (7919 * z)) := fun z => by
        simp [mulI, smallI]
      have p18 : powD (.int 10) (.int 18) = some (.int (10 ^ 18)) := rfl
      have p60 : powD (.int 10) (.int 60) = some (.int (10 ^ 60)) := rfl
      have m60 : mulI (.int (10 ^ 60)) (.int (10 ^ 60)) = some (.int (10 ^ 120)) := rfl
      have h120 : (0 : Int) < 10 ^ 120 := by decide
      by_cases hlt : (n : Int) < (ns.length : Int)
      · have eix2 : idxD (intsD ns) (.int (n : Int)) = some (.int (ns.getD n 0)) := idx_ints (by omega)
        by_cases hbig : (10 : Int) ^ 18 ≤ ns.getD n 0
        · obtain ⟨v', hv', e'⟩ := mod (ns.getD n 0)
          refine ⟨v', n + 1, ns.getD n 0 / k % 10 ^ 120, hv', by omega, ?_⟩
          simp only [F__law_draw, M__law_draw, runF, seqS, ifS, retS, retN, nilS, setS, exprS, raiseS, bindS, bTup, bAll_nil, bAll_cons, bName, orE, andE, ifE, op1, op2, bindE, liftE, varE, retE, notD, appE, consA, nilA, valsA, tupD, lstD, frE, chainE, Arg.slot, Arg.cell, callE, argsOf, argOf, refs, putB, consR, consFn, List.map_cons, List.map_nil, List.length_cons, List.length_nil, List.set_cons_zero, List.set_cons_succ, List.getElem?_cons_zero, List.getElem?_cons_succ, List.replicate, List.cons_append, List.nil_append, Option.bind_some, Option.map_some, List.take_succ_cons, List.take_zero, List.take_nil, List.nodup_nil, Nat.reduceAdd, Nat.reduceSub, Nat.reduceLeDiff, Nat.zero_add, and_true, and_self, if_true, Bool.not_true, Bool.not_false, Nat.sub_self, List.append_nil, Int.cast_ofNat_Int, beq_self_eq_true, nd1, true_and, isaD, leD, ltD, gtD, geD, addD, subD, negD, isD, isNotD, idx0, idx1, idx2, idl0, idl1, cidxE, setItemS, augItemS, at0, at1, ix0, ix1, hr, decide_false, eq_nil, hn, decide_true, len_ints hl, hlt, eix2, p18, hbig, fdivD, k0, k1, p60, m60, h120, modD, e', Nat.zero_le]
        · refine ⟨v, n + 1, r, hv, by omega, ?_⟩
          simp only [F__law_draw, M__law_draw, runF, seqS, ifS, retS, retN, nilS, setS, exprS, raiseS, bindS, bTup, bAll_nil, bAll_cons, bName, orE, andE, ifE, op1, op2, bindE, liftE, varE, retE, notD, appE, consA, nilA, valsA, tupD, lstD, frE, chainE, Arg.slot, Arg.cell, callE, argsOf, argOf, refs, putB, consR, consFn, List.map_cons, List.map_nil, List.length_cons, List.length_nil, List.set_cons_zero, List.set_cons_succ, List.getElem?_cons_zero, List.getElem?_cons_succ, List.replicate, List.cons_append, List.nil_append, Option.bind_some, Option.map_some, List.take_succ_cons, List.take_zero, List.take_nil, List.nodup_nil, Nat.reduceAdd, Nat.reduceSub, Nat.reduceLeDiff, Nat.zero_add, and_true, and_self, if_true, Bool.not_true, Bool.not_false, Nat.sub_self, List.append_nil, Int.cast_ofNat_Int, beq_self_eq_true, nd1, true_and, isaD, leD, ltD, gtD, geD, addD, subD, negD, isD, isNotD, idx0, idx1, idx2, idl0, idl1, cidxE, setItemS, augItemS, at0, at1, ix0, ix1, hr, decide_false, eq_nil, hn, decide_true, len_ints hl, hlt, eix2, p18, hbig, modD, hl0, eix, em1, em2, e1, epow, k0, e2, Nat.zero_le, Int.reduceLT]
      · refine ⟨v, n + 1, r, hv, by omega, ?_⟩
        simp only [F__law_draw, M__law_draw, runF, seqS, ifS, retS, retN, nilS, setS, exprS, raiseS, bindS, bTup, bAll_nil, bAll_cons, bName, orE, andE, ifE, op1, op2, bindE, liftE, varE, retE, notD, appE, consA, nilA, valsA, tupD, lstD, frE, chainE, Arg.slot, Arg.cell, callE, argsOf, argOf, refs, putB, consR, consFn, List.map_cons, List.map_nil, List.length_cons, List.length_nil, List.set_cons_zero, List.set_cons_succ, List.getElem?_cons_zero, List.getElem?_cons_succ, List.replicate, List.cons_append, List.nil_append, Option.bind_some, Option.map_some, List.take_succ_cons, List.take_zero, List.take_nil, List.nodup_nil, Nat.reduceAdd, Nat.reduceSub, Nat.reduceLeDiff, Nat.zero_add, and_true, and_self, if_true, Bool.not_true, Bool.not_false, Nat.sub_self, List.append_nil, Int.cast_ofNat_Int, beq_self_eq_true, nd1, true_and, isaD, leD, ltD, gtD, geD, addD, subD, negD, isD, isNotD, idx0, idx1, idx2, idl0, idl1, cidxE, setItemS, augItemS, at0, at1, ix0, ix1, hr, decide_false, eq_nil, hn, decide_true, len_ints hl, hlt, modD, hl0, eix, em1, em2, e1, epow, k0, e2, Nat.zero_le, Int.reduceLT]
theorem pick_spec {ns : List Int} (hl : ns.length ≤ 63) (a r : Int) (xs : List D) (ha : 0 ≤ a) (hx : xs ≠ []) (hx2 : xs.length < 1000000) :
    ∃ x ∈ xs, ∃ a' r' : Int, 0 ≤ a' ∧ F__law_pick [.v (intsD ns), .r (town a r), .v (.list xs)] = .ok x [.dead, town a' r', .dead] := by
  obtain ⟨v, a', r', hv, ha', e⟩ := draw_spec hl a r xs.length ha (List.length_pos_iff.mpr hx) hx2
  have e2 : idxD (.list xs) (.int v) = some xs[v] := idxL (by simp [hv])
  have h5 : xs.length ≤ 16000000 := by omega
  refine ⟨xs[v], List.getElem_mem hv, a', r', ha', ?_⟩
  simp only [F__law_pick, M__law_pick, runF, seqS, ifS, retS, retN, nilS, setS, exprS, raiseS, bindS, bTup, bAll_nil, bAll_cons, bName, orE, andE, ifE, op1, op2, bindE, liftE, varE, retE, notD, appE, consA, nilA, valsA, tupD, lstD, frE, chainE, Arg.slot, Arg.cell, callE, argsOf, argOf, refs, putB, consR, consFn, List.map_cons, List.map_nil, List.length_cons, List.length_nil, List.set_cons_zero, List.set_cons_succ, List.getElem?_cons_zero, List.getElem?_cons_succ, List.replicate, List.cons_append, List.nil_append, Option.bind_some, Option.map_some, List.take_succ_cons, List.take_zero, List.take_nil, List.nodup_nil, Nat.reduceAdd, Nat.reduceSub, Nat.reduceLeDiff, Nat.zero_add, and_true, and_self, if_true, Bool.not_true, Bool.not_false, Nat.sub_self, List.append_nil, Int.cast_ofNat_Int, beq_self_eq_true, nd1, true_and, isaD, leD, ltD, gtD, geD, addD, subD, negD, lenD, isD, isNotD, idx0, idx1, idx2, idl0, idl1, h5, e, e2]
/-! ### random groups -/
def eK (K : List Kd) : List D := K.map fun k => .str k.s
def eP (P : List (List Kd)) : List D := P.map fun l => .tuple (eK l)
theorem lf_eK : ∀ K : List Kd, lfAll (eK K) = true
  | [] => rfl
  | k :: K => by
    show (true && lfAll (eK K)) = true
    rw [lf_eK K]
    rfl
theorem lf_eP : ∀ P : List (List Kd), lfAll (eP P) = true
  | [] => rfl
  | l :: P => by
    show (lfAll (eK l) && lfAll (eP P)) = true
    rw [lf_eK, lf_eP P]
    rfl
theorem lf_town (a r : Int) : (town a r).lf = true := rfl
theorem kd_lay (k : Kd) : PyData.canLay0 (.str k.s) = true := by cases k <;> decide +kernel
theorem lay_eK : ∀ K : List Kd, PyData.canLayAll0 (eK K) = true
  | [] => rfl
  | k :: K => by
    show (PyData.canLay0 (.str k.s) && PyData.canLayAll0 (eK K)) = true
    rw [kd_lay, lay_eK K]
    rfl
theorem depth_eK : ∀ K : List Kd, PyData.depthAll (eK K) ≤ 1
  | [] => by decide
  | k :: K => by
    have := depth_eK K
    show PyData.depthAll (.str k.s :: eK K) ≤ 1
    simp only [PyData.depthAll, PyData.depth]
    omega
theorem shaped_eK (K : List Kd) : SeqAt.shaped (.list (eK K)) = true := by
  have h1 : PyData.canLay0 (.list (eK K)) = true := lay_eK K
  have h2 : PyData.depth (.list (eK K)) ≤ 64 := by
    have := depth_eK K
    simp only [PyData.depth]
    omega
  unfold SeqAt.shaped
  rw [h1, decide_eq_true h2]
  rfl
theorem ne_nilK (K : List Kd) : neD (.list (eK K)) (.list []) = some (.bool (decide (K ≠ []))) := by
  have h : SeqAt.shaped (.list [] : D) = true := shaped_ints []
  unfold neD
  rw [shaped_eK, h]
  cases K <;> simp [scalD, eK, PyData.eqv, PyData.eqvAll]
theorem len_eK (K : List Kd) (h : K.length ≤ 3) : lenD [.list (eK K)] = some (.int K.length) := by
  show (if (eK K).length ≤ 16000000 then some (PyData.int (eK K).length) else none) = _
  have : (eK K).length = K.length := List.length_map ..
  rw [this, if_pos (by omega)]
theorem pop_eK (K : List Kd) (i : Nat) (h : i < K.length) (h3 : K.length ≤ 3) : popD (eK K) [.int i] = some (eK (K.eraseIdx i), .str (K[i]).s) := by
  have hl : (eK K).length = K.length := List.length_map ..
  have h1 : ixN (eK K).length (i : Int) = some i := by rw [hl]; exact ixN_at h
  have h2 : (eK K)[i]? = some (.str (K[i]).s) := by
    show (K.map _)[i]? = _
    rw [List.getElem?_map, List.getElem?_eq_getElem h]
    rfl
  have h4 : (eK K).eraseIdx i = eK (K.eraseIdx i) := by
    exact erase_map _ K i
  show (if (eK K).length ≤ 16000000 then (ixN (eK K).length i).bind fun j => (eK K)[j]?.map fun d => ((eK K).eraseIdx j, d) else none) = _
  rw [if_pos (by omega), h1]
  show ((eK K)[i]?.map fun d => ((eK K).eraseIdx i, d)) = _
  rw [h2, h4]
  rfl
def srt : List Kd → List Kd
  | [a, b] => if (a = .num ∧ b = .non) ∨ (a = .txt ∧ b ≠ .txt) then [b, a] else [a, b]
  | l => l
theorem srt_spec : ∀ a b : Kd, (sortedD [.list (eK [a])]).bind (fun d => tupleD [d]) = some (.tuple (eK (srt [a]))) ∧ (sortedD [.list (eK [a, b])]).bind (fun d => tupleD [d]) = some (.tuple (eK (srt [a, b]))) := by
  rw [sorted_eq]
  intro a b
  cases a <;> cases b <;> exact ⟨by kernel_rfl, by kernel_rfl⟩
theorem lf_b (b : Bool) : lf (.bool b) = true := rfl
theorem lf_i (i : Int) : lf (.int i) = true := rfl
theorem lf_t (K : List Kd) : lf (.tuple (eK K)) = true := lf_eK K
theorem cl_dead : Cell.lf .dead = true := rfl
theorem cl_K (K : List Kd) : Cell.lf (.lst (eK K)) = true := lf_eK K
theorem cl_P (P : List (List Kd)) : Cell.lf (.lst (eP P)) = true := lf_eP P
theorem cl_town (a r : Int) : Cell.lf (.lst [.int a, .int r]) = true := rfl
def nxt (K : List Kd) : List (List Kd × List Kd) := (List.range K.length).flatMap fun i => (K.eraseIdx i, srt [K.getD i .non]) :: (List.range (K.length - 1)).map fun j => ((K.eraseIdx i).eraseIdx j, srt [K.getD i .non, (K.eraseIdx i).getD j .non])
theorem cond_groups (ns : List Int) (K : List Kd) (P : List (List Kd)) (a r : Int) (s4 : Slot) (c4 : Cell) (h4 : c4.lf = true) :
    C__law_groups_1 [.v (intsD ns), .c, .c, .c, s4] [.dead, town a r, .lst (eK K), .lst (eP P), c4] = .ok (.bool (decide (K ≠ []))) [.dead, town a r, .lst (eK K), .lst (eP P), c4] := by
  simp only [C__law_groups_1, borE, Cell.val, runF, seqS, ifS, retS, retN, nilS, setS, exprS, raiseS, bindS, bTup, bAll_nil, bAll_cons, bName, orE, andE, ifE, op1, op2, bindE, liftE, varE, retE, notD, appE, consA, nilA, valsA, tupD, lstD, frE, chainE, Arg.slot, Arg.cell, callE, argsOf, argOf, refs, putB, consR, consFn, List.map_cons, List.map_nil, List.length_cons, List.length_nil, List.set_cons_zero, List.set_cons_succ, List.getElem?_cons_zero, List.getElem?_cons_succ, List.replicate, List.cons_append, List.nil_append, Option.bind_some, Option.map_some, List.take_succ_cons, List.take_zero, List.take_nil, List.nodup_nil, Nat.reduceAdd, Nat.reduceSub, Nat.reduceLeDiff, Nat.zero_add, and_true, and_self, if_true, Bool.not_true, Bool.not_false, Nat.sub_self, List.append_nil, Int.cast_ofNat_Int, beq_self_eq_true, nd1, true_and, ne_nilK, lf_b, lf_i, lf_t, cl_dead, cl_K, cl_P, cl_town, h4, List.all_cons, List.all_nil, Bool.and_self, Nat.zero_le]
theorem app_eP (P : List (List Kd)) (g : List Kd) : eP P ++ [.tuple (eK g)] = eP (P ++ [g]) := by simp [eP]
theorem body_groups {ns : List Int} (hl : ns.length ≤ 63) (K : List Kd) (P : List (List Kd)) (a r : Int) (s4 : Slot) (c4 : Cell) (h4 : c4.lf = true) (ha : 0 ≤ a) (hK : K ≠ []) (h3 : K.length ≤ 3) (hP : P.length ≤ 10) :
    ∃ K' g a' r' c', 0 ≤ a' ∧ (K', g) ∈ nxt K ∧ c'.lf = true ∧ B__law_groups_1 [.v (intsD ns), .c, .c, .c, s4] [.dead, town a r, .lst (eK K), .lst (eP P), c4] = .nx [.v (intsD ns), .c, .c, .c, .c] [.dead, town a' r', .lst (eK K'), .lst (eP (P ++ [g])), c'] := by
  have hp : 0 < K.length := List.length_pos_iff.mpr hK
  obtain ⟨i, a1, r1, hi, ha1, e1⟩ := draw_spec hl a r K.length ha hp (by omega)
  have pop1 := pop_eK K i hi h3
  have len1 := len_eK K h3
  have hP2 : (eP P).length < 16000000 := by
    have : (eP P).length = P.length := List.length_map ..
    omega
  have gi : K.getD i .non = K[i] := by simp [hi]
  have hl1 : (K.eraseIdx i).length = K.length - 1 := List.length_eraseIdx_of_lt hi
  have one : ∀ x : Kd, [(.str x.s : D)] = eK [x] := fun _ => rfl
  have two : ∀ x y : Kd, [(.str x.s : D), .str y.s] = eK [x, y] := fun _ _ => rfl
  have lk1 : ∀ x : Kd, (eK [x]).length = 1 := fun _ => rfl
  have ap : ∀ x y : Kd, appendD (eK [x]) (eK [y]) = some (eK [x, y], .none) := fun _ _ => rfl
  have apP : ∀ g : List Kd, appendD (eP P) [.tuple (eK g)] = some (eP (P ++ [g]), .none) := fun g => by
    show (if (eP P).length < 16000000 then some (eP P ++ [PyData.tuple (eK g)], PyData.none) else none) = _
    rw [if_pos hP2, app_eP]
  have s1 := fun x y => (srt_spec x y).1
  have s2 := fun x y => (srt_spec x y).2
  have t1 : ∀ x : Kd, ∃ l, sortedD [.list (eK [x])] = some l ∧ tupleD [l] = some (.tuple (eK (srt [x]))) := fun x => by
    have := s1 x x
    cases e : sortedD [.list (eK [x])] with
    | none => rw [e] at this; cases this
    | some l => rw [e] at this; exact ⟨l, rfl, this⟩
  have t2 : ∀ x y : Kd, ∃ l, sortedD [.list (eK [x, y])] = some l ∧ tupleD [l] = some (.tuple (eK (srt [x, y]))) := fun x y => by
    have := s2 x y
    cases e : sortedD [.list (eK [x, y])] with
    | none => rw [e] at this; cases this
    | some l => rw [e] at this; exact ⟨l, rfl, this⟩
  obtain ⟨l1, u1, v1⟩ := t1 K[i]
  by_cases hn : K.eraseIdx i = []
  · refine ⟨K.eraseIdx i, srt [K[i]], a1, r1, .lst (eK [K[i]]), ha1, ?_, lf_eK _, ?_⟩
    · rw [nxt, List.mem_flatMap]
      exact ⟨i, List.mem_range.mpr hi, by rw [gi]; exact List.mem_cons_self⟩
    · have ne := ne_nilK (K.eraseIdx i)
      rw [decide_eq_false (fun z => z hn)] at ne
      simp only [B__law_groups_1, runF, seqS, ifS, retS, retN, nilS, setS, exprS, raiseS, bindS, bTup, bAll_nil, bAll_cons, bName, orE, andE, ifE, op1, op2, bindE, liftE, varE, retE, notD, appE, consA, nilA, valsA, tupD, lstD, frE, chainE, Arg.slot, Arg.cell, callE, argsOf, argOf, refs, putB, consR, consFn, List.map_cons, List.map_nil, List.length_cons, List.length_nil, List.set_cons_zero, List.set_cons_succ, List.getElem?_cons_zero, List.getElem?_cons_succ, List.replicate, List.cons_append, List.nil_append, Option.bind_some, Option.map_some, List.take_succ_cons, List.take_zero, List.take_nil, List.nodup_nil, Nat.reduceAdd, Nat.reduceSub, Nat.reduceLeDiff, Nat.zero_add, and_true, and_self, if_true, Bool.not_true, Bool.not_false, Nat.sub_self, List.append_nil, Int.cast_ofNat_Int, beq_self_eq_true, nd1, true_and, cellS, dispF, cellE, borE, Cell.val, e1, len1, pop1, ne, one, lk1, u1, v1, apP, lf_b, lf_i, lf_t, cl_dead, cl_K, cl_P, cl_town, h4, List.all_cons, List.all_nil, Bool.and_self, Nat.zero_le, Nat.reduceLeDiff, Nat.reduceLT]
  · obtain ⟨v, a2, r2, hv, ha2, e2⟩ := draw_spec hl a1 r1 3 ha1 (by omega) (by omega)
    have ne := ne_nilK (K.eraseIdx i)
    rw [decide_eq_true hn] at ne
    by_cases hz : v = 0
    · have hp2 : 0 < (K.eraseIdx i).length := List.length_pos_iff.mpr hn
      obtain ⟨j, a3, r3, hj, ha3, e3⟩ := draw_spec hl a2 r2 (K.eraseIdx i).length ha2 hp2 (by omega)
      have pop2 := pop_eK (K.eraseIdx i) j hj (by omega)
      have len2 := len_eK (K.eraseIdx i) (by omega)
      have gj : (K.eraseIdx i).getD j .non = (K.eraseIdx i)[j] := by simp [hj]
      obtain ⟨l2, u2, v2⟩ := t2 K[i] (K.eraseIdx i)[j]
      subst hz
      have e2 : F__law_draw [.v (intsD ns), .r (town a1 r1), .v (.int 3)] = .ok (.int 0) [.dead, town a2 r2, .dead] := e2
      refine ⟨(K.eraseIdx i).eraseIdx j, srt [K[i], (K.eraseIdx i)[j]], a3, r3, .lst (eK [K[i], (K.eraseIdx i)[j]]), ha3, ?_, lf_eK _, ?_⟩
      · rw [nxt, List.mem_flatMap]
        refine ⟨i, List.mem_range.mpr hi, List.mem_cons_of_mem _ (List.mem_map.mpr ⟨j, List.mem_range.mpr (by omega), ?_⟩)⟩
        rw [gi, gj]
      · simp only [B__law_groups_1, runF, seqS, ifS, retS, retN, nilS, setS, exprS, raiseS, bindS, bTup, bAll_nil, bAll_cons, bName, orE, andE, ifE, op1, op2, bindE, liftE, varE, retE, notD, appE, consA, nilA, valsA, tupD, lstD, frE, chainE, Arg.slot, Arg.cell, callE, argsOf, argOf, refs, putB, consR, consFn, List.map_cons, List.map_nil, List.length_cons, List.length_nil, List.set_cons_zero, List.set_cons_succ, List.getElem?_cons_zero, List.getElem?_cons_succ, List.replicate, List.cons_append, List.nil_append, Option.bind_some, Option.map_some, List.take_succ_cons, List.take_zero, List.take_nil, List.nodup_nil, Nat.reduceAdd, Nat.reduceSub, Nat.reduceLeDiff, Nat.zero_add, and_true, and_self, if_true, Bool.not_true, Bool.not_false, Nat.sub_self, List.append_nil, Int.cast_ofNat_Int, beq_self_eq_true, nd1, true_and, cellS, dispF, cellE, borE, Cell.val, e1, len1, pop1, ne, eqI, e2, e3, len2, pop2, one, lk1, ap, u2, v2, apP, lf_b, lf_i, lf_t, cl_dead, cl_K, cl_P, cl_town, h4, List.all_cons, List.all_nil, Bool.and_self, Nat.zero_le, Nat.reduceLeDiff, Nat.reduceLT]
    · have e2 : F__law_draw [.v (intsD ns), .r (town a1 r1), .v (.int 3)] = .ok (.int v) [.dead, town a2 r2, .dead] := e2
      have hz2 : ((v : Int) == 0) = false := by simpa using hz
      refine ⟨K.eraseIdx i, srt [K[i]], a2, r2, .lst (eK [K[i]]), ha2, ?_, lf_eK _, ?_⟩
      · rw [nxt, List.mem_flatMap]
        exact ⟨i, List.mem_range.mpr hi, by rw [gi]; exact List.mem_cons_self⟩
      · simp only [B__law_groups_1, runF, seqS, ifS, retS, retN, nilS, setS, exprS, raiseS, bindS, bTup, bAll_nil, bAll_cons, bName, orE, andE, ifE, op1, op2, bindE, liftE, varE, retE, notD, appE, consA, nilA, valsA, tupD, lstD, frE, chainE, Arg.slot, Arg.cell, callE, argsOf, argOf, refs, putB, consR, consFn, List.map_cons, List.map_nil, List.length_cons, List.length_nil, List.set_cons_zero, List.set_cons_succ, List.getElem?_cons_zero, List.getElem?_cons_succ, List.replicate, List.cons_append, List.nil_append, Option.bind_some, Option.map_some, List.take_succ_cons, List.take_zero, List.take_nil, List.nodup_nil, Nat.reduceAdd, Nat.reduceSub, Nat.reduceLeDiff, Nat.zero_add, and_true, and_self, if_true, Bool.not_true, Bool.not_false, Nat.sub_self, List.append_nil, Int.cast_ofNat_Int, beq_self_eq_true, nd1, true_and, cellS, dispF, cellE, borE, Cell.val, e1, len1, pop1, ne, eqI, e2, hz2, one, lk1, u1, v1, apP, lf_b, lf_i, lf_t, cl_dead, cl_K, cl_P, cl_town, h4, List.all_cons, List.all_nil, Bool.and_self, Nat.zero_le, Nat.reduceLeDiff, Nat.reduceLT]
def good : Nat → List Kd → List (List Kd) → Bool
  | 0, K, P => decide (K = []) && decide (P ∈ allG)
  | n + 1, K, P => if K = [] then decide (P ∈ allG) else (nxt K).all fun x => good n x.1 (P ++ [x.2])
theorem erase_len {α : Type} : ∀ (l : List α) (i : Nat), (l.eraseIdx i).length ≤ l.length
  | [], _ => Nat.le_refl _
  | _ :: _, 0 => Nat.le_succ _
  | _ :: l, i + 1 => Nat.succ_le_succ (erase_len l i)
theorem nxt_len {K K' g : List Kd} (h : (K', g) ∈ nxt K) : K'.length ≤ K.length := by
  rw [nxt, List.mem_flatMap] at h
  obtain ⟨i, _, h⟩ := h
  rcases List.mem_cons.mp h with z | z
  · cases z; exact erase_len _ _
  · obtain ⟨j, _, z⟩ := List.mem_map.mp z
    cases z
    exact Nat.le_trans (erase_len _ _) (erase_len _ _)
theorem loop_groups {ns : List Int} (hl : ns.length ≤ 63) : ∀ (n f : Nat) (K : List Kd) (P : List (List Kd)) (a r : Int) (s4 : Slot) (c4 : Cell), good n K P = true → K.length ≤ 3 → P.length + n ≤ 10 → n < f → 0 ≤ a → c4.lf = true →
    ∃ g ∈ allG, ∃ a' r' s4' c4', 0 ≤ a' ∧ c4'.lf = true ∧ whileS C__law_groups_1 B__law_groups_1 f [.v (intsD ns), .c, .c, .c, s4] [.dead, town a r, .lst (eK K), .lst (eP P), c4] = .nx [.v (intsD ns), .c, .c, .c, s4'] [.dead, town a' r', .lst (eK []), .lst (eP g), c4']
  | n, 0, _, _, _, _, _, _, _, _, _, hf, _, _ => absurd hf (Nat.not_lt_zero _)
  | n, f + 1, K, P, a, r, s4, c4, hg, h3, hP, hf, ha, h4 => by
    have hc := cond_groups ns K P a r s4 c4 h4
    by_cases hK : K = []
    · subst hK
      have hPm : P ∈ allG := by
        cases n with
        | zero => simp only [good, Bool.and_eq_true, decide_eq_true_eq] at hg; exact hg.2
        | succ n => simpa [good] using hg
      refine ⟨P, hPm, a, r, s4, c4, ha, h4, ?_⟩
      simp only [whileS, hc]
      simp
    · cases n with
      | zero => simp only [good, Bool.and_eq_true, decide_eq_true_eq] at hg; exact absurd hg.1 hK
      | succ n =>
        obtain ⟨K', g, a1, r1, c1, ha1, hm, h41, e⟩ := body_groups hl K P a r s4 c4 h4 ha hK h3 (by omega)
        simp only [good, hK, if_false, List.all_eq_true] at hg
        have hg' := hg _ hm
        obtain ⟨g2, hg2, a2, r2, s42, c42, ha2, h42, e2⟩ := loop_groups hl n f K' (P ++ [g]) a1 r1 .c c1 hg' (Nat.le_trans (nxt_len hm) h3) (by rw [List.length_append, List.length_singleton]; omega) (by omega) ha1 h41
        refine ⟨g2, hg2, a2, r2, s42, c42, ha2, h42, ?_⟩
        simp only [whileS, hc, decide_eq_true hK, e, e2]
theorem tuple_eP (g : List (List Kd)) : tupleD [.list (eP g)] = some (gD g) := rfl
theorem lf_gD (g : List (List Kd)) : lf (gD g) = true := lf_eP g
theorem groups_spec {ns : List Int} (hl : ns.length ≤ 63) (a r : Int) (ha : 0 ≤ a) : ∃ g ∈ allG, ∃ a' r' : Int, 0 ≤ a' ∧ F__law_groups [.v (intsD ns), .r (town a r)] = .ok (gD g) [.dead, town a' r'] := by
  obtain ⟨g, hg, a1, r1, s4, c4, ha1, h4, e⟩ := loop_groups hl 3 200 [.non, .num, .txt] [] a r .un .dead (by decide) (by decide) (by decide) (by decide) ha rfl
  have hW : W__law_groups_1 [.v (intsD ns), .c, .c, .c, .un] [.dead, town a r, .lst [.str "none", .str "number", .str "text"], .lst [], .dead] = .nx [.v (intsD ns), .c, .c, .c, s4] [.dead, town a1 r1, .lst (eK []), .lst (eP g), c4] := e
  refine ⟨g, hg, a1, r1, ha1, ?_⟩
  simp only [F__law_groups, M__law_groups, runF, seqS, ifS, retS, retN, nilS, setS, exprS, raiseS, bindS, bTup, bAll_nil, bAll_cons, bName, orE, andE, ifE, op1, op2, bindE, liftE, varE, retE, notD, appE, consA, nilA, valsA, tupD, lstD, frE, chainE, Arg.slot, Arg.cell, callE, argsOf, argOf, refs, putB, consR, consFn, List.map_cons, List.map_nil, List.length_cons, List.length_nil, List.set_cons_zero, List.set_cons_succ, List.getElem?_cons_zero, List.getElem?_cons_succ, List.replicate, List.cons_append, List.nil_append, Option.bind_some, Option.map_some, List.take_succ_cons, List.take_zero, List.take_nil, List.nodup_nil, Nat.reduceAdd, Nat.reduceSub, Nat.reduceLeDiff, Nat.zero_add, and_true, and_self, if_true, Bool.not_true, Bool.not_false, Nat.sub_self, List.append_nil, Int.cast_ofNat_Int, beq_self_eq_true, nd1, true_and, parN, consNL, nilN, dispF, setSl, setCs, List.all_cons, List.all_nil, Bool.and_true, Nat.reduceLT, decide_true, hW, borE, Cell.val, tuple_eP, lf_gD, cl_dead, cl_K, cl_P, cl_town, h4, Bool.and_self, Nat.zero_le, Nat.reduceLeDiff]
/-! ### random steps, specifications -/
theorem step_gen {ns : List Int} (hl : ns.length ≤ 63) (a r : Int) (w : Nat) (ha : 0 ≤ a) (hw : 1 ≤ w) (hw2 : w ≤ 2) : ∃ s : Stp, s.ok w = true ∧ ∃ a' r' : Int, 0 ≤ a' ∧ F__law_step [.v (intsD ns), .r (town a r), .v (.int w)] = .ok s.d [.dead, town a' r', .dead] := by
  obtain ⟨x, hx, a1, r1, ha1, e1⟩ := pick_spec hl a r [.str "rank", .str "rank", .str "number", .str "text", .str "length", .str "spelling"] ha (by simp) (by simp)
  have hcase : x = .str "rank" ∨ ∃ n : Nm, x = .str n.s := by
    simp only [List.mem_cons, List.not_mem_nil, or_false] at hx
    rcases hx with rfl | rfl | rfl | rfl | rfl | rfl
    · exact .inl rfl
    · exact .inl rfl
    · exact .inr ⟨.number, rfl⟩
    · exact .inr ⟨.text, rfl⟩
    · exact .inr ⟨.length, rfl⟩
    · exact .inr ⟨.spelling, rfl⟩
  rcases hcase with rfl | ⟨n, rfl⟩
  · obtain ⟨g, hg, a2, r2, ha2, e2⟩ := groups_spec hl a1 r1 ha1
    obtain ⟨f, a3, r3, hf, ha3, e3⟩ := draw_spec hl a2 r2 w ha2 hw (by omega)
    refine ⟨⟨f, .rank g⟩, ?_, a3, r3, ha3, ?_⟩
    · simp [Stp.ok, Sk.ok, hf, hg]
    · simp only [F__law_step, M__law_step, runF, seqS, ifS, retS, retN, nilS, setS, exprS, raiseS, bindS, bTup, bAll_nil, bAll_cons, bName, orE, andE, ifE, op1, op2, bindE, liftE, varE, retE, notD, appE, consA, nilA, valsA, tupD, lstD, frE, chainE, Arg.slot, Arg.cell, callE, argsOf, argOf, refs, putB, consR, consFn, List.map_cons, List.map_nil, List.length_cons, List.length_nil, List.set_cons_zero, List.set_cons_succ, List.getElem?_cons_zero, List.getElem?_cons_succ, List.replicate, List.cons_append, List.nil_append, Option.bind_some, Option.map_some, List.take_succ_cons, List.take_zero, List.take_nil, List.nodup_nil, Nat.reduceAdd, Nat.reduceSub, Nat.reduceLeDiff, Nat.zero_add, and_true, and_self, if_true, Bool.not_true, Bool.not_false, Nat.sub_self, List.append_nil, Int.cast_ofNat_Int, beq_self_eq_true, nd1, true_and, e1, eqS, e2, e3, Stp.d, Nat.zero_le, Nat.reduceLeDiff]
  · obtain ⟨x, hx, a2, r2, ha2, e2⟩ := pick_spec hl a1 r1 [.str "asc", .str "desc"] ha1 (by simp) (by simp)
    obtain ⟨b, rfl⟩ : ∃ b : Bool, x = .str (dirS b) := by
      simp only [List.mem_cons, List.not_mem_nil, or_false] at hx
      rcases hx with rfl | rfl
      · exact ⟨false, rfl⟩
      · exact ⟨true, rfl⟩
    obtain ⟨f, a3, r3, hf, ha3, e3⟩ := draw_spec hl a2 r2 w ha2 hw (by omega)
    refine ⟨⟨f, .val n b⟩, ?_, a3, r3, ha3, ?_⟩
    · simp [Stp.ok, Sk.ok, hf]
    · simp only [F__law_step, M__law_step, runF, seqS, ifS, retS, retN, nilS, setS, exprS, raiseS, bindS, bTup, bAll_nil, bAll_cons, bName, orE, andE, ifE, op1, op2, bindE, liftE, varE, retE, notD, appE, consA, nilA, valsA, tupD, lstD, frE, chainE, Arg.slot, Arg.cell, callE, argsOf, argOf, refs, putB, consR, consFn, List.map_cons, List.map_nil, List.length_cons, List.length_nil, List.set_cons_zero, List.set_cons_succ, List.getElem?_cons_zero, List.getElem?_cons_succ, List.replicate, List.cons_append, List.nil_append, Option.bind_some, Option.map_some, List.take_succ_cons, List.take_zero, List.take_nil, List.nodup_nil, Nat.reduceAdd, Nat.reduceSub, Nat.reduceLeDiff, Nat.zero_add, and_true, and_self, if_true, Bool.not_true, Bool.not_false, Nat.sub_self, List.append_nil, Int.cast_ofNat_Int, beq_self_eq_true, nd1, true_and, e1, eqS, nm_rank, e2, e3, Stp.d, Nat.zero_le, Nat.reduceLeDiff]
theorem steps_of {w : Nat} : ∀ {rs : List D}, (∀ r ∈ rs, ∃ s : Stp, s.ok w = true ∧ r = s.d) → ∃ ss : List Stp, rs = ss.map Stp.d ∧ ∀ s ∈ ss, s.ok w = true
  | [], _ => ⟨[], rfl, fun _ z => by cases z⟩
  | r :: rs, h => by
    obtain ⟨s, h1, rfl⟩ := h r List.mem_cons_self
    obtain ⟨ss, rfl, h2⟩ := steps_of (rs := rs) fun x hx => h x (List.mem_cons_of_mem _ hx)
    exact ⟨s :: ss, rfl, fun x hx => by
      rcases List.mem_cons.mp hx with z | z
      · rw [z]; exact h1
      · exact h2 x z⟩
theorem vals_of' : ∀ {rs : List D}, (∀ r ∈ rs, ∃ v : Vl, v.ok = true ∧ r = v.d) → ∃ vs : List Vl, rs = vs.map Vl.d ∧ ∀ v ∈ vs, v.ok = true
  | [], _ => ⟨[], rfl, fun _ z => by cases z⟩
  | r :: rs, h => by
    obtain ⟨s, h1, rfl⟩ := h r List.mem_cons_self
    obtain ⟨ss, rfl, h2⟩ := vals_of' (rs := rs) fun x hx => h x (List.mem_cons_of_mem _ hx)
    exact ⟨s :: ss, rfl, fun x hx => by
      rcases List.mem_cons.mp hx with z | z
      · rw [z]; exact h1
      · exact h2 x z⟩
theorem rng_len (n : Nat) : (rng1 n).length = n := by simp [rng1]
theorem spec_gen {ns : List Int} (hl : ns.length ≤ 63) (a r : Int) (w most : Nat) (ha : 0 ≤ a) (hw : 1 ≤ w) (hw2 : w ≤ 2) (hm : most ≤ 6) :
    ∃ ss : List Stp, ss.length ≤ most ∧ (∀ s ∈ ss, s.ok w = true) ∧ ∃ a' r' : Int, 0 ≤ a' ∧ F__law_spec [.v (intsD ns), .r (town a r), .v (.int w), .v (.int most)] = .ok (specD w ss) [.dead, town a' r', .dead, .dead] := by
  obtain ⟨v, a1, r1, hv, ha1, e1⟩ := draw_spec hl a r (most + 1) ha (by omega) (by omega)
  have e1 : F__law_draw [.v (intsD ns), .r (town a r), .v (.int ((most : Int) + 1))] = .ok (.int v) [.dead, town a1 r1, .dead] := e1
  have hrng : (0 : Int) ≤ (v : Int) ∧ (v : Int) ≤ 1000000 := ⟨by omega, by omega⟩
  obtain ⟨rs, cs', e2, ⟨a2, r2, ha2, rfl⟩, hlen, hP⟩ := lcG_inv (i := 4) (e := callE 3 F__law_step (consA (varE 0) (consR 1 (consA (varE 2) nilA)))) (it := rngI (callE 3 F__law_draw (consA (varE 0) (consR 1 (consA (op2 addD (varE 3) (retE (.int 1))) nilA)))))
    (sl := [.v (intsD ns), .c, .v (.int w), .v (.int most), .un]) (cs := [.dead, town a r, .dead, .dead, .dead]) (cs1 := [.dead, town a1 r1, .dead, .dead, .dead]) (ds := rng1 v)
    (fun cs => ∃ a r : Int, 0 ≤ a ∧ cs = [.dead, town a r, .dead, .dead, .dead]) (fun d => ∃ s : Stp, s.ok w = true ∧ d = s.d) rfl (by simp only [rngI, runF, seqS, ifS, retS, retN, nilS, setS, exprS, raiseS, bindS, bTup, bAll_nil, bAll_cons, bName, orE, andE, ifE, op1, op2, bindE, liftE, varE, retE, notD, appE, consA, nilA, valsA, tupD, lstD, frE, chainE, Arg.slot, Arg.cell, callE, argsOf, argOf, refs, putB, consR, consFn, List.map_cons, List.map_nil, List.length_cons, List.length_nil, List.set_cons_zero, List.set_cons_succ, List.getElem?_cons_zero, List.getElem?_cons_succ, List.replicate, List.cons_append, List.nil_append, Option.bind_some, Option.map_some, List.take_succ_cons, List.take_zero, List.take_nil, List.nodup_nil, Nat.reduceAdd, Nat.reduceSub, Nat.reduceLeDiff, Nat.zero_add, and_true, and_self, if_true, Bool.not_true, Bool.not_false, Nat.sub_self, List.append_nil, Int.cast_ofNat_Int, beq_self_eq_true, nd1, true_and, isaD, leD, ltD, gtD, geD, addD, subD, negD, lenD, isD, isNotD, idx0, idx1, idx2, idl0, idl1, e1, if_pos hrng, Nat.zero_le, Nat.reduceLeDiff])
    (fun d _ cs ⟨a, r, ha, e⟩ => by
      subst e
      obtain ⟨s, hs, a3, r3, ha3, e3⟩ := step_gen hl a r w ha hw hw2
      exact ⟨s.d, [.dead, town a3 r3, .dead, .dead, .dead], by simp only [runF, seqS, ifS, retS, retN, nilS, setS, exprS, raiseS, bindS, bTup, bAll_nil, bAll_cons, bName, orE, andE, ifE, op1, op2, bindE, liftE, varE, retE, notD, appE, consA, nilA, valsA, tupD, lstD, frE, chainE, Arg.slot, Arg.cell, callE, argsOf, argOf, refs, putB, consR, consFn, List.map_cons, List.map_nil, List.length_cons, List.length_nil, List.set_cons_zero, List.set_cons_succ, List.getElem?_cons_zero, List.getElem?_cons_succ, List.replicate, List.cons_append, List.nil_append, Option.bind_some, Option.map_some, List.take_succ_cons, List.take_zero, List.take_nil, List.nodup_nil, Nat.reduceAdd, Nat.reduceSub, Nat.reduceLeDiff, Nat.zero_add, and_true, and_self, if_true, Bool.not_true, Bool.not_false, Nat.sub_self, List.append_nil, Int.cast_ofNat_Int, beq_self_eq_true, nd1, true_and, e3, Nat.zero_le, Nat.reduceLeDiff], ⟨a3, r3, ha3, rfl⟩, s, hs, rfl⟩) ⟨a1, r1, ha1, rfl⟩ (by rw [rng_len]; omega)
  have e2 : L__law_spec_1 [.v (intsD ns), .c, .v (.int w), .v (.int most), .un] [.dead, town a r, .dead, .dead, .dead] = .ok rs [.dead, town a2 r2, .dead, .dead, .dead] := e2
  obtain ⟨ss, rfl, hok⟩ := steps_of hP
  rw [List.length_map, rng_len] at hlen
  refine ⟨ss, by omega, hok, a2, r2, ha2, ?_⟩
  simp only [F__law_spec, M__law_spec, runF, seqS, ifS, retS, retN, nilS, setS, exprS, raiseS, bindS, bTup, bAll_nil, bAll_cons, bName, orE, andE, ifE, op1, op2, bindE, liftE, varE, retE, notD, appE, consA, nilA, valsA, tupD, lstD, frE, chainE, Arg.slot, Arg.cell, callE, argsOf, argOf, refs, putB, consR, consFn, List.map_cons, List.map_nil, List.length_cons, List.length_nil, List.set_cons_zero, List.set_cons_succ, List.getElem?_cons_zero, List.getElem?_cons_succ, List.replicate, List.cons_append, List.nil_append, Option.bind_some, Option.map_some, List.take_succ_cons, List.take_zero, List.take_nil, List.nodup_nil, Nat.reduceAdd, Nat.reduceSub, Nat.reduceLeDiff, Nat.zero_add, and_true, and_self, if_true, Bool.not_true, Bool.not_false, Nat.sub_self, List.append_nil, Int.cast_ofNat_Int, beq_self_eq_true, nd1, true_and, e2, tupleD, specD, Nat.zero_le, Nat.reduceLeDiff]
theorem value_gen {ns : List Int} (hl : ns.length ≤ 63) (a r : Int) (ha : 0 ≤ a) : ∃ v : Vl, v.ok = true ∧ ∃ a' r' : Int, 0 ≤ a' ∧ F__law_value [.v (intsD ns), .r (town a r)] = .ok v.d [.dead, town a' r'] := by
  obtain ⟨z, a1, r1, hz, ha1, e1⟩ := draw_spec hl a r 300 ha (by omega) (by omega)
  have e1 : F__law_draw [.v (intsD ns), .r (town a r), .v (.int 300)] = .ok (.int z) [.dead, town a1 r1, .dead] := e1
  obtain ⟨x, hx, a2, r2, ha2, e2⟩ := pick_spec hl a1 r1 [.int 0, .int 1, .int 2, .int 3, .int 9, .int 10, .int 11, .int 12, .int 20, .int 30, .int 100, .int 102, .int (9 + z)] ha1 (by simp) (by simp)
  obtain ⟨y, hy, a3, r3, ha3, e3⟩ := pick_spec hl a2 r2 [.str "a", .str "b", .str "c", .str "z", .str "aa", .str "ab", .str "b", .str "bb", .str "ba", .str "cc", .str "aaa", .str "abc", .str "bbb", .str "zz"] ha2 (by simp) (by simp)
  obtain ⟨u, hu, a4, r4, ha4, e4⟩ := pick_spec hl a3 r3 [.none, .none, x, y] ha3 (by simp) (by simp)
  have hx' : ∃ v : Vl, v.ok = true ∧ x = v.d := by
    simp only [List.mem_cons, List.not_mem_nil, or_false] at hx
    have num : ∀ n : Int, 0 ≤ n → n ≤ 999 → ∃ v : Vl, v.ok = true ∧ (PyData.int n : D) = v.d := fun n h1 h2 => ⟨.num n, by simp only [Vl.ok, Bool.and_eq_true, decide_eq_true_eq]; omega, rfl⟩
    rcases hx with rfl | rfl | rfl | rfl | rfl | rfl | rfl | rfl | rfl | rfl | rfl | rfl | rfl <;> exact num _ (by omega) (by omega)
  have hy' : ∃ v : Vl, v.ok = true ∧ y = v.d := by
    simp only [List.mem_cons, List.not_mem_nil, or_false] at hy
    rcases hy with rfl | rfl | rfl | rfl | rfl | rfl | rfl | rfl | rfl | rfl | rfl | rfl | rfl | rfl <;> exact ⟨.txt _, by decide +kernel, rfl⟩
  have hu' : ∃ v : Vl, v.ok = true ∧ u = v.d := by
    simp only [List.mem_cons, List.not_mem_nil, or_false] at hu
    rcases hu with rfl | rfl | rfl | rfl
    · exact ⟨.non, rfl, rfl⟩
    · exact ⟨.non, rfl, rfl⟩
    · exact hx'
    · exact hy'
  obtain ⟨v, hv, rfl⟩ := hu'
  refine ⟨v, hv, a4, r4, ha4, ?_⟩
  simp only [F__law_value, M__law_value, runF, seqS, ifS, retS, retN, nilS, setS, exprS, raiseS, bindS, bTup, bAll_nil, bAll_cons, bName, orE, andE, ifE, op1, op2, bindE, liftE, varE, retE, notD, appE, consA, nilA, valsA, tupD, lstD, frE, chainE, Arg.slot, Arg.cell, callE, argsOf, argOf, refs, putB, consR, consFn, List.map_cons, List.map_nil, List.length_cons, List.length_nil, List.set_cons_zero, List.set_cons_succ, List.getElem?_cons_zero, List.getElem?_cons_succ, List.replicate, List.cons_append, List.nil_append, Option.bind_some, Option.map_some, List.take_succ_cons, List.take_zero, List.take_nil, List.nodup_nil, Nat.reduceAdd, Nat.reduceSub, Nat.reduceLeDiff, Nat.zero_add, and_true, and_self, if_true, Bool.not_true, Bool.not_false, Nat.sub_self, List.append_nil, Int.cast_ofNat_Int, beq_self_eq_true, nd1, true_and, isaD, leD, ltD, gtD, geD, addD, subD, negD, lenD, isD, isNotD, idx0, idx1, idx2, idl0, idl1, e1, e2, e3, e4, Nat.zero_le, Nat.reduceLeDiff]
theorem record_gen {ns : List Int} (hl : ns.length ≤ 63) (a r : Int) (w : Nat) (ha : 0 ≤ a) (hw2 : w ≤ 2) : ∃ v : List Vl, Rec w v ∧ ∃ a' r' : Int, 0 ≤ a' ∧ F__law_record [.v (intsD ns), .r (town a r), .v (.int w)] = .ok (recD v) [.dead, town a' r', .dead] := by
  have hrng : (0 : Int) ≤ (w : Int) ∧ (w : Int) ≤ 1000000 := ⟨by omega, by omega⟩
  obtain ⟨rs, cs', e2, ⟨a2, r2, ha2, rfl⟩, hlen, hP⟩ := lcG_inv (i := 3) (e := callE 2 F__law_value (consA (varE 0) (consR 1 nilA))) (it := rngI (varE 2))
    (sl := [.v (intsD ns), .c, .v (.int w), .un]) (cs := [.dead, town a r, .dead, .dead]) (cs1 := [.dead, town a r, .dead, .dead]) (ds := rng1 w)
    (fun cs => ∃ a r : Int, 0 ≤ a ∧ cs = [.dead, town a r, .dead, .dead]) (fun d => ∃ v : Vl, v.ok = true ∧ d = v.d) rfl (by simp only [rngI, runF, seqS, ifS, retS, retN, nilS, setS, exprS, raiseS, bindS, bTup, bAll_nil, bAll_cons, bName, orE, andE, ifE, op1, op2, bindE, liftE, varE, retE, notD, appE, consA, nilA, valsA, tupD, lstD, frE, chainE, Arg.slot, Arg.cell, callE, argsOf, argOf, refs, putB, consR, consFn, List.map_cons, List.map_nil, List.length_cons, List.length_nil, List.set_cons_zero, List.set_cons_succ, List.getElem?_cons_zero, List.getElem?_cons_succ, List.replicate, List.cons_append, List.nil_append, Option.bind_some, Option.map_some, List.take_succ_cons, List.take_zero, List.take_nil, List.nodup_nil, Nat.reduceAdd, Nat.reduceSub, Nat.reduceLeDiff, Nat.zero_add, and_true, and_self, if_true, Bool.not_true, Bool.not_false, Nat.sub_self, List.append_nil, Int.cast_ofNat_Int, beq_self_eq_true, nd1, true_and, if_pos hrng])
    (fun d _ cs ⟨a, r, ha, e⟩ => by
      subst e
      obtain ⟨s, hs, a3, r3, ha3, e3⟩ := value_gen hl a r ha
      exact ⟨s.d, [.dead, town a3 r3, .dead, .dead], by simp only [runF, seqS, ifS, retS, retN, nilS, setS, exprS, raiseS, bindS, bTup, bAll_nil, bAll_cons, bName, orE, andE, ifE, op1, op2, bindE, liftE, varE, retE, notD, appE, consA, nilA, valsA, tupD, lstD, frE, chainE, Arg.slot, Arg.cell, callE, argsOf, argOf, refs, putB, consR, consFn, List.map_cons, List.map_nil, List.length_cons, List.length_nil, List.set_cons_zero, List.set_cons_succ, List.getElem?_cons_zero, List.getElem?_cons_succ, List.replicate, List.cons_append, List.nil_append, Option.bind_some, Option.map_some, List.take_succ_cons, List.take_zero, List.take_nil, List.nodup_nil, Nat.reduceAdd, Nat.reduceSub, Nat.reduceLeDiff, Nat.zero_add, and_true, and_self, if_true, Bool.not_true, Bool.not_false, Nat.sub_self, List.append_nil, Int.cast_ofNat_Int, beq_self_eq_true, nd1, true_and, e3, Nat.zero_le, Nat.reduceLeDiff], ⟨a3, r3, ha3, rfl⟩, s, hs, rfl⟩) ⟨a, r, ha, rfl⟩ (by rw [rng_len]; omega)
  have e2 : L__law_record_1 [.v (intsD ns), .c, .v (.int w), .un] [.dead, town a r, .dead, .dead] = .ok rs [.dead, town a2 r2, .dead, .dead] := e2
  obtain ⟨vs, rfl, hok⟩ := vals_of' hP
  rw [List.length_map, rng_len] at hlen
  refine ⟨vs, ⟨hlen, hok⟩, a2, r2, ha2, ?_⟩
  simp only [F__law_record, M__law_record, runF, seqS, ifS, retS, retN, nilS, setS, exprS, raiseS, bindS, bTup, bAll_nil, bAll_cons, bName, orE, andE, ifE, op1, op2, bindE, liftE, varE, retE, notD, appE, consA, nilA, valsA, tupD, lstD, frE, chainE, Arg.slot, Arg.cell, callE, argsOf, argOf, refs, putB, consR, consFn, List.map_cons, List.map_nil, List.length_cons, List.length_nil, List.set_cons_zero, List.set_cons_succ, List.getElem?_cons_zero, List.getElem?_cons_succ, List.replicate, List.cons_append, List.nil_append, Option.bind_some, Option.map_some, List.take_succ_cons, List.take_zero, List.take_nil, List.nodup_nil, Nat.reduceAdd, Nat.reduceSub, Nat.reduceLeDiff, Nat.zero_add, and_true, and_self, if_true, Bool.not_true, Bool.not_false, Nat.sub_self, List.append_nil, Int.cast_ofNat_Int, beq_self_eq_true, nd1, true_and, e2, tupleD, recD]
/-! ### the law's comparison -/
theorem lkind_spec (v : Vl) : F__law_kind [.v v.d] = .ok (.str v.kd.s) [.dead] := by
  cases v <;> rfl
theorem lsign_int (a b : Int) : F__law_sign [.v (.int a), .v (.int b)] = .ok (.int (sgnI a b)) [.dead, .dead] := by
  simp only [F__law_sign, M__law_sign, runF, seqS, ifS, retS, retN, nilS, setS, exprS, raiseS, bindS, bTup, bAll_nil, bAll_cons, bName, orE, andE, ifE, op1, op2, bindE, liftE, varE, retE, notD, appE, consA, nilA, valsA, tupD, lstD, frE, chainE, Arg.slot, Arg.cell, callE, argsOf, argOf, refs, putB, consR, consFn, List.map_cons, List.map_nil, List.length_cons, List.length_nil, List.set_cons_zero, List.set_cons_succ, List.getElem?_cons_zero, List.getElem?_cons_succ, List.replicate, List.cons_append, List.nil_append, Option.bind_some, Option.map_some, List.take_succ_cons, List.take_zero, List.take_nil, List.nodup_nil, Nat.reduceAdd, Nat.reduceSub, Nat.reduceLeDiff, Nat.zero_add, and_true, and_self, if_true, Bool.not_true, Bool.not_false, Nat.sub_self, List.append_nil, Int.cast_ofNat_Int, beq_self_eq_true, nd1, true_and, isaD, leD, ltD, gtD, geD, addD, subD, negD, lenD, isD, isNotD, idx0, idx1, idx2, idl0, idl1, eqI, sgnI]
  by_cases h : a = b
  · subst h; simp
  · have e : (a == b) = false := by simpa using h
    by_cases h1 : a < b
    · simp only [e, h, h1, decide_true, if_false, if_true]; rfl
    · simp only [e, h, h1, decide_false, if_false]; rfl
theorem lsign_str (x y : Str) : F__law_sign [.v (.str x), .v (.str y)] = .ok (.int (sgnS x y)) [.dead, .dead] := by
  simp only [F__law_sign, M__law_sign, runF, seqS, ifS, retS, retN, nilS, setS, exprS, raiseS, bindS, bTup, bAll_nil, bAll_cons, bName, orE, andE, ifE, op1, op2, bindE, liftE, varE, retE, notD, appE, consA, nilA, valsA, tupD, lstD, frE, chainE, Arg.slot, Arg.cell, callE, argsOf, argOf, refs, putB, consR, consFn, List.map_cons, List.map_nil, List.length_cons, List.length_nil, List.set_cons_zero, List.set_cons_succ, List.getElem?_cons_zero, List.getElem?_cons_succ, List.replicate, List.cons_append, List.nil_append, Option.bind_some, Option.map_some, List.take_succ_cons, List.take_zero, List.take_nil, List.nodup_nil, Nat.reduceAdd, Nat.reduceSub, Nat.reduceLeDiff, Nat.zero_add, and_true, and_self, if_true, Bool.not_true, Bool.not_false, Nat.sub_self, List.append_nil, Int.cast_ofNat_Int, beq_self_eq_true, nd1, true_and, isaD, leD, ltD, gtD, geD, addD, subD, negD, lenD, isD, isNotD, idx0, idx1, idx2, idl0, idl1, eqS, sgnS]
  by_cases h : x = y
  · subst h; simp
  · have e : (x == y) = false := by simpa using h
    cases h1 : ltS x y with
    | true => simp only [e, h, if_false, if_true]; rfl
    | false => simp only [e, h, if_false, Bool.false_eq_true]; rfl
theorem places (S0 S1 S2 S3 S4 : D) : ∀ g ∈ allG, ∀ k l : Kd, L__law_result_2 [.v S0, .v S1, .v S2, .v S3, .v S4, .v (gD g), .v (.tuple [.str k.s, .str l.s]), .un, .un, .un, .un] [.dead, .dead, .dead, .dead, .dead, .dead, .dead, .dead, .dead, .dead, .dead] =
    .ok [.int (rkI g k), .int (rkI g l)] [.dead, .dead, .dead, .dead, .dead, .dead, .dead, .dead, .dead, .dead, .dead] := by
  intro g hg k l
  simp only [allG, List.mem_cons, List.not_mem_nil, or_false] at hg
  rcases hg with rfl | rfl | rfl | rfl | rfl | rfl | rfl | rfl | rfl | rfl | rfl | rfl | rfl <;> cases k <;> cases l <;> rfl
theorem tl_in (n : Nm) : inD (.str n.s) (.tuple [.str "text", .str "length"]) = some (.bool (decide (n = .text) || decide (n = .length))) := by cases n <;> rfl
theorem lsign_num (i j : Int) : F__law_sign [.v (Vl.num i).d, .v (Vl.num j).d] = .ok (.int (sgnI i j)) [.dead, .dead] := lsign_int i j
theorem lsign_txt (x y : Str) : F__law_sign [.v (Vl.txt x).d, .v (Vl.txt y).d] = .ok (.int (sgnS x y)) [.dead, .dead] := lsign_str x y
theorem str_d (v : Vl) (h : v.ok = true) (h2 : v ≠ .non) : strD [v.d] = some (.str v.spell) := by
  cases v with
  | non => exact absurd rfl h2
  | num n =>
    simp only [Vl.ok, Bool.and_eq_true, decide_eq_true_eq] at h
    have h3 : n.natAbs < 2 ^ 1000 := Nat.lt_trans (by omega : n.natAbs < 2 ^ 30) (Nat.pow_lt_pow_right (by decide) (by decide))
    show (if n.natAbs < 2 ^ 1000 then some (PyData.str (toString n)) else none) = _
    rw [if_pos h3]
    rfl
  | txt x => rfl
theorem lstep_rank (f : Nat) (g : List (List Kd)) (hg : g ∈ allG) (a b : Vl) :
    F__law_result [.v (Stp.d ⟨f, .rank g⟩), .v a.d, .v b.d] = .ok (.int ((Sk.rank g).res a b)) [.dead, .dead, .dead] := by
  simp only [F__law_result, M__law_result, Stp.d, runF, seqS, ifS, retS, retN, nilS, setS, exprS, raiseS, bindS, bTup, bAll_nil, bAll_cons, bName, orE, andE, ifE, op1, op2, bindE, liftE, varE, retE, notD, appE, consA, nilA, valsA, tupD, lstD, frE, chainE, Arg.slot, Arg.cell, callE, argsOf, argOf, refs, putB, consR, consFn, List.map_cons, List.map_nil, List.length_cons, List.length_nil, List.set_cons_zero, List.set_cons_succ, List.getElem?_cons_zero, List.getElem?_cons_succ, List.replicate, List.cons_append, List.nil_append, Option.bind_some, Option.map_some, List.take_succ_cons, List.take_zero, List.take_nil, List.nodup_nil, Nat.reduceAdd, Nat.reduceSub, Nat.reduceLeDiff, Nat.zero_add, and_true, and_self, if_true, Bool.not_true, Bool.not_false, Nat.sub_self, List.append_nil, Int.cast_ofNat_Int, beq_self_eq_true, nd1, true_and, eqS, lkind_spec, places _ _ _ _ _ g hg, isaD, leD, ltD, gtD, geD, addD, subD, negD, lenD, isD, isNotD, idx0, idx1, idx2, idl0, idl1, lsign_int, Sk.res]
theorem lstep_val (f : Nat) (n : Nm) (desc : Bool) (a b : Vl) (ha : a.ok = true) (hb : b.ok = true) :
    F__law_result [.v (Stp.d ⟨f, .val n desc⟩), .v a.d, .v b.d] = .ok (.int ((Sk.val n desc).res a b)) [.dead, .dead, .dead] := by
  have k1 := lkind_spec a
  have k2 := lkind_spec b
  have p1 := str_d a ha
  have p2 := str_d b hb
  cases n <;> cases a <;> cases b <;>
    simp only [F__law_result, M__law_result, Stp.d, runF, seqS, ifS, retS, retN, nilS, setS, exprS, raiseS, bindS, bTup, bAll_nil, bAll_cons, bName, orE, andE, ifE, op1, op2, bindE, liftE, varE, retE, notD, appE, consA, nilA, valsA, tupD, lstD, frE, chainE, Arg.slot, Arg.cell, callE, argsOf, argOf, refs, putB, consR, consFn, List.map_cons, List.map_nil, List.length_cons, List.length_nil, List.set_cons_zero, List.set_cons_succ, List.getElem?_cons_zero, List.getElem?_cons_succ, List.replicate, List.cons_append, List.nil_append, Option.bind_some, Option.map_some, List.take_succ_cons, List.take_zero, List.take_nil, List.nodup_nil, Nat.reduceAdd, Nat.reduceSub, Nat.reduceLeDiff, Nat.zero_add, and_true, and_self, if_true, Bool.not_true, Bool.not_false, Nat.sub_self, List.append_nil, Int.cast_ofNat_Int, beq_self_eq_true, nd1, true_and, eqS, k1, k2, p1, p2, ne_eq, not_false_eq_true, nm_rank, nm_num, nm_txt, nm_len, nm_spl, kkN, kkT, none_in, tl_in, lsign_num, lsign_txt, lsign_int, lsign_str, len_txt, ha, hb, Vl.kd, decide_true, decide_false, reduceCtorEq, Bool.and_self, Bool.and_true, Bool.and_false, Bool.or_false, Bool.or_true, Bool.false_or, Bool.true_or, Bool.or_self, asc_eq, Sk.res, Nm.res] <;>
    (cases desc <;> simp [negD])
theorem lstep_spec (w : Nat) (s : Stp) (h : s.ok w = true) (a b : Vl) (ha : a.ok = true) (hb : b.ok = true) : F__law_result [.v s.d, .v a.d, .v b.d] = .ok (.int (s.k.res a b)) [.dead, .dead, .dead] := by
  obtain ⟨f, k⟩ := s
  simp only [Stp.ok, Bool.and_eq_true, decide_eq_true_eq] at h
  cases k with
  | rank g => exact lstep_rank f g (of_decide_eq_true h.2) a b
  | val n d => exact lstep_val f n d a b ha hb
theorem lbody_compare {w : Nat} {a b : List Vl} (ha : Rec w a) (hb : Rec w b) (s : Stp) (h : s.ok w = true) (T : D) (s4 : Slot) :
    B__law_compare_1 [.v T, .v (recD a), .v (recD b), .v s.d, s4] [.dead, .dead, .dead, .dead, .dead] =
      if s.k.res (at' a s.f) (at' b s.f) ≠ 0 then .rt (.int (s.k.res (at' a s.f) (at' b s.f))) [.dead, .dead, .dead, .dead, .dead] else .nx [.v T, .v (recD a), .v (recD b), .v s.d, .v (.int (s.k.res (at' a s.f) (at' b s.f)))] [.dead, .dead, .dead, .dead, .dead] := by
  have h1 : s.f < a.length := by rw [ha.len]; exact f_lt h
  have h2 : s.f < b.length := by rw [hb.len]; exact f_lt h
  simp only [B__law_compare_1, runF, seqS, ifS, retS, retN, nilS, setS, exprS, raiseS, bindS, bTup, bAll_nil, bAll_cons, bName, orE, andE, ifE, op1, op2, bindE, liftE, varE, retE, notD, appE, consA, nilA, valsA, tupD, lstD, frE, chainE, Arg.slot, Arg.cell, callE, argsOf, argOf, refs, putB, consR, consFn, List.map_cons, List.map_nil, List.length_cons, List.length_nil, List.set_cons_zero, List.set_cons_succ, List.getElem?_cons_zero, List.getElem?_cons_succ, List.replicate, List.cons_append, List.nil_append, Option.bind_some, Option.map_some, List.take_succ_cons, List.take_zero, List.take_nil, List.nodup_nil, Nat.reduceAdd, Nat.reduceSub, Nat.reduceLeDiff, Nat.zero_add, and_true, and_self, if_true, Bool.not_true, Bool.not_false, Nat.sub_self, List.append_nil, Int.cast_ofNat_Int, beq_self_eq_true, nd1, true_and, idx_f, idx_rec h1, idx_rec h2, lstep_spec w s h _ _ (at_ok h1 ha.ok) (at_ok h2 hb.ok), neI]
  generalize s.k.res (at' a s.f) (at' b s.f) = r
  by_cases hz : r = 0
  · subst hz; rfl
  · have e : (r == 0) = false := by simpa using hz
    rw [e, if_pos hz]
    rfl
theorem lloop_compare {w : Nat} {a b : List Vl} (ha : Rec w a) (hb : Rec w b) (T : D) : ∀ (ss : List Stp) (s3 s4 : Slot), (∀ s ∈ ss, s.ok w = true) → ∃ x y, loopS (bName 3) B__law_compare_1 (ss.map Stp.d) [.v T, .v (recD a), .v (recD b), s3, s4] [.dead, .dead, .dead, .dead, .dead] =
    if cmp ss a b ≠ 0 then .rt (.int (cmp ss a b)) [.dead, .dead, .dead, .dead, .dead] else .nx [.v T, .v (recD a), .v (recD b), x, y] [.dead, .dead, .dead, .dead, .dead]
  | [], s3, s4, _ => ⟨s3, s4, by simp [loopS, cmp]⟩
  | s :: ss, s3, s4, h => by
    have hb1 := lbody_compare ha hb s (h s List.mem_cons_self) T s4
    obtain ⟨x, y, ih⟩ := lloop_compare ha hb T ss (.v s.d) (.v (.int (s.k.res (at' a s.f) (at' b s.f)))) fun t ht => h t (List.mem_cons_of_mem _ ht)
    refine ⟨x, y, ?_⟩
    simp only [List.map_cons, loopS, bName, List.set_cons_zero, List.set_cons_succ, hb1]
    by_cases hz : s.k.res (at' a s.f) (at' b s.f) = 0
    · have hc : cmp (s :: ss) a b = cmp ss a b := by simp [cmp, hz]
      rw [hc, if_neg (by simpa using hz)]
      exact ih
    · have hc : cmp (s :: ss) a b = s.k.res (at' a s.f) (at' b s.f) := by simp [cmp, hz]
      rw [hc, if_pos hz, if_pos hz]
theorem lcompare_spec {w : Nat} {a b : List Vl} (ss : List Stp) (h : ∀ s ∈ ss, s.ok w = true) (ha : Rec w a) (hb : Rec w b) : F__law_compare [.v (.tuple (ss.map Stp.d)), .v (recD a), .v (recD b)] = .ok (.int (cmp ss a b)) [.dead, .dead, .dead] := by
  obtain ⟨x, y, e⟩ := lloop_compare ha hb (.tuple (ss.map Stp.d)) ss .un .un h
  have hW : W__law_compare_1 [.v (.tuple (ss.map Stp.d)), .v (recD a), .v (recD b), .un, .un] [.dead, .dead, .dead, .dead, .dead] = if cmp ss a b ≠ 0 then .rt (.int (cmp ss a b)) [.dead, .dead, .dead, .dead, .dead] else .nx [.v (.tuple (ss.map Stp.d)), .v (recD a), .v (recD b), x, y] [.dead, .dead, .dead, .dead, .dead] := by
    rw [← e]
    rfl
  simp only [F__law_compare, M__law_compare, runF, seqS, ifS, retS, retN, nilS, setS, exprS, raiseS, bindS, bTup, bAll_nil, bAll_cons, bName, orE, andE, ifE, op1, op2, bindE, liftE, varE, retE, notD, appE, consA, nilA, valsA, tupD, lstD, frE, chainE, Arg.slot, Arg.cell, callE, argsOf, argOf, refs, putB, consR, consFn, List.map_cons, List.map_nil, List.length_cons, List.length_nil, List.set_cons_zero, List.set_cons_succ, List.getElem?_cons_zero, List.getElem?_cons_succ, List.replicate, List.cons_append, List.nil_append, Option.bind_some, Option.map_some, List.take_succ_cons, List.take_zero, List.take_nil, List.nodup_nil, Nat.reduceAdd, Nat.reduceSub, Nat.reduceLeDiff, Nat.zero_add, and_true, and_self, if_true, Bool.not_true, Bool.not_false, Nat.sub_self, List.append_nil, Int.cast_ofNat_Int, beq_self_eq_true, nd1, true_and, hW]
  by_cases hz : cmp ss a b = 0
  · simp [hz]
  · simp [hz]
end k01
namespace k01
open PySem L2 SS Pg
mutual
theorem eqv_same : ∀ d : D, PyData.canLay0 d = true → PyData.eqv d d = true
  | .none, _ => rfl
  | .bool b, _ => by simp [PyData.eqv]
  | .int i, _ => by simp [PyData.eqv]
  | .str x, _ => by simp [PyData.eqv]
  | .list xs, h => by
    show PyData.eqvAll xs xs = true
    exact eqvAll_same xs h
  | .tuple xs, h => by
    show PyData.eqvAll xs xs = true
    exact eqvAll_same xs h
  | .dict _, h => by cases h
theorem eqvAll_same : ∀ ds : List D, PyData.canLayAll0 ds = true → PyData.eqvAll ds ds = true
  | [], _ => rfl
  | d :: ds, h => by
    rw [PyData.canLayAll0, Bool.and_eq_true] at h
    show (PyData.eqv d d && PyData.eqvAll ds ds) = true
    rw [eqv_same d h.1, eqvAll_same ds h.2]
    rfl
end
theorem step_shape (s : Stp) (h : s.k.ok = true) : PyData.canLay0 s.d = true ∧ PyData.depth s.d ≤ 10 := by
  obtain ⟨f, k⟩ := s
  have e : ∀ a b c : D, PyData.canLay0 a = true ∧ PyData.depth a ≤ 9 → PyData.canLay0 b = true ∧ PyData.depth b ≤ 9 → PyData.canLay0 c = true ∧ PyData.depth c ≤ 9 → PyData.canLay0 (.tuple [a, b, c]) = true ∧ PyData.depth (.tuple [a, b, c]) ≤ 10 := fun a b c h1 h2 h3 => by
    simp only [PyData.canLay0, PyData.canLayAll0, h1.1, h2.1, h3.1, PyData.depth, PyData.depthAll, Bool.and_self, true_and]
    omega
  have int : ∀ i : Int, PyData.canLay0 (.int i) = true ∧ PyData.depth (.int i) ≤ 9 := fun i => ⟨rfl, by simp only [PyData.depth]; omega⟩
  have str : ∀ x : Str, PyData.canLay0 (.str x) = true → PyData.canLay0 (.str x) = true ∧ PyData.depth (.str x) ≤ 9 := fun x h => ⟨h, by simp only [PyData.depth]; omega⟩
  cases k with
  | rank g =>
    have hg : ∀ g ∈ allG, PyData.canLay0 (gD g) = true ∧ PyData.depth (gD g) ≤ 9 := by decide +kernel
    exact e _ _ _ (str _ (by decide +kernel)) (int _) (hg g (of_decide_eq_true h))
  | val n b => exact e _ _ _ (str _ (by cases n <;> decide +kernel)) (int _) (str _ (by cases b <;> decide +kernel))
theorem steps_shape : ∀ ss : List Stp, (∀ s ∈ ss, s.k.ok = true) → PyData.canLayAll0 (ss.map Stp.d) = true ∧ PyData.depthAll (ss.map Stp.d) ≤ 10
  | [], _ => ⟨rfl, by simp only [List.map_nil, PyData.depthAll]; omega⟩
  | s :: ss, h => by
    obtain ⟨h1, h2⟩ := step_shape s (h s List.mem_cons_self)
    obtain ⟨h3, h4⟩ := steps_shape ss fun x hx => h x (List.mem_cons_of_mem _ hx)
    simp only [List.map_cons, PyData.canLayAll0, PyData.depthAll, h1, h3, Bool.and_self, true_and]
    omega
theorem spec_same {w : Nat} {ss : List Stp} (h : ∀ s ∈ ss, s.k.ok = true) : eqD (specD w ss) (specD w ss) = some (.bool true) := by
  obtain ⟨h1, h2⟩ := steps_shape ss h
  have c : PyData.canLay0 (specD w ss) = true := by
    simp only [specD, PyData.canLay0, PyData.canLayAll0, h1, Bool.and_self]
  have d : PyData.depth (specD w ss) ≤ 64 := by
    simp only [specD, PyData.depth, PyData.depthAll]
    omega
  have sh : SeqAt.shaped (specD w ss) = true := by
    unfold SeqAt.shaped
    rw [c, decide_eq_true d]
    rfl
  unfold eqD
  rw [sh, eqv_same _ c]
  simp
theorem k_ok {w : Nat} {s : Stp} (h : s.ok w = true) : s.k.ok = true := by
  simp only [Stp.ok, Bool.and_eq_true] at h
  exact h.2
abbrev dead9 : Cells := [.dead, .dead, .dead, .dead, .dead, .dead, .dead, .dead, .dead]
theorem turn {ns : List Int} (hl : ns.length ≤ 63) {w : Nat} {ss ts : List Stp} (hs : Spc w ss) (ht : Spc w ts) (h3 : ts.length ≤ 3) (a r : Int) (ha : 0 ≤ a) (k7 k8 k9 k10 kk : Slot) :
    ∃ s7 s8 s9 s10 a' r', 0 ≤ a' ∧ B_law_1 [.v (intsD ns), .c, .v (.int w), .v (specD w ss), .v (specD w ts), .v (specD w (ss.map Stp.rev)), kk, k7, k8, k9, k10] (.dead :: town a r :: dead9) =
      .nx [.v (intsD ns), .c, .v (.int w), .v (specD w ss), .v (specD w ts), .v (specD w (ss.map Stp.rev)), kk, s7, s8, s9, s10] (.dead :: town a' r' :: dead9) := by
  obtain ⟨u, hu, a1, r1, ha1, e1⟩ := record_gen hl a r w ha hs.w2
  obtain ⟨v, hv, a2, r2, ha2, e2⟩ := record_gen hl a1 r1 w ha1 hs.w2
  have d1 := lcompare_spec ss hs.ok hu hv
  have d2 := lcompare_spec ts ht.ok hu hv
  have c1 := compare_spec hs hu hv
  have c2 := compare_spec hs hv hu
  rw [cmp_neg ss u v] at c2
  have c3 := compare_spec hs.rev hu hv
  rw [cmp_rev ss (fun s h => k_ok (hs.ok s h))] at c3
  have c4 := compare_spec hs hu hu
  rw [cmp_self] at c4
  have i0 : idxD (specD w ss) (.int 1) = some (.tuple (ss.map Stp.d)) := idx1 _ _ _
  have i1 : idxD (specD w ts) (.int 1) = some (.tuple (ts.map Stp.d)) := idx1 _ _ _
  have hl6 := hs.len
  have hlen : lenD [.tuple (ss.map Stp.d)] = some (.int ss.length) := by
    show (if (ss.map Stp.d).length ≤ 16000000 then some (PyData.int (ss.map Stp.d).length) else none) = _
    rw [List.length_map, if_pos (by omega)]
  by_cases h4 : ss.length < 4
  · have h4' : (ss.length : Int) < 4 := by omega
    have c5 := combined_spec hs ht (by omega)
    have c6 := compare_spec (hs.append ht (by omega)) hu hv
    rw [cmp_append] at c6
    refine ⟨.v (recD u), .v (recD v), .v (.int (cmp ss u v)), .v (.int (if cmp ss u v ≠ 0 then cmp ss u v else cmp ts u v)), a2, r2, ha2, ?_⟩
    by_cases hz : cmp ss u v = 0
    · have hz0 : (cmp ss u v == 0) = true := by simpa using hz
      simp only [B_law_1, runF, seqS, ifS, retS, retN, nilS, setS, exprS, raiseS, bindS, bTup, bAll_nil, bAll_cons, bName, orE, andE, ifE, op1, op2, bindE, liftE, varE, retE, notD, appE, consA, nilA, valsA, tupD, lstD, frE, chainE, Arg.slot, Arg.cell, callE, argsOf, argOf, refs, putB, consR, consFn, List.map_cons, List.map_nil, List.length_cons, List.length_nil, List.set_cons_zero, List.set_cons_succ, List.getElem?_cons_zero, List.getElem?_cons_succ, List.replicate, List.cons_append, List.nil_append, Option.bind_some, Option.map_some, List.take_succ_cons, List.take_zero, List.take_nil, List.nodup_nil, Nat.reduceAdd, Nat.reduceSub, Nat.reduceLeDiff, Nat.zero_add, and_true, and_self, if_true, Bool.not_true, Bool.not_false, Nat.sub_self, List.append_nil, Int.cast_ofNat_Int, beq_self_eq_true, nd1, true_and, parS, List.zip_cons_cons, List.zip_nil_left, List.foldl_cons, List.foldl_nil, e1, e2, i0, i1, d1, d2, c1, c2, c3, c4, c5, c6, neI, negD, hlen, ltD, h4', decide_true, Nat.zero_le, Nat.reduceLeDiff, hz0, if_neg (show ¬ (cmp ss u v ≠ 0) from fun z => z hz)]
    · have hz0 : (cmp ss u v == 0) = false := by simpa using hz
      simp only [B_law_1, runF, seqS, ifS, retS, retN, nilS, setS, exprS, raiseS, bindS, bTup, bAll_nil, bAll_cons, bName, orE, andE, ifE, op1, op2, bindE, liftE, varE, retE, notD, appE, consA, nilA, valsA, tupD, lstD, frE, chainE, Arg.slot, Arg.cell, callE, argsOf, argOf, refs, putB, consR, consFn, List.map_cons, List.map_nil, List.length_cons, List.length_nil, List.set_cons_zero, List.set_cons_succ, List.getElem?_cons_zero, List.getElem?_cons_succ, List.replicate, List.cons_append, List.nil_append, Option.bind_some, Option.map_some, List.take_succ_cons, List.take_zero, List.take_nil, List.nodup_nil, Nat.reduceAdd, Nat.reduceSub, Nat.reduceLeDiff, Nat.zero_add, and_true, and_self, if_true, Bool.not_true, Bool.not_false, Nat.sub_self, List.append_nil, Int.cast_ofNat_Int, beq_self_eq_true, nd1, true_and, parS, List.zip_cons_cons, List.zip_nil_left, List.foldl_cons, List.foldl_nil, e1, e2, i0, i1, d1, d2, c1, c2, c3, c4, c5, c6, neI, negD, hlen, ltD, h4', decide_true, Nat.zero_le, Nat.reduceLeDiff, hz0, if_pos hz]
  · have h4' : ¬ (ss.length : Int) < 4 := by omega
    refine ⟨.v (recD u), .v (recD v), .v (.int (cmp ss u v)), k10, a2, r2, ha2, ?_⟩
    simp only [B_law_1, runF, seqS, ifS, retS, retN, nilS, setS, exprS, raiseS, bindS, bTup, bAll_nil, bAll_cons, bName, orE, andE, ifE, op1, op2, bindE, liftE, varE, retE, notD, appE, consA, nilA, valsA, tupD, lstD, frE, chainE, Arg.slot, Arg.cell, callE, argsOf, argOf, refs, putB, consR, consFn, List.map_cons, List.map_nil, List.length_cons, List.length_nil, List.set_cons_zero, List.set_cons_succ, List.getElem?_cons_zero, List.getElem?_cons_succ, List.replicate, List.cons_append, List.nil_append, Option.bind_some, Option.map_some, List.take_succ_cons, List.take_zero, List.take_nil, List.nodup_nil, Nat.reduceAdd, Nat.reduceSub, Nat.reduceLeDiff, Nat.zero_add, and_true, and_self, if_true, Bool.not_true, Bool.not_false, Nat.sub_self, List.append_nil, Int.cast_ofNat_Int, beq_self_eq_true, nd1, true_and, parS, List.zip_cons_cons, List.zip_nil_left, List.foldl_cons, List.foldl_nil, e1, e2, i0, i1, d1, d2, c1, c2, c3, c4, neI, negD, hlen, ltD, h4', decide_false, Nat.zero_le, Nat.reduceLeDiff]
theorem turns {ns : List Int} (hl : ns.length ≤ 63) {w : Nat} {ss ts : List Stp} (hs : Spc w ss) (ht : Spc w ts) (h3 : ts.length ≤ 3) : ∀ (ds : List D) (a r : Int) (k6 k7 k8 k9 k10 : Slot), 0 ≤ a →
    ∃ s6 s7 s8 s9 s10 a' r', 0 ≤ a' ∧ loopS (bName 6) B_law_1 ds [.v (intsD ns), .c, .v (.int w), .v (specD w ss), .v (specD w ts), .v (specD w (ss.map Stp.rev)), k6, k7, k8, k9, k10] (.dead :: town a r :: dead9) =
      .nx [.v (intsD ns), .c, .v (.int w), .v (specD w ss), .v (specD w ts), .v (specD w (ss.map Stp.rev)), s6, s7, s8, s9, s10] (.dead :: town a' r' :: dead9)
  | [], a, r, k6, k7, k8, k9, k10, ha => ⟨k6, k7, k8, k9, k10, a, r, ha, rfl⟩
  | d :: ds, a, r, k6, k7, k8, k9, k10, ha => by
    obtain ⟨s7, s8, s9, s10, a1, r1, ha1, e1⟩ := turn hl hs ht h3 a r ha k7 k8 k9 k10 (.v d)
    obtain ⟨t6, t7, t8, t9, t10, a2, r2, ha2, e2⟩ := turns hl hs ht h3 ds a1 r1 (.v d) s7 s8 s9 s10 ha1
    refine ⟨t6, t7, t8, t9, t10, a2, r2, ha2, ?_⟩
    simp only [loopS, bName, List.set_cons_zero, List.set_cons_succ, e1, e2]
theorem main (ns : List Int) (hl : ns.length ≤ 63) : ∃ outs, F_law [.v (intsD ns)] = .ok (.bool true) outs := by
  obtain ⟨z, a1, r1, hz, ha1, e1⟩ := draw_spec hl 0 0 2 (by omega) (by omega) (by omega)
  have e1 : F__law_draw [.v (intsD ns), .r (town 0 0), .v (.int 2)] = .ok (.int z) [.dead, town a1 r1, .dead] := e1
  obtain ⟨w, hw⟩ : ∃ w : Nat, (1 : Int) + z = w := ⟨1 + z, by omega⟩
  have w1 : 1 ≤ w := by omega
  have w2 : w ≤ 2 := by omega
  obtain ⟨ss, hs1, hs2, a2, r2, ha2, e2⟩ := spec_gen hl a1 r1 w 6 ha1 w1 w2 (by omega)
  obtain ⟨ts, ht1, ht2, a3, r3, ha3, e3⟩ := spec_gen hl a2 r2 w 3 ha2 w1 w2 (by omega)
  have e2 : F__law_spec [.v (intsD ns), .r (town a1 r1), .v (.int w), .v (.int 6)] = .ok (specD w ss) [.dead, town a2 r2, .dead, .dead] := e2
  have e3 : F__law_spec [.v (intsD ns), .r (town a2 r2), .v (.int w), .v (.int 3)] = .ok (specD w ts) [.dead, town a3 r3, .dead, .dead] := e3
  have S : Spc w ss := ⟨w1, w2, hs1, hs2⟩
  have T : Spc w ts := ⟨w1, w2, by omega, ht2⟩
  have i1 := is_spec_spec w ss S.w1 S.w2 S.len S.ok
  have i2 := is_spec_spec w ts T.w1 T.w2 T.len T.ok
  have i3 := is_spec_spec w (ss.map Stp.rev) S.rev.w1 S.rev.w2 S.rev.len S.rev.ok
  have v1 := reversed_spec_spec S
  have v2 := reversed_spec_spec S.rev
  have rr : (ss.map Stp.rev).map Stp.rev = ss := by
    rw [List.map_map]
    have : Stp.rev ∘ Stp.rev = id := funext fun s => s.rev_rev
    rw [this, List.map_id]
  rw [rr] at v2
  obtain ⟨s6, s7, s8, s9, s10, a4, r4, ha4, e4⟩ := turns hl S T ht1 (rng1 8) a3 r3 .un .un .un .un .un ha3
  have hW : W_law_1 [.v (intsD ns), .c, .v (.int w), .v (specD w ss), .v (specD w ts), .v (specD w (ss.map Stp.rev)), .un, .un, .un, .un, .un] (.dead :: town a3 r3 :: dead9) = .nx [.v (intsD ns), .c, .v (.int w), .v (specD w ss), .v (specD w ts), .v (specD w (ss.map Stp.rev)), s6, s7, s8, s9, s10] (.dead :: town a4 r4 :: dead9) := e4
  have iT : isNotD (.bool true) (.bool true) = some (.bool false) := rfl
  have jT : isD (.bool true) (.bool true) = some (.bool true) := rfl
  have q := spec_same (w := w) fun s h => k_ok (hs2 s h)
  refine ⟨[.dead], ?_⟩
  simp only [F_law, M_law, runF, seqS, ifS, retS, retN, nilS, setS, exprS, raiseS, bindS, bTup, bAll_nil, bAll_cons, bName, orE, andE, ifE, op1, op2, bindE, liftE, varE, retE, notD, appE, consA, nilA, valsA, tupD, lstD, frE, chainE, Arg.slot, Arg.cell, callE, argsOf, argOf, refs, putB, consR, consFn, List.map_cons, List.map_nil, List.length_cons, List.length_nil, List.set_cons_zero, List.set_cons_succ, List.getElem?_cons_zero, List.getElem?_cons_succ, List.replicate, List.cons_append, List.nil_append, Option.bind_some, Option.map_some, List.take_succ_cons, List.take_zero, List.take_nil, List.nodup_nil, Nat.reduceAdd, Nat.reduceSub, Nat.reduceLeDiff, Nat.zero_add, and_true, and_self, if_true, Bool.not_true, Bool.not_false, Nat.sub_self, List.append_nil, Int.cast_ofNat_Int, beq_self_eq_true, nd1, true_and, addD, cellS, dispF, parS, List.zip_cons_cons, List.zip_nil_left, List.foldl_cons, List.foldl_nil, e1, hw, e2, e3, i1, i2, i3, v1, v2, iT, jT, hW, q, Nat.zero_le, Nat.reduceLeDiff, Nat.reduceLT]
end k01
namespace k01
open PySem PySem.Spec L2 SS Pg
def top (i : Nat) : Stmt := PySem.Challenge.pw_sortspec_k01_whole_compare.main.body.getD i (.Pass ⟨0, 0, 0, 0⟩)
abbrev s_is_width : Stmt := top 19
abbrev s_are_groups : Stmt := top 17
abbrev s_is_step : Stmt := top 18
abbrev s_is_spec : Stmt := top 20
abbrev s_need_spec : Stmt := top 21
abbrev s_reversed_step : Stmt := top 29
abbrev s_reversed_spec : Stmt := top 30
abbrev s__law_draw : Stmt := top 33
abbrev s__law_pick : Stmt := top 34
abbrev s__law_groups : Stmt := top 35
abbrev s__law_step : Stmt := top 36
abbrev s__law_spec : Stmt := top 37
abbrev s__law_kind : Stmt := top 41
abbrev s__law_sign : Stmt := top 42
abbrev s__law_result : Stmt := top 43
abbrev s__law_compare : Stmt := top 44
abbrev s__law_value : Stmt := top 39
abbrev s__law_record : Stmt := top 40
abbrev s_kind_of : Stmt := top 10
abbrev s_is_record : Stmt := top 12
abbrev s_need_record : Stmt := top 22
abbrev s_sign : Stmt := top 24
abbrev s_rank : Stmt := top 25
abbrev s_spelling_of : Stmt := top 11
abbrev s_step_result : Stmt := top 26
abbrev s_compared : Stmt := top 27
abbrev s_compare : Stmt := top 28
abbrev s_need_pair : Stmt := top 23
abbrev s_combined : Stmt := top 31
abbrev s_law : Stmt := top 46
structure Txt (P : Program) (w : World) (K : PySem.W.Frag) (mg : Str → Option Value) : Prop where
  b_all : mg "all" = none
  b_bool : mg "bool" = none
  b_int : mg "int" = none
  b_isinstance : mg "isinstance" = none
  b_len : mg "len" = none
  b_range : mg "range" = none
  b_sorted : mg "sorted" = none
  b_str : mg "str" = none
  b_tuple : mg "tuple" = none
  k_KINDS : KRq P w K mg "KINDS" k_KINDS
  k_LARGEST : KRq P w K mg "LARGEST" k_LARGEST
  k_LETTERS : KRq P w K mg "LETTERS" k_LETTERS
  k_LETTERS_MOST : KRq P w K mg "LETTERS_MOST" k_LETTERS_MOST
  k_NAMES : KRq P w K mg "NAMES" k_NAMES
  k_STEPS : KRq P w K mg "STEPS" k_STEPS
  x_Incomparable : ExcC K mg .incomparable
  x_InvalidRecord : ExcC K mg .invalidRecord
  x_InvalidSpec : ExcC K mg .invalidSpec
  x_TooLong : ExcC K mg .tooLong
section
variable {P : Program} {w : World} {K : PySem.W.Frag} {mg : Str → Option Value}
theorem sc_is_width : FnScope ["value"] ["value"] (defScope s_is_width) := ⟨rfl, rfl, rfl, by decide +kernel, rfl, by decide +kernel, by decide +kernel⟩
theorem ok_is_width (T : Txt P w K mg)  {fa : Addr} {fd : FuncData} (Fn : Fun K "is_width" "is_width" s_is_width fa fd) (base : Heap) : FnOk P w K mg base (L2.CX P w) 1 fa fd ["value"] (spF P w K mg 1 F_is_width) := by
  refine fn_ok Fn sc_is_width rfl rfl fun cdv A outer s0 H0 E hr tk hp => ?_
  have hc : (cxOf (L2.CX P w) P w K mg base ["value"] "is_width" (defScope s_is_width) fa cdv A outer s0 H0 E).calm = true := rfl
  have hN : (cxOf (L2.CX P w) P w K mg base ["value"] "is_width" (defScope s_is_width) fa cdv A outer s0 H0 E).N.Nodup := sc_is_width.nd
  have hu := hr.units
  have hu65 : (cxOf (L2.CX P w) P w K mg base ["value"] "is_width" (defScope s_is_width) fa cdv A outer s0 H0 E).A.units + 65 < cLine := by have := hr.un; omega
  have hu70 : (cxOf (L2.CX P w) P w K mg base ["value"] "is_width" (defScope s_is_width) fa cdv A outer s0 H0 E).A.units + 70 < cLine := by have := hr.un; omega
  exact (pssd_one (psd_ret (ped_and (ped_isa .int (ped_var 0) T.b_isinstance T.b_int bt_int bt_isinstance) (ped_and (ped_not (ped_isa .bool (ped_var 0) T.b_isinstance T.b_bool bt_bool bt_isinstance)) (ped_one (ped_chain op_le d_le op_le d_le ped_int (ped_var 0) ped_int))))))
theorem sc_are_groups : FnScope ["value", "group", "kinds", "kind"] ["value"] (defScope s_are_groups) := ⟨rfl, rfl, rfl, by decide +kernel, rfl, by decide +kernel, by decide +kernel⟩
theorem ok_are_groups (T : Txt P w K mg)  {fa : Addr} {fd : FuncData} (Fn : Fun K "are_groups" "are_groups" s_are_groups fa fd) (base : Heap) : FnOk P w K mg base (L2.CX P w) 1 fa fd ["value"] (spF P w K mg 1 F_are_groups) := by
  refine fn_ok Fn sc_are_groups rfl rfl fun cdv A outer s0 H0 E hr tk hp => ?_
  have hc : (cxOf (L2.CX P w) P w K mg base ["value", "group", "kinds", "kind"] "are_groups" (defScope s_are_groups) fa cdv A outer s0 H0 E).calm = true := rfl
  have hN : (cxOf (L2.CX P w) P w K mg base ["value", "group", "kinds", "kind"] "are_groups" (defScope s_are_groups) fa cdv A outer s0 H0 E).N.Nodup := sc_are_groups.nd
  have hu := hr.units
  have hu65 : (cxOf (L2.CX P w) P w K mg base ["value", "group", "kinds", "kind"] "are_groups" (defScope s_are_groups) fa cdv A outer s0 H0 E).A.units + 65 < cLine := by have := hr.un; omega
  have hu70 : (cxOf (L2.CX P w) P w K mg base ["value", "group", "kinds", "kind"] "are_groups" (defScope s_are_groups) fa cdv A outer s0 H0 E).A.units + 70 < cLine := by have := hr.un; omega
  exact (pssd_cons (psd_if (PWD.ptd (pwd_or (ptd_not (ptd_val (ped_isa .tuple (ped_var 0) T.b_isinstance T.b_tuple bt_tuple bt_isinstance))) (pwd_or1 (ptd_not (ptd_val (ped_callB (cr_all hc) a_all T.b_all bt_all (pad_cons (ped_fr (pfd_lc [("group", 1)] hc hN (pid_any (ped_var 0)) (blkOk_by (by kernel_rfl)) (by decide) (fun _ _ _ _ _ => (pgd_name hN)) (fun _ _ _ _ _ => ptsd_nil) (fun _ _ _ _ _ => (ped_and (ped_isa .tuple (ped_var 1) T.b_isinstance T.b_tuple bt_tuple bt_isinstance) (ped_one (ped_cmp (o_ne hu) d_ne (ped_var 1) (ped_tup pad_nil) (nomark _))))))) pad_nil))))))) (pssd_one (psd_ret ped_bl)) pssd_nil) (pssd_cons (psd_setLc2 [("group", 1), ("kind", 3)] [3] hc hN (pid_any (ped_var 0)) (blkOk_by (by kernel_rfl)) (by decide) (by decide) (by decide) (fun _ _ _ _ _ => (pgd_name hN)) (fun _ _ _ _ _ => ptsd_nil) (fun _ _ _ _ _ => (pid_any (ped_var 1))) (fun _ _ _ _ _ => (pgd_name hN)) (fun _ _ _ _ _ => ptsd_nil) (fun _ _ _ _ _ => (ped_var 3))) (pssd_cons (psd_if (PWD.ptd (pwd_or (ptd_not (ptd_val (ped_callB (cr_all hc) a_all T.b_all bt_all (pad_cons (ped_fr (pfd_lc [("kind", 3)] hc hN (pid_any (ped_var 2)) (blkOk_by (by kernel_rfl)) (by decide) (fun _ _ _ _ _ => (pgd_name hN)) (fun _ _ _ _ _ => ptsd_nil) (fun _ _ _ _ _ => (ped_isa .str (ped_var 3) T.b_isinstance T.b_str bt_str bt_isinstance)))) pad_nil)))) (pwd_or1 (ptd_cmp (o_ne hu) d_ne (ped_callTy call_tuple_of a_tuple T.b_tuple bt_tuple (pad_cons (ped_callB (cr_srt hu70) a_srt T.b_sorted bt_sorted (pad_cons (ped_var 2) pad_nil)) pad_nil)) (ped_glob T.k_KINDS) (nomark _))))) (pssd_one (psd_ret ped_bl)) pssd_nil) (pssd_one (psd_ret (ped_callB (cr_all hc) a_all T.b_all bt_all (pad_cons (ped_fr (pfd_lc [("group", 1)] hc hN (pid_any (ped_var 0)) (blkOk_by (by kernel_rfl)) (by decide) (fun _ _ _ _ _ => (pgd_name hN)) (fun _ _ _ _ _ => ptsd_nil) (fun _ _ _ _ _ => (ped_cmp (o_eq hu) d_eq (ped_callTy call_tuple_of a_tuple T.b_tuple bt_tuple (pad_cons (ped_callB (cr_srt hu70) a_srt T.b_sorted bt_sorted (pad_cons (ped_var 1) pad_nil)) pad_nil)) (ped_var 1) (nomark _))))) pad_nil)))))))
theorem sc_is_step : FnScope ["value", "width", "name", "field", "argument"] ["value", "width"] (defScope s_is_step) := ⟨rfl, rfl, rfl, by decide +kernel, rfl, by decide +kernel, by decide +kernel⟩
theorem ok_is_step (T : Txt P w K mg) (C_are_groups : Cal P w K mg "are_groups" 1 ["value"] F_are_groups) {fa : Addr} {fd : FuncData} (Fn : Fun K "is_step" "is_step" s_is_step fa fd) (base : Heap) : FnOk P w K mg base (L2.CX P w) 2 fa fd ["value", "width"] (spF P w K mg 2 F_is_step) := by
  refine fn_ok Fn sc_is_step rfl rfl fun cdv A outer s0 H0 E hr tk hp => ?_
  have hc : (cxOf (L2.CX P w) P w K mg base ["value", "width", "name", "field", "argument"] "is_step" (defScope s_is_step) fa cdv A outer s0 H0 E).calm = true := rfl
  have hN : (cxOf (L2.CX P w) P w K mg base ["value", "width", "name", "field", "argument"] "is_step" (defScope s_is_step) fa cdv A outer s0 H0 E).N.Nodup := sc_is_step.nd
  have hu := hr.units
  have hu65 : (cxOf (L2.CX P w) P w K mg base ["value", "width", "name", "field", "argument"] "is_step" (defScope s_is_step) fa cdv A outer s0 H0 E).A.units + 65 < cLine := by have := hr.un; omega
  have hu70 : (cxOf (L2.CX P w) P w K mg base ["value", "width", "name", "field", "argument"] "is_step" (defScope s_is_step) fa cdv A outer s0 H0 E).A.units + 70 < cLine := by have := hr.un; omega
  exact (pssd_cons (psd_if (PWD.ptd (pwd_or (ptd_not (ptd_val (ped_isa .tuple (ped_var 0) T.b_isinstance T.b_tuple bt_tuple bt_isinstance))) (pwd_or (ptd_cmp (o_ne hu) d_ne (ped_callB call_len a_len T.b_len bt_len (pad_cons (ped_var 0) pad_nil)) ped_int (nomark _)) (pwd_or1 (ptd_not (ptd_val (ped_isa .str (ped_ix o_idx d_idx (ped_var 0) ped_int) T.b_isinstance T.b_str bt_str bt_isinstance))))))) (pssd_one (psd_ret ped_bl)) pssd_nil) (pssd_cons (psd_asg (ped_var 0) (pgd_tup hc (pgsd_cons (pgd_name hN) (pgsd_cons (pgd_name hN) (pgsd_cons (pgd_name hN) pgsd_nil))))) (pssd_cons (psd_if (PWD.ptd (pwd_or (ptd_not (ptd_val (ped_isa .int (ped_var 3) T.b_isinstance T.b_int bt_int bt_isinstance))) (pwd_or (ptd_val (ped_isa .bool (ped_var 3) T.b_isinstance T.b_bool bt_bool bt_isinstance)) (pwd_or1 (ptd_not (ptd_chain op_le d_le o_lt d_lt ped_int (ped_var 3) (ped_var 1))))))) (pssd_one (psd_ret ped_bl)) pssd_nil) (pssd_cons (psd_if (ptd_cmp (o_eq hu) d_eq (ped_var 2) ped_str (nomark _)) (pssd_one (psd_ret (ped_call C_are_groups (by exact hr.mono (by decide)) tk (pad_cons (ped_var 4) pad_nil)))) pssd_nil) (pssd_one (psd_ret (ped_and (ped_cmp (o_in hu65) d_in (ped_var 2) (ped_glob T.k_NAMES) (by with_unfolding_all rfl)) (ped_and (ped_isa .str (ped_var 4) T.b_isinstance T.b_str bt_str bt_isinstance) (ped_one (ped_cmp (o_in hu65) d_in (ped_var 4) (ped_tup (pad_cons ped_str (pad_cons ped_str pad_nil))) (by with_unfolding_all rfl)))))))))))
theorem sc_is_spec : FnScope ["value", "step"] ["value"] (defScope s_is_spec) := ⟨rfl, rfl, rfl, by decide +kernel, rfl, by decide +kernel, by decide +kernel⟩
theorem ok_is_spec (T : Txt P w K mg) (C_is_width : Cal P w K mg "is_width" 1 ["value"] F_is_width) (C_is_step : Cal P w K mg "is_step" 2 ["value", "width"] F_is_step) {fa : Addr} {fd : FuncData} (Fn : Fun K "is_spec" "is_spec" s_is_spec fa fd) (base : Heap) : FnOk P w K mg base (L2.CX P w) 3 fa fd ["value"] (spF P w K mg 1 F_is_spec) := by
  refine fn_ok Fn sc_is_spec rfl rfl fun cdv A outer s0 H0 E hr tk hp => ?_
  have hc : (cxOf (L2.CX P w) P w K mg base ["value", "step"] "is_spec" (defScope s_is_spec) fa cdv A outer s0 H0 E).calm = true := rfl
  have hN : (cxOf (L2.CX P w) P w K mg base ["value", "step"] "is_spec" (defScope s_is_spec) fa cdv A outer s0 H0 E).N.Nodup := sc_is_spec.nd
  have hu := hr.units
  have hu65 : (cxOf (L2.CX P w) P w K mg base ["value", "step"] "is_spec" (defScope s_is_spec) fa cdv A outer s0 H0 E).A.units + 65 < cLine := by have := hr.un; omega
  have hu70 : (cxOf (L2.CX P w) P w K mg base ["value", "step"] "is_spec" (defScope s_is_spec) fa cdv A outer s0 H0 E).A.units + 70 < cLine := by have := hr.un; omega
  exact (pssd_cons (psd_if (PWD.ptd (pwd_or (ptd_not (ptd_val (ped_isa .tuple (ped_var 0) T.b_isinstance T.b_tuple bt_tuple bt_isinstance))) (pwd_or (ptd_cmp (o_ne hu) d_ne (ped_callB call_len a_len T.b_len bt_len (pad_cons (ped_var 0) pad_nil)) ped_int (nomark _)) (pwd_or (ptd_not (ptd_val (ped_call C_is_width (by exact hr.mono (by decide)) tk (pad_cons (ped_ix o_idx d_idx (ped_var 0) ped_int) pad_nil)))) (pwd_or1 (ptd_not (ptd_val (ped_isa .tuple (ped_ix o_idx d_idx (ped_var 0) ped_int) T.b_isinstance T.b_tuple bt_tuple bt_isinstance)))))))) (pssd_one (psd_ret ped_bl)) pssd_nil) (pssd_one (psd_ret (ped_and (ped_cmp op_le d_le (ped_callB call_len a_len T.b_len bt_len (pad_cons (ped_ix o_idx d_idx (ped_var 0) ped_int) pad_nil)) (ped_glob T.k_STEPS) (nomark _)) (ped_one (ped_callB (cr_all hc) a_all T.b_all bt_all (pad_cons (ped_fr (pfd_lc [("step", 1)] hc hN (pid_any (ped_ix o_idx d_idx (ped_var 0) ped_int)) (blkOk_by (by kernel_rfl)) (by decide) (fun _ _ _ _ _ => (pgd_name hN)) (fun _ _ _ _ _ => ptsd_nil) (fun _ _ _ _ _ => (ped_call C_is_step (by exact hr.mono (by decide)) takes0 (pad_cons (ped_var 1) (pad_cons (ped_ix o_idx d_idx (ped_var 0) ped_int) pad_nil)))))) pad_nil)))))))
theorem sc_need_spec : FnScope ["value"] ["value"] (defScope s_need_spec) := ⟨rfl, rfl, rfl, by decide +kernel, rfl, by decide +kernel, by decide +kernel⟩
theorem ok_need_spec (T : Txt P w K mg) (C_is_spec : Cal P w K mg "is_spec" 3 ["value"] F_is_spec) {fa : Addr} {fd : FuncData} (Fn : Fun K "need_spec" "need_spec" s_need_spec fa fd) (base : Heap) : FnOk P w K mg base (L2.CX P w) 4 fa fd ["value"] (spF P w K mg 1 F_need_spec) := by
  refine fn_ok Fn sc_need_spec rfl rfl fun cdv A outer s0 H0 E hr tk hp => ?_
  have hc : (cxOf (L2.CX P w) P w K mg base ["value"] "need_spec" (defScope s_need_spec) fa cdv A outer s0 H0 E).calm = true := rfl
  have hN : (cxOf (L2.CX P w) P w K mg base ["value"] "need_spec" (defScope s_need_spec) fa cdv A outer s0 H0 E).N.Nodup := sc_need_spec.nd
  have hu := hr.units
  have hu65 : (cxOf (L2.CX P w) P w K mg base ["value"] "need_spec" (defScope s_need_spec) fa cdv A outer s0 H0 E).A.units + 65 < cLine := by have := hr.un; omega
  have hu70 : (cxOf (L2.CX P w) P w K mg base ["value"] "need_spec" (defScope s_need_spec) fa cdv A outer s0 H0 E).A.units + 70 < cLine := by have := hr.un; omega
  exact (pssd_one (psd_if (ptd_not (ptd_val (ped_call C_is_spec (by exact hr.mono (by decide)) tk (pad_cons (ped_var 0) pad_nil)))) (pssd_one (psd_raise .invalidSpec rfl hc tk T.x_InvalidSpec)) pssd_nil))
theorem sc_reversed_step : FnScope ["step", "name", "field", "argument"] ["step"] (defScope s_reversed_step) := ⟨rfl, rfl, rfl, by decide +kernel, rfl, by decide +kernel, by decide +kernel⟩
theorem ok_reversed_step (T : Txt P w K mg)  {fa : Addr} {fd : FuncData} (Fn : Fun K "reversed_step" "reversed_step" s_reversed_step fa fd) (base : Heap) : FnOk P w K mg base (L2.CX P w) 1 fa fd ["step"] (spF P w K mg 1 F_reversed_step) := by
  refine fn_ok Fn sc_reversed_step rfl rfl fun cdv A outer s0 H0 E hr tk hp => ?_
  have hc : (cxOf (L2.CX P w) P w K mg base ["step", "name", "field", "argument"] "reversed_step" (defScope s_reversed_step) fa cdv A outer s0 H0 E).calm = true := rfl
  have hN : (cxOf (L2.CX P w) P w K mg base ["step", "name", "field", "argument"] "reversed_step" (defScope s_reversed_step) fa cdv A outer s0 H0 E).N.Nodup := sc_reversed_step.nd
  have hu := hr.units
  have hu65 : (cxOf (L2.CX P w) P w K mg base ["step", "name", "field", "argument"] "reversed_step" (defScope s_reversed_step) fa cdv A outer s0 H0 E).A.units + 65 < cLine := by have := hr.un; omega
  have hu70 : (cxOf (L2.CX P w) P w K mg base ["step", "name", "field", "argument"] "reversed_step" (defScope s_reversed_step) fa cdv A outer s0 H0 E).A.units + 70 < cLine := by have := hr.un; omega
  exact (pssd_cons (psd_asg (ped_var 0) (pgd_tup hc (pgsd_cons (pgd_name hN) (pgsd_cons (pgd_name hN) (pgsd_cons (pgd_name hN) pgsd_nil))))) (pssd_cons (psd_if (ptd_cmp (o_eq hu) d_eq (ped_var 1) ped_str (nomark _)) (pssd_one (psd_ret (ped_tup (pad_cons (ped_var 1) (pad_cons (ped_var 2) (pad_cons (ped_rev (ped_var 3)) pad_nil)))))) pssd_nil) (pssd_one (psd_ret (ped_tup (pad_cons (ped_var 1) (pad_cons (ped_var 2) (pad_cons (ped_if (ptd_cmp (o_eq hu) d_eq (ped_var 3) ped_str (nomark _)) ped_str ped_str) pad_nil))))))))
theorem sc_reversed_spec : FnScope ["spec", "step"] ["spec"] (defScope s_reversed_spec) := ⟨rfl, rfl, rfl, by decide +kernel, rfl, by decide +kernel, by decide +kernel⟩
theorem ok_reversed_spec (T : Txt P w K mg) (C_need_spec : Cal P w K mg "need_spec" 4 ["value"] F_need_spec) (C_reversed_step : Cal P w K mg "reversed_step" 1 ["step"] F_reversed_step) {fa : Addr} {fd : FuncData} (Fn : Fun K "reversed_spec" "reversed_spec" s_reversed_spec fa fd) (base : Heap) : FnOk P w K mg base (L2.CX P w) 5 fa fd ["spec"] (spF P w K mg 1 F_reversed_spec) := by
  refine fn_ok Fn sc_reversed_spec rfl rfl fun cdv A outer s0 H0 E hr tk hp => ?_
  have hc : (cxOf (L2.CX P w) P w K mg base ["spec", "step"] "reversed_spec" (defScope s_reversed_spec) fa cdv A outer s0 H0 E).calm = true := rfl
  have hN : (cxOf (L2.CX P w) P w K mg base ["spec", "step"] "reversed_spec" (defScope s_reversed_spec) fa cdv A outer s0 H0 E).N.Nodup := sc_reversed_spec.nd
  have hu := hr.units
  have hu65 : (cxOf (L2.CX P w) P w K mg base ["spec", "step"] "reversed_spec" (defScope s_reversed_spec) fa cdv A outer s0 H0 E).A.units + 65 < cLine := by have := hr.un; omega
  have hu70 : (cxOf (L2.CX P w) P w K mg base ["spec", "step"] "reversed_spec" (defScope s_reversed_spec) fa cdv A outer s0 H0 E).A.units + 70 < cLine := by have := hr.un; omega
  exact (pssd_cons (psd_expr (ped_call C_need_spec (by exact hr.mono (by decide)) tk (pad_cons (ped_var 0) pad_nil))) (pssd_one (psd_ret (ped_tup (pad_cons (ped_ix o_idx d_idx (ped_var 0) ped_int) (pad_cons (ped_callTy call_tuple_of a_tuple T.b_tuple bt_tuple (pad_cons (ped_fr (pfd_lc [("step", 1)] hc hN (pid_any (ped_ix o_idx d_idx (ped_var 0) ped_int)) (blkOk_by (by kernel_rfl)) (by decide) (fun _ _ _ _ _ => (pgd_name hN)) (fun _ _ _ _ _ => ptsd_nil) (fun _ _ _ _ _ => (ped_call C_reversed_step (by exact hr.mono (by decide)) takes0 (pad_cons (ped_var 1) pad_nil))))) pad_nil)) pad_nil))))))
theorem sc__law_draw : FnScope ["_law_script", "_law_town", "_law_many", "_law_one", "_law_at", "_law_mixed"] ["_law_script", "_law_town", "_law_many"] (defScope s__law_draw) := ⟨rfl, rfl, rfl, by decide +kernel, rfl, by decide +kernel, by decide +kernel⟩
theorem ok__law_draw (T : Txt P w K mg)  {fa : Addr} {fd : FuncData} (Fn : Fun K "_law_draw" "_law_draw" s__law_draw fa fd) (base : Heap) : FnOk P w K mg base (L2.CX P w) 1 fa fd ["_law_script", "_law_town", "_law_many"] (spF P w K mg 3 F__law_draw) := by
  refine fn_ok Fn sc__law_draw rfl rfl fun cdv A outer s0 H0 E hr tk hp => ?_
  have hc : (cxOf (L2.CX P w) P w K mg base ["_law_script", "_law_town", "_law_many", "_law_one", "_law_at", "_law_mixed"] "_law_draw" (defScope s__law_draw) fa cdv A outer s0 H0 E).calm = true := rfl
  have hN : (cxOf (L2.CX P w) P w K mg base ["_law_script", "_law_town", "_law_many", "_law_one", "_law_at", "_law_mixed"] "_law_draw" (defScope s__law_draw) fa cdv A outer s0 H0 E).N.Nodup := sc__law_draw.nd
  have hu := hr.units
  have hu65 : (cxOf (L2.CX P w) P w K mg base ["_law_script", "_law_town", "_law_many", "_law_one", "_law_at", "_law_mixed"] "_law_draw" (defScope s__law_draw) fa cdv A outer s0 H0 E).A.units + 65 < cLine := by have := hr.un; omega
  have hu70 : (cxOf (L2.CX P w) P w K mg base ["_law_script", "_law_town", "_law_many", "_law_one", "_law_at", "_law_mixed"] "_law_draw" (defScope s__law_draw) fa cdv A outer s0 H0 E).A.units + 70 < cLine := by have := hr.un; omega
  exact (pssd_cons (psd_if (ptd_cmp o_gt d_gt (ped_cidx (i := 1) ped_int) ped_int (nomark _)) (pssd_cons (psd_set hN (ped_op2 op_mod d_mod (ped_cidx (i := 1) ped_int) (ped_var 2))) (pssd_cons (psd_setItem (i := 1) (ped_op2 op_fdiv d_fdiv (ped_cidx (i := 1) ped_int) (ped_var 2)) ped_int) (pssd_one (psd_ret (ped_var 3))))) pssd_nil) (pssd_cons (psd_set hN (ped_cidx (i := 1) ped_int)) (pssd_cons (psd_augItem (i := 1) ped_int ped_int) (pssd_cons (psd_if (ptd_cmp (o_eq hu) d_eq (ped_var 0) (ped_lst pad_nil) (nomark _)) (pssd_one (psd_ret (ped_op2 op_mod d_mod (ped_var 4) (ped_var 2)))) pssd_nil) (pssd_cons (psd_if (PWD.ptd (pwd_and (ptd_cmp o_lt d_lt (ped_var 4) (ped_callB call_len a_len T.b_len bt_len (pad_cons (ped_var 0) pad_nil)) (nomark _)) (pwd_and1 (ptd_cmp op_ge d_ge (ped_ix o_idx d_idx (ped_var 0) (ped_var 4)) (ped_op2 op_pow d_pow ped_int ped_int) (nomark _))))) (pssd_cons (psd_setItem (i := 1) (ped_op2 op_mod d_mod (ped_op2 op_fdiv d_fdiv (ped_ix o_idx d_idx (ped_var 0) (ped_var 4)) (ped_var 2)) (ped_op2 o_mul d_mul (ped_op2 op_pow d_pow ped_int ped_int) (ped_op2 op_pow d_pow ped_int ped_int))) ped_int) (pssd_one (psd_ret (ped_op2 op_mod d_mod (ped_ix o_idx d_idx (ped_var 0) (ped_var 4)) (ped_var 2))))) pssd_nil) (pssd_cons (psd_set hN (ped_op2 op_mod d_mod (ped_op2 o_add d_add (ped_op2 o_add d_add (ped_op2 o_mul d_mul (ped_ix o_idx d_idx (ped_var 0) (ped_op2 op_mod d_mod (ped_var 4) (ped_callB call_len a_len T.b_len bt_len (pad_cons (ped_var 0) pad_nil)))) ped_int) (ped_op2 o_mul d_mul ped_int (ped_var 4))) ped_int) ped_int)) (pssd_one (psd_ret (ped_op2 op_mod d_mod (ped_op2 op_mod d_mod (ped_op2 op_mod d_mod (ped_op2 op_pow d_pow (ped_var 5) ped_int) ped_int) ped_int) (ped_var 2))))))))))
theorem sc__law_pick : FnScope ["_law_script", "_law_town", "_law_some"] ["_law_script", "_law_town", "_law_some"] (defScope s__law_pick) := ⟨rfl, rfl, rfl, by decide +kernel, rfl, by decide +kernel, by decide +kernel⟩
theorem ok__law_pick (T : Txt P w K mg) (C__law_draw : Cal P w K mg "_law_draw" 1 ["_law_script", "_law_town", "_law_many"] F__law_draw) {fa : Addr} {fd : FuncData} (Fn : Fun K "_law_pick" "_law_pick" s__law_pick fa fd) (base : Heap) : FnOk P w K mg base (L2.CX P w) 2 fa fd ["_law_script", "_law_town", "_law_some"] (spF P w K mg 3 F__law_pick) := by
  refine fn_ok Fn sc__law_pick rfl rfl fun cdv A outer s0 H0 E hr tk hp => ?_
  have hc : (cxOf (L2.CX P w) P w K mg base ["_law_script", "_law_town", "_law_some"] "_law_pick" (defScope s__law_pick) fa cdv A outer s0 H0 E).calm = true := rfl
  have hN : (cxOf (L2.CX P w) P w K mg base ["_law_script", "_law_town", "_law_some"] "_law_pick" (defScope s__law_pick) fa cdv A outer s0 H0 E).N.Nodup := sc__law_pick.nd
  have hu := hr.units
  have hu65 : (cxOf (L2.CX P w) P w K mg base ["_law_script", "_law_town", "_law_some"] "_law_pick" (defScope s__law_pick) fa cdv A outer s0 H0 E).A.units + 65 < cLine := by have := hr.un; omega
  have hu70 : (cxOf (L2.CX P w) P w K mg base ["_law_script", "_law_town", "_law_some"] "_law_pick" (defScope s__law_pick) fa cdv A outer s0 H0 E).A.units + 70 < cLine := by have := hr.un; omega
  exact (pssd_one (psd_ret (ped_ix o_idx d_idx (ped_var 2) (ped_call C__law_draw (by exact hr.mono (by decide)) tk (pad_cons (ped_var 0) (pad_ref 1 (pad_cons (ped_callB call_len a_len T.b_len bt_len (pad_cons (ped_var 2) pad_nil)) pad_nil)))))))
theorem sc__law_groups : FnScope ["_law_script", "_law_town", "_law_kinds", "_law_parts", "_law_group"] ["_law_script", "_law_town"] (defScope s__law_groups) := ⟨rfl, rfl, rfl, by decide +kernel, rfl, by decide +kernel, by decide +kernel⟩
theorem ok__law_groups (T : Txt P w K mg) (C__law_draw : Cal P w K mg "_law_draw" 1 ["_law_script", "_law_town", "_law_many"] F__law_draw) {fa : Addr} {fd : FuncData} (Fn : Fun K "_law_groups" "_law_groups" s__law_groups fa fd) (base : Heap) : FnOk P w K mg base (L2.CX P w) 2 fa fd ["_law_script", "_law_town"] (spF P w K mg 2 F__law_groups) := by
  refine fn_ok Fn sc__law_groups rfl rfl fun cdv A outer s0 H0 E hr tk hp => ?_
  have hc : (cxOf (L2.CX P w) P w K mg base ["_law_script", "_law_town", "_law_kinds", "_law_parts", "_law_group"] "_law_groups" (defScope s__law_groups) fa cdv A outer s0 H0 E).calm = true := rfl
  have hN : (cxOf (L2.CX P w) P w K mg base ["_law_script", "_law_town", "_law_kinds", "_law_parts", "_law_group"] "_law_groups" (defScope s__law_groups) fa cdv A outer s0 H0 E).N.Nodup := sc__law_groups.nd
  have hu := hr.units
  have hu65 : (cxOf (L2.CX P w) P w K mg base ["_law_script", "_law_town", "_law_kinds", "_law_parts", "_law_group"] "_law_groups" (defScope s__law_groups) fa cdv A outer s0 H0 E).A.units + 65 < cLine := by have := hr.un; omega
  have hu70 : (cxOf (L2.CX P w) P w K mg base ["_law_script", "_law_town", "_law_kinds", "_law_parts", "_law_group"] "_law_groups" (defScope s__law_groups) fa cdv A outer s0 H0 E).A.units + 70 < cLine := by have := hr.un; omega
  exact (pssd_cons (psd_parN2 (by decide) (by decide) hc hN (pan_l (pfd_disp (pad_cons ped_str (pad_cons ped_str (pad_cons ped_str pad_nil)))) (pan_l (pfd_disp pad_nil) pan_nil))) (pssd_cons (psd_while 200 hp (ptd_bor 2 (ptd_cmp (o_ne hu) d_ne (ped_var 2) (ped_lst pad_nil) (nomark _))) (pssd_cons (psd_cell (by decide) hN (pfd_disp (pad_cons (ped_cellM (i := 2) PySem.F.slot_list_pop hmd_pop mt_popAt c_pop (pad_cons (ped_call C__law_draw (by exact hr.mono (by decide)) tk (pad_cons (ped_var 0) (pad_ref 1 (pad_cons (ped_bor 2 (ped_callB call_len a_len T.b_len bt_len (pad_cons (ped_var 2) pad_nil))) pad_nil)))) pad_nil)) pad_nil))) (pssd_cons (psd_if (PWD.ptd (pwd_and (ptd_bor 2 (ptd_cmp (o_ne hu) d_ne (ped_var 2) (ped_lst pad_nil) (nomark _))) (pwd_and1 (ptd_cmp (o_eq hu) d_eq (ped_call C__law_draw (by exact hr.mono (by decide)) tk (pad_cons (ped_var 0) (pad_ref 1 (pad_cons ped_int pad_nil)))) ped_int (nomark _))))) (pssd_one (psd_expr (ped_cellM (i := 4) PySem.F.slot_list_append hmd_append mt_append c_append (pad_cons (ped_cellM (i := 2) PySem.F.slot_list_pop hmd_pop mt_popAt c_pop (pad_cons (ped_call C__law_draw (by exact hr.mono (by decide)) tk (pad_cons (ped_var 0) (pad_ref 1 (pad_cons (ped_bor 2 (ped_callB call_len a_len T.b_len bt_len (pad_cons (ped_var 2) pad_nil))) pad_nil)))) pad_nil)) pad_nil)))) pssd_nil) (pssd_one (psd_expr (ped_cellM (i := 3) PySem.F.slot_list_append hmd_append mt_append c_append (pad_cons (ped_bor 4 (ped_callTy call_tuple_of a_tuple T.b_tuple bt_tuple (pad_cons (ped_callB (cr_srt hu70) a_srt T.b_sorted bt_sorted (pad_cons (ped_var 4) pad_nil)) pad_nil))) pad_nil))))))) (pssd_one (psd_ret (ped_bor 3 (ped_callTy call_tuple_of a_tuple T.b_tuple bt_tuple (pad_cons (ped_var 3) pad_nil)))))))
theorem sc__law_step : FnScope ["_law_script", "_law_town", "_law_width", "_law_name", "_law_argument"] ["_law_script", "_law_town", "_law_width"] (defScope s__law_step) := ⟨rfl, rfl, rfl, by decide +kernel, rfl, by decide +kernel, by decide +kernel⟩
theorem ok__law_step (T : Txt P w K mg) (C__law_pick : Cal P w K mg "_law_pick" 2 ["_law_script", "_law_town", "_law_some"] F__law_pick) (C__law_groups : Cal P w K mg "_law_groups" 2 ["_law_script", "_law_town"] F__law_groups) (C__law_draw : Cal P w K mg "_law_draw" 1 ["_law_script", "_law_town", "_law_many"] F__law_draw) {fa : Addr} {fd : FuncData} (Fn : Fun K "_law_step" "_law_step" s__law_step fa fd) (base : Heap) : FnOk P w K mg base (L2.CX P w) 3 fa fd ["_law_script", "_law_town", "_law_width"] (spF P w K mg 3 F__law_step) := by
  refine fn_ok Fn sc__law_step rfl rfl fun cdv A outer s0 H0 E hr tk hp => ?_
  have hc : (cxOf (L2.CX P w) P w K mg base ["_law_script", "_law_town", "_law_width", "_law_name", "_law_argument"] "_law_step" (defScope s__law_step) fa cdv A outer s0 H0 E).calm = true := rfl
  have hN : (cxOf (L2.CX P w) P w K mg base ["_law_script", "_law_town", "_law_width", "_law_name", "_law_argument"] "_law_step" (defScope s__law_step) fa cdv A outer s0 H0 E).N.Nodup := sc__law_step.nd
  have hu := hr.units
  have hu65 : (cxOf (L2.CX P w) P w K mg base ["_law_script", "_law_town", "_law_width", "_law_name", "_law_argument"] "_law_step" (defScope s__law_step) fa cdv A outer s0 H0 E).A.units + 65 < cLine := by have := hr.un; omega
  have hu70 : (cxOf (L2.CX P w) P w K mg base ["_law_script", "_law_town", "_law_width", "_law_name", "_law_argument"] "_law_step" (defScope s__law_step) fa cdv A outer s0 H0 E).A.units + 70 < cLine := by have := hr.un; omega
  exact (pssd_cons (psd_set hN (ped_call C__law_pick (by exact hr.mono (by decide)) tk (pad_cons (ped_var 0) (pad_ref 1 (pad_cons (ped_lst (pad_cons ped_str (pad_cons ped_str (pad_cons ped_str (pad_cons ped_str (pad_cons ped_str (pad_cons ped_str pad_nil))))))) pad_nil))))) (pssd_cons (psd_set hN (ped_if (ptd_cmp (o_eq hu) d_eq (ped_var 3) ped_str (nomark _)) (ped_call C__law_groups (by exact hr.mono (by decide)) tk (pad_cons (ped_var 0) (pad_ref 1 pad_nil))) (ped_call C__law_pick (by exact hr.mono (by decide)) tk (pad_cons (ped_var 0) (pad_ref 1 (pad_cons (ped_lst (pad_cons ped_str (pad_cons ped_str pad_nil))) pad_nil)))))) (pssd_one (psd_ret (ped_tup (pad_cons (ped_var 3) (pad_cons (ped_call C__law_draw (by exact hr.mono (by decide)) tk (pad_cons (ped_var 0) (pad_ref 1 (pad_cons (ped_var 2) pad_nil)))) (pad_cons (ped_var 4) pad_nil))))))))
theorem sc__law_spec : FnScope ["_law_script", "_law_town", "_law_width", "_law_most", "_law_k"] ["_law_script", "_law_town", "_law_width", "_law_most"] (defScope s__law_spec) := ⟨rfl, rfl, rfl, by decide +kernel, rfl, by decide +kernel, by decide +kernel⟩
theorem ok__law_spec (T : Txt P w K mg) (C__law_step : Cal P w K mg "_law_step" 3 ["_law_script", "_law_town", "_law_width"] F__law_step) (C__law_draw : Cal P w K mg "_law_draw" 1 ["_law_script", "_law_town", "_law_many"] F__law_draw) {fa : Addr} {fd : FuncData} (Fn : Fun K "_law_spec" "_law_spec" s__law_spec fa fd) (base : Heap) : FnOk P w K mg base (L2.CX P w) 4 fa fd ["_law_script", "_law_town", "_law_width", "_law_most"] (spF P w K mg 4 F__law_spec) := by
  refine fn_ok Fn sc__law_spec rfl rfl fun cdv A outer s0 H0 E hr tk hp => ?_
  have hc : (cxOf (L2.CX P w) P w K mg base ["_law_script", "_law_town", "_law_width", "_law_most", "_law_k"] "_law_spec" (defScope s__law_spec) fa cdv A outer s0 H0 E).calm = true := rfl
  have hN : (cxOf (L2.CX P w) P w K mg base ["_law_script", "_law_town", "_law_width", "_law_most", "_law_k"] "_law_spec" (defScope s__law_spec) fa cdv A outer s0 H0 E).N.Nodup := sc__law_spec.nd
  have hu := hr.units
  have hu65 : (cxOf (L2.CX P w) P w K mg base ["_law_script", "_law_town", "_law_width", "_law_most", "_law_k"] "_law_spec" (defScope s__law_spec) fa cdv A outer s0 H0 E).A.units + 65 < cLine := by have := hr.un; omega
  have hu70 : (cxOf (L2.CX P w) P w K mg base ["_law_script", "_law_town", "_law_width", "_law_most", "_law_k"] "_law_spec" (defScope s__law_spec) fa cdv A outer s0 H0 E).A.units + 70 < cLine := by have := hr.un; omega
  exact (pssd_one (psd_ret (ped_tup (pad_cons (ped_var 2) (pad_cons (ped_callTy call_tuple_of a_tuple T.b_tuple bt_tuple (pad_cons (ped_fr (pfd_lc [("_law_k", 4)] hc hN (pid_rng1 (ped_call C__law_draw (by exact hr.mono (by decide)) tk (pad_cons (ped_var 0) (pad_ref 1 (pad_cons (ped_op2 o_add d_add (ped_var 3) ped_int) pad_nil)))) T.b_range) (blkOk_by (by kernel_rfl)) (by decide) (fun _ _ _ _ _ => (pgd_name hN)) (fun _ _ _ _ _ => ptsd_nil) (fun _ _ _ _ _ => (ped_call C__law_step (by exact hr.mono (by decide)) takes0 (pad_cons (ped_var 0) (pad_ref 1 (pad_cons (ped_var 2) pad_nil))))))) pad_nil)) pad_nil)))))
theorem sc__law_kind : FnScope ["_law_value_here"] ["_law_value_here"] (defScope s__law_kind) := ⟨rfl, rfl, rfl, by decide +kernel, rfl, by decide +kernel, by decide +kernel⟩
theorem ok__law_kind (T : Txt P w K mg)  {fa : Addr} {fd : FuncData} (Fn : Fun K "_law_kind" "_law_kind" s__law_kind fa fd) (base : Heap) : FnOk P w K mg base (L2.CX P w) 1 fa fd ["_law_value_here"] (spF P w K mg 1 F__law_kind) := by
  refine fn_ok Fn sc__law_kind rfl rfl fun cdv A outer s0 H0 E hr tk hp => ?_
  have hc : (cxOf (L2.CX P w) P w K mg base ["_law_value_here"] "_law_kind" (defScope s__law_kind) fa cdv A outer s0 H0 E).calm = true := rfl
  have hN : (cxOf (L2.CX P w) P w K mg base ["_law_value_here"] "_law_kind" (defScope s__law_kind) fa cdv A outer s0 H0 E).N.Nodup := sc__law_kind.nd
  have hu := hr.units
  have hu65 : (cxOf (L2.CX P w) P w K mg base ["_law_value_here"] "_law_kind" (defScope s__law_kind) fa cdv A outer s0 H0 E).A.units + 65 < cLine := by have := hr.un; omega
  have hu70 : (cxOf (L2.CX P w) P w K mg base ["_law_value_here"] "_law_kind" (defScope s__law_kind) fa cdv A outer s0 H0 E).A.units + 70 < cLine := by have := hr.un; omega
  exact (pssd_one (psd_ret (ped_if (ptd_cmp o_is d_is (ped_var 0) ped_non (nomark _)) ped_str (ped_if (ptd_val (ped_isa .int (ped_var 0) T.b_isinstance T.b_int bt_int bt_isinstance)) ped_str ped_str))))
theorem sc__law_sign : FnScope ["_law_one", "_law_other"] ["_law_one", "_law_other"] (defScope s__law_sign) := ⟨rfl, rfl, rfl, by decide +kernel, rfl, by decide +kernel, by decide +kernel⟩
theorem ok__law_sign (T : Txt P w K mg)  {fa : Addr} {fd : FuncData} (Fn : Fun K "_law_sign" "_law_sign" s__law_sign fa fd) (base : Heap) : FnOk P w K mg base (L2.CX P w) 1 fa fd ["_law_one", "_law_other"] (spF P w K mg 2 F__law_sign) := by
  refine fn_ok Fn sc__law_sign rfl rfl fun cdv A outer s0 H0 E hr tk hp => ?_
  have hc : (cxOf (L2.CX P w) P w K mg base ["_law_one", "_law_other"] "_law_sign" (defScope s__law_sign) fa cdv A outer s0 H0 E).calm = true := rfl
  have hN : (cxOf (L2.CX P w) P w K mg base ["_law_one", "_law_other"] "_law_sign" (defScope s__law_sign) fa cdv A outer s0 H0 E).N.Nodup := sc__law_sign.nd
  have hu := hr.units
  have hu65 : (cxOf (L2.CX P w) P w K mg base ["_law_one", "_law_other"] "_law_sign" (defScope s__law_sign) fa cdv A outer s0 H0 E).A.units + 65 < cLine := by have := hr.un; omega
  have hu70 : (cxOf (L2.CX P w) P w K mg base ["_law_one", "_law_other"] "_law_sign" (defScope s__law_sign) fa cdv A outer s0 H0 E).A.units + 70 < cLine := by have := hr.un; omega
  exact (pssd_one (psd_ret (ped_if (ptd_cmp (o_eq hu) d_eq (ped_var 0) (ped_var 1) (nomark _)) ped_int (ped_if (ptd_cmp o_lt d_lt (ped_var 0) (ped_var 1) (nomark _)) (ped_un un_neg d_neg ped_int) ped_int))))
theorem sc__law_result : FnScope ["_law_step_here", "_law_one", "_law_other", "_law_name", "_law_field", "_law_argument", "_law_kinds", "_law_places", "_law_kind_here", "_law_group", "_law_result_here"] ["_law_step_here", "_law_one", "_law_other"] (defScope s__law_result) := ⟨rfl, rfl, rfl, by decide +kernel, rfl, by decide +kernel, by decide +kernel⟩
theorem ok__law_result (T : Txt P w K mg) (C__law_kind : Cal P w K mg "_law_kind" 1 ["_law_value_here"] F__law_kind) (C__law_sign : Cal P w K mg "_law_sign" 1 ["_law_one", "_law_other"] F__law_sign) {fa : Addr} {fd : FuncData} (Fn : Fun K "_law_result" "_law_result" s__law_result fa fd) (base : Heap) : FnOk P w K mg base (L2.CX P w) 2 fa fd ["_law_step_here", "_law_one", "_law_other"] (spF P w K mg 3 F__law_result) := by
  refine fn_ok Fn sc__law_result rfl rfl fun cdv A outer s0 H0 E hr tk hp => ?_
  have hc : (cxOf (L2.CX P w) P w K mg base ["_law_step_here", "_law_one", "_law_other", "_law_name", "_law_field", "_law_argument", "_law_kinds", "_law_places", "_law_kind_here", "_law_group", "_law_result_here"] "_law_result" (defScope s__law_result) fa cdv A outer s0 H0 E).calm = true := rfl
  have hN : (cxOf (L2.CX P w) P w K mg base ["_law_step_here", "_law_one", "_law_other", "_law_name", "_law_field", "_law_argument", "_law_kinds", "_law_places", "_law_kind_here", "_law_group", "_law_result_here"] "_law_result" (defScope s__law_result) fa cdv A outer s0 H0 E).N.Nodup := sc__law_result.nd
  have hu := hr.units
  have hu65 : (cxOf (L2.CX P w) P w K mg base ["_law_step_here", "_law_one", "_law_other", "_law_name", "_law_field", "_law_argument", "_law_kinds", "_law_places", "_law_kind_here", "_law_group", "_law_result_here"] "_law_result" (defScope s__law_result) fa cdv A outer s0 H0 E).A.units + 65 < cLine := by have := hr.un; omega
  have hu70 : (cxOf (L2.CX P w) P w K mg base ["_law_step_here", "_law_one", "_law_other", "_law_name", "_law_field", "_law_argument", "_law_kinds", "_law_places", "_law_kind_here", "_law_group", "_law_result_here"] "_law_result" (defScope s__law_result) fa cdv A outer s0 H0 E).A.units + 70 < cLine := by have := hr.un; omega
  exact (pssd_cons (psd_asg (ped_var 0) (pgd_tup hc (pgsd_cons (pgd_name hN) (pgsd_cons (pgd_name hN) (pgsd_cons (pgd_name hN) pgsd_nil))))) (pssd_cons (psd_set hN (ped_tup (pad_cons (ped_call C__law_kind (by exact hr.mono (by decide)) tk (pad_cons (ped_var 1) pad_nil)) (pad_cons (ped_call C__law_kind (by exact hr.mono (by decide)) tk (pad_cons (ped_var 2) pad_nil)) pad_nil)))) (pssd_cons (psd_if (ptd_cmp (o_eq hu) d_eq (ped_var 3) ped_str (nomark _)) (pssd_cons (psd_setLc [("_law_kind_here", 8)] hc hN (pid_any (ped_var 6)) (blkOk_by (by kernel_rfl)) (by decide) (fun _ _ _ _ _ => (pgd_name hN)) (fun _ _ _ _ _ => ptsd_nil) (fun _ _ _ _ _ => (ped_bm PySem.F.plainAttrs_list PySem.F.slot_list_index hmd_index mt_index m_index (ped_fr (pfd_lc [("_law_group", 9)] hc hN (pid_any (ped_var 5)) (blkOk_by (by kernel_rfl)) (by decide) (fun _ _ _ _ _ => (pgd_name hN)) (fun _ _ _ _ _ => ptsd_nil) (fun _ _ _ _ _ => (ped_cmp (o_in hu65) d_in (ped_var 8) (ped_var 9) (by with_unfolding_all rfl))))) (pad_cons ped_bl pad_nil)))) (pssd_one (psd_ret (ped_call C__law_sign (by exact hr.mono (by decide)) tk (pad_cons (ped_ix o_idx d_idx (ped_var 7) ped_int) (pad_cons (ped_ix o_idx d_idx (ped_var 7) ped_int) pad_nil)))))) pssd_nil) (pssd_cons (psd_set hN ped_int) (pssd_cons (psd_if (PWD.ptd (pwd_and (ptd_cmp (o_eq hu) d_eq (ped_var 6) (ped_tup (pad_cons ped_str (pad_cons ped_str pad_nil))) (nomark _)) (pwd_and1 (ptd_cmp (o_eq hu) d_eq (ped_var 3) ped_str (nomark _))))) (pssd_one (psd_set hN (ped_call C__law_sign (by exact hr.mono (by decide)) tk (pad_cons (ped_var 1) (pad_cons (ped_var 2) pad_nil))))) pssd_nil) (pssd_cons (psd_if (PWD.ptd (pwd_and (ptd_cmp (o_eq hu) d_eq (ped_var 6) (ped_tup (pad_cons ped_str (pad_cons ped_str pad_nil))) (nomark _)) (pwd_and1 (ptd_cmp (o_in hu65) d_in (ped_var 3) (ped_tup (pad_cons ped_str (pad_cons ped_str pad_nil))) (by with_unfolding_all rfl))))) (pssd_one (psd_set hN (ped_if (ptd_cmp (o_eq hu) d_eq (ped_var 3) ped_str (nomark _)) (ped_call C__law_sign (by exact hr.mono (by decide)) tk (pad_cons (ped_var 1) (pad_cons (ped_var 2) pad_nil))) (ped_call C__law_sign (by exact hr.mono (by decide)) tk (pad_cons (ped_callB call_len a_len T.b_len bt_len (pad_cons (ped_var 1) pad_nil)) (pad_cons (ped_callB call_len a_len T.b_len bt_len (pad_cons (ped_var 2) pad_nil)) pad_nil)))))) pssd_nil) (pssd_cons (psd_if (PWD.ptd (pwd_and (ptd_cmp (o_notIn hu65) d_notIn ped_str (ped_var 6) (by with_unfolding_all rfl)) (pwd_and1 (ptd_cmp (o_eq hu) d_eq (ped_var 3) ped_str (nomark _))))) (pssd_one (psd_set hN (ped_call C__law_sign (by exact hr.mono (by decide)) tk (pad_cons (ped_callTy call_str1 a_str T.b_str bt_str (pad_cons (ped_var 1) pad_nil)) (pad_cons (ped_callTy call_str1 a_str T.b_str bt_str (pad_cons (ped_var 2) pad_nil)) pad_nil))))) pssd_nil) (pssd_one (psd_ret (ped_if (ptd_cmp (o_eq hu) d_eq (ped_var 5) ped_str (nomark _)) (ped_var 10) (ped_un un_neg d_neg (ped_var 10))))))))))))
theorem sc__law_compare : FnScope ["_law_steps", "_law_one", "_law_other", "_law_step_here", "_law_result_here"] ["_law_steps", "_law_one", "_law_other"] (defScope s__law_compare) := ⟨rfl, rfl, rfl, by decide +kernel, rfl, by decide +kernel, by decide +kernel⟩
theorem ok__law_compare (T : Txt P w K mg) (C__law_result : Cal P w K mg "_law_result" 2 ["_law_step_here", "_law_one", "_law_other"] F__law_result) {fa : Addr} {fd : FuncData} (Fn : Fun K "_law_compare" "_law_compare" s__law_compare fa fd) (base : Heap) : FnOk P w K mg base (L2.CX P w) 3 fa fd ["_law_steps", "_law_one", "_law_other"] (spF P w K mg 3 F__law_compare) := by
  refine fn_ok Fn sc__law_compare rfl rfl fun cdv A outer s0 H0 E hr tk hp => ?_
  have hc : (cxOf (L2.CX P w) P w K mg base ["_law_steps", "_law_one", "_law_other", "_law_step_here", "_law_result_here"] "_law_compare" (defScope s__law_compare) fa cdv A outer s0 H0 E).calm = true := rfl
  have hN : (cxOf (L2.CX P w) P w K mg base ["_law_steps", "_law_one", "_law_other", "_law_step_here", "_law_result_here"] "_law_compare" (defScope s__law_compare) fa cdv A outer s0 H0 E).N.Nodup := sc__law_compare.nd
  have hu := hr.units
  have hu65 : (cxOf (L2.CX P w) P w K mg base ["_law_steps", "_law_one", "_law_other", "_law_step_here", "_law_result_here"] "_law_compare" (defScope s__law_compare) fa cdv A outer s0 H0 E).A.units + 65 < cLine := by have := hr.un; omega
  have hu70 : (cxOf (L2.CX P w) P w K mg base ["_law_steps", "_law_one", "_law_other", "_law_step_here", "_law_result_here"] "_law_compare" (defScope s__law_compare) fa cdv A outer s0 H0 E).A.units + 70 < cLine := by have := hr.un; omega
  exact (pssd_cons (psd_for hp hc (pid_any (ped_var 0)) (pgd_name hN) (pssd_cons (psd_set hN (ped_call C__law_result (by exact hr.mono (by decide)) tk (pad_cons (ped_var 3) (pad_cons (ped_ix o_idx d_idx (ped_var 1) (ped_ix o_idx d_idx (ped_var 3) ped_int)) (pad_cons (ped_ix o_idx d_idx (ped_var 2) (ped_ix o_idx d_idx (ped_var 3) ped_int)) pad_nil))))) (pssd_one (psd_if (ptd_cmp (o_ne hu) d_ne (ped_var 4) ped_int (nomark _)) (pssd_one (psd_ret (ped_var 4))) pssd_nil)))) (pssd_one (psd_ret ped_int)))
theorem sc__law_value : FnScope ["_law_script", "_law_town", "_law_numbers", "_law_texts"] ["_law_script", "_law_town"] (defScope s__law_value) := ⟨rfl, rfl, rfl, by decide +kernel, rfl, by decide +kernel, by decide +kernel⟩
theorem ok__law_value (T : Txt P w K mg) (C__law_pick : Cal P w K mg "_law_pick" 2 ["_law_script", "_law_town", "_law_some"] F__law_pick) (C__law_draw : Cal P w K mg "_law_draw" 1 ["_law_script", "_law_town", "_law_many"] F__law_draw) {fa : Addr} {fd : FuncData} (Fn : Fun K "_law_value" "_law_value" s__law_value fa fd) (base : Heap) : FnOk P w K mg base (L2.CX P w) 3 fa fd ["_law_script", "_law_town"] (spF P w K mg 2 F__law_value) := by
  refine fn_ok Fn sc__law_value rfl rfl fun cdv A outer s0 H0 E hr tk hp => ?_
  have hc : (cxOf (L2.CX P w) P w K mg base ["_law_script", "_law_town", "_law_numbers", "_law_texts"] "_law_value" (defScope s__law_value) fa cdv A outer s0 H0 E).calm = true := rfl
  have hN : (cxOf (L2.CX P w) P w K mg base ["_law_script", "_law_town", "_law_numbers", "_law_texts"] "_law_value" (defScope s__law_value) fa cdv A outer s0 H0 E).N.Nodup := sc__law_value.nd
  have hu := hr.units
  have hu65 : (cxOf (L2.CX P w) P w K mg base ["_law_script", "_law_town", "_law_numbers", "_law_texts"] "_law_value" (defScope s__law_value) fa cdv A outer s0 H0 E).A.units + 65 < cLine := by have := hr.un; omega
  have hu70 : (cxOf (L2.CX P w) P w K mg base ["_law_script", "_law_town", "_law_numbers", "_law_texts"] "_law_value" (defScope s__law_value) fa cdv A outer s0 H0 E).A.units + 70 < cLine := by have := hr.un; omega
  exact (pssd_cons (psd_set hN (ped_lst (pad_cons ped_int (pad_cons ped_int (pad_cons ped_int (pad_cons ped_int (pad_cons ped_int (pad_cons ped_int (pad_cons ped_int (pad_cons ped_int (pad_cons ped_int (pad_cons ped_int (pad_cons ped_int (pad_cons ped_int (pad_cons (ped_op2 o_add d_add ped_int (ped_call C__law_draw (by exact hr.mono (by decide)) tk (pad_cons (ped_var 0) (pad_ref 1 (pad_cons ped_int pad_nil))))) pad_nil))))))))))))))) (pssd_cons (psd_set hN (ped_lst (pad_cons ped_str (pad_cons ped_str (pad_cons ped_str (pad_cons ped_str (pad_cons ped_str (pad_cons ped_str (pad_cons ped_str (pad_cons ped_str (pad_cons ped_str (pad_cons ped_str (pad_cons ped_str (pad_cons ped_str (pad_cons ped_str (pad_cons ped_str pad_nil)))))))))))))))) (pssd_one (psd_ret (ped_call C__law_pick (by exact hr.mono (by decide)) tk (pad_cons (ped_var 0) (pad_ref 1 (pad_cons (ped_lst (pad_cons ped_non (pad_cons ped_non (pad_cons (ped_call C__law_pick (by exact hr.mono (by decide)) tk (pad_cons (ped_var 0) (pad_ref 1 (pad_cons (ped_var 2) pad_nil)))) (pad_cons (ped_call C__law_pick (by exact hr.mono (by decide)) tk (pad_cons (ped_var 0) (pad_ref 1 (pad_cons (ped_var 3) pad_nil)))) pad_nil))))) pad_nil))))))))
theorem sc__law_record : FnScope ["_law_script", "_law_town", "_law_width", "_law_k"] ["_law_script", "_law_town", "_law_width"] (defScope s__law_record) := ⟨rfl, rfl, rfl, by decide +kernel, rfl, by decide +kernel, by decide +kernel⟩
theorem ok__law_record (T : Txt P w K mg) (C__law_value : Cal P w K mg "_law_value" 3 ["_law_script", "_law_town"] F__law_value) {fa : Addr} {fd : FuncData} (Fn : Fun K "_law_record" "_law_record" s__law_record fa fd) (base : Heap) : FnOk P w K mg base (L2.CX P w) 4 fa fd ["_law_script", "_law_town", "_law_width"] (spF P w K mg 3 F__law_record) := by
  refine fn_ok Fn sc__law_record rfl rfl fun cdv A outer s0 H0 E hr tk hp => ?_
  have hc : (cxOf (L2.CX P w) P w K mg base ["_law_script", "_law_town", "_law_width", "_law_k"] "_law_record" (defScope s__law_record) fa cdv A outer s0 H0 E).calm = true := rfl
  have hN : (cxOf (L2.CX P w) P w K mg base ["_law_script", "_law_town", "_law_width", "_law_k"] "_law_record" (defScope s__law_record) fa cdv A outer s0 H0 E).N.Nodup := sc__law_record.nd
  have hu := hr.units
  have hu65 : (cxOf (L2.CX P w) P w K mg base ["_law_script", "_law_town", "_law_width", "_law_k"] "_law_record" (defScope s__law_record) fa cdv A outer s0 H0 E).A.units + 65 < cLine := by have := hr.un; omega
  have hu70 : (cxOf (L2.CX P w) P w K mg base ["_law_script", "_law_town", "_law_width", "_law_k"] "_law_record" (defScope s__law_record) fa cdv A outer s0 H0 E).A.units + 70 < cLine := by have := hr.un; omega
  exact (pssd_one (psd_ret (ped_callTy call_tuple_of a_tuple T.b_tuple bt_tuple (pad_cons (ped_fr (pfd_lc [("_law_k", 3)] hc hN (pid_rng1 (ped_var 2) T.b_range) (blkOk_by (by kernel_rfl)) (by decide) (fun _ _ _ _ _ => (pgd_name hN)) (fun _ _ _ _ _ => ptsd_nil) (fun _ _ _ _ _ => (ped_call C__law_value (by exact hr.mono (by decide)) takes0 (pad_cons (ped_var 0) (pad_ref 1 pad_nil)))))) pad_nil))))
theorem sc_kind_of : FnScope ["value", "char"] ["value"] (defScope s_kind_of) := ⟨rfl, rfl, rfl, by decide +kernel, rfl, by decide +kernel, by decide +kernel⟩
theorem ok_kind_of (T : Txt P w K mg)  {fa : Addr} {fd : FuncData} (Fn : Fun K "kind_of" "kind_of" s_kind_of fa fd) (base : Heap) : FnOk P w K mg base (L2.CX P w) 1 fa fd ["value"] (spF P w K mg 1 F_kind_of) := by
  refine fn_ok Fn sc_kind_of rfl rfl fun cdv A outer s0 H0 E hr tk hp => ?_
  have hc : (cxOf (L2.CX P w) P w K mg base ["value", "char"] "kind_of" (defScope s_kind_of) fa cdv A outer s0 H0 E).calm = true := rfl
  have hN : (cxOf (L2.CX P w) P w K mg base ["value", "char"] "kind_of" (defScope s_kind_of) fa cdv A outer s0 H0 E).N.Nodup := sc_kind_of.nd
  have hu := hr.units
  have hu65 : (cxOf (L2.CX P w) P w K mg base ["value", "char"] "kind_of" (defScope s_kind_of) fa cdv A outer s0 H0 E).A.units + 65 < cLine := by have := hr.un; omega
  have hu70 : (cxOf (L2.CX P w) P w K mg base ["value", "char"] "kind_of" (defScope s_kind_of) fa cdv A outer s0 H0 E).A.units + 70 < cLine := by have := hr.un; omega
  exact (pssd_cons (psd_if (ptd_cmp o_is d_is (ped_var 0) ped_non (nomark _)) (pssd_one (psd_ret ped_str)) pssd_nil) (pssd_cons (psd_if (PWD.ptd (pwd_and (ptd_val (ped_isa .int (ped_var 0) T.b_isinstance T.b_int bt_int bt_isinstance)) (pwd_and (ptd_not (ptd_val (ped_isa .bool (ped_var 0) T.b_isinstance T.b_bool bt_bool bt_isinstance))) (pwd_and1 (ptd_chain op_le d_le op_le d_le ped_int (ped_var 0) (ped_glob T.k_LARGEST)))))) (pssd_one (psd_ret ped_str)) pssd_nil) (pssd_cons (psd_if (PWD.ptd (pwd_and (ptd_val (ped_isa .str (ped_var 0) T.b_isinstance T.b_str bt_str bt_isinstance)) (pwd_and (ptd_chain op_le d_le op_le d_le ped_int (ped_callB call_len a_len T.b_len bt_len (pad_cons (ped_var 0) pad_nil)) (ped_glob T.k_LETTERS_MOST)) (pwd_and1 (ptd_val (ped_callB (cr_all hc) a_all T.b_all bt_all (pad_cons (ped_fr (pfd_lc [("char", 1)] hc hN (pid_any (ped_var 0)) (blkOk_by (by kernel_rfl)) (by decide) (fun _ _ _ _ _ => (pgd_name hN)) (fun _ _ _ _ _ => ptsd_nil) (fun _ _ _ _ _ => (ped_cmp (o_in hu65) d_in (ped_var 1) (ped_glob T.k_LETTERS) (by with_unfolding_all rfl))))) pad_nil))))))) (pssd_one (psd_ret ped_str)) pssd_nil) (pssd_one (psd_ret ped_str)))))
theorem sc_is_record : FnScope ["value", "width", "one"] ["value", "width"] (defScope s_is_record) := ⟨rfl, rfl, rfl, by decide +kernel, rfl, by decide +kernel, by decide +kernel⟩
theorem ok_is_record (T : Txt P w K mg) (C_kind_of : Cal P w K mg "kind_of" 1 ["value"] F_kind_of) {fa : Addr} {fd : FuncData} (Fn : Fun K "is_record" "is_record" s_is_record fa fd) (base : Heap) : FnOk P w K mg base (L2.CX P w) 2 fa fd ["value", "width"] (spF P w K mg 2 F_is_record) := by
  refine fn_ok Fn sc_is_record rfl rfl fun cdv A outer s0 H0 E hr tk hp => ?_
  have hc : (cxOf (L2.CX P w) P w K mg base ["value", "width", "one"] "is_record" (defScope s_is_record) fa cdv A outer s0 H0 E).calm = true := rfl
  have hN : (cxOf (L2.CX P w) P w K mg base ["value", "width", "one"] "is_record" (defScope s_is_record) fa cdv A outer s0 H0 E).N.Nodup := sc_is_record.nd
  have hu := hr.units
  have hu65 : (cxOf (L2.CX P w) P w K mg base ["value", "width", "one"] "is_record" (defScope s_is_record) fa cdv A outer s0 H0 E).A.units + 65 < cLine := by have := hr.un; omega
  have hu70 : (cxOf (L2.CX P w) P w K mg base ["value", "width", "one"] "is_record" (defScope s_is_record) fa cdv A outer s0 H0 E).A.units + 70 < cLine := by have := hr.un; omega
  exact (pssd_one (psd_ret (ped_and (ped_isa .tuple (ped_var 0) T.b_isinstance T.b_tuple bt_tuple bt_isinstance) (ped_and (ped_cmp (o_eq hu) d_eq (ped_callB call_len a_len T.b_len bt_len (pad_cons (ped_var 0) pad_nil)) (ped_var 1) (nomark _)) (ped_one (ped_callB (cr_all hc) a_all T.b_all bt_all (pad_cons (ped_fr (pfd_lc [("one", 2)] hc hN (pid_any (ped_var 0)) (blkOk_by (by kernel_rfl)) (by decide) (fun _ _ _ _ _ => (pgd_name hN)) (fun _ _ _ _ _ => ptsd_nil) (fun _ _ _ _ _ => (ped_cmp (o_ne hu) d_ne (ped_call C_kind_of (by exact hr.mono (by decide)) takes0 (pad_cons (ped_var 2) pad_nil)) ped_str (nomark _))))) pad_nil)))))))
theorem sc_need_record : FnScope ["spec", "value"] ["spec", "value"] (defScope s_need_record) := ⟨rfl, rfl, rfl, by decide +kernel, rfl, by decide +kernel, by decide +kernel⟩
theorem ok_need_record (T : Txt P w K mg) (C_is_record : Cal P w K mg "is_record" 2 ["value", "width"] F_is_record) {fa : Addr} {fd : FuncData} (Fn : Fun K "need_record" "need_record" s_need_record fa fd) (base : Heap) : FnOk P w K mg base (L2.CX P w) 3 fa fd ["spec", "value"] (spF P w K mg 2 F_need_record) := by
  refine fn_ok Fn sc_need_record rfl rfl fun cdv A outer s0 H0 E hr tk hp => ?_
  have hc : (cxOf (L2.CX P w) P w K mg base ["spec", "value"] "need_record" (defScope s_need_record) fa cdv A outer s0 H0 E).calm = true := rfl
  have hN : (cxOf (L2.CX P w) P w K mg base ["spec", "value"] "need_record" (defScope s_need_record) fa cdv A outer s0 H0 E).N.Nodup := sc_need_record.nd
  have hu := hr.units
  have hu65 : (cxOf (L2.CX P w) P w K mg base ["spec", "value"] "need_record" (defScope s_need_record) fa cdv A outer s0 H0 E).A.units + 65 < cLine := by have := hr.un; omega
  have hu70 : (cxOf (L2.CX P w) P w K mg base ["spec", "value"] "need_record" (defScope s_need_record) fa cdv A outer s0 H0 E).A.units + 70 < cLine := by have := hr.un; omega
  exact (pssd_one (psd_if (ptd_not (ptd_val (ped_call C_is_record (by exact hr.mono (by decide)) tk (pad_cons (ped_var 1) (pad_cons (ped_ix o_idx d_idx (ped_var 0) ped_int) pad_nil))))) (pssd_one (psd_raise .invalidRecord rfl hc tk T.x_InvalidRecord)) pssd_nil))
theorem sc_sign : FnScope ["one", "other"] ["one", "other"] (defScope s_sign) := ⟨rfl, rfl, rfl, by decide +kernel, rfl, by decide +kernel, by decide +kernel⟩
theorem ok_sign (T : Txt P w K mg)  {fa : Addr} {fd : FuncData} (Fn : Fun K "sign" "sign" s_sign fa fd) (base : Heap) : FnOk P w K mg base (L2.CX P w) 1 fa fd ["one", "other"] (spF P w K mg 2 F_sign) := by
  refine fn_ok Fn sc_sign rfl rfl fun cdv A outer s0 H0 E hr tk hp => ?_
  have hc : (cxOf (L2.CX P w) P w K mg base ["one", "other"] "sign" (defScope s_sign) fa cdv A outer s0 H0 E).calm = true := rfl
  have hN : (cxOf (L2.CX P w) P w K mg base ["one", "other"] "sign" (defScope s_sign) fa cdv A outer s0 H0 E).N.Nodup := sc_sign.nd
  have hu := hr.units
  have hu65 : (cxOf (L2.CX P w) P w K mg base ["one", "other"] "sign" (defScope s_sign) fa cdv A outer s0 H0 E).A.units + 65 < cLine := by have := hr.un; omega
  have hu70 : (cxOf (L2.CX P w) P w K mg base ["one", "other"] "sign" (defScope s_sign) fa cdv A outer s0 H0 E).A.units + 70 < cLine := by have := hr.un; omega
  exact (pssd_one (psd_ret (ped_op2 o_sub d_sub (ped_cmp o_gt d_gt (ped_var 0) (ped_var 1) (nomark _)) (ped_cmp o_lt d_lt (ped_var 0) (ped_var 1) (nomark _)))))
theorem sc_rank : FnScope ["groups", "kind", "group"] ["groups", "kind"] (defScope s_rank) := ⟨rfl, rfl, rfl, by decide +kernel, rfl, by decide +kernel, by decide +kernel⟩
theorem ok_rank (T : Txt P w K mg)  {fa : Addr} {fd : FuncData} (Fn : Fun K "rank" "rank" s_rank fa fd) (base : Heap) : FnOk P w K mg base (L2.CX P w) 1 fa fd ["groups", "kind"] (spF P w K mg 2 F_rank) := by
  refine fn_ok Fn sc_rank rfl rfl fun cdv A outer s0 H0 E hr tk hp => ?_
  have hc : (cxOf (L2.CX P w) P w K mg base ["groups", "kind", "group"] "rank" (defScope s_rank) fa cdv A outer s0 H0 E).calm = true := rfl
  have hN : (cxOf (L2.CX P w) P w K mg base ["groups", "kind", "group"] "rank" (defScope s_rank) fa cdv A outer s0 H0 E).N.Nodup := sc_rank.nd
  have hu := hr.units
  have hu65 : (cxOf (L2.CX P w) P w K mg base ["groups", "kind", "group"] "rank" (defScope s_rank) fa cdv A outer s0 H0 E).A.units + 65 < cLine := by have := hr.un; omega
  have hu70 : (cxOf (L2.CX P w) P w K mg base ["groups", "kind", "group"] "rank" (defScope s_rank) fa cdv A outer s0 H0 E).A.units + 70 < cLine := by have := hr.un; omega
  exact (pssd_one (psd_ret (ped_bm PySem.F.plainAttrs_list PySem.F.slot_list_index hmd_index mt_index m_index (ped_fr (pfd_lc [("group", 2)] hc hN (pid_any (ped_var 0)) (blkOk_by (by kernel_rfl)) (by decide) (fun _ _ _ _ _ => (pgd_name hN)) (fun _ _ _ _ _ => ptsd_nil) (fun _ _ _ _ _ => (ped_cmp (o_in hu65) d_in (ped_var 1) (ped_var 2) (by with_unfolding_all rfl))))) (pad_cons ped_bl pad_nil))))
theorem sc_spelling_of : FnScope ["value"] ["value"] (defScope s_spelling_of) := ⟨rfl, rfl, rfl, by decide +kernel, rfl, by decide +kernel, by decide +kernel⟩
theorem ok_spelling_of (T : Txt P w K mg)  {fa : Addr} {fd : FuncData} (Fn : Fun K "spelling_of" "spelling_of" s_spelling_of fa fd) (base : Heap) : FnOk P w K mg base (L2.CX P w) 1 fa fd ["value"] (spF P w K mg 1 F_spelling_of) := by
  refine fn_ok Fn sc_spelling_of rfl rfl fun cdv A outer s0 H0 E hr tk hp => ?_
  have hc : (cxOf (L2.CX P w) P w K mg base ["value"] "spelling_of" (defScope s_spelling_of) fa cdv A outer s0 H0 E).calm = true := rfl
  have hN : (cxOf (L2.CX P w) P w K mg base ["value"] "spelling_of" (defScope s_spelling_of) fa cdv A outer s0 H0 E).N.Nodup := sc_spelling_of.nd
  have hu := hr.units
  have hu65 : (cxOf (L2.CX P w) P w K mg base ["value"] "spelling_of" (defScope s_spelling_of) fa cdv A outer s0 H0 E).A.units + 65 < cLine := by have := hr.un; omega
  have hu70 : (cxOf (L2.CX P w) P w K mg base ["value"] "spelling_of" (defScope s_spelling_of) fa cdv A outer s0 H0 E).A.units + 70 < cLine := by have := hr.un; omega
  exact (pssd_one (psd_ret (ped_if (ptd_val (ped_isa .str (ped_var 0) T.b_isinstance T.b_str bt_str bt_isinstance)) (ped_var 0) (ped_callTy call_str1 a_str T.b_str bt_str (pad_cons (ped_var 0) pad_nil)))))
theorem sc_step_result : FnScope ["step", "one", "other", "name", "field", "argument", "kinds", "result"] ["step", "one", "other"] (defScope s_step_result) := ⟨rfl, rfl, rfl, by decide +kernel, rfl, by decide +kernel, by decide +kernel⟩
theorem ok_step_result (T : Txt P w K mg) (C_kind_of : Cal P w K mg "kind_of" 1 ["value"] F_kind_of) (C_sign : Cal P w K mg "sign" 1 ["one", "other"] F_sign) (C_rank : Cal P w K mg "rank" 1 ["groups", "kind"] F_rank) (C_spelling_of : Cal P w K mg "spelling_of" 1 ["value"] F_spelling_of) {fa : Addr} {fd : FuncData} (Fn : Fun K "step_result" "step_result" s_step_result fa fd) (base : Heap) : FnOk P w K mg base (L2.CX P w) 2 fa fd ["step", "one", "other"] (spF P w K mg 3 F_step_result) := by
  refine fn_ok Fn sc_step_result rfl rfl fun cdv A outer s0 H0 E hr tk hp => ?_
  have hc : (cxOf (L2.CX P w) P w K mg base ["step", "one", "other", "name", "field", "argument", "kinds", "result"] "step_result" (defScope s_step_result) fa cdv A outer s0 H0 E).calm = true := rfl
  have hN : (cxOf (L2.CX P w) P w K mg base ["step", "one", "other", "name", "field", "argument", "kinds", "result"] "step_result" (defScope s_step_result) fa cdv A outer s0 H0 E).N.Nodup := sc_step_result.nd
  have hu := hr.units
  have hu65 : (cxOf (L2.CX P w) P w K mg base ["step", "one", "other", "name", "field", "argument", "kinds", "result"] "step_result" (defScope s_step_result) fa cdv A outer s0 H0 E).A.units + 65 < cLine := by have := hr.un; omega
  have hu70 : (cxOf (L2.CX P w) P w K mg base ["step", "one", "other", "name", "field", "argument", "kinds", "result"] "step_result" (defScope s_step_result) fa cdv A outer s0 H0 E).A.units + 70 < cLine := by have := hr.un; omega
  exact (pssd_cons (psd_asg (ped_var 0) (pgd_tup hc (pgsd_cons (pgd_name hN) (pgsd_cons (pgd_name hN) (pgsd_cons (pgd_name hN) pgsd_nil))))) (pssd_cons (psd_set hN (ped_tup (pad_cons (ped_call C_kind_of (by exact hr.mono (by decide)) tk (pad_cons (ped_var 1) pad_nil)) (pad_cons (ped_call C_kind_of (by exact hr.mono (by decide)) tk (pad_cons (ped_var 2) pad_nil)) pad_nil)))) (pssd_cons (psd_if (ptd_cmp (o_eq hu) d_eq (ped_var 3) ped_str (nomark _)) (pssd_one (psd_ret (ped_call C_sign (by exact hr.mono (by decide)) tk (pad_cons (ped_call C_rank (by exact hr.mono (by decide)) tk (pad_cons (ped_var 5) (pad_cons (ped_ix o_idx d_idx (ped_var 6) ped_int) pad_nil))) (pad_cons (ped_call C_rank (by exact hr.mono (by decide)) tk (pad_cons (ped_var 5) (pad_cons (ped_ix o_idx d_idx (ped_var 6) ped_int) pad_nil))) pad_nil))))) pssd_nil) (pssd_cons (psd_set hN ped_int) (pssd_cons (psd_if (PWD.ptd (pwd_and (ptd_cmp (o_eq hu) d_eq (ped_var 3) ped_str (nomark _)) (pwd_and1 (ptd_cmp (o_eq hu) d_eq (ped_var 6) (ped_tup (pad_cons ped_str (pad_cons ped_str pad_nil))) (nomark _))))) (pssd_one (psd_set hN (ped_call C_sign (by exact hr.mono (by decide)) tk (pad_cons (ped_var 1) (pad_cons (ped_var 2) pad_nil))))) (pssd_one (psd_if (PWD.ptd (pwd_and (ptd_cmp (o_eq hu) d_eq (ped_var 3) ped_str (nomark _)) (pwd_and1 (ptd_cmp (o_eq hu) d_eq (ped_var 6) (ped_tup (pad_cons ped_str (pad_cons ped_str pad_nil))) (nomark _))))) (pssd_one (psd_set hN (ped_call C_sign (by exact hr.mono (by decide)) tk (pad_cons (ped_var 1) (pad_cons (ped_var 2) pad_nil))))) (pssd_one (psd_if (PWD.ptd (pwd_and (ptd_cmp (o_eq hu) d_eq (ped_var 3) ped_str (nomark _)) (pwd_and1 (ptd_cmp (o_eq hu) d_eq (ped_var 6) (ped_tup (pad_cons ped_str (pad_cons ped_str pad_nil))) (nomark _))))) (pssd_one (psd_set hN (ped_call C_sign (by exact hr.mono (by decide)) tk (pad_cons (ped_callB call_len a_len T.b_len bt_len (pad_cons (ped_var 1) pad_nil)) (pad_cons (ped_callB call_len a_len T.b_len bt_len (pad_cons (ped_var 2) pad_nil)) pad_nil))))) (pssd_one (psd_if (PWD.ptd (pwd_and (ptd_cmp (o_eq hu) d_eq (ped_var 3) ped_str (nomark _)) (pwd_and1 (ptd_cmp (o_notIn hu65) d_notIn ped_str (ped_var 6) (by with_unfolding_all rfl))))) (pssd_one (psd_set hN (ped_call C_sign (by exact hr.mono (by decide)) tk (pad_cons (ped_call C_spelling_of (by exact hr.mono (by decide)) tk (pad_cons (ped_var 1) pad_nil)) (pad_cons (ped_call C_spelling_of (by exact hr.mono (by decide)) tk (pad_cons (ped_var 2) pad_nil)) pad_nil))))) pssd_nil))))))) (pssd_one (psd_ret (ped_if (ptd_cmp (o_eq hu) d_eq (ped_var 5) ped_str (nomark _)) (ped_op2 o_sub d_sub ped_int (ped_var 7)) (ped_var 7)))))))))
theorem sc_compared : FnScope ["steps", "one", "other", "step", "result"] ["steps", "one", "other"] (defScope s_compared) := ⟨rfl, rfl, rfl, by decide +kernel, rfl, by decide +kernel, by decide +kernel⟩
theorem ok_compared (T : Txt P w K mg) (C_step_result : Cal P w K mg "step_result" 2 ["step", "one", "other"] F_step_result) {fa : Addr} {fd : FuncData} (Fn : Fun K "compared" "compared" s_compared fa fd) (base : Heap) : FnOk P w K mg base (L2.CX P w) 3 fa fd ["steps", "one", "other"] (spF P w K mg 3 F_compared) := by
  refine fn_ok Fn sc_compared rfl rfl fun cdv A outer s0 H0 E hr tk hp => ?_
  have hc : (cxOf (L2.CX P w) P w K mg base ["steps", "one", "other", "step", "result"] "compared" (defScope s_compared) fa cdv A outer s0 H0 E).calm = true := rfl
  have hN : (cxOf (L2.CX P w) P w K mg base ["steps", "one", "other", "step", "result"] "compared" (defScope s_compared) fa cdv A outer s0 H0 E).N.Nodup := sc_compared.nd
  have hu := hr.units
  have hu65 : (cxOf (L2.CX P w) P w K mg base ["steps", "one", "other", "step", "result"] "compared" (defScope s_compared) fa cdv A outer s0 H0 E).A.units + 65 < cLine := by have := hr.un; omega
  have hu70 : (cxOf (L2.CX P w) P w K mg base ["steps", "one", "other", "step", "result"] "compared" (defScope s_compared) fa cdv A outer s0 H0 E).A.units + 70 < cLine := by have := hr.un; omega
  exact (pssd_cons (psd_for hp hc (pid_any (ped_var 0)) (pgd_name hN) (pssd_cons (psd_set hN (ped_call C_step_result (by exact hr.mono (by decide)) tk (pad_cons (ped_var 3) (pad_cons (ped_ix o_idx d_idx (ped_var 1) (ped_ix o_idx d_idx (ped_var 3) ped_int)) (pad_cons (ped_ix o_idx d_idx (ped_var 2) (ped_ix o_idx d_idx (ped_var 3) ped_int)) pad_nil))))) (pssd_one (psd_if (ptd_cmp (o_ne hu) d_ne (ped_var 4) ped_int (nomark _)) (pssd_one (psd_ret (ped_var 4))) pssd_nil)))) (pssd_one (psd_ret ped_int)))
theorem sc_compare : FnScope ["spec", "a", "b"] ["spec", "a", "b"] (defScope s_compare) := ⟨rfl, rfl, rfl, by decide +kernel, rfl, by decide +kernel, by decide +kernel⟩
theorem ok_compare (T : Txt P w K mg) (C_need_spec : Cal P w K mg "need_spec" 4 ["value"] F_need_spec) (C_need_record : Cal P w K mg "need_record" 3 ["spec", "value"] F_need_record) (C_compared : Cal P w K mg "compared" 3 ["steps", "one", "other"] F_compared) {fa : Addr} {fd : FuncData} (Fn : Fun K "compare" "compare" s_compare fa fd) (base : Heap) : FnOk P w K mg base (L2.CX P w) 5 fa fd ["spec", "a", "b"] (spF P w K mg 3 F_compare) := by
  refine fn_ok Fn sc_compare rfl rfl fun cdv A outer s0 H0 E hr tk hp => ?_
  have hc : (cxOf (L2.CX P w) P w K mg base ["spec", "a", "b"] "compare" (defScope s_compare) fa cdv A outer s0 H0 E).calm = true := rfl
  have hN : (cxOf (L2.CX P w) P w K mg base ["spec", "a", "b"] "compare" (defScope s_compare) fa cdv A outer s0 H0 E).N.Nodup := sc_compare.nd
  have hu := hr.units
  have hu65 : (cxOf (L2.CX P w) P w K mg base ["spec", "a", "b"] "compare" (defScope s_compare) fa cdv A outer s0 H0 E).A.units + 65 < cLine := by have := hr.un; omega
  have hu70 : (cxOf (L2.CX P w) P w K mg base ["spec", "a", "b"] "compare" (defScope s_compare) fa cdv A outer s0 H0 E).A.units + 70 < cLine := by have := hr.un; omega
  exact (pssd_cons (psd_expr (ped_call C_need_spec (by exact hr.mono (by decide)) tk (pad_cons (ped_var 0) pad_nil))) (pssd_cons (psd_expr (ped_call C_need_record (by exact hr.mono (by decide)) tk (pad_cons (ped_var 0) (pad_cons (ped_var 1) pad_nil)))) (pssd_cons (psd_expr (ped_call C_need_record (by exact hr.mono (by decide)) tk (pad_cons (ped_var 0) (pad_cons (ped_var 2) pad_nil)))) (pssd_one (psd_ret (ped_call C_compared (by exact hr.mono (by decide)) tk (pad_cons (ped_ix o_idx d_idx (ped_var 0) ped_int) (pad_cons (ped_var 1) (pad_cons (ped_var 2) pad_nil)))))))))
theorem sc_need_pair : FnScope ["spec", "other"] ["spec", "other"] (defScope s_need_pair) := ⟨rfl, rfl, rfl, by decide +kernel, rfl, by decide +kernel, by decide +kernel⟩
theorem ok_need_pair (T : Txt P w K mg) (C_need_spec : Cal P w K mg "need_spec" 4 ["value"] F_need_spec) {fa : Addr} {fd : FuncData} (Fn : Fun K "need_pair" "need_pair" s_need_pair fa fd) (base : Heap) : FnOk P w K mg base (L2.CX P w) 5 fa fd ["spec", "other"] (spF P w K mg 2 F_need_pair) := by
  refine fn_ok Fn sc_need_pair rfl rfl fun cdv A outer s0 H0 E hr tk hp => ?_
  have hc : (cxOf (L2.CX P w) P w K mg base ["spec", "other"] "need_pair" (defScope s_need_pair) fa cdv A outer s0 H0 E).calm = true := rfl
  have hN : (cxOf (L2.CX P w) P w K mg base ["spec", "other"] "need_pair" (defScope s_need_pair) fa cdv A outer s0 H0 E).N.Nodup := sc_need_pair.nd
  have hu := hr.units
  have hu65 : (cxOf (L2.CX P w) P w K mg base ["spec", "other"] "need_pair" (defScope s_need_pair) fa cdv A outer s0 H0 E).A.units + 65 < cLine := by have := hr.un; omega
  have hu70 : (cxOf (L2.CX P w) P w K mg base ["spec", "other"] "need_pair" (defScope s_need_pair) fa cdv A outer s0 H0 E).A.units + 70 < cLine := by have := hr.un; omega
  exact (pssd_cons (psd_expr (ped_call C_need_spec (by exact hr.mono (by decide)) tk (pad_cons (ped_var 0) pad_nil))) (pssd_cons (psd_expr (ped_call C_need_spec (by exact hr.mono (by decide)) tk (pad_cons (ped_var 1) pad_nil))) (pssd_one (psd_if (ptd_cmp (o_ne hu) d_ne (ped_ix o_idx d_idx (ped_var 0) ped_int) (ped_ix o_idx d_idx (ped_var 1) ped_int) (nomark _)) (pssd_one (psd_raise .incomparable rfl hc tk T.x_Incomparable)) pssd_nil))))
theorem sc_combined : FnScope ["spec", "other", "steps"] ["spec", "other"] (defScope s_combined) := ⟨rfl, rfl, rfl, by decide +kernel, rfl, by decide +kernel, by decide +kernel⟩
theorem ok_combined (T : Txt P w K mg) (C_need_pair : Cal P w K mg "need_pair" 5 ["spec", "other"] F_need_pair) {fa : Addr} {fd : FuncData} (Fn : Fun K "combined" "combined" s_combined fa fd) (base : Heap) : FnOk P w K mg base (L2.CX P w) 6 fa fd ["spec", "other"] (spF P w K mg 2 F_combined) := by
  refine fn_ok Fn sc_combined rfl rfl fun cdv A outer s0 H0 E hr tk hp => ?_
  have hc : (cxOf (L2.CX P w) P w K mg base ["spec", "other", "steps"] "combined" (defScope s_combined) fa cdv A outer s0 H0 E).calm = true := rfl
  have hN : (cxOf (L2.CX P w) P w K mg base ["spec", "other", "steps"] "combined" (defScope s_combined) fa cdv A outer s0 H0 E).N.Nodup := sc_combined.nd
  have hu := hr.units
  have hu65 : (cxOf (L2.CX P w) P w K mg base ["spec", "other", "steps"] "combined" (defScope s_combined) fa cdv A outer s0 H0 E).A.units + 65 < cLine := by have := hr.un; omega
  have hu70 : (cxOf (L2.CX P w) P w K mg base ["spec", "other", "steps"] "combined" (defScope s_combined) fa cdv A outer s0 H0 E).A.units + 70 < cLine := by have := hr.un; omega
  exact (pssd_cons (psd_expr (ped_call C_need_pair (by exact hr.mono (by decide)) tk (pad_cons (ped_var 0) (pad_cons (ped_var 1) pad_nil)))) (pssd_cons (psd_set hN (ped_op2 o_add d_add (ped_ix o_idx d_idx (ped_var 0) ped_int) (ped_ix o_idx d_idx (ped_var 1) ped_int))) (pssd_cons (psd_if (ptd_cmp o_gt d_gt (ped_callB call_len a_len T.b_len bt_len (pad_cons (ped_var 2) pad_nil)) (ped_glob T.k_STEPS) (nomark _)) (pssd_one (psd_raise .tooLong rfl hc tk T.x_TooLong)) pssd_nil) (pssd_one (psd_ret (ped_tup (pad_cons (ped_ix o_idx d_idx (ped_var 0) ped_int) (pad_cons (ped_var 2) pad_nil))))))))
theorem sc_law : FnScope ["_law_script", "_law_town", "_law_width", "_law_spec_here", "_law_other", "_law_back", "_law_k", "_law_one", "_law_two", "_law_due", "_law_both"] ["_law_script"] (defScope s_law) := ⟨rfl, rfl, rfl, by decide +kernel, rfl, by decide +kernel, by decide +kernel⟩
theorem ok_law (T : Txt P w K mg) (C_reversed_spec : Cal P w K mg "reversed_spec" 5 ["spec"] F_reversed_spec) (C__law_draw : Cal P w K mg "_law_draw" 1 ["_law_script", "_law_town", "_law_many"] F__law_draw) (C__law_spec : Cal P w K mg "_law_spec" 4 ["_law_script", "_law_town", "_law_width", "_law_most"] F__law_spec) (C__law_compare : Cal P w K mg "_law_compare" 3 ["_law_steps", "_law_one", "_law_other"] F__law_compare) (C_is_spec : Cal P w K mg "is_spec" 3 ["value"] F_is_spec) (C__law_record : Cal P w K mg "_law_record" 4 ["_law_script", "_law_town", "_law_width"] F__law_record) (C_compare : Cal P w K mg "compare" 5 ["spec", "a", "b"] F_compare) (C_combined : Cal P w K mg "combined" 6 ["spec", "other"] F_combined) {fa : Addr} {fd : FuncData} (Fn : Fun K "law" "law" s_law fa fd) (base : Heap) : FnOk P w K mg base (L2.CX P w) 7 fa fd ["_law_script"] (spF P w K mg 1 F_law) := by
  refine fn_ok Fn sc_law rfl rfl fun cdv A outer s0 H0 E hr tk hp => ?_
  have hc : (cxOf (L2.CX P w) P w K mg base ["_law_script", "_law_town", "_law_width", "_law_spec_here", "_law_other", "_law_back", "_law_k", "_law_one", "_law_two", "_law_due", "_law_both"] "law" (defScope s_law) fa cdv A outer s0 H0 E).calm = true := rfl
  have hN : (cxOf (L2.CX P w) P w K mg base ["_law_script", "_law_town", "_law_width", "_law_spec_here", "_law_other", "_law_back", "_law_k", "_law_one", "_law_two", "_law_due", "_law_both"] "law" (defScope s_law) fa cdv A outer s0 H0 E).N.Nodup := sc_law.nd
  have hu := hr.units
  have hu65 : (cxOf (L2.CX P w) P w K mg base ["_law_script", "_law_town", "_law_width", "_law_spec_here", "_law_other", "_law_back", "_law_k", "_law_one", "_law_two", "_law_due", "_law_both"] "law" (defScope s_law) fa cdv A outer s0 H0 E).A.units + 65 < cLine := by have := hr.un; omega
  have hu70 : (cxOf (L2.CX P w) P w K mg base ["_law_script", "_law_town", "_law_width", "_law_spec_here", "_law_other", "_law_back", "_law_k", "_law_one", "_law_two", "_law_due", "_law_both"] "law" (defScope s_law) fa cdv A outer s0 H0 E).A.units + 70 < cLine := by have := hr.un; omega
  exact (pssd_cons (psd_cell (by decide) hN (pfd_disp (pad_cons ped_int (pad_cons ped_int pad_nil)))) (pssd_cons (psd_set hN (ped_op2 o_add d_add ped_int (ped_call C__law_draw (by exact hr.mono (by decide)) tk (pad_cons (ped_var 0) (pad_ref 1 (pad_cons ped_int pad_nil)))))) (pssd_cons (psd_par hc hN (pad_cons (ped_call C__law_spec (by exact hr.mono (by decide)) tk (pad_cons (ped_var 0) (pad_ref 1 (pad_cons (ped_var 2) (pad_cons ped_int pad_nil))))) (pad_cons (ped_call C__law_spec (by exact hr.mono (by decide)) tk (pad_cons (ped_var 0) (pad_ref 1 (pad_cons (ped_var 2) (pad_cons ped_int pad_nil))))) pad_nil))) (pssd_cons (psd_if (PWD.ptd (pwd_or (ptd_cmp o_isNot d_isNot (ped_call C_is_spec (by exact hr.mono (by decide)) tk (pad_cons (ped_var 3) pad_nil)) ped_bl (nomark _)) (pwd_or1 (ptd_cmp o_isNot d_isNot (ped_call C_is_spec (by exact hr.mono (by decide)) tk (pad_cons (ped_var 4) pad_nil)) ped_bl (nomark _))))) (pssd_one (psd_ret ped_bl)) pssd_nil) (pssd_cons (psd_set hN (ped_call C_reversed_spec (by exact hr.mono (by decide)) tk (pad_cons (ped_var 3) pad_nil))) (pssd_cons (psd_for hp hc (pid_rng1 ped_int T.b_range) (pgd_name hN) (pssd_cons (psd_par hc hN (pad_cons (ped_call C__law_record (by exact hr.mono (by decide)) tk (pad_cons (ped_var 0) (pad_ref 1 (pad_cons (ped_var 2) pad_nil)))) (pad_cons (ped_call C__law_record (by exact hr.mono (by decide)) tk (pad_cons (ped_var 0) (pad_ref 1 (pad_cons (ped_var 2) pad_nil)))) pad_nil))) (pssd_cons (psd_set hN (ped_call C__law_compare (by exact hr.mono (by decide)) tk (pad_cons (ped_ix o_idx d_idx (ped_var 3) ped_int) (pad_cons (ped_var 7) (pad_cons (ped_var 8) pad_nil))))) (pssd_cons (psd_if (PWD.ptd (pwd_or (ptd_cmp (o_ne hu) d_ne (ped_call C_compare (by exact hr.mono (by decide)) tk (pad_cons (ped_var 3) (pad_cons (ped_var 7) (pad_cons (ped_var 8) pad_nil)))) (ped_var 9) (nomark _)) (pwd_or1 (ptd_cmp (o_ne hu) d_ne (ped_call C_compare (by exact hr.mono (by decide)) tk (pad_cons (ped_var 3) (pad_cons (ped_var 8) (pad_cons (ped_var 7) pad_nil)))) (ped_un un_neg d_neg (ped_var 9)) (nomark _))))) (pssd_one (psd_ret ped_bl)) pssd_nil) (pssd_cons (psd_if (ptd_cmp (o_ne hu) d_ne (ped_call C_compare (by exact hr.mono (by decide)) tk (pad_cons (ped_var 5) (pad_cons (ped_var 7) (pad_cons (ped_var 8) pad_nil)))) (ped_un un_neg d_neg (ped_var 9)) (nomark _)) (pssd_one (psd_ret ped_bl)) pssd_nil) (pssd_cons (psd_if (ptd_cmp (o_ne hu) d_ne (ped_call C_compare (by exact hr.mono (by decide)) tk (pad_cons (ped_var 3) (pad_cons (ped_var 7) (pad_cons (ped_var 7) pad_nil)))) ped_int (nomark _)) (pssd_one (psd_ret ped_bl)) pssd_nil) (pssd_one (psd_if (ptd_cmp o_lt d_lt (ped_callB call_len a_len T.b_len bt_len (pad_cons (ped_ix o_idx d_idx (ped_var 3) ped_int) pad_nil)) ped_int (nomark _)) (pssd_cons (psd_set hN (ped_call C_compare (by exact hr.mono (by decide)) tk (pad_cons (ped_call C_combined (by exact hr.mono (by decide)) tk (pad_cons (ped_var 3) (pad_cons (ped_var 4) pad_nil))) (pad_cons (ped_var 7) (pad_cons (ped_var 8) pad_nil))))) (pssd_one (psd_if (ptd_cmp (o_ne hu) d_ne (ped_var 10) (ped_if (ptd_cmp (o_ne hu) d_ne (ped_var 9) ped_int (nomark _)) (ped_var 9) (ped_call C__law_compare (by exact hr.mono (by decide)) tk (pad_cons (ped_ix o_idx d_idx (ped_var 4) ped_int) (pad_cons (ped_var 7) (pad_cons (ped_var 8) pad_nil))))) (nomark _)) (pssd_one (psd_ret ped_bl)) pssd_nil))) pssd_nil)))))))) (pssd_one (psd_ret (ped_and (ped_cmp o_is d_is (ped_call C_is_spec (by exact hr.mono (by decide)) tk (pad_cons (ped_var 5) pad_nil)) ped_bl (nomark _)) (ped_one (ped_cmp (o_eq hu) d_eq (ped_call C_reversed_spec (by exact hr.mono (by decide)) tk (pad_cons (ped_var 5) pad_nil)) (ped_var 3) (nomark _))))))))))))
end
end k01
namespace k01
open PySem PySem.Spec L2 SS Pg
theorem all_mk {l : PySem.W.OpenLaw} {w : World} {K : PySem.W.Frag} {h : Heap} {mg : Str → Option Value} {fa : Addr} (X : K.In h) (G : h.Ns mainGlobals mg) (hfa : mg "law" = some (.ref fa))
    {f_is_width f_are_groups f_is_step f_is_spec f_need_spec f_reversed_step f_reversed_spec f__law_draw f__law_pick f__law_groups f__law_step f__law_spec f__law_kind f__law_sign f__law_result f__law_compare f__law_value f__law_record f_kind_of f_is_record f_need_record f_sign f_rank f_spelling_of f_step_result f_compared f_compare f_need_pair f_combined f_law : Addr} {od_is_width an_is_width od_are_groups an_are_groups od_is_step an_is_step od_is_spec an_is_spec od_need_spec an_need_spec od_reversed_step an_reversed_step od_reversed_spec an_reversed_spec od__law_draw an__law_draw od__law_pick an__law_pick od__law_groups an__law_groups od__law_step an__law_step od__law_spec an__law_spec od__law_kind an__law_kind od__law_sign an__law_sign od__law_result an__law_result od__law_compare an__law_compare od__law_value an__law_value od__law_record an__law_record od_kind_of an_kind_of od_is_record an_is_record od_need_record an_need_record od_sign an_sign od_rank an_rank od_spelling_of an_spelling_of od_step_result an_step_result od_compared an_compared od_compare an_compare od_need_pair an_need_pair od_combined an_combined od_law an_law : Option Addr} {sl_is_width sl_are_groups sl_is_step sl_is_spec sl_need_spec sl_reversed_step sl_reversed_spec sl__law_draw sl__law_pick sl__law_groups sl__law_step sl__law_spec sl__law_kind sl__law_sign sl__law_result sl__law_compare sl__law_value sl__law_record sl_kind_of sl_is_record sl_need_record sl_sign sl_rank sl_spelling_of sl_step_result sl_compared sl_compare sl_need_pair sl_combined sl_law : Array (Option Value)} {oc_is_width kV_is_width dc_is_width pm_is_width cd_is_width ct_is_width oc_are_groups kV_are_groups dc_are_groups pm_are_groups cd_are_groups ct_are_groups oc_is_step kV_is_step dc_is_step pm_is_step cd_is_step ct_is_step oc_is_spec kV_is_spec dc_is_spec pm_is_spec cd_is_spec ct_is_spec oc_need_spec kV_need_spec dc_need_spec pm_need_spec cd_need_spec ct_need_spec oc_reversed_step kV_reversed_step dc_reversed_step pm_reversed_step cd_reversed_step ct_reversed_step oc_reversed_spec kV_reversed_spec dc_reversed_spec pm_reversed_spec cd_reversed_spec ct_reversed_spec oc__law_draw kV__law_draw dc__law_draw pm__law_draw cd__law_draw ct__law_draw oc__law_pick kV__law_pick dc__law_pick pm__law_pick cd__law_pick ct__law_pick oc__law_groups kV__law_groups dc__law_groups pm__law_groups cd__law_groups ct__law_groups oc__law_step kV__law_step dc__law_step pm__law_step cd__law_step ct__law_step oc__law_spec kV__law_spec dc__law_spec pm__law_spec cd__law_spec ct__law_spec oc__law_kind kV__law_kind dc__law_kind pm__law_kind cd__law_kind ct__law_kind oc__law_sign kV__law_sign dc__law_sign pm__law_sign cd__law_sign ct__law_sign oc__law_result kV__law_result dc__law_result pm__law_result cd__law_result ct__law_result oc__law_compare kV__law_compare dc__law_compare pm__law_compare cd__law_compare ct__law_compare oc__law_value kV__law_value dc__law_value pm__law_value cd__law_value ct__law_value oc__law_record kV__law_record dc__law_record pm__law_record cd__law_record ct__law_record oc_kind_of kV_kind_of dc_kind_of pm_kind_of cd_kind_of ct_kind_of oc_is_record kV_is_record dc_is_record pm_is_record cd_is_record ct_is_record oc_need_record kV_need_record dc_need_record pm_need_record cd_need_record ct_need_record oc_sign kV_sign dc_sign pm_sign cd_sign ct_sign oc_rank kV_rank dc_rank pm_rank cd_rank ct_rank oc_spelling_of kV_spelling_of dc_spelling_of pm_spelling_of cd_spelling_of ct_spelling_of oc_step_result kV_step_result dc_step_result pm_step_result cd_step_result ct_step_result oc_compared kV_compared dc_compared pm_compared cd_compared ct_compared oc_compare kV_compare dc_compare pm_compare cd_compare ct_compare oc_need_pair kV_need_pair dc_need_pair pm_need_pair cd_need_pair ct_need_pair oc_combined kV_combined dc_combined pm_combined cd_combined ct_combined oc_law kV_law dc_law pm_law cd_law ct_law : Value}
    {t_KINDS : Addr} {u_KINDS : Option Addr} {i_KINDS : Array Value} {n_KINDS : Nat} {v_KINDS : Array (Option Value)}
    {t_LARGEST : Value}
    {t_LETTERS : Value}
    {t_LETTERS_MOST : Value}
    {t_NAMES : Addr} {u_NAMES : Option Addr} {i_NAMES : Array Value} {n_NAMES : Nat} {v_NAMES : Array (Option Value)}
    {t_STEPS : Value}
    {e_Incomparable : Addr}
    {e_InvalidRecord : Addr}
    {e_InvalidSpec : Addr}
    {e_TooLong : Addr}
    (a_is_width : PySem.W.nsIn K mainGlobals "is_width" = some (some (.ref f_is_width)))
    (l_is_width : K.lookup f_is_width = some ⟨oc_is_width, od_is_width, .func (PySem.W.fnOf "is_width" "is_width" (defArgs s_is_width) (defBody s_is_width) (defScope s_is_width) .none kV_is_width dc_is_width pm_is_width an_is_width cd_is_width ct_is_width), sl_is_width⟩)
    (c_is_width : PySem.W.codeIn K cd_is_width "is_width" = true)
    (k_is_width : PySem.W.keepIn K (.ref f_is_width) = true)
    (a_are_groups : PySem.W.nsIn K mainGlobals "are_groups" = some (some (.ref f_are_groups)))
    (l_are_groups : K.lookup f_are_groups = some ⟨oc_are_groups, od_are_groups, .func (PySem.W.fnOf "are_groups" "are_groups" (defArgs s_are_groups) (defBody s_are_groups) (defScope s_are_groups) .none kV_are_groups dc_are_groups pm_are_groups an_are_groups cd_are_groups ct_are_groups), sl_are_groups⟩)
    (c_are_groups : PySem.W.codeIn K cd_are_groups "are_groups" = true)
    (k_are_groups : PySem.W.keepIn K (.ref f_are_groups) = true)
    (a_is_step : PySem.W.nsIn K mainGlobals "is_step" = some (some (.ref f_is_step)))
    (l_is_step : K.lookup f_is_step = some ⟨oc_is_step, od_is_step, .func (PySem.W.fnOf "is_step" "is_step" (defArgs s_is_step) (defBody s_is_step) (defScope s_is_step) .none kV_is_step dc_is_step pm_is_step an_is_step cd_is_step ct_is_step), sl_is_step⟩)
    (c_is_step : PySem.W.codeIn K cd_is_step "is_step" = true)
    (k_is_step : PySem.W.keepIn K (.ref f_is_step) = true)
    (a_is_spec : PySem.W.nsIn K mainGlobals "is_spec" = some (some (.ref f_is_spec)))
    (l_is_spec : K.lookup f_is_spec = some ⟨oc_is_spec, od_is_spec, .func (PySem.W.fnOf "is_spec" "is_spec" (defArgs s_is_spec) (defBody s_is_spec) (defScope s_is_spec) .none kV_is_spec dc_is_spec pm_is_spec an_is_spec cd_is_spec ct_is_spec), sl_is_spec⟩)
    (c_is_spec : PySem.W.codeIn K cd_is_spec "is_spec" = true)
    (k_is_spec : PySem.W.keepIn K (.ref f_is_spec) = true)
    (a_need_spec : PySem.W.nsIn K mainGlobals "need_spec" = some (some (.ref f_need_spec)))
    (l_need_spec : K.lookup f_need_spec = some ⟨oc_need_spec, od_need_spec, .func (PySem.W.fnOf "need_spec" "need_spec" (defArgs s_need_spec) (defBody s_need_spec) (defScope s_need_spec) .none kV_need_spec dc_need_spec pm_need_spec an_need_spec cd_need_spec ct_need_spec), sl_need_spec⟩)
    (c_need_spec : PySem.W.codeIn K cd_need_spec "need_spec" = true)
    (k_need_spec : PySem.W.keepIn K (.ref f_need_spec) = true)
    (a_reversed_step : PySem.W.nsIn K mainGlobals "reversed_step" = some (some (.ref f_reversed_step)))
    (l_reversed_step : K.lookup f_reversed_step = some ⟨oc_reversed_step, od_reversed_step, .func (PySem.W.fnOf "reversed_step" "reversed_step" (defArgs s_reversed_step) (defBody s_reversed_step) (defScope s_reversed_step) .none kV_reversed_step dc_reversed_step pm_reversed_step an_reversed_step cd_reversed_step ct_reversed_step), sl_reversed_step⟩)
    (c_reversed_step : PySem.W.codeIn K cd_reversed_step "reversed_step" = true)
    (k_reversed_step : PySem.W.keepIn K (.ref f_reversed_step) = true)
    (a_reversed_spec : PySem.W.nsIn K mainGlobals "reversed_spec" = some (some (.ref f_reversed_spec)))
    (l_reversed_spec : K.lookup f_reversed_spec = some ⟨oc_reversed_spec, od_reversed_spec, .func (PySem.W.fnOf "reversed_spec" "reversed_spec" (defArgs s_reversed_spec) (defBody s_reversed_spec) (defScope s_reversed_spec) .none kV_reversed_spec dc_reversed_spec pm_reversed_spec an_reversed_spec cd_reversed_spec ct_reversed_spec), sl_reversed_spec⟩)
    (c_reversed_spec : PySem.W.codeIn K cd_reversed_spec "reversed_spec" = true)
    (k_reversed_spec : PySem.W.keepIn K (.ref f_reversed_spec) = true)
    (a__law_draw : PySem.W.nsIn K mainGlobals "_law_draw" = some (some (.ref f__law_draw)))
    (l__law_draw : K.lookup f__law_draw = some ⟨oc__law_draw, od__law_draw, .func (PySem.W.fnOf "_law_draw" "_law_draw" (defArgs s__law_draw) (defBody s__law_draw) (defScope s__law_draw) .none kV__law_draw dc__law_draw pm__law_draw an__law_draw cd__law_draw ct__law_draw), sl__law_draw⟩)
    (c__law_draw : PySem.W.codeIn K cd__law_draw "_law_draw" = true)
    (k__law_draw : PySem.W.keepIn K (.ref f__law_draw) = true)
    (a__law_pick : PySem.W.nsIn K mainGlobals "_law_pick" = some (some (.ref f__law_pick)))
    (l__law_pick : K.lookup f__law_pick = some ⟨oc__law_pick, od__law_pick, .func (PySem.W.fnOf "_law_pick" "_law_pick" (defArgs s__law_pick) (defBody s__law_pick) (defScope s__law_pick) .none kV__law_pick dc__law_pick pm__law_pick an__law_pick cd__law_pick ct__law_pick), sl__law_pick⟩)
    (c__law_pick : PySem.W.codeIn K cd__law_pick "_law_pick" = true)
    (k__law_pick : PySem.W.keepIn K (.ref f__law_pick) = true)
    (a__law_groups : PySem.W.nsIn K mainGlobals "_law_groups" = some (some (.ref f__law_groups)))
    (l__law_groups : K.lookup f__law_groups = some ⟨oc__law_groups, od__law_groups, .func (PySem.W.fnOf "_law_groups" "_law_groups" (defArgs s__law_groups) (defBody s__law_groups) (defScope s__law_groups) .none kV__law_groups dc__law_groups pm__law_groups an__law_groups cd__law_groups ct__law_groups), sl__law_groups⟩)
    (c__law_groups : PySem.W.codeIn K cd__law_groups "_law_groups" = true)
    (k__law_groups : PySem.W.keepIn K (.ref f__law_groups) = true)
    (a__law_step : PySem.W.nsIn K mainGlobals "_law_step" = some (some (.ref f__law_step)))
    (l__law_step : K.lookup f__law_step = some ⟨oc__law_step, od__law_step, .func (PySem.W.fnOf "_law_step" "_law_step" (defArgs s__law_step) (defBody s__law_step) (defScope s__law_step) .none kV__law_step dc__law_step pm__law_step an__law_step cd__law_step ct__law_step), sl__law_step⟩)
    (c__law_step : PySem.W.codeIn K cd__law_step "_law_step" = true)
    (k__law_step : PySem.W.keepIn K (.ref f__law_step) = true)
    (a__law_spec : PySem.W.nsIn K mainGlobals "_law_spec" = some (some (.ref f__law_spec)))
    (l__law_spec : K.lookup f__law_spec = some ⟨oc__law_spec, od__law_spec, .func (PySem.W.fnOf "_law_spec" "_law_spec" (defArgs s__law_spec) (defBody s__law_spec) (defScope s__law_spec) .none kV__law_spec dc__law_spec pm__law_spec an__law_spec cd__law_spec ct__law_spec), sl__law_spec⟩)
    (c__law_spec : PySem.W.codeIn K cd__law_spec "_law_spec" = true)
    (k__law_spec : PySem.W.keepIn K (.ref f__law_spec) = true)
    (a__law_kind : PySem.W.nsIn K mainGlobals "_law_kind" = some (some (.ref f__law_kind)))
    (l__law_kind : K.lookup f__law_kind = some ⟨oc__law_kind, od__law_kind, .func (PySem.W.fnOf "_law_kind" "_law_kind" (defArgs s__law_kind) (defBody s__law_kind) (defScope s__law_kind) .none kV__law_kind dc__law_kind pm__law_kind an__law_kind cd__law_kind ct__law_kind), sl__law_kind⟩)
    (c__law_kind : PySem.W.codeIn K cd__law_kind "_law_kind" = true)
    (k__law_kind : PySem.W.keepIn K (.ref f__law_kind) = true)
    (a__law_sign : PySem.W.nsIn K mainGlobals "_law_sign" = some (some (.ref f__law_sign)))
    (l__law_sign : K.lookup f__law_sign = some ⟨oc__law_sign, od__law_sign, .func (PySem.W.fnOf "_law_sign" "_law_sign" (defArgs s__law_sign) (defBody s__law_sign) (defScope s__law_sign) .none kV__law_sign dc__law_sign pm__law_sign an__law_sign cd__law_sign ct__law_sign), sl__law_sign⟩)
    (c__law_sign : PySem.W.codeIn K cd__law_sign "_law_sign" = true)
    (k__law_sign : PySem.W.keepIn K (.ref f__law_sign) = true)
    (a__law_result : PySem.W.nsIn K mainGlobals "_law_result" = some (some (.ref f__law_result)))
    (l__law_result : K.lookup f__law_result = some ⟨oc__law_result, od__law_result, .func (PySem.W.fnOf "_law_result" "_law_result" (defArgs s__law_result) (defBody s__law_result) (defScope s__law_result) .none kV__law_result dc__law_result pm__law_result an__law_result cd__law_result ct__law_result), sl__law_result⟩)
    (c__law_result : PySem.W.codeIn K cd__law_result "_law_result" = true)
    (k__law_result : PySem.W.keepIn K (.ref f__law_result) = true)
    (a__law_compare : PySem.W.nsIn K mainGlobals "_law_compare" = some (some (.ref f__law_compare)))
    (l__law_compare : K.lookup f__law_compare = some ⟨oc__law_compare, od__law_compare, .func (PySem.W.fnOf "_law_compare" "_law_compare" (defArgs s__law_compare) (defBody s__law_compare) (defScope s__law_compare) .none kV__law_compare dc__law_compare pm__law_compare an__law_compare cd__law_compare ct__law_compare), sl__law_compare⟩)
    (c__law_compare : PySem.W.codeIn K cd__law_compare "_law_compare" = true)
    (k__law_compare : PySem.W.keepIn K (.ref f__law_compare) = true)
    (a__law_value : PySem.W.nsIn K mainGlobals "_law_value" = some (some (.ref f__law_value)))
    (l__law_value : K.lookup f__law_value = some ⟨oc__law_value, od__law_value, .func (PySem.W.fnOf "_law_value" "_law_value" (defArgs s__law_value) (defBody s__law_value) (defScope s__law_value) .none kV__law_value dc__law_value pm__law_value an__law_value cd__law_value ct__law_value), sl__law_value⟩)
    (c__law_value : PySem.W.codeIn K cd__law_value "_law_value" = true)
    (k__law_value : PySem.W.keepIn K (.ref f__law_value) = true)
    (a__law_record : PySem.W.nsIn K mainGlobals "_law_record" = some (some (.ref f__law_record)))
    (l__law_record : K.lookup f__law_record = some ⟨oc__law_record, od__law_record, .func (PySem.W.fnOf "_law_record" "_law_record" (defArgs s__law_record) (defBody s__law_record) (defScope s__law_record) .none kV__law_record dc__law_record pm__law_record an__law_record cd__law_record ct__law_record), sl__law_record⟩)
    (c__law_record : PySem.W.codeIn K cd__law_record "_law_record" = true)
    (k__law_record : PySem.W.keepIn K (.ref f__law_record) = true)
    (a_kind_of : PySem.W.nsIn K mainGlobals "kind_of" = some (some (.ref f_kind_of)))
    (l_kind_of : K.lookup f_kind_of = some ⟨oc_kind_of, od_kind_of, .func (PySem.W.fnOf "kind_of" "kind_of" (defArgs s_kind_of) (defBody s_kind_of) (defScope s_kind_of) .none kV_kind_of dc_kind_of pm_kind_of an_kind_of cd_kind_of ct_kind_of), sl_kind_of⟩)
    (c_kind_of : PySem.W.codeIn K cd_kind_of "kind_of" = true)
    (k_kind_of : PySem.W.keepIn K (.ref f_kind_of) = true)
    (a_is_record : PySem.W.nsIn K mainGlobals "is_record" = some (some (.ref f_is_record)))
    (l_is_record : K.lookup f_is_record = some ⟨oc_is_record, od_is_record, .func (PySem.W.fnOf "is_record" "is_record" (defArgs s_is_record) (defBody s_is_record) (defScope s_is_record) .none kV_is_record dc_is_record pm_is_record an_is_record cd_is_record ct_is_record), sl_is_record⟩)
    (c_is_record : PySem.W.codeIn K cd_is_record "is_record" = true)
    (k_is_record : PySem.W.keepIn K (.ref f_is_record) = true)
    (a_need_record : PySem.W.nsIn K mainGlobals "need_record" = some (some (.ref f_need_record)))
    (l_need_record : K.lookup f_need_record = some ⟨oc_need_record, od_need_record, .func (PySem.W.fnOf "need_record" "need_record" (defArgs s_need_record) (defBody s_need_record) (defScope s_need_record) .none kV_need_record dc_need_record pm_need_record an_need_record cd_need_record ct_need_record), sl_need_record⟩)
    (c_need_record : PySem.W.codeIn K cd_need_record "need_record" = true)
    (k_need_record : PySem.W.keepIn K (.ref f_need_record) = true)
    (a_sign : PySem.W.nsIn K mainGlobals "sign" = some (some (.ref f_sign)))
    (l_sign : K.lookup f_sign = some ⟨oc_sign, od_sign, .func (PySem.W.fnOf "sign" "sign" (defArgs s_sign) (defBody s_sign) (defScope s_sign) .none kV_sign dc_sign pm_sign an_sign cd_sign ct_sign), sl_sign⟩)
    (c_sign : PySem.W.codeIn K cd_sign "sign" = true)
    (k_sign : PySem.W.keepIn K (.ref f_sign) = true)
    (a_rank : PySem.W.nsIn K mainGlobals "rank" = some (some (.ref f_rank)))
    (l_rank : K.lookup f_rank = some ⟨oc_rank, od_rank, .func (PySem.W.fnOf "rank" "rank" (defArgs s_rank) (defBody s_rank) (defScope s_rank) .none kV_rank dc_rank pm_rank an_rank cd_rank ct_rank), sl_rank⟩)
    (c_rank : PySem.W.codeIn K cd_rank "rank" = true)
    (k_rank : PySem.W.keepIn K (.ref f_rank) = true)
    (a_spelling_of : PySem.W.nsIn K mainGlobals "spelling_of" = some (some (.ref f_spelling_of)))
    (l_spelling_of : K.lookup f_spelling_of = some ⟨oc_spelling_of, od_spelling_of, .func (PySem.W.fnOf "spelling_of" "spelling_of" (defArgs s_spelling_of) (defBody s_spelling_of) (defScope s_spelling_of) .none kV_spelling_of dc_spelling_of pm_spelling_of an_spelling_of cd_spelling_of ct_spelling_of), sl_spelling_of⟩)
    (c_spelling_of : PySem.W.codeIn K cd_spelling_of "spelling_of" = true)
    (k_spelling_of : PySem.W.keepIn K (.ref f_spelling_of) = true)
    (a_step_result : PySem.W.nsIn K mainGlobals "step_result" = some (some (.ref f_step_result)))
    (l_step_result : K.lookup f_step_result = some ⟨oc_step_result, od_step_result, .func (PySem.W.fnOf "step_result" "step_result" (defArgs s_step_result) (defBody s_step_result) (defScope s_step_result) .none kV_step_result dc_step_result pm_step_result an_step_result cd_step_result ct_step_result), sl_step_result⟩)
    (c_step_result : PySem.W.codeIn K cd_step_result "step_result" = true)
    (k_step_result : PySem.W.keepIn K (.ref f_step_result) = true)
    (a_compared : PySem.W.nsIn K mainGlobals "compared" = some (some (.ref f_compared)))
    (l_compared : K.lookup f_compared = some ⟨oc_compared, od_compared, .func (PySem.W.fnOf "compared" "compared" (defArgs s_compared) (defBody s_compared) (defScope s_compared) .none kV_compared dc_compared pm_compared an_compared cd_compared ct_compared), sl_compared⟩)
    (c_compared : PySem.W.codeIn K cd_compared "compared" = true)
    (k_compared : PySem.W.keepIn K (.ref f_compared) = true)
    (a_compare : PySem.W.nsIn K mainGlobals "compare" = some (some (.ref f_compare)))
    (l_compare : K.lookup f_compare = some ⟨oc_compare, od_compare, .func (PySem.W.fnOf "compare" "compare" (defArgs s_compare) (defBody s_compare) (defScope s_compare) .none kV_compare dc_compare pm_compare an_compare cd_compare ct_compare), sl_compare⟩)
    (c_compare : PySem.W.codeIn K cd_compare "compare" = true)
    (k_compare : PySem.W.keepIn K (.ref f_compare) = true)
    (a_need_pair : PySem.W.nsIn K mainGlobals "need_pair" = some (some (.ref f_need_pair)))
    (l_need_pair : K.lookup f_need_pair = some ⟨oc_need_pair, od_need_pair, .func (PySem.W.fnOf "need_pair" "need_pair" (defArgs s_need_pair) (defBody s_need_pair) (defScope s_need_pair) .none kV_need_pair dc_need_pair pm_need_pair an_need_pair cd_need_pair ct_need_pair), sl_need_pair⟩)
    (c_need_pair : PySem.W.codeIn K cd_need_pair "need_pair" = true)
    (k_need_pair : PySem.W.keepIn K (.ref f_need_pair) = true)
    (a_combined : PySem.W.nsIn K mainGlobals "combined" = some (some (.ref f_combined)))
    (l_combined : K.lookup f_combined = some ⟨oc_combined, od_combined, .func (PySem.W.fnOf "combined" "combined" (defArgs s_combined) (defBody s_combined) (defScope s_combined) .none kV_combined dc_combined pm_combined an_combined cd_combined ct_combined), sl_combined⟩)
    (c_combined : PySem.W.codeIn K cd_combined "combined" = true)
    (k_combined : PySem.W.keepIn K (.ref f_combined) = true)
    (a_law : PySem.W.nsIn K mainGlobals "law" = some (some (.ref f_law)))
    (l_law : K.lookup f_law = some ⟨oc_law, od_law, .func (PySem.W.fnOf "law" "law" (defArgs s_law) (defBody s_law) (defScope s_law) .none kV_law dc_law pm_law an_law cd_law ct_law), sl_law⟩)
    (c_law : PySem.W.codeIn K cd_law "law" = true)
    (k_law : PySem.W.keepIn K (.ref f_law) = true)
    (z_all : PySem.W.nsIn K mainGlobals "all" = some none)
    (z_bool : PySem.W.nsIn K mainGlobals "bool" = some none)
    (z_int : PySem.W.nsIn K mainGlobals "int" = some none)
    (z_isinstance : PySem.W.nsIn K mainGlobals "isinstance" = some none)
    (z_len : PySem.W.nsIn K mainGlobals "len" = some none)
    (z_range : PySem.W.nsIn K mainGlobals "range" = some none)
    (z_sorted : PySem.W.nsIn K mainGlobals "sorted" = some none)
    (z_str : PySem.W.nsIn K mainGlobals "str" = some none)
    (z_tuple : PySem.W.nsIn K mainGlobals "tuple" = some none)
    (q_KINDS : PySem.W.nsIn K mainGlobals "KINDS" = some (some (.ref t_KINDS)))
    (p_KINDS : K.lookup t_KINDS = some ⟨.type "tuple", u_KINDS, .seq i_KINDS n_KINDS, v_KINDS⟩)
    (w_KINDS : valsD i_KINDS.toList = some [(.str "none"), (.str "number"), (.str "text")])
    (y_KINDS : i_KINDS.size ≤ 1000)
    (q_LARGEST : PySem.W.nsIn K mainGlobals "LARGEST" = some (some t_LARGEST))
    (w_LARGEST : valD t_LARGEST = some (.int 999999999))
    (q_LETTERS : PySem.W.nsIn K mainGlobals "LETTERS" = some (some t_LETTERS))
    (w_LETTERS : valD t_LETTERS = some (.str "abcdefghijklmnopqrstuvwxyz"))
    (q_LETTERS_MOST : PySem.W.nsIn K mainGlobals "LETTERS_MOST" = some (some t_LETTERS_MOST))
    (w_LETTERS_MOST : valD t_LETTERS_MOST = some (.int 12))
    (q_NAMES : PySem.W.nsIn K mainGlobals "NAMES" = some (some (.ref t_NAMES)))
    (p_NAMES : K.lookup t_NAMES = some ⟨.type "tuple", u_NAMES, .seq i_NAMES n_NAMES, v_NAMES⟩)
    (w_NAMES : valsD i_NAMES.toList = some [(.str "number"), (.str "text"), (.str "length"), (.str "spelling")])
    (y_NAMES : i_NAMES.size ≤ 1000)
    (q_STEPS : PySem.W.nsIn K mainGlobals "STEPS" = some (some t_STEPS))
    (w_STEPS : valD t_STEPS = some (.int 6))
    (xa_Incomparable : PySem.W.nsIn K mainGlobals "Incomparable" = some (some (.ref e_Incomparable)))
    (xb_Incomparable : PySem.W.excIn K e_Incomparable [.type "ValueError", .type "Exception", .type "BaseException", .type "object"] "ValueError.__new__" = true)
    (xc_Incomparable : PySem.W.keepIn K (.ref e_Incomparable) = true)
    (xd_Incomparable : PySem.W.subIn K (.ref e_Incomparable) (.type "BaseException") = some true)
    (xe_Incomparable : PySem.W.typeIn K (.ref e_Incomparable) = some (.type "type"))
    (xa_InvalidRecord : PySem.W.nsIn K mainGlobals "InvalidRecord" = some (some (.ref e_InvalidRecord)))
    (xb_InvalidRecord : PySem.W.excIn K e_InvalidRecord [.type "ValueError", .type "Exception", .type "BaseException", .type "object"] "ValueError.__new__" = true)
    (xc_InvalidRecord : PySem.W.keepIn K (.ref e_InvalidRecord) = true)
    (xd_InvalidRecord : PySem.W.subIn K (.ref e_InvalidRecord) (.type "BaseException") = some true)
    (xe_InvalidRecord : PySem.W.typeIn K (.ref e_InvalidRecord) = some (.type "type"))
    (xa_InvalidSpec : PySem.W.nsIn K mainGlobals "InvalidSpec" = some (some (.ref e_InvalidSpec)))
    (xb_InvalidSpec : PySem.W.excIn K e_InvalidSpec [.type "ValueError", .type "Exception", .type "BaseException", .type "object"] "ValueError.__new__" = true)
    (xc_InvalidSpec : PySem.W.keepIn K (.ref e_InvalidSpec) = true)
    (xd_InvalidSpec : PySem.W.subIn K (.ref e_InvalidSpec) (.type "BaseException") = some true)
    (xe_InvalidSpec : PySem.W.typeIn K (.ref e_InvalidSpec) = some (.type "type"))
    (xa_TooLong : PySem.W.nsIn K mainGlobals "TooLong" = some (some (.ref e_TooLong)))
    (xb_TooLong : PySem.W.excIn K e_TooLong [.type "ValueError", .type "Exception", .type "BaseException", .type "object"] "ValueError.__new__" = true)
    (xc_TooLong : PySem.W.keepIn K (.ref e_TooLong) = true)
    (xd_TooLong : PySem.W.subIn K (.ref e_TooLong) (.type "BaseException") = some true)
    (xe_TooLong : PySem.W.typeIn K (.ref e_TooLong) = some (.type "type"))
    : ∃ fd : FuncData, (∀ (s : Shared) (v : Value), BindsTo s fd ⟨[v], []⟩ [("_law_script", v)]) ∧ ∀ base : Heap, FnOk l.prog w K mg base (L2.CX l.prog w) 7 fa fd ["_law_script"] (spLaw K) := by
  have e := hfa.symm.trans (PySem.W.mg_of X G a_law)
  cases e
  have T : Txt l.prog w K mg := ⟨PySem.W.mg_none_of X G z_all, PySem.W.mg_none_of X G z_bool, PySem.W.mg_none_of X G z_int, PySem.W.mg_none_of X G z_isinstance, PySem.W.mg_none_of X G z_len, PySem.W.mg_none_of X G z_range, PySem.W.mg_none_of X G z_sorted, PySem.W.mg_none_of X G z_str, PySem.W.mg_none_of X G z_tuple, kr_tup (PySem.W.mg_of X G q_KINDS) p_KINDS w_KINDS y_KINDS, kr_val (PySem.W.mg_of X G q_LARGEST) w_LARGEST, kr_val (PySem.W.mg_of X G q_LETTERS) w_LETTERS, kr_val (PySem.W.mg_of X G q_LETTERS_MOST) w_LETTERS_MOST, kr_tup (PySem.W.mg_of X G q_NAMES) p_NAMES w_NAMES y_NAMES, kr_val (PySem.W.mg_of X G q_STEPS) w_STEPS, ⟨⟨_, PySem.W.mg_of X G xa_Incomparable, xb_Incomparable, xc_Incomparable, xd_Incomparable, xe_Incomparable⟩⟩, ⟨⟨_, PySem.W.mg_of X G xa_InvalidRecord, xb_InvalidRecord, xc_InvalidRecord, xd_InvalidRecord, xe_InvalidRecord⟩⟩, ⟨⟨_, PySem.W.mg_of X G xa_InvalidSpec, xb_InvalidSpec, xc_InvalidSpec, xd_InvalidSpec, xe_InvalidSpec⟩⟩, ⟨⟨_, PySem.W.mg_of X G xa_TooLong, xb_TooLong, xc_TooLong, xd_TooLong, xe_TooLong⟩⟩⟩
  have Fn_is_width := fun_mk (st := s_is_width) l_is_width c_is_width k_is_width
  have C_is_width : Cal l.prog w K mg "is_width" 1 ["value"] F_is_width := cal_mk (PySem.W.mg_of X G a_is_width) (ok_is_width T  Fn_is_width) k_is_width (Fn_is_width.binds fun _ _ _ _ _ _ us hl => match us, hl with | [_], _ => rfl)
  have Fn_are_groups := fun_mk (st := s_are_groups) l_are_groups c_are_groups k_are_groups
  have C_are_groups : Cal l.prog w K mg "are_groups" 1 ["value"] F_are_groups := cal_mk (PySem.W.mg_of X G a_are_groups) (ok_are_groups T  Fn_are_groups) k_are_groups (Fn_are_groups.binds fun _ _ _ _ _ _ us hl => match us, hl with | [_], _ => rfl)
  have Fn_is_step := fun_mk (st := s_is_step) l_is_step c_is_step k_is_step
  have C_is_step : Cal l.prog w K mg "is_step" 2 ["value", "width"] F_is_step := cal_mk (PySem.W.mg_of X G a_is_step) (ok_is_step T C_are_groups Fn_is_step) k_is_step (Fn_is_step.binds fun _ _ _ _ _ _ us hl => match us, hl with | [_, _], _ => rfl)
  have Fn_is_spec := fun_mk (st := s_is_spec) l_is_spec c_is_spec k_is_spec
  have C_is_spec : Cal l.prog w K mg "is_spec" 3 ["value"] F_is_spec := cal_mk (PySem.W.mg_of X G a_is_spec) (ok_is_spec T C_is_width C_is_step Fn_is_spec) k_is_spec (Fn_is_spec.binds fun _ _ _ _ _ _ us hl => match us, hl with | [_], _ => rfl)
  have Fn_need_spec := fun_mk (st := s_need_spec) l_need_spec c_need_spec k_need_spec
  have C_need_spec : Cal l.prog w K mg "need_spec" 4 ["value"] F_need_spec := cal_mk (PySem.W.mg_of X G a_need_spec) (ok_need_spec T C_is_spec Fn_need_spec) k_need_spec (Fn_need_spec.binds fun _ _ _ _ _ _ us hl => match us, hl with | [_], _ => rfl)
  have Fn_reversed_step := fun_mk (st := s_reversed_step) l_reversed_step c_reversed_step k_reversed_step
  have C_reversed_step : Cal l.prog w K mg "reversed_step" 1 ["step"] F_reversed_step := cal_mk (PySem.W.mg_of X G a_reversed_step) (ok_reversed_step T  Fn_reversed_step) k_reversed_step (Fn_reversed_step.binds fun _ _ _ _ _ _ us hl => match us, hl with | [_], _ => rfl)
  have Fn_reversed_spec := fun_mk (st := s_reversed_spec) l_reversed_spec c_reversed_spec k_reversed_spec
  have C_reversed_spec : Cal l.prog w K mg "reversed_spec" 5 ["spec"] F_reversed_spec := cal_mk (PySem.W.mg_of X G a_reversed_spec) (ok_reversed_spec T C_need_spec C_reversed_step Fn_reversed_spec) k_reversed_spec (Fn_reversed_spec.binds fun _ _ _ _ _ _ us hl => match us, hl with | [_], _ => rfl)
  have Fn__law_draw := fun_mk (st := s__law_draw) l__law_draw c__law_draw k__law_draw
  have C__law_draw : Cal l.prog w K mg "_law_draw" 1 ["_law_script", "_law_town", "_law_many"] F__law_draw := cal_mk (PySem.W.mg_of X G a__law_draw) (ok__law_draw T  Fn__law_draw) k__law_draw (Fn__law_draw.binds fun _ _ _ _ _ _ us hl => match us, hl with | [_, _, _], _ => rfl)
  have Fn__law_pick := fun_mk (st := s__law_pick) l__law_pick c__law_pick k__law_pick
  have C__law_pick : Cal l.prog w K mg "_law_pick" 2 ["_law_script", "_law_town", "_law_some"] F__law_pick := cal_mk (PySem.W.mg_of X G a__law_pick) (ok__law_pick T C__law_draw Fn__law_pick) k__law_pick (Fn__law_pick.binds fun _ _ _ _ _ _ us hl => match us, hl with | [_, _, _], _ => rfl)
  have Fn__law_groups := fun_mk (st := s__law_groups) l__law_groups c__law_groups k__law_groups
  have C__law_groups : Cal l.prog w K mg "_law_groups" 2 ["_law_script", "_law_town"] F__law_groups := cal_mk (PySem.W.mg_of X G a__law_groups) (ok__law_groups T C__law_draw Fn__law_groups) k__law_groups (Fn__law_groups.binds fun _ _ _ _ _ _ us hl => match us, hl with | [_, _], _ => rfl)
  have Fn__law_step := fun_mk (st := s__law_step) l__law_step c__law_step k__law_step
  have C__law_step : Cal l.prog w K mg "_law_step" 3 ["_law_script", "_law_town", "_law_width"] F__law_step := cal_mk (PySem.W.mg_of X G a__law_step) (ok__law_step T C__law_pick C__law_groups C__law_draw Fn__law_step) k__law_step (Fn__law_step.binds fun _ _ _ _ _ _ us hl => match us, hl with | [_, _, _], _ => rfl)
  have Fn__law_spec := fun_mk (st := s__law_spec) l__law_spec c__law_spec k__law_spec
  have C__law_spec : Cal l.prog w K mg "_law_spec" 4 ["_law_script", "_law_town", "_law_width", "_law_most"] F__law_spec := cal_mk (PySem.W.mg_of X G a__law_spec) (ok__law_spec T C__law_step C__law_draw Fn__law_spec) k__law_spec (Fn__law_spec.binds fun _ _ _ _ _ _ us hl => match us, hl with | [_, _, _, _], _ => rfl)
  have Fn__law_kind := fun_mk (st := s__law_kind) l__law_kind c__law_kind k__law_kind
  have C__law_kind : Cal l.prog w K mg "_law_kind" 1 ["_law_value_here"] F__law_kind := cal_mk (PySem.W.mg_of X G a__law_kind) (ok__law_kind T  Fn__law_kind) k__law_kind (Fn__law_kind.binds fun _ _ _ _ _ _ us hl => match us, hl with | [_], _ => rfl)
  have Fn__law_sign := fun_mk (st := s__law_sign) l__law_sign c__law_sign k__law_sign
  have C__law_sign : Cal l.prog w K mg "_law_sign" 1 ["_law_one", "_law_other"] F__law_sign := cal_mk (PySem.W.mg_of X G a__law_sign) (ok__law_sign T  Fn__law_sign) k__law_sign (Fn__law_sign.binds fun _ _ _ _ _ _ us hl => match us, hl with | [_, _], _ => rfl)
  have Fn__law_result := fun_mk (st := s__law_result) l__law_result c__law_result k__law_result
  have C__law_result : Cal l.prog w K mg "_law_result" 2 ["_law_step_here", "_law_one", "_law_other"] F__law_result := cal_mk (PySem.W.mg_of X G a__law_result) (ok__law_result T C__law_kind C__law_sign Fn__law_result) k__law_result (Fn__law_result.binds fun _ _ _ _ _ _ us hl => match us, hl with | [_, _, _], _ => rfl)
  have Fn__law_compare := fun_mk (st := s__law_compare) l__law_compare c__law_compare k__law_compare
  have C__law_compare : Cal l.prog w K mg "_law_compare" 3 ["_law_steps", "_law_one", "_law_other"] F__law_compare := cal_mk (PySem.W.mg_of X G a__law_compare) (ok__law_compare T C__law_result Fn__law_compare) k__law_compare (Fn__law_compare.binds fun _ _ _ _ _ _ us hl => match us, hl with | [_, _, _], _ => rfl)
  have Fn__law_value := fun_mk (st := s__law_value) l__law_value c__law_value k__law_value
  have C__law_value : Cal l.prog w K mg "_law_value" 3 ["_law_script", "_law_town"] F__law_value := cal_mk (PySem.W.mg_of X G a__law_value) (ok__law_value T C__law_pick C__law_draw Fn__law_value) k__law_value (Fn__law_value.binds fun _ _ _ _ _ _ us hl => match us, hl with | [_, _], _ => rfl)
  have Fn__law_record := fun_mk (st := s__law_record) l__law_record c__law_record k__law_record
  have C__law_record : Cal l.prog w K mg "_law_record" 4 ["_law_script", "_law_town", "_law_width"] F__law_record := cal_mk (PySem.W.mg_of X G a__law_record) (ok__law_record T C__law_value Fn__law_record) k__law_record (Fn__law_record.binds fun _ _ _ _ _ _ us hl => match us, hl with | [_, _, _], _ => rfl)
  have Fn_kind_of := fun_mk (st := s_kind_of) l_kind_of c_kind_of k_kind_of
  have C_kind_of : Cal l.prog w K mg "kind_of" 1 ["value"] F_kind_of := cal_mk (PySem.W.mg_of X G a_kind_of) (ok_kind_of T  Fn_kind_of) k_kind_of (Fn_kind_of.binds fun _ _ _ _ _ _ us hl => match us, hl with | [_], _ => rfl)
  have Fn_is_record := fun_mk (st := s_is_record) l_is_record c_is_record k_is_record
  have C_is_record : Cal l.prog w K mg "is_record" 2 ["value", "width"] F_is_record := cal_mk (PySem.W.mg_of X G a_is_record) (ok_is_record T C_kind_of Fn_is_record) k_is_record (Fn_is_record.binds fun _ _ _ _ _ _ us hl => match us, hl with | [_, _], _ => rfl)
  have Fn_need_record := fun_mk (st := s_need_record) l_need_record c_need_record k_need_record
  have C_need_record : Cal l.prog w K mg "need_record" 3 ["spec", "value"] F_need_record := cal_mk (PySem.W.mg_of X G a_need_record) (ok_need_record T C_is_record Fn_need_record) k_need_record (Fn_need_record.binds fun _ _ _ _ _ _ us hl => match us, hl with | [_, _], _ => rfl)
  have Fn_sign := fun_mk (st := s_sign) l_sign c_sign k_sign
  have C_sign : Cal l.prog w K mg "sign" 1 ["one", "other"] F_sign := cal_mk (PySem.W.mg_of X G a_sign) (ok_sign T  Fn_sign) k_sign (Fn_sign.binds fun _ _ _ _ _ _ us hl => match us, hl with | [_, _], _ => rfl)
  have Fn_rank := fun_mk (st := s_rank) l_rank c_rank k_rank
  have C_rank : Cal l.prog w K mg "rank" 1 ["groups", "kind"] F_rank := cal_mk (PySem.W.mg_of X G a_rank) (ok_rank T  Fn_rank) k_rank (Fn_rank.binds fun _ _ _ _ _ _ us hl => match us, hl with | [_, _], _ => rfl)
  have Fn_spelling_of := fun_mk (st := s_spelling_of) l_spelling_of c_spelling_of k_spelling_of
  have C_spelling_of : Cal l.prog w K mg "spelling_of" 1 ["value"] F_spelling_of := cal_mk (PySem.W.mg_of X G a_spelling_of) (ok_spelling_of T  Fn_spelling_of) k_spelling_of (Fn_spelling_of.binds fun _ _ _ _ _ _ us hl => match us, hl with | [_], _ => rfl)
  have Fn_step_result := fun_mk (st := s_step_result) l_step_result c_step_result k_step_result
  have C_step_result : Cal l.prog w K mg "step_result" 2 ["step", "one", "other"] F_step_result := cal_mk (PySem.W.mg_of X G a_step_result) (ok_step_result T C_kind_of C_sign C_rank C_spelling_of Fn_step_result) k_step_result (Fn_step_result.binds fun _ _ _ _ _ _ us hl => match us, hl with | [_, _, _], _ => rfl)
  have Fn_compared := fun_mk (st := s_compared) l_compared c_compared k_compared
  have C_compared : Cal l.prog w K mg "compared" 3 ["steps", "one", "other"] F_compared := cal_mk (PySem.W.mg_of X G a_compared) (ok_compared T C_step_result Fn_compared) k_compared (Fn_compared.binds fun _ _ _ _ _ _ us hl => match us, hl with | [_, _, _], _ => rfl)
  have Fn_compare := fun_mk (st := s_compare) l_compare c_compare k_compare
  have C_compare : Cal l.prog w K mg "compare" 5 ["spec", "a", "b"] F_compare := cal_mk (PySem.W.mg_of X G a_compare) (ok_compare T C_need_spec C_need_record C_compared Fn_compare) k_compare (Fn_compare.binds fun _ _ _ _ _ _ us hl => match us, hl with | [_, _, _], _ => rfl)
  have Fn_need_pair := fun_mk (st := s_need_pair) l_need_pair c_need_pair k_need_pair
  have C_need_pair : Cal l.prog w K mg "need_pair" 5 ["spec", "other"] F_need_pair := cal_mk (PySem.W.mg_of X G a_need_pair) (ok_need_pair T C_need_spec Fn_need_pair) k_need_pair (Fn_need_pair.binds fun _ _ _ _ _ _ us hl => match us, hl with | [_, _], _ => rfl)
  have Fn_combined := fun_mk (st := s_combined) l_combined c_combined k_combined
  have C_combined : Cal l.prog w K mg "combined" 6 ["spec", "other"] F_combined := cal_mk (PySem.W.mg_of X G a_combined) (ok_combined T C_need_pair Fn_combined) k_combined (Fn_combined.binds fun _ _ _ _ _ _ us hl => match us, hl with | [_, _], _ => rfl)
  have Fn_law := fun_mk (st := s_law) l_law c_law k_law
  exact ⟨_, fun s v => .of_eq rfl, fun base => (ok_law T C_reversed_spec C__law_draw C__law_spec C__law_compare C_is_spec C__law_record C_compare C_combined Fn_law base).imp fun vs H Q E h => law_sp main h⟩
end k01
open PySem PySem.W PyProof.Rows
set_option maxRecDepth 100000 in
set_option maxHeartbeats 0 in
theorem PySem.Challenge.cw_sortspec_k01_whole_compare_holds : PySem.Challenge.rw_sortspec_k01_whole_compare.Holds := by
  w_on; o_law; k_head; (case hw => w_witness2)
  k_fill
  refine SS.law_end (k := 7) (x := "_law_script") rfl rfl ⟨rfl, by decide, by decide⟩ (fun w h Y => PySem.W.kIn_of Y) ?go
  case go =>
    intro w mg fa h KX G hmg
    refine' k01.all_mk KX G hmg ?a_is_width ?l_is_width ?c_is_width ?k_is_width ?a_are_groups ?l_are_groups ?c_are_groups ?k_are_groups ?a_is_step ?l_is_step ?c_is_step ?k_is_step ?a_is_spec ?l_is_spec ?c_is_spec ?k_is_spec ?a_need_spec ?l_need_spec ?c_need_spec ?k_need_spec ?a_reversed_step ?l_reversed_step ?c_reversed_step ?k_reversed_step ?a_reversed_spec ?l_reversed_spec ?c_reversed_spec ?k_reversed_spec ?a__law_draw ?l__law_draw ?c__law_draw ?k__law_draw ?a__law_pick ?l__law_pick ?c__law_pick ?k__law_pick ?a__law_groups ?l__law_groups ?c__law_groups ?k__law_groups ?a__law_step ?l__law_step ?c__law_step ?k__law_step ?a__law_spec ?l__law_spec ?c__law_spec ?k__law_spec ?a__law_kind ?l__law_kind ?c__law_kind ?k__law_kind ?a__law_sign ?l__law_sign ?c__law_sign ?k__law_sign ?a__law_result ?l__law_result ?c__law_result ?k__law_result ?a__law_compare ?l__law_compare ?c__law_compare ?k__law_compare ?a__law_value ?l__law_value ?c__law_value ?k__law_value ?a__law_record ?l__law_record ?c__law_record ?k__law_record ?a_kind_of ?l_kind_of ?c_kind_of ?k_kind_of ?a_is_record ?l_is_record ?c_is_record ?k_is_record ?a_need_record ?l_need_record ?c_need_record ?k_need_record ?a_sign ?l_sign ?c_sign ?k_sign ?a_rank ?l_rank ?c_rank ?k_rank ?a_spelling_of ?l_spelling_of ?c_spelling_of ?k_spelling_of ?a_step_result ?l_step_result ?c_step_result ?k_step_result ?a_compared ?l_compared ?c_compared ?k_compared ?a_compare ?l_compare ?c_compare ?k_compare ?a_need_pair ?l_need_pair ?c_need_pair ?k_need_pair ?a_combined ?l_combined ?c_combined ?k_combined ?a_law ?l_law ?c_law ?k_law ?z_all ?z_bool ?z_int ?z_isinstance ?z_len ?z_range ?z_sorted ?z_str ?z_tuple ?q_KINDS ?p_KINDS ?w_KINDS ?y_KINDS ?q_LARGEST ?w_LARGEST ?q_LETTERS ?w_LETTERS ?q_LETTERS_MOST ?w_LETTERS_MOST ?q_NAMES ?p_NAMES ?w_NAMES ?y_NAMES ?q_STEPS ?w_STEPS ?xa_Incomparable ?xb_Incomparable ?xc_Incomparable ?xd_Incomparable ?xe_Incomparable ?xa_InvalidRecord ?xb_InvalidRecord ?xc_InvalidRecord ?xd_InvalidRecord ?xe_InvalidRecord ?xa_InvalidSpec ?xb_InvalidSpec ?xc_InvalidSpec ?xd_InvalidSpec ?xe_InvalidSpec ?xa_TooLong ?xb_TooLong ?xc_TooLong ?xd_TooLong ?xe_TooLong
    (case a_is_width => k_is)
    (case l_is_width => k_is)
    (case c_is_width => k_is)
    (case k_is_width => k_is)
    (case a_are_groups => k_is)
    (case l_are_groups => k_is)
    (case c_are_groups => k_is)
    (case k_are_groups => k_is)
    (case a_is_step => k_is)
    (case l_is_step => k_is)
    (case c_is_step => k_is)
    (case k_is_step => k_is)
    (case a_is_spec => k_is)
    (case l_is_spec => k_is)
    (case c_is_spec => k_is)
    (case k_is_spec => k_is)
    (case a_need_spec => k_is)
    (case l_need_spec => k_is)
    (case c_need_spec => k_is)
    (case k_need_spec => k_is)
    (case a_reversed_step => k_is)
    (case l_reversed_step => k_is)
    (case c_reversed_step => k_is)
    (case k_reversed_step => k_is)
    (case a_reversed_spec => k_is)
    (case l_reversed_spec => k_is)
    (case c_reversed_spec => k_is)
    (case k_reversed_spec => k_is)
    (case a__law_draw => k_is)
    (case l__law_draw => k_is)
    (case c__law_draw => k_is)
    (case k__law_draw => k_is)
    (case a__law_pick => k_is)
    (case l__law_pick => k_is)
    (case c__law_pick => k_is)
    (case k__law_pick => k_is)
    (case a__law_groups => k_is)
    (case l__law_groups => k_is)
    (case c__law_groups => k_is)
    (case k__law_groups => k_is)
    (case a__law_step => k_is)
    (case l__law_step => k_is)
    (case c__law_step => k_is)
    (case k__law_step => k_is)
    (case a__law_spec => k_is)
    (case l__law_spec => k_is)
    (case c__law_spec => k_is)
    (case k__law_spec => k_is)
    (case a__law_kind => k_is)
    (case l__law_kind => k_is)
    (case c__law_kind => k_is)
    (case k__law_kind => k_is)
    (case a__law_sign => k_is)
    (case l__law_sign => k_is)
    (case c__law_sign => k_is)
    (case k__law_sign => k_is)
    (case a__law_result => k_is)
    (case l__law_result => k_is)
    (case c__law_result => k_is)
    (case k__law_result => k_is)
    (case a__law_compare => k_is)
    (case l__law_compare => k_is)
    (case c__law_compare => k_is)
    (case k__law_compare => k_is)
    (case a__law_value => k_is)
    (case l__law_value => k_is)
    (case c__law_value => k_is)
    (case k__law_value => k_is)
    (case a__law_record => k_is)
    (case l__law_record => k_is)
    (case c__law_record => k_is)
    (case k__law_record => k_is)
    (case a_kind_of => k_is)
    (case l_kind_of => k_is)
    (case c_kind_of => k_is)
    (case k_kind_of => k_is)
    (case a_is_record => k_is)
    (case l_is_record => k_is)
    (case c_is_record => k_is)
    (case k_is_record => k_is)
    (case a_need_record => k_is)
    (case l_need_record => k_is)
    (case c_need_record => k_is)
    (case k_need_record => k_is)
    (case a_sign => k_is)
    (case l_sign => k_is)
    (case c_sign => k_is)
    (case k_sign => k_is)
    (case a_rank => k_is)
    (case l_rank => k_is)
    (case c_rank => k_is)
    (case k_rank => k_is)
    (case a_spelling_of => k_is)
    (case l_spelling_of => k_is)
    (case c_spelling_of => k_is)
    (case k_spelling_of => k_is)
    (case a_step_result => k_is)
    (case l_step_result => k_is)
    (case c_step_result => k_is)
    (case k_step_result => k_is)
    (case a_compared => k_is)
    (case l_compared => k_is)
    (case c_compared => k_is)
    (case k_compared => k_is)
    (case a_compare => k_is)
    (case l_compare => k_is)
    (case c_compare => k_is)
    (case k_compare => k_is)
    (case a_need_pair => k_is)
    (case l_need_pair => k_is)
    (case c_need_pair => k_is)
    (case k_need_pair => k_is)
    (case a_combined => k_is)
    (case l_combined => k_is)
    (case c_combined => k_is)
    (case k_combined => k_is)
    (case a_law => k_is)
    (case l_law => k_is)
    (case c_law => k_is)
    (case k_law => k_is)
    (case z_all => k_is)
    (case z_bool => k_is)
    (case z_int => k_is)
    (case z_isinstance => k_is)
    (case z_len => k_is)
    (case z_range => k_is)
    (case z_sorted => k_is)
    (case z_str => k_is)
    (case z_tuple => k_is)
    (case q_KINDS => k_is)
    (case p_KINDS => k_is)
    (case w_KINDS => rfl)
    (case y_KINDS => decide)
    (case q_LARGEST => k_is)
    (case w_LARGEST => rfl)
    (case q_LETTERS => k_is)
    (case w_LETTERS => rfl)
    (case q_LETTERS_MOST => k_is)
    (case w_LETTERS_MOST => rfl)
    (case q_NAMES => k_is)
    (case p_NAMES => k_is)
    (case w_NAMES => rfl)
    (case y_NAMES => decide)
    (case q_STEPS => k_is)
    (case w_STEPS => rfl)
    (case xa_Incomparable => k_is)
    (case xb_Incomparable => k_exc)
    (case xc_Incomparable => k_is)
    (case xd_Incomparable => k_is)
    (case xe_Incomparable => k_is)
    (case xa_InvalidRecord => k_is)
    (case xb_InvalidRecord => k_exc)
    (case xc_InvalidRecord => k_is)
    (case xd_InvalidRecord => k_is)
    (case xe_InvalidRecord => k_is)
    (case xa_InvalidSpec => k_is)
    (case xb_InvalidSpec => k_exc)
    (case xc_InvalidSpec => k_is)
    (case xd_InvalidSpec => k_is)
    (case xe_InvalidSpec => k_is)
    (case xa_TooLong => k_is)
    (case xb_TooLong => k_exc)
    (case xc_TooLong => k_is)
    (case xd_TooLong => k_is)
    (case xe_TooLong => k_is)
#print axioms PySem.Challenge.cw_sortspec_k01_whole_compare_holds
