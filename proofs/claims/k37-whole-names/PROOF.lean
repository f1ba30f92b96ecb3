import PyProof.Rows.All
import Wide.All
import OpenK.AllK
import Wide.FinOn
import HandS.ForMost
import HandS.ForExc
import HandS.TryMany
import HandS.ExcInit
import HandS.IsInst
import HandS.Wide
import HandS.Deep
import HandS.ClsMeth
import HandS.Property
import HandS.TupAny
import HandS.EndBits
import HandS.ExcField
import KE.DataEq
import KE.DataCmp
import HandS.TupMul
import KE.GoesMore
import KE.KSortTupG
import PyProof.Rows.SortShellAny
import HandS.Conv
import KE.KDictWalk
import HandS.Small
import HandS.Style
import HandS.StrMore
import KE.DataMinMax
import KE.KDictList
import HandS.OwnEq
import HandS.Text
import OpenK.KOps
import PyProof.AssignAttr
import HandS.TupSets
import PyProof.WalksMore
import PyProof.FactsAll.subtypes_4
import HandS.SetFor
import KE.KIndexOf
import HandS.SetKeys
import HandS.More
import HandS.FStr
import HandS.Flow
import PySem.Challenge.RW_drawerlocks_k37_whole_names
set_option Elab.async false
set_option linter.all false
set_option maxRecDepth 100000
set_option maxHeartbeats 4000000
/-! ## G: a logic at the level of data over the hand layer -/
namespace G
open PySem PySem.Spec PyProof.Rows L2
/-- deep data; ins: a frozen instance (its class, its fields' names, their data); scr: the script; ref: any object by its address; exc: a caught error at a, its dict at dd -/
inductive D where
  | non | bl (b : Bool) | int (i : Int) | str (s : Str) | tup (l : List D) | lst (l : List D) | emp | scr (ns : List Int) | ins (C : Addr) (ns : List Str) (l : List D) | ref (a : Addr) | exc (a dd : Addr) (ns : List Str) (l : List D) | ktp (l : List D) | dK (ks : List Key) (l : List D) | dT (ks : List (List Key)) (l : List D) | dV (ks : List Key) (l : List D)
/-- a tuple that has no dict of its own -/
def SqN (K : PySem.W.Frag) (F : Hp) (a : Addr) (xs : List V) : Prop := (∃ o : Obj, o.dict = none ∧ F a = some (.frz o (.tup xs))) ∨ ∃ (o : Obj) (its : Array Value) (n : Nat), K.lookup a = some o ∧ o.cls = .type "tuple" ∧ o.dict = none ∧ o.data = .seq its n ∧ its.size ≤ sizeLine ∧ Vals xs its.toList
mutual
inductive Rp (K : PySem.W.Frag) (F : Hp) : V → D → Prop
  | non : Rp K F .non .non
  | bl (b : Bool) : Rp K F (.bl b) (.bl b)
  | int (i : Int) : Rp K F (.int i) (.int i)
  | str (s : Str) : Rp K F (.str s) (.str s)
  | lst {a : Addr} {xs : List V} {ds : List D} (h : F a = some (.lst xs)) (r : RpA K F xs ds) : Rp K F (.ref a) (.lst ds)
  | tup {a : Addr} {xs : List V} {ds : List D} (h : F a = some (.tup xs)) (r : RpA K F xs ds) : Rp K F (.ref a) (.tup ds)
  | ktp {a : Addr} {xs : List V} {ds : List D} (h : SqN K F a xs) (r : RpA K F xs ds) : Rp K F (.ref a) (.ktp ds)
  | dK {a : Addr} {o : Obj} {ks : List Key} {xs : List V} {ds : List D} (h : F a = some (.frz o (.dK (ks.zip xs)))) (hl : ks.length = xs.length) (r : RpA K F xs ds) : Rp K F (.ref a) (.dK ks ds)
  | dV {a : Addr} {ks : List Key} {xs : List V} {ds : List D} (h : F a = some (.dK (ks.zip xs))) (hl : ks.length = xs.length) (r : RpA K F xs ds) : Rp K F (.ref a) (.dV ks ds)
  | dT {a : Addr} {ks : List (List Key)} {xs : List V} {ds : List D} (h : F a = some (.dT (ks.zip xs))) (hl : ks.length = xs.length) (r : RpA K F xs ds) : Rp K F (.ref a) (.dT ks ds)
  | emp {a : Addr} (h : F a = some (.dK [])) : Rp K F (.ref a) .emp
  | scr {a : Addr} {ns : List Int} (h : SqL K F a (ns.map V.int)) : Rp K F (.ref a) (.scr ns)
  | ins {a C dx : Addr} {ns : List Str} {xs : List V} {ds : List D} (h : F a = some (.ins C dx (ns.zip xs))) (hl : ns.length = xs.length) (r : RpA K F xs ds) : Rp K F (.ref a) (.ins C ns ds)
  | ref (a : Addr) : Rp K F (.ref a) (.ref a)
  | exc {a dd : Addr} {ns : List Str} {xs : List V} {ds : List D} (h : F dd = some (.xd (ns.zip xs))) (hl : ns.length = xs.length) (r : RpA K F xs ds) : Rp K F (.ref a) (.exc a dd ns ds)
inductive RpA (K : PySem.W.Frag) (F : Hp) : List V → List D → Prop
  | nil : RpA K F [] []
  | cons {v : V} {vs : List V} {d : D} {ds : List D} (h : Rp K F v d) (t : RpA K F vs ds) : RpA K F (v :: vs) (d :: ds)
end
section
variable {K : PySem.W.Frag} {F F' H : Hp}
theorem SqN.t {a : Addr} {xs : List V} (h : SqN K F a xs) : SqT K F a xs := by
  rcases h with ⟨o, _, h⟩ | ⟨o, its, n, h1, h2, _, h3⟩
  · exact Or.inl (Or.inr ⟨o, h⟩)
  · exact Or.inr ⟨o, its, n, h1, h2, h3⟩
theorem SqN.mono {a : Addr} {xs : List V} (e : Same F F') (h : SqN K F a xs) : SqN K F' a xs := by
  rcases h with ⟨o, h0, h⟩ | h
  · exact Or.inl ⟨o, h0, e _ _ h⟩
  · exact Or.inr h
theorem same_t {a : Addr} {xs : List V} (e : Same F F') (h : SqT K F a xs) : SqT K F' a xs := by
  rcases h with (h | ⟨o, h⟩) | h
  · exact Or.inl (Or.inl (e _ _ h))
  · exact Or.inl (Or.inr ⟨o, e _ _ h⟩)
  · exact Or.inr h
mutual
theorem Rp.mono (e : Same F F') : ∀ (d : D) (v : V), Rp K F v d → Rp K F' v d
  | .non, _, h => by cases h; exact .non
  | .bl _, _, h => by cases h; exact .bl _
  | .int _, _, h => by cases h; exact .int _
  | .str _, _, h => by cases h; exact .str _
  | .emp, _, h => by cases h with | emp q => exact .emp (e _ _ q)
  | .scr _, _, h => by cases h with | scr q => exact .scr (e.seq q)
  | .ref _, _, h => by cases h; exact .ref _
  | .lst ds, _, h => by cases h with | lst q r => exact .lst (e _ _ q) (RpA.mono e ds _ r)
  | .tup ds, _, h => by cases h with | tup q r => exact .tup (e _ _ q) (RpA.mono e ds _ r)
  | .ktp ds, _, h => by cases h with | ktp q r => exact .ktp (q.mono e) (RpA.mono e ds _ r)
  | .dK _ ds, _, h => by cases h with | dK q hl r => exact .dK (e _ _ q) hl (RpA.mono e ds _ r)
  | .dV _ ds, _, h => by cases h with | dV q hl r => exact .dV (e _ _ q) hl (RpA.mono e ds _ r)
  | .dT _ ds, _, h => by cases h with | dT q hl r => exact .dT (e _ _ q) hl (RpA.mono e ds _ r)
  | .ins _ _ ds, _, h => by cases h with | ins q hl r => exact .ins (e _ _ q) hl (RpA.mono e ds _ r)
  | .exc _ _ _ ds, _, h => by cases h with | exc q hl r => exact .exc (e _ _ q) hl (RpA.mono e ds _ r)
theorem RpA.mono (e : Same F F') : ∀ (ds : List D) (vs : List V), RpA K F vs ds → RpA K F' vs ds
  | [], _, h => by cases h; exact .nil
  | d :: ds, _, h => by cases h with | cons a b => exact .cons (Rp.mono e d _ a) (RpA.mono e ds _ b)
end
theorem sq_t {a : Addr} {xs : List V} (h : F a = some (.tup xs)) : SqT K F a xs := .inl (.inl h)
theorem Rp.up {d : D} {v : V} (h : Rp K F v d) (e : Same F F') : Rp K F' v d := Rp.mono e d v h
theorem RpA.up {ds : List D} {vs : List V} (h : RpA K F vs ds) (e : Same F F') : RpA K F' vs ds := RpA.mono e ds vs h
theorem RpA.len : ∀ {ds : List D} {vs : List V}, RpA K F vs ds → vs.length = ds.length
  | [], _, h => by cases h; rfl
  | _ :: ds, _, h => by cases h with | cons a b => simp [RpA.len b]
theorem RpA.get : ∀ {ds : List D} {vs : List V} {i : Nat} {d : D}, RpA K F vs ds → ds[i]? = some d → ∃ v, vs[i]? = some v ∧ Rp K F v d
  | [], _, _, _, h, e => by simp at e
  | _ :: ds, _, i, d, h, e => by
    cases h with
    | cons a b =>
      cases i with
      | zero => simp at e; subst e; exact ⟨_, rfl, a⟩
      | succ i =>
        obtain ⟨v, h1, h2⟩ := RpA.get (i := i) b (by simpa using e)
        exact ⟨v, by simpa using h1, h2⟩
theorem RpA.gtv : ∀ {ds : List D} {vs : List V} {i : Nat} {v : V}, RpA K F vs ds → vs[i]? = some v → ∃ d, ds[i]? = some d ∧ Rp K F v d
  | [], _, i, v, h, e => by cases h; simp at e
  | _ :: ds, _, i, v, h, e => by
    cases h with
    | cons a b =>
      cases i with
      | zero => simp at e; subst e; exact ⟨_, rfl, a⟩
      | succ i =>
        obtain ⟨d, h1, h2⟩ := RpA.gtv (i := i) b (by simpa using e)
        exact ⟨d, by simpa using h1, h2⟩
theorem RpA.app : ∀ {ds es : List D} {vs us : List V}, RpA K F vs ds → RpA K F us es → RpA K F (vs ++ us) (ds ++ es)
  | [], _, _, _, h, g => by cases h; exact g
  | _ :: _, _, _, _, h, g => by cases h with | cons a b => exact .cons a (RpA.app b g)
theorem RpA.take : ∀ {ds : List D} {vs : List V} (n : Nat), RpA K F vs ds → RpA K F (vs.take n) (ds.take n)
  | _, _, 0, _ => by simp; exact .nil
  | [], _, n + 1, h => by cases h; exact .nil
  | _ :: _, _, n + 1, h => by cases h with | cons a b => exact .cons a (RpA.take n b)
theorem RpA.drop : ∀ {ds : List D} {vs : List V} (n : Nat), RpA K F vs ds → RpA K F (vs.drop n) (ds.drop n)
  | _, _, 0, h => by simpa using h
  | [], _, n + 1, h => by cases h; exact .nil
  | _ :: _, _, n + 1, h => by cases h with | cons a b => exact RpA.drop n b
theorem RpA.set : ∀ {ds : List D} {vs : List V} (i : Nat) {v : V} {d : D}, RpA K F vs ds → Rp K F v d → RpA K F (vs.set i v) (ds.set i d)
  | [], _, _, _, _, h, _ => by cases h; exact .nil
  | _ :: _, _, 0, _, _, h, r => by cases h with | cons a b => exact .cons r b
  | _ :: _, _, i + 1, _, _, h, r => by cases h with | cons a b => exact .cons a (RpA.set i b r)
end
/-! ### cells that change -/
inductive MC where
  | lst (l : List D) | dK (l : List (Key × D)) | dT (l : List (List Key × D)) | obj (C : Addr) (ns : List Str) (l : List D)
abbrev Mem := List (Addr × MC)
abbrev dom (m : Mem) : List Addr := m.map (·.1)
def KvA (K : PySem.W.Frag) (F : Hp) {κ : Type} : List (κ × V) → List (κ × D) → Prop := Paired fun (p : κ × V) (q : κ × D) => p.1 = q.1 ∧ Rp K F p.2 q.2
def Cel (K : PySem.W.Frag) (F H : Hp) (a : Addr) : MC → Prop
  | .lst l => ∃ vs, H a = some (.lst vs) ∧ RpA K F vs l
  | .dK l => ∃ kvs, H a = some (.dK kvs) ∧ KvA K F kvs l
  | .dT l => ∃ kvs, H a = some (.dT kvs) ∧ KvA K F kvs l
  | .obj C ns l => ∃ dx vs, H a = some (.ins C dx (ns.zip vs)) ∧ ns.length = vs.length ∧ RpA K F vs l
structure MemOk (K : PySem.W.Frag) (F H : Hp) (m : Mem) : Prop where
  nd : (dom m).Nodup
  fr : ∀ p ∈ m, F p.1 = none
  ce : ∀ p ∈ m, Cel K F H p.1 p.2
/-- no tuple -/
def noT : HO → Prop
  | .tup _ => False
  | _ => True
/-- from (F, H, m) to (F2, H2, m2): frozen things stay, cells are m2's, all else that stood stands -/
structure Stp (K : PySem.W.Frag) (F H : Hp) (m : Mem) (F2 H2 : Hp) (m2 : Mem) : Prop where
  fz : Same F F2
  sub : Same F2 H2
  mem : MemOk K F2 H2 m2
  keep : ∀ a o, H a = some o → a ∉ dom m → H2 a = some o
  new : ∀ a o, H a = some o → noT o → F a = none → (a ∈ dom m → a ∈ dom m2) → F2 a = none
  th : ∀ a, H a ≠ none → H2 a ≠ none
  dm : ∀ a, a ∈ dom m2 → a ∈ dom m ∨ H a = none
abbrev DS := List (Option D)
inductive Sl (K : PySem.W.Frag) (F : Hp) : Option V → Option D → Prop
  | any (o : Option V) : Sl K F o none
  | val {v : V} {d : D} (h : Rp K F v d) : Sl K F (some v) (some d)
abbrev SlA (K : PySem.W.Frag) (F : Hp) : L2.St → DS → Prop := Paired (Sl K F)
structure StOk (K : PySem.W.Frag) (F H : Hp) (σ : L2.St) (ds : DS) (m : Mem) : Prop where
  sub : Same F H
  sl : SlA K F σ ds
  mem : MemOk K F H m
section
variable {K : PySem.W.Frag} {F F' F2 F3 H H2 H3 : Hp} {m m2 m3 : Mem} {σ : L2.St} {ds : DS}
theorem KvA.up {κ : Type} : ∀ {l : List (κ × V)} {l' : List (κ × D)}, KvA K F l l' → Same F F' → KvA K F' l l'
  | _, _, .nil, _ => .nil
  | _, _, .cons ⟨a, b⟩ t, e => .cons ⟨a, b.up e⟩ (KvA.up t e)
theorem Cel.up {a : Addr} {c : MC} (h : Cel K F H a c) (e : Same F F') (k : ∀ o, H a = some o → H2 a = some o) : Cel K F' H2 a c := by
  cases c with
  | lst l => obtain ⟨vs, h1, h2⟩ := h; exact ⟨vs, k _ h1, h2.up e⟩
  | dK l => obtain ⟨vs, h1, h2⟩ := h; exact ⟨vs, k _ h1, KvA.up h2 e⟩
  | dT l => obtain ⟨vs, h1, h2⟩ := h; exact ⟨vs, k _ h1, KvA.up h2 e⟩
  | obj C ns l => obtain ⟨dx, vs, h1, h2, h3⟩ := h; exact ⟨dx, vs, k _ h1, h2, h3.up e⟩
theorem Cel.ne {a : Addr} {c : MC} (h : Cel K F H a c) : H a ≠ none := by
  cases c with
  | lst l => obtain ⟨vs, h1, _⟩ := h; rw [h1]; simp
  | dK l => obtain ⟨vs, h1, _⟩ := h; rw [h1]; simp
  | dT l => obtain ⟨vs, h1, _⟩ := h; rw [h1]; simp
  | obj C ns l => obtain ⟨dx, vs, h1, _⟩ := h; rw [h1]; simp
theorem Cel.noT {a : Addr} {c : MC} (h : Cel K F H a c) : ∃ o, H a = some o ∧ noT o := by
  cases c with
  | lst l => obtain ⟨vs, h1, _⟩ := h; exact ⟨_, h1, trivial⟩
  | dK l => obtain ⟨vs, h1, _⟩ := h; exact ⟨_, h1, trivial⟩
  | dT l => obtain ⟨vs, h1, _⟩ := h; exact ⟨_, h1, trivial⟩
  | obj C ns l => obtain ⟨dx, vs, h1, _⟩ := h; exact ⟨_, h1, trivial⟩
theorem MemOk.up (h : MemOk K F H m) (e : Same F F') (k : Same H H2) (n : ∀ a, H a ≠ none → F a = none → F' a = none) : MemOk K F' H2 m :=
  ⟨h.nd, fun p hp => n _ (h.ce p hp).ne (h.fr p hp), fun p hp => (h.ce p hp).up e fun o q => k _ _ q⟩
theorem SlA.up : ∀ {σ : L2.St} {ds : DS}, SlA K F σ ds → Same F F' → SlA K F' σ ds
  | _, _, .nil, _ => .nil
  | _, _, .cons (.any _) t, e => .cons (.any _) (SlA.up t e)
  | _, _, .cons (.val r) t, e => .cons (.val (r.up e)) (SlA.up t e)
theorem SlA.get : ∀ {σ : L2.St} {ds : DS} {i : Nat} {d : D}, SlA K F σ ds → ds[i]? = some (some d) → ∃ v, σ[i]? = some (some v) ∧ Rp K F v d
  | _, _, _, _, .nil, e => by simp at e
  | _, _, 0, _, .cons r _, e => by
    simp at e; subst e
    cases r with | val r => exact ⟨_, rfl, r⟩
  | _, _, i + 1, d, .cons _ t, e => by
    obtain ⟨v, h1, h2⟩ := SlA.get (i := i) (d := d) t (by simpa using e)
    exact ⟨v, by simpa using h1, h2⟩
theorem SlA.set : ∀ {σ : L2.St} {ds : DS} (i : Nat) {o : Option V} {p : Option D}, SlA K F σ ds → Sl K F o p → SlA K F (σ.set i o) (ds.set i p)
  | _, _, _, _, _, .nil, _ => .nil
  | _, _, 0, _, _, .cons _ t, r => .cons r t
  | _, _, i + 1, _, _, .cons q t, r => .cons q (SlA.set i t r)
theorem Stp.of (s : Same F H) (h : MemOk K F H m) : Stp K F H m F H m :=
  ⟨Same.refl _, s, h, fun _ _ q _ => q, fun _ _ _ _ q _ => q, fun _ q => q, fun _ q => .inl q⟩
theorem StOk.stp (s : StOk K F H σ ds m) : Stp K F H m F H m := Stp.of s.sub s.mem
theorem Stp.trans (a : Stp K F H m F2 H2 m2) (b : Stp K F2 H2 m2 F3 H3 m3) : Stp K F H m F3 H3 m3 where
  fz := a.fz.trans b.fz
  sub := b.sub
  mem := b.mem
  keep := fun x o q n => b.keep x o (a.keep x o q n) fun z => (a.dm x z).elim n fun w => by rw [q] at w; cases w
  new := fun x o q t n w => by
    have hx : H x ≠ none := by rw [q]; simp
    have h2 : x ∈ dom m2 → x ∈ dom m := fun z => (a.dm x z).elim id fun u => absurd u hx
    have h3 : x ∈ dom m → x ∈ dom m2 := fun z => (b.dm x (w z)).elim id fun u => absurd u (a.th x hx)
    have f2 := a.new x o q t n h3
    by_cases hm : x ∈ dom m
    · obtain ⟨pr, hp, e⟩ := List.mem_map.mp (h3 hm)
      have c := a.mem.ce pr hp
      rw [e] at c
      obtain ⟨o2, ho2, t2⟩ := c.noT
      exact b.new x o2 ho2 t2 f2 fun z => w (h2 z)
    · exact b.new x o (a.keep x o q hm) t f2 fun z => w (h2 z)
  th := fun x q => b.th x (a.th x q)
  dm := fun x z => (b.dm x z).elim (a.dm x) fun w => .inr (by
    cases e : H x with
    | none => rfl
    | some o => exact absurd w (a.th x (by rw [e]; simp)))
theorem StOk.go (s : StOk K F H σ ds m) (a : Stp K F H m F2 H2 m2) : StOk K F2 H2 σ ds m2 := ⟨a.sub, s.sl.up a.fz, a.mem⟩
/-- a new frozen object -/
theorem Stp.lay {p : Addr} {o : HO} (s : Same F H) (h : MemOk K F H m) (hp : H p = none) : Stp K F H m (upd F p o) (upd H p o) m := by
  have hf : F p = none := s.free hp
  have e1 : Same F (upd F p o) := fun a u q => by rw [upd_ne (ne_of_none q hf)]; exact q
  have e2 : Same H (upd H p o) := fun a u q => by rw [upd_ne (ne_of_none q hp)]; exact q
  have n1 : ∀ a, H a ≠ none → F a = none → upd F p o a = none := fun a q n => by
    rw [upd_ne (fun z => q (by rw [z]; exact hp))]; exact n
  refine ⟨e1, fun a u q => ?_, h.up e1 e2 n1, fun a u q _ => e2 a u q, fun a o q _ n _ => n1 a (by rw [q]; simp) n, fun a q => ?_, fun a z => .inl z⟩
  · by_cases ha : a = p
    · subst ha; rw [upd_same] at q; rw [upd_same]; exact q
    · rw [upd_ne ha] at q; rw [upd_ne ha]; exact s a u q
  · by_cases ha : a = p
    · subst ha; rw [upd_same]; simp
    · rw [upd_ne ha]; exact q
/-- more of the heap, nothing told of it -/
theorem Stp.wide (s : Same F H) (h : MemOk K F H m) (k : Same H H2) : Stp K F H m F H2 m :=
  ⟨Same.refl _, s.trans k, h.up (Same.refl _) k fun _ _ q => q, fun _ _ q _ => k _ _ q, fun _ _ _ _ q _ => q, fun a q => by
    cases e : H a with
    | none => exact absurd e q
    | some o => rw [k a o e]; simp, fun _ z => .inl z⟩
/-- a new cell -/
theorem Stp.cell {p : Addr} {o : HO} {c : MC} (s : Same F H) (h : MemOk K F H m) (hp : H p = none) (hc : Cel K F (upd H p o) p c) : Stp K F H m F (upd H p o) ((p, c) :: m) := by
  have e2 : Same H (upd H p o) := fun a u q => by rw [upd_ne (ne_of_none q hp)]; exact q
  have w := Stp.wide s h e2
  refine ⟨w.fz, w.sub, ⟨?_, ?_, ?_⟩, w.keep, fun a o q t n _ => w.new a o q t n id, w.th, fun a z => ?_⟩
  · refine List.nodup_cons.mpr ⟨fun z => ?_, h.nd⟩
    obtain ⟨q, hq, e⟩ := List.mem_map.mp z
    exact (h.ce q hq).ne (by rw [e]; exact hp)
  · intro q hq
    rcases List.mem_cons.mp hq with e | e
    · rw [e]; exact s.free hp
    · exact h.fr q e
  · intro q hq
    rcases List.mem_cons.mp hq with e | e
    · rw [e]; exact hc
    · exact w.mem.ce q e
  · rcases List.mem_cons.mp z with e | e
    · exact .inr (by rw [e]; exact hp)
    · exact .inl e
/-- a cell is written -/
theorem dom_set {p : Addr} {c c' : MC} : ∀ {m : Mem} {j : Nat}, m[j]? = some (p, c) → dom (m.set j (p, c')) = dom m
  | [], _, h => by simp at h
  | q :: m, 0, h => by simp at h; subst h; rfl
  | q :: m, j + 1, h => by
    show q.1 :: dom (m.set j (p, c')) = q.1 :: dom m
    rw [dom_set (m := m) (j := j) (by simpa using h)]
theorem mem_set {p : Addr} {c c' : MC} : ∀ {m : Mem} {j : Nat}, m[j]? = some (p, c) → (dom m).Nodup → ∀ q ∈ m.set j (p, c'), q = (p, c') ∨ (q ∈ m ∧ q.1 ≠ p)
  | [], _, h, _, _, _ => by simp at h
  | r :: m, 0, h, nd, q, hq => by
    simp at h; subst h
    have hn := List.nodup_cons.mp nd
    rcases List.mem_cons.mp (show q ∈ (p, c') :: m from hq) with e | e
    · exact .inl e
    · exact .inr ⟨List.mem_cons_of_mem _ e, fun z => hn.1 (List.mem_map.mpr ⟨q, e, z⟩)⟩
  | r :: m, j + 1, h, nd, q, hq => by
    have hn := List.nodup_cons.mp nd
    have h' : m[j]? = some (p, c) := by simpa using h
    rcases List.mem_cons.mp (show q ∈ r :: m.set j (p, c') from hq) with e | e
    · subst e
      exact .inr ⟨List.mem_cons_self, fun z => hn.1 (List.mem_map.mpr ⟨(p, c), List.mem_of_getElem? h', z.symm⟩)⟩
    · rcases mem_set h' hn.2 q e with z | ⟨z1, z2⟩
      · exact .inl z
      · exact .inr ⟨List.mem_cons_of_mem _ z1, z2⟩
theorem Stp.putAt {p : Addr} {o : HO} {c c' : MC} {j : Nat} (s : Same F H) (h : MemOk K F H m) (hj : m[j]? = some (p, c)) (hc : Cel K F (upd H p o) p c') : Stp K F H m F (upd H p o) (m.set j (p, c')) := by
  have hm : (p, c) ∈ m := List.mem_of_getElem? hj
  have hf : F p = none := h.fr _ hm
  have hd : dom (m.set j (p, c')) = dom m := dom_set hj
  refine ⟨Same.refl _, fun a u q => ?_, ⟨by rw [hd]; exact h.nd, ?_, ?_⟩, fun a u q n => ?_, fun _ _ _ _ q _ => q, fun a q => ?_, fun a z => .inl (by rw [hd] at z; exact z)⟩
  · rw [upd_ne (ne_of_none q hf)]; exact s a u q
  · intro q hq
    rcases mem_set hj h.nd q hq with e | ⟨e, _⟩
    · rw [e]; exact hf
    · exact h.fr q e
  · intro q hq
    rcases mem_set hj h.nd q hq with e | ⟨e, ne⟩
    · rw [e]; exact hc
    · exact (h.ce q e).up (Same.refl _) fun o' w => by rw [upd_ne ne]; exact w
  · rw [upd_ne (fun z => n (by rw [z]; exact List.mem_map.mpr ⟨_, hm, rfl⟩))]; exact q
  · by_cases ha : a = p
    · subst ha; rw [upd_same]; simp
    · rw [upd_ne ha]; exact q
theorem Stp.put {p : Addr} {o : HO} {c c' : MC} (s : Same F H) (h : MemOk K F H ((p, c) :: m)) (hc : Cel K F (upd H p o) p c') : Stp K F H ((p, c) :: m) F (upd H p o) ((p, c') :: m) := Stp.putAt (j := 0) s h rfl hc
/-- a cell that changes no more, as data -/
def frz : MC → D
  | .lst l => .lst l
  | .dK l => .dV (l.map (·.1)) (l.map (·.2))
  | .dT l => .dT (l.map (·.1)) (l.map (·.2))
  | .obj C ns l => .ins C ns l
theorem Paired.un {κ : Type} : ∀ {l : List (κ × V)} {l' : List (κ × D)}, KvA K F l l' → ∃ vs, l = (l'.map (·.1)).zip vs ∧ (l'.map (·.1)).length = vs.length ∧ RpA K F vs (l'.map (·.2))
  | _, _, .nil => ⟨[], rfl, rfl, .nil⟩
  | _, _, .cons (a := a) (b := b) ⟨e, r⟩ t => by
    obtain ⟨vs, h1, h2, h3⟩ := Paired.un t
    refine ⟨a.2 :: vs, ?_, ?_, .cons r h3⟩
    · rw [h1, List.map_cons, List.zip_cons_cons, ← e]
    · simpa using h2
theorem frz_rp {p : Addr} {c : MC} (h : Cel K F H p c) : ∃ o, H p = some o ∧ ∀ F', Same F F' → F' p = some o → Rp K F' (.ref p) (frz c) := by
  cases c with
  | lst l => obtain ⟨vs, h1, h2⟩ := h; exact ⟨_, h1, fun F' e q => .lst q (h2.up e)⟩
  | dK l =>
    obtain ⟨kvs, h1, h2⟩ := h
    obtain ⟨vs, rfl, h4, h5⟩ := Paired.un h2
    exact ⟨_, h1, fun F' e q => .dV q h4 (h5.up e)⟩
  | dT l =>
    obtain ⟨kvs, h1, h2⟩ := h
    obtain ⟨vs, rfl, h4, h5⟩ := Paired.un h2
    exact ⟨_, h1, fun F' e q => .dT q h4 (h5.up e)⟩
  | obj C ns l => obtain ⟨dx, vs, h1, h2, h3⟩ := h; exact ⟨_, h1, fun F' e q => .ins q h2 (h3.up e)⟩
theorem mem_erase : ∀ {m : Mem} {j : Nat} {q : Addr × MC}, q ∈ m.eraseIdx j → q ∈ m
  | _, _, _, h => List.mem_of_mem_eraseIdx h
theorem dom_erase : ∀ {m : Mem} {j : Nat}, dom (m.eraseIdx j) = (dom m).eraseIdx j
  | [], _ => rfl
  | _ :: _, 0 => rfl
  | q :: m, j + 1 => by
    show q.1 :: dom (m.eraseIdx j) = q.1 :: (dom m).eraseIdx j
    rw [dom_erase]
theorem not_erase : ∀ {l : List Addr} {j : Nat} {p : Addr}, l[j]? = some p → l.Nodup → p ∉ l.eraseIdx j
  | [], _, _, h, _ => by simp at h
  | a :: l, 0, p, h, nd => by simp at h; subst h; exact (List.nodup_cons.mp nd).1
  | a :: l, j + 1, p, h, nd => by
    have hn := List.nodup_cons.mp nd
    have h' : l[j]? = some p := by simpa using h
    intro z
    rcases List.mem_cons.mp (show p ∈ a :: l.eraseIdx j from z) with e | e
    · subst e; exact hn.1 (List.mem_of_getElem? h')
    · exact not_erase h' hn.2 e
theorem Stp.freeze {p : Addr} {c : MC} {j : Nat} (s : Same F H) (h : MemOk K F H m) (hj : m[j]? = some (p, c)) : ∃ F2, Stp K F H m F2 H (m.eraseIdx j) ∧ Rp K F2 (.ref p) (frz c) := by
  have hm : (p, c) ∈ m := List.mem_of_getElem? hj
  have hf : F p = none := h.fr _ hm
  obtain ⟨o, ho, hr⟩ := frz_rp (h.ce _ hm)
  have e1 : Same F (upd F p o) := fun a u q => by rw [upd_ne (ne_of_none q hf)]; exact q
  have hn : p ∉ dom (m.eraseIdx j) := by
    rw [dom_erase]
    refine not_erase ?_ h.nd
    rw [List.getElem?_map, hj]; rfl
  refine ⟨upd F p o, ⟨e1, fun a u q => ?_, ⟨?_, fun q hq => ?_, fun q hq => (h.ce q (mem_erase hq)).up e1 fun _ w => w⟩, fun _ _ q _ => q, fun a ob q t n w => ?_, fun _ q => q, fun a z => .inl ?_⟩, hr _ e1 upd_same⟩
  · by_cases ha : a = p
    · subst ha; rw [upd_same] at q; rw [ho]; exact q
    · rw [upd_ne ha] at q; exact s a u q
  · rw [dom_erase]; exact h.nd.sublist (List.eraseIdx_sublist _ _)
  · have ne : q.1 ≠ p := fun e => hn (by rw [← e]; exact List.mem_map.mpr ⟨q, hq, rfl⟩)
    rw [upd_ne ne]; exact h.fr q (mem_erase hq)
  · have ne : a ≠ p := fun e => hn (by rw [← e]; exact w (by rw [e]; exact List.mem_map.mpr ⟨_, hm, rfl⟩))
    rw [upd_ne ne]; exact n
  · rw [dom_erase] at z; exact List.mem_of_mem_eraseIdx z
/-- a tuple that stands is told -/
theorem Stp.adopt {b : Addr} {xs : List V} (s : Same F H) (h : MemOk K F H m) (hb : H b = some (.tup xs)) : ∃ F2, Stp K F H m F2 H m ∧ F2 b = some (.tup xs) := by
  cases hf : F b with
  | some o =>
    have := s _ _ hf
    rw [hb] at this
    cases this
    exact ⟨F, Stp.of s h, hf⟩
  | none =>
    have e1 : Same F (upd F b (.tup xs)) := fun a u q => by rw [upd_ne (ne_of_none q hf)]; exact q
    have nb : ∀ a o, H a = some o → noT o → a ≠ b := fun a o q t e => by rw [e, hb] at q; cases q; exact t
    refine ⟨upd F b (.tup xs), ⟨e1, fun a u q => ?_, ⟨h.nd, fun q hq => ?_, fun q hq => (h.ce q hq).up e1 fun _ w => w⟩, fun _ _ q _ => q, fun a o q t n _ => ?_, fun _ q => q, fun a z => .inl z⟩, upd_same⟩
    · by_cases ha : a = b
      · subst ha; rw [upd_same] at q; rw [hb]; exact q
      · rw [upd_ne ha] at q; exact s a u q
    · obtain ⟨o, ho, t⟩ := (h.ce q hq).noT
      rw [upd_ne (nb _ _ ho t)]; exact h.fr q hq
    · rw [upd_ne (nb _ _ q t)]; exact n
/-- the cell as data that is walked: a dict is locked -/
def fzD : MC → D
  | .lst l => .lst l
  | .dK l => .dK (l.map (·.1)) (l.map (·.2))
  | .dT l => .dT (l.map (·.1)) (l.map (·.2))
  | .obj C ns l => .ins C ns l
theorem Stp.lock {p : Addr} {l : List (Key × D)} {j : Nat} (s : Same F H) (h : MemOk K F H m) (hj : m[j]? = some (p, .dK l)) : ∃ kvs, H p = some (.dK kvs) ∧ ∀ od : Obj, ∃ F2, Stp K F H m F2 (upd H p (.frz od (.dK kvs))) (m.eraseIdx j) ∧ Rp K F2 (.ref p) (fzD (.dK l)) := by
  have hm : (p, MC.dK l) ∈ m := List.mem_of_getElem? hj
  have hf : F p = none := h.fr _ hm
  obtain ⟨kvs, ho, h2⟩ := h.ce _ hm
  obtain ⟨vs, rfl, h4, h5⟩ := Paired.un h2
  refine ⟨_, ho, fun od => ?_⟩
  have e1 : Same F (upd F p (.frz od (.dK ((l.map (·.1)).zip vs)))) := fun a u q => by rw [upd_ne (ne_of_none q hf)]; exact q
  have hn : p ∉ dom (m.eraseIdx j) := by
    rw [dom_erase]
    refine not_erase ?_ h.nd
    rw [List.getElem?_map, hj]; rfl
  have hne : ∀ q ∈ m.eraseIdx j, q.1 ≠ p := fun q hq e => hn (by rw [← e]; exact List.mem_map.mpr ⟨q, hq, rfl⟩)
  refine ⟨_, ⟨e1, fun a u q => ?_, ⟨?_, fun q hq => ?_, fun q hq => (h.ce q (mem_erase hq)).up e1 fun o w => by rw [upd_ne (hne q hq)]; exact w⟩, fun a o q n => ?_, fun a ob q t n w => ?_, fun a q => ?_, fun a z => .inl ?_⟩, .dK upd_same h4 (h5.up e1)⟩
  · by_cases ha : a = p
    · subst ha; rw [upd_same] at q; rw [upd_same]; exact q
    · rw [upd_ne ha] at q; rw [upd_ne ha]; exact s a u q
  · rw [dom_erase]; exact h.nd.sublist (List.eraseIdx_sublist _ _)
  · rw [upd_ne (hne q hq)]; exact h.fr q (mem_erase hq)
  · rw [upd_ne (fun e => n (by rw [e]; exact List.mem_map.mpr ⟨_, hm, rfl⟩))]; exact q
  · have ne : a ≠ p := fun e => hn (by rw [← e]; exact w (by rw [e]; exact List.mem_map.mpr ⟨_, hm, rfl⟩))
    rw [upd_ne ne]; exact n
  · by_cases ha : a = p
    · subst ha; rw [upd_same]; simp
    · rw [upd_ne ha]; exact q
  · rw [dom_erase] at z; exact List.mem_of_mem_eraseIdx z
theorem nd_perm {m m' : Mem} (e : m.Perm m') (h : (dom m).Nodup) : (dom m').Nodup := (e.map (·.1)).nodup h
theorem MemOk.perm (e : m.Perm m2) (h : MemOk K F H m) : MemOk K F H m2 := ⟨nd_perm e h.nd, fun p hp => h.fr p (e.mem_iff.mpr hp), fun p hp => h.ce p (e.mem_iff.mpr hp)⟩
end
end G
namespace G
open PySem PySem.Spec PyProof.Rows L2
/-! ### what is wanted, at the level of the hand layer, without a reading -/
def We (X : Cx) (e : Expr) (σ : L2.St) (H : Hp) (Q : VK) : Prop := ∀ pins s, Inv X pins σ H s → wpAny (model X.prog X.w) X.A (eval e X.env) (EP X pins σ Q) X.xe s
def Wt (X : Cx) (e : Expr) (σ : L2.St) (H : Hp) (Q : Bool → Hp → Prop) : Prop := ∀ pins s, Inv X pins σ H s → wpAny (model X.prog X.w) X.A (isTrue e X.env (eval e X.env)) (TP X pins σ Q) X.xe s
def Wa (X : Cx) (es : List Expr) (σ : L2.St) (H : Hp) (Q : List V → Hp → Prop) : Prop := ∀ pos pins s, Inv X pins σ H s → wpAny (model X.prog X.w) X.A (spliced (backTo pos (starEach es X.env))) (AP X pins σ Q) X.xe s
def Ws (X : Cx) (st : Stmt) (De : Ends) (σ : L2.St) (H : Hp) : Prop := ∀ pins s, Inv X pins σ H s → wpAny (model X.prog X.w) X.A (exec st X.env) (SP X pins De) X.xe s
def Wb (X : Cx) (st : List Stmt) (De : Ends) (σ : L2.St) (H : Hp) : Prop := ∀ pins s, Inv X pins σ H s → wpAny (model X.prog X.w) X.A (execs st X.env) (SP X pins De) X.xe s
section
variable {X : Cx} {e : Expr} {es : List Expr} {st : Stmt} {sts : List Stmt}
theorem pw_e : PE X e (We X e) := ⟨fun pins s _ _ _ I h => h pins s I⟩
theorem pw_t : PT X e (Wt X e) := ⟨fun pins s _ _ _ I h => h pins s I⟩
theorem pw_a : PA X es (Wa X es) := ⟨fun pos pins s _ _ _ I h => h pos pins s I⟩
theorem pw_s : PS X st (Ws X st) := ⟨fun pins s _ _ _ I h => h pins s I⟩
theorem pw_b : PSs X sts (Wb X sts) := ⟨fun pins s _ _ _ I h => h pins s I⟩
theorem We.of {t : TE} (p : PE X e t) {σ : L2.St} {H : Hp} {Q : VK} (h : t σ H Q) : We X e σ H Q := fun pins s I => p.run pins s σ H Q I h
theorem Wt.of {t : TT} (p : PT X e t) {σ : L2.St} {H : Hp} {Q : Bool → Hp → Prop} (h : t σ H Q) : Wt X e σ H Q := fun pins s I => p.run pins s σ H Q I h
theorem Wa.of {t : TA} (p : PA X es t) {σ : L2.St} {H : Hp} {Q : List V → Hp → Prop} (h : t σ H Q) : Wa X es σ H Q := fun pos pins s I => p.run pos pins s σ H Q I h
theorem Ws.of {t : TS} (p : PS X st t) {σ : L2.St} {H : Hp} {De : Ends} (h : t De σ H) : Ws X st De σ H := fun pins s I => p.run pins s σ H De I h
theorem Wb.of {t : TS} (p : PSs X sts t) {σ : L2.St} {H : Hp} {De : Ends} (h : t De σ H) : Wb X sts De σ H := fun pins s I => p.run pins s σ H De I h
end
/-! ### the judgements on data -/
abbrev XP := DS → Addr → List (Str × D) → Mem → Prop
def X0 : XP := fun _ _ _ _ => False
/-- an exception's own dict -/
def XOk (K : PySem.W.Frag) (F : Hp) (dd : Option Addr) (fs : List (Str × D)) : Prop := (dd = none ∧ fs = []) ∨ ∃ d vs, dd = some d ∧ F d = some (.xd ((fs.map (·.1)).zip vs)) ∧ RpA K F vs (fs.map (·.2))
def Nm (K : PySem.W.Frag) (F H : Hp) (m : Mem) (Φ : D → Mem → Prop) (Q : VK) : Prop := ∀ v F2 H2 d m2, Stp K F H m F2 H2 m2 → Rp K F2 v d → Φ d m2 → Q v H2
def NmT (K : PySem.W.Frag) (F H : Hp) (m : Mem) (Φ : Bool → Mem → Prop) (Q : Bool → Hp → Prop) : Prop := ∀ b F2 H2 m2, Stp K F H m F2 H2 m2 → Φ b m2 → Q b H2
def NmA (K : PySem.W.Frag) (F H : Hp) (m : Mem) (Φ : List D → Mem → Prop) (Q : List V → Hp → Prop) : Prop := ∀ vs F2 H2 l m2, Stp K F H m F2 H2 m2 → RpA K F2 vs l → Φ l m2 → Q vs H2
def Xc (K : PySem.W.Frag) (F H : Hp) (m : Mem) (Ξ : XP) (W : WX) : Prop := ∀ C dd σ F2 H2 ds fs m2, Stp K F H m F2 H2 m2 → SlA K F2 σ ds → XOk K F2 dd fs → Ξ ds C fs m2 → W (.ref C) dd σ H2
structure En where
  nx : DS → Mem → Prop
  rt : D → Mem → Prop
  bk : DS → Mem → Prop := fun _ _ => False
  ct : DS → Mem → Prop := fun _ _ => False
def NmS (K : PySem.W.Frag) (F H : Hp) (m : Mem) (Φ : DS → Mem → Prop) (Q : L2.St → Hp → Prop) : Prop := ∀ σ F2 H2 ds m2, Stp K F H m F2 H2 m2 → SlA K F2 σ ds → Φ ds m2 → Q σ H2
structure EnOk (K : PySem.W.Frag) (F H : Hp) (m : Mem) (N : En) (De : Ends) : Prop where
  nx : NmS K F H m N.nx De.nx
  rt : Nm K F H m N.rt De.rt
  bk : NmS K F H m N.bk De.bk
  ct : NmS K F H m N.ct De.ct
section
variable (X : Cx) (W : WX)
def EW (e : Expr) (ds : DS) (m : Mem) (Φ : D → Mem → Prop) (Ξ : XP) : Prop := ∀ F H σ, StOk X.K F H σ ds m → ∀ Q : VK, Nm X.K F H m Φ Q → Xc X.K F H m Ξ W → We X e σ H Q
def TW (e : Expr) (ds : DS) (m : Mem) (Φ : Bool → Mem → Prop) (Ξ : XP) : Prop := ∀ F H σ, StOk X.K F H σ ds m → ∀ Q : Bool → Hp → Prop, NmT X.K F H m Φ Q → Xc X.K F H m Ξ W → Wt X e σ H Q
def AW (es : List Expr) (ds : DS) (m : Mem) (Φ : List D → Mem → Prop) (Ξ : XP) : Prop := ∀ F H σ, StOk X.K F H σ ds m → ∀ Q : List V → Hp → Prop, NmA X.K F H m Φ Q → Xc X.K F H m Ξ W → Wa X es σ H Q
def SW (st : Stmt) (ds : DS) (m : Mem) (N : En) (Ξ : XP) : Prop := ∀ F H σ, StOk X.K F H σ ds m → ∀ De : Ends, EnOk X.K F H m N De → Xc X.K F H m Ξ W → Ws X st De σ H
def BW (sts : List Stmt) (ds : DS) (m : Mem) (N : En) (Ξ : XP) : Prop := ∀ F H σ, StOk X.K F H σ ds m → ∀ De : Ends, EnOk X.K F H m N De → Xc X.K F H m Ξ W → Wb X sts De σ H
end
section
variable {K : PySem.W.Frag} {F F2 H H2 : Hp} {m m2 : Mem}
theorem Nm.go {Φ : D → Mem → Prop} {Q : VK} (n : Nm K F H m Φ Q) (a : Stp K F H m F2 H2 m2) : Nm K F2 H2 m2 Φ Q := fun v F3 H3 d m3 b r q => n v F3 H3 d m3 (a.trans b) r q
theorem NmT.go {Φ : Bool → Mem → Prop} {Q : Bool → Hp → Prop} (n : NmT K F H m Φ Q) (a : Stp K F H m F2 H2 m2) : NmT K F2 H2 m2 Φ Q := fun v F3 H3 m3 b q => n v F3 H3 m3 (a.trans b) q
theorem NmA.go {Φ : List D → Mem → Prop} {Q : List V → Hp → Prop} (n : NmA K F H m Φ Q) (a : Stp K F H m F2 H2 m2) : NmA K F2 H2 m2 Φ Q := fun v F3 H3 d m3 b r q => n v F3 H3 d m3 (a.trans b) r q
theorem NmS.go {Φ : DS → Mem → Prop} {Q : L2.St → Hp → Prop} (n : NmS K F H m Φ Q) (a : Stp K F H m F2 H2 m2) : NmS K F2 H2 m2 Φ Q := fun v F3 H3 d m3 b r q => n v F3 H3 d m3 (a.trans b) r q
theorem Xc.go {Ξ : XP} {W : WX} (n : Xc K F H m Ξ W) (a : Stp K F H m F2 H2 m2) : Xc K F2 H2 m2 Ξ W := fun C dd σ F3 H3 ds fs m3 b s x q => n C dd σ F3 H3 ds fs m3 (a.trans b) s x q
theorem EnOk.go {N : En} {De : Ends} (n : EnOk K F H m N De) (a : Stp K F H m F2 H2 m2) : EnOk K F2 H2 m2 N De := ⟨n.nx.go a, n.rt.go a, n.bk.go a, n.ct.go a⟩
end
section
variable {X : Cx} {W : WX} {e a b c : Expr} {es : List Expr} {st : Stmt} {sts rest : List Stmt} {ds : DS} {m : Mem} {Φ Ψ : D → Mem → Prop} {Ξ : XP} {N : En} {pos : Pos} {d : D} {x : Str} {i : Nat}
theorem EW.mono (h : EW X W e ds m Φ Ξ) (k : ∀ d m, Φ d m → Ψ d m) : EW X W e ds m Ψ Ξ := fun F H σ s Q n x => h F H σ s Q (fun v F2 H2 d m2 a r q => n v F2 H2 d m2 a r (k d m2 q)) x
/-! ### constants and names -/
theorem ew_c {v : V} (p : PE X e (tC v)) (r : ∀ F, Rp X.K F v d) (q : Φ d m) : EW X W e ds m Φ Ξ := fun F H σ s Q n _ => We.of p (n v F H d m s.stp (r F) q)
theorem ew_int {n : Int} {j} (q : Φ (.int n) m) : EW X W (.Constant (.int n) j pos) ds m Φ Ξ := ew_c pe_int (fun _ => .int n) q
theorem ew_str {z : Str} {j} (q : Φ (.str z) m) : EW X W (.Constant (.str z) j pos) ds m Φ Ξ := ew_c pe_str (fun _ => .str z) q
theorem ew_bl {k : Bool} {j} (q : Φ (.bl k) m) : EW X W (.Constant (.bool k) j pos) ds m Φ Ξ := ew_c pe_bl (fun _ => .bl k) q
theorem ew_non {j} (q : Φ .non m) : EW X W (.Constant .none j pos) ds m Φ Ξ := ew_c pe_non (fun _ => .non) q
theorem ew_name (i : Nat) (hd : ds[i]? = some (some d)) (q : Φ d m) (hN : X.N[i]? = some x := by with_unfolding_all rfl) (hv : Vis X.env.scope x := by with_unfolding_all first | exact Or.inl rfl | exact Or.inr (Or.inl rfl) | exact Or.inr (Or.inr rfl))
    (hb : (x == ("__debug__" : Str)) = false := by decide) (hcd : (x == ("__classdict__" : Str)) = false := by decide) : EW X W (.Name x pos) ds m Φ Ξ := fun F H σ s Q n _ => by
  obtain ⟨v, h1, h2⟩ := s.sl.get hd
  exact We.of (pe_var hN hv hb hcd) ⟨v, h1, n v F H d m s.stp h2 q⟩
theorem ew_glob {v : V} {u : Value} (hm : X.mg x = some u) (r : RelV v u) (rp : ∀ F, Rp X.K F v d) (q : Φ d m) (hg : Gl X x := by with_unfolding_all rfl) (hb : (x == ("__debug__" : Str)) = false := by decide) : EW X W (.Name x pos) ds m Φ Ξ := ew_c (pe_glob hg hm r hb) rp q
/-! ### argument lists -/
theorem aw_nil {Φ : List D → Mem → Prop} (q : Φ [] m) : AW X W [] ds m Φ Ξ := fun F H σ s Q n _ => Wa.of pa_nil (n [] F H [] m s.stp .nil q)
theorem aw_cons {Φ : List D → Mem → Prop} (h : EW X W e ds m (fun d m1 => AW X W es ds m1 (fun l m2 => Φ (d :: l) m2) Ξ) Ξ) (hs : starEach (e :: es) X.env = (false, eval e X.env) :: starEach es X.env := by with_unfolding_all rfl) : AW X W (e :: es) ds m Φ Ξ := fun F H σ s Q n x =>
  Wa.of (pa_cons pw_e pw_a hs) (h F H σ s _ (fun v F2 H2 d m2 a r q => q F2 H2 σ (s.go a) _ (fun vs F3 H3 l m3 b rs q3 => n (v :: vs) F3 H3 (d :: l) m3 (a.trans b) (.cons (r.up b.fz) rs) q3) (x.go a)) x)
/-! ### two-place operations -/
/-- what an operation on values does on data -/
def RD (X : Cx) (r : R2) (d1 d2 : D) (m : Mem) (Φ : D → Mem → Prop) : Prop := ∀ F H x y Q, Same F H → MemOk X.K F H m → Rp X.K F x d1 → Rp X.K F y d2 → Nm X.K F H m Φ Q → r x y H Q
theorem ew_bin {op : Operator} {r : R2} (ho : OpR X (binaryOp op) r) (h : EW X W a ds m (fun d1 m1 => EW X W b ds m1 (fun d2 m2 => RD X r d1 d2 m2 Φ) Ξ) Ξ) : EW X W (.BinOp a op b pos) ds m Φ Ξ := fun F H σ s Q n x =>
  We.of (pe_op ho pw_e pw_e) (h F H σ s _ (fun v F2 H2 d1 m2 s1 r1 q => q F2 H2 σ (s.go s1) _ (fun u F3 H3 d2 m3 s2 r2 q2 => q2 F3 H3 v u Q s2.sub s2.mem (r1.up s2.fz) r2 (n.go (s1.trans s2))) (x.go s1)) x)
theorem ew_cmp {op : CmpOp} {r : R2} (ho : OpR X (compareOp op) r) (h : EW X W a ds m (fun d1 m1 => EW X W b ds m1 (fun d2 m2 => RD X r d1 d2 m2 Φ) Ξ) Ξ) (hm : behindInMarks op b = false := by with_unfolding_all first | exact nomark _ | rfl) : EW X W (.Compare a [op] [b] pos) ds m Φ Ξ := fun F H σ s Q n x =>
  We.of (pe_cmpR ho pw_e pw_e hm) (h F H σ s _ (fun v F2 H2 d1 m2 s1 r1 q => q F2 H2 σ (s.go s1) _ (fun u F3 H3 d2 m3 s2 r2 q2 => q2 F3 H3 v u Q s2.sub s2.mem (r1.up s2.fz) r2 (n.go (s1.trans s2))) (x.go s1)) x)
/-- what a reading's end gives as a test -/
def asT (Φ : Bool → Mem → Prop) : D → Mem → Prop := fun d m => ∃ b, d = .bl b ∧ Φ b m
theorem Nm.test {K : PySem.W.Frag} {F H : Hp} {Φ : Bool → Mem → Prop} {Q : Bool → Hp → Prop} (n : NmT K F H m Φ Q) : Nm K F H m (asT Φ) (fun x H' => ∃ k, x = V.bl k ∧ Q k H') := fun v F2 H2 d m2 s r q => by
  obtain ⟨b, rfl, q⟩ := q
  cases r
  exact ⟨b, rfl, n b F2 H2 m2 s q⟩
theorem tw_cmp {op : CmpOp} {r : R2} {Φ : Bool → Mem → Prop} (ho : OpR X (compareOp op) r) (h : EW X W a ds m (fun d1 m1 => EW X W b ds m1 (fun d2 m2 => RD X r d1 d2 m2 (asT Φ)) Ξ) Ξ) (hm : behindInMarks op b = false := by with_unfolding_all first | exact nomark _ | rfl) : TW X W (.Compare a [op] [b] pos) ds m Φ Ξ := fun F H σ s Q n x =>
  Wt.of (pt_cmpR ho pw_e pw_e hm) (h F H σ s _ (fun v F2 H2 d1 m2 s1 r1 q => q F2 H2 σ (s.go s1) _ (fun u F3 H3 d2 m3 s2 r2 q2 => q2 F3 H3 v u _ s2.sub s2.mem (r1.up s2.fz) r2 (Nm.test (n.go (s1.trans s2)))) (x.go s1)) x)
/-- an expression that gives a truth value, as a test -/
theorem tw_val {Φ : Bool → Mem → Prop} (h : EW X W e ds m (asT Φ) Ξ) (he : ∀ whole, isTrue e X.env whole = (do let v ← whole; standAt e.pos; holding [v] (truthy v)) := by with_unfolding_all (intro _; rfl)) : TW X W e ds m Φ Ξ := fun F H σ s Q n x =>
  Wt.of (pt_val pw_e he) (h F H σ s _ (Nm.test n) x)
theorem tw_not {Φ : Bool → Mem → Prop} (h : TW X W a ds m (fun b m => Φ (!b) m) Ξ) : TW X W (.UnaryOp .Not a pos) ds m Φ Ξ := fun F H σ s Q n x =>
  Wt.of (pt_not pw_t) (h F H σ s _ (fun b F2 H2 m2 s1 q => n (!b) F2 H2 m2 s1 q) x)
theorem ew_not (h : EW X W a ds m (asT fun b m => Φ (.bl (!b)) m) Ξ) : EW X W (.UnaryOp .Not a pos) ds m Φ Ξ := fun F H σ s Q n x =>
  We.of (pe_not pw_e) (h F H σ s _ (fun v F2 H2 d m2 s1 r q => by
    obtain ⟨b, rfl, q⟩ := q
    cases r
    exact ⟨b, rfl, n _ F2 H2 _ m2 s1 (.bl _) q⟩) x)
/-- and, or as tests: the rest by the same form -/
structure PWt (X : Cx) (W : WX) (e : Expr) (ds : DS) (m : Mem) (Φ : Bool → Mem → Prop) (Ξ : XP) : Prop where
  run : ∀ F H σ, StOk X.K F H σ ds m → ∀ Q : Bool → Hp → Prop, NmT X.K F H m Φ Q → Xc X.K F H m Ξ W → ∀ whole pins s, Inv X pins σ H s → wpAny (model X.prog X.w) X.A (isTrue e X.env whole) (TP X pins σ Q) X.xe s
theorem tw_bool {Φ : Bool → Mem → Prop} (h : PWt X W e ds m Φ Ξ) : TW X W e ds m Φ Ξ := fun F H σ s Q n x pins sh I => h.run F H σ s Q n x _ pins sh I
theorem ww_and1 {Φ : Bool → Mem → Prop} (h : TW X W a ds m Φ Ξ) : PWt X W (.BoolOp .And [a] pos) ds m Φ Ξ := ⟨fun F H σ s Q n x whole pins sh I => (pw_and1 pw_t).run whole pins sh σ H Q I (h F H σ s Q n x)⟩
theorem ww_or1 {Φ : Bool → Mem → Prop} (h : TW X W a ds m Φ Ξ) : PWt X W (.BoolOp .Or [a] pos) ds m Φ Ξ := ⟨fun F H σ s Q n x whole pins sh I => (pw_or1 pw_t).run whole pins sh σ H Q I (h F H σ s Q n x)⟩
/-- a reading for a test whatever its whole is -/
def Wp (X : Cx) (e : Expr) (σ : L2.St) (H : Hp) (Q : Bool → Hp → Prop) : Prop := ∀ whole pins s, Inv X pins σ H s → wpAny (model X.prog X.w) X.A (isTrue e X.env whole) (TP X pins σ Q) X.xe s
theorem pw_p : PW X e (Wp X e) := ⟨fun whole pins s _ _ _ I h => h whole pins s I⟩
theorem ww_and {rs : List Expr} {Φ : Bool → Mem → Prop} (h : TW X W a ds m (fun k m1 => if k = true then PWt X W (.BoolOp .And (b :: rs) pos) ds m1 Φ Ξ else Φ false m1) Ξ) : PWt X W (.BoolOp .And (a :: b :: rs) pos) ds m Φ Ξ := ⟨fun F H σ s Q n x whole pins sh I =>
  (pw_and pw_t pw_p).run whole pins sh σ H Q I (h F H σ s _ (fun k F2 H2 m2 s1 q => by
    cases k with
    | true => exact iteT fun whole pins sh I => (show PWt X W (.BoolOp .And (b :: rs) pos) ds m2 Φ Ξ from q).run F2 H2 σ (s.go s1) Q (n.go s1) (x.go s1) whole pins sh I
    | false => exact iteF (n false F2 H2 m2 s1 q)) x)⟩
theorem ww_or {rs : List Expr} {Φ : Bool → Mem → Prop} (h : TW X W a ds m (fun k m1 => if k = true then Φ true m1 else PWt X W (.BoolOp .Or (b :: rs) pos) ds m1 Φ Ξ) Ξ) : PWt X W (.BoolOp .Or (a :: b :: rs) pos) ds m Φ Ξ := ⟨fun F H σ s Q n x whole pins sh I =>
  (pw_or pw_t pw_p).run whole pins sh σ H Q I (h F H σ s _ (fun k F2 H2 m2 s1 q => by
    cases k with
    | true => exact iteT (n true F2 H2 m2 s1 q)
    | false => exact iteF fun whole pins sh I => (show PWt X W (.BoolOp .Or (b :: rs) pos) ds m2 Φ Ξ from q).run F2 H2 σ (s.go s1) Q (n.go s1) (x.go s1) whole pins sh I) x)⟩
/-- and, or as values, all but the last truth values -/
theorem ew_one {op} (h : EW X W a ds m Φ Ξ) : EW X W (.BoolOp op [a] pos) ds m Φ Ξ := fun F H σ s Q n x => We.of (pe_one pw_e) (h F H σ s Q n x)
theorem ew_and {rs : List Expr} (h : EW X W a ds m (asT fun k m1 => if k = true then EW X W (.BoolOp .And (b :: rs) pos) ds m1 Φ Ξ else Φ (.bl false) m1) Ξ) : EW X W (.BoolOp .And (a :: b :: rs) pos) ds m Φ Ξ := fun F H σ s Q n x =>
  We.of (pe_and pw_e pw_e) (h F H σ s _ (fun v F2 H2 d m2 s1 r q => by
    obtain ⟨k, rfl, q⟩ := q
    cases r
    refine ⟨k, rfl, ?_⟩
    cases k with
    | true => exact iteT ((show EW X W (.BoolOp .And (b :: rs) pos) ds m2 Φ Ξ from q) F2 H2 σ (s.go s1) Q (n.go s1) (x.go s1))
    | false => exact iteF (n _ F2 H2 _ m2 s1 (.bl _) q)) x)
theorem ew_or {rs : List Expr} (h : EW X W a ds m (asT fun k m1 => if k = true then Φ (.bl true) m1 else EW X W (.BoolOp .Or (b :: rs) pos) ds m1 Φ Ξ) Ξ) : EW X W (.BoolOp .Or (a :: b :: rs) pos) ds m Φ Ξ := fun F H σ s Q n x =>
  We.of (pe_or pw_e pw_e) (h F H σ s _ (fun v F2 H2 d m2 s1 r q => by
    obtain ⟨k, rfl, q⟩ := q
    cases r
    refine ⟨k, rfl, ?_⟩
    cases k with
    | true => exact iteT (n _ F2 H2 _ m2 s1 (.bl _) q)
    | false => exact iteF ((show EW X W (.BoolOp .Or (b :: rs) pos) ds m2 Φ Ξ from q) F2 H2 σ (s.go s1) Q (n.go s1) (x.go s1))) x)
theorem ew_if (h : TW X W c ds m (fun k m1 => if k = true then EW X W a ds m1 Φ Ξ else EW X W b ds m1 Φ Ξ) Ξ) : EW X W (.IfExp c a b pos) ds m Φ Ξ := fun F H σ s Q n x =>
  We.of (pe_ifExp pw_t pw_e pw_e) (h F H σ s _ (fun k F2 H2 m2 s1 q => by
    cases k with
    | true => exact iteT ((show EW X W a ds m2 Φ Ξ from q) F2 H2 σ (s.go s1) Q (n.go s1) (x.go s1))
    | false => exact iteF ((show EW X W b ds m2 Φ Ξ from q) F2 H2 σ (s.go s1) Q (n.go s1) (x.go s1))) x)
/-! ### displays -/
theorem ew_tup {k} (h : AW X W es ds m (fun l m1 => l.length ≤ sizeLine ∧ Φ (.tup l) m1) Ξ) : EW X W (.Tuple es k pos) ds m Φ Ξ := fun F H σ s Q n x =>
  We.of (pe_tup pw_a) (h F H σ s _ (fun vs F2 H2 l m2 s1 r ⟨hl, q⟩ => ⟨by rw [r.len]; exact hl, fun p hp => by
    have s2 := Stp.lay (o := .tup vs) s1.sub s1.mem hp
    exact n _ _ _ _ _ (s1.trans s2) (.tup upd_same (r.up s2.fz)) q⟩) x)
theorem ew_lst (h : AW X W es ds m (fun l m1 => l.length ≤ sizeLine ∧ Φ (.lst l) m1) Ξ) : EW X W (.List es pos) ds m Φ Ξ := fun F H σ s Q n x =>
  We.of (pe_lst pw_a) (h F H σ s _ (fun vs F2 H2 l m2 s1 r ⟨hl, q⟩ => ⟨by rw [r.len]; exact hl, fun p hp => by
    have s2 := Stp.lay (o := .lst vs) s1.sub s1.mem hp
    exact n _ _ _ _ _ (s1.trans s2) (.lst upd_same (r.up s2.fz)) q⟩) x)
/-- a list that will change -/
theorem ew_lstM (h : AW X W es ds m (fun l m1 => l.length ≤ sizeLine ∧ ∀ p, p ∉ dom m1 → Φ (.ref p) ((p, .lst l) :: m1)) Ξ) : EW X W (.List es pos) ds m Φ Ξ := fun F H σ s Q n x =>
  We.of (pe_lst pw_a) (h F H σ s _ (fun vs F2 H2 l m2 s1 r ⟨hl, q⟩ => ⟨by rw [r.len]; exact hl, fun p hp => by
    have s2 := Stp.cell (o := .lst vs) (c := .lst l) s1.sub s1.mem hp ⟨vs, upd_same, r⟩
    refine n _ _ _ _ _ (s1.trans s2) (.ref p) (q p fun z => ?_)
    obtain ⟨c, hc, e⟩ := List.mem_map.mp z
    exact (s1.mem.ce c hc).ne (by rw [e]; exact hp)⟩) x)
theorem ew_emp (q : Φ .emp m) (hp : PE X e tDNewK) : EW X W e ds m Φ Ξ := fun F H σ s Q n x =>
  We.of hp fun p np => by
    have s2 := Stp.lay (o := .dK []) s.sub s.mem np
    exact n _ _ _ _ _ s2 (.emp upd_same) q
end
end G
namespace G
open PySem PySem.Spec PyProof.Rows L2
section
variable {X : Cx} {W : WX} {e a b c : Expr} {es : List Expr} {st : Stmt} {sts rest : List Stmt} {ds : DS} {m : Mem} {Φ Ψ : D → Mem → Prop} {Ξ : XP} {N : En} {pos : Pos} {d : D} {x : Str} {i : Nat}
/-! ### blocks -/
theorem bw_nil (q : N.nx ds m) : BW X W [] ds m N Ξ := fun F H σ s De n _ => Wb.of pss_nil (n.nx σ F H ds m s.stp s.sl q)
theorem bw_cons (h : SW X W st ds m { N with nx := fun ds1 m1 => BW X W rest ds1 m1 N Ξ } Ξ) : BW X W (st :: rest) ds m N Ξ := fun F H σ s De n x =>
  Wb.of (pss_cons pw_s pw_b) (h F H σ s { De with nx := Wb X rest De } ⟨fun σ2 F2 H2 ds2 m2 s1 sl q => q F2 H2 σ2 ⟨s1.sub, sl, s1.mem⟩ De (n.go s1) (x.go s1), n.rt, n.bk, n.ct⟩ x)
theorem bw_never {sts : List Stmt} (h : False) : BW X W sts ds m N Ξ := h.elim
theorem sw_expr (h : EW X W e ds m (fun _ m1 => N.nx ds m1) Ξ) (hs : swapsWith e none pos.line X.env = pure false := by with_unfolding_all rfl) : SW X W (.Expr e pos) ds m N Ξ := fun F H σ s De n x =>
  Ws.of (ps_expr pw_e hs) (h F H σ s _ (fun v F2 H2 d m2 s1 r q => n.nx σ F2 H2 ds m2 s1 (s.sl.up s1.fz) q) x)
theorem sw_ret (h : EW X W e ds m N.rt Ξ) : SW X W (.Return (some e) pos) ds m N Ξ := fun F H σ s De n x => Ws.of (ps_ret pw_e) (h F H σ s _ n.rt x)
theorem sw_retN (h : N.rt .non m) : SW X W (.Return none pos) ds m N Ξ := fun F H σ s De n x => Ws.of ps_retN (n.rt _ F H _ m s.stp .non h)
theorem sw_pass (h : N.nx ds m) : SW X W (.Pass pos) ds m N Ξ := fun F H σ s De n x => Ws.of ps_pass (n.nx σ F H ds m s.stp s.sl h)
theorem sw_if {sa sb : List Stmt} (h : TW X W c ds m (fun k m1 => if k = true then BW X W sa ds m1 N Ξ else BW X W sb ds m1 N Ξ) Ξ) : SW X W (.If c sa sb pos) ds m N Ξ := fun F H σ s De n x =>
  Ws.of (ps_if pw_t pw_b pw_b) (h F H σ s _ (fun k F2 H2 m2 s1 q => by
    cases k with
    | true => exact iteT ((show BW X W sa ds m2 N Ξ from q) F2 H2 σ (s.go s1) De (n.go s1) (x.go s1))
    | false => exact iteF ((show BW X W sb ds m2 N Ξ from q) F2 H2 σ (s.go s1) De (n.go s1) (x.go s1))) x)
theorem sw_set (i : Nat) {pos' : Pos} (hN : X.N.Nodup) (h : EW X W e ds m (fun d m1 => N.nx (ds.set i (some d)) m1) Ξ) (hi : X.N[i]? = some x := by with_unfolding_all rfl) (hx : Loc X.env.scope x := by with_unfolding_all first | exact Or.inl rfl | exact Or.inr rfl) (hs : swapsWith e (some (.Name x pos')) pos.line X.env = pure false := by with_unfolding_all rfl)
    (hf : X.fn x = true ∨ X.env.scope.names.lookup x = some .local := by with_unfolding_all first | exact .inl rfl | exact .inr rfl | assumption) : SW X W (.Assign [.Name x pos'] e pos) ds m N Ξ := fun F H σ s De n xx =>
  Ws.of (ps_set hN hi hx pw_e hs hf) (h F H σ s _ (fun v F2 H2 d m2 s1 r q => n.nx (σ.set i (some v)) F2 H2 _ m2 s1 ((s.sl.up s1.fz).set i (.val r)) q) xx)
theorem sw_par (i j : Nat) {y : Str} {px py pt : Pos} {kt k2 pt2} (hN : X.N.Nodup) (h : AW X W [a, b] ds m (fun l m1 => ∃ d1 d2, l = [d1, d2] ∧ N.nx ((ds.set i (some d1)).set j (some d2)) m1) Ξ) (hi : X.N[i]? = some x := by with_unfolding_all rfl) (hj : X.N[j]? = some y := by with_unfolding_all rfl) (hij : i ≠ j := by decide)
    (hx : X.env.scope.names.lookup x = some .local := by with_unfolding_all rfl) (hy : X.env.scope.names.lookup y = some .local := by with_unfolding_all rfl) (hc : X.calm = true := by with_unfolding_all rfl)
    (hw : swappedStores [.Tuple [.Name x px, .Name y py] kt pt] (.Tuple [a, b] k2 pt2) X.env = pure (some [x, y]) := by with_unfolding_all rfl) (hs : swapsWithSole [.Tuple [.Name x px, .Name y py] kt pt] (.Tuple [a, b] k2 pt2) pos.line X.env = pure false := by with_unfolding_all rfl) :
    SW X W (.Assign [.Tuple [.Name x px, .Name y py] kt pt] (.Tuple [a, b] k2 pt2) pos) ds m N Ξ := fun F H σ s De n xx =>
  Ws.of (ps_par hc hN hi hj hij hx hy pw_a hw hs) (h F H σ s _ (fun vs F2 H2 l m2 s1 r ⟨d1, d2, e, q⟩ => by
    subst e
    cases r with
    | cons r1 t =>
      cases t with
      | cons r2 t =>
        cases t
        exact ⟨_, _, rfl, n.nx _ F2 H2 _ m2 s1 (((s.sl.up s1.fz).set i (.val r1)).set j (.val r2)) q⟩) xx)
/-! ### targets -/
def Wg (X : Cx) (tg : Expr) (v : V) (σ : L2.St) (H : Hp) (Q : L2.St → Hp → Prop) : Prop := ∀ pins s u, Inv X pins σ H s → RelV v u → wpAny (model X.prog X.w) X.A (assign tg X.env u) (fun _ s' => ∃ σ' H', Inv X pins σ' H' s' ∧ Q σ' H') X.xe s
theorem pw_g {tg : Expr} : PG X tg (Wg X tg) := ⟨fun pins s _ _ _ u _ I r h => h pins s u I r⟩
theorem Wg.of {tg : Expr} {t : TG} (p : PG X tg t) {v : V} {σ : L2.St} {H : Hp} {Q : L2.St → Hp → Prop} (h : t v σ H Q) : Wg X tg v σ H Q := fun pins s u I r => p.run pins s σ H v u Q I r h
def GW (X : Cx) (W : WX) (tg : Expr) (d : D) (ds : DS) (m : Mem) (Φ : DS → Mem → Prop) (Ξ : XP) : Prop := ∀ F H σ v, StOk X.K F H σ ds m → Rp X.K F v d → ∀ Q, NmS X.K F H m Φ Q → Xc X.K F H m Ξ W → Wg X tg v σ H Q
theorem gw_name (i : Nat) {Φ : DS → Mem → Prop} (hN : X.N.Nodup) (q : Φ (ds.set i (some d)) m) (hi : X.N[i]? = some x := by with_unfolding_all rfl) (hx : Loc X.env.scope x := by with_unfolding_all first | exact Or.inl rfl | exact Or.inr rfl)
    (hf : X.fn x = true ∨ X.env.scope.names.lookup x = some .local := by with_unfolding_all first | exact .inl rfl | exact .inr rfl | assumption) : GW X W (.Name x pos) d ds m Φ Ξ := fun F H σ v s r Q n _ =>
  Wg.of (pg_name hN hi hx hf) (n _ F H _ m s.stp (s.sl.set i (.val r)) q)
def Wgs (X : Cx) (tgs : List Expr) (vs : List V) (σ : L2.St) (H : Hp) (Q : L2.St → Hp → Prop) : Prop := ∀ pins s us, Inv X pins σ H s → Vals vs us → wpAny (model X.prog X.w) X.A (assignInOrder ((assignEach tgs X.env).map (·.2)) us) (fun _ s' => ∃ σ' H', Inv X pins σ' H' s' ∧ Q σ' H') X.xe s
theorem pw_gs {tgs : List Expr} : PGs X tgs (Wgs X tgs) := ⟨fun pins s _ _ _ us _ I r h => h pins s us I r⟩
theorem Wgs.of {tgs : List Expr} {t : TGs} (p : PGs X tgs t) {vs : List V} {σ : L2.St} {H : Hp} {Q : L2.St → Hp → Prop} (h : t vs σ H Q) : Wgs X tgs vs σ H Q := fun pins s us I r => p.run pins s σ H vs us Q I r h
def GWs (X : Cx) (W : WX) (tgs : List Expr) (l : List D) (ds : DS) (m : Mem) (Φ : DS → Mem → Prop) (Ξ : XP) : Prop := ∀ F H σ vs, StOk X.K F H σ ds m → RpA X.K F vs l → ∀ Q, NmS X.K F H m Φ Q → Xc X.K F H m Ξ W → Wgs X tgs vs σ H Q
theorem gws_nil {Φ : DS → Mem → Prop} (q : Φ ds m) : GWs X W [] [] ds m Φ Ξ := fun F H σ vs s r Q n _ => by
  cases r
  exact Wgs.of pgs_nil ⟨rfl, n σ F H ds m s.stp s.sl q⟩
theorem gws_cons {l : List D} {Φ : DS → Mem → Prop} (h : GW X W e d ds m (fun ds1 m1 => GWs X W es l ds1 m1 Φ Ξ) Ξ) (hs : (assignEach (e :: es) X.env).map (·.2) = assign e X.env :: (assignEach es X.env).map (·.2) := by with_unfolding_all rfl) : GWs X W (e :: es) (d :: l) ds m Φ Ξ := fun F H σ vs s r Q n x => by
  cases r with
  | cons r1 rr =>
    exact Wgs.of (pgs_cons pw_g pw_gs hs) ⟨_, _, rfl, h F H σ _ s r1 _ (fun σ2 F2 H2 ds2 m2 s1 sl q => q F2 H2 σ2 _ ⟨s1.sub, sl, s1.mem⟩ (rr.up s1.fz) Q (n.go s1) (x.go s1)) x⟩
theorem gw_tup {l : List D} {k : Nat} {n : Nat} {Φ : DS → Mem → Prop} (hl : l.length = n) (h : GWs X W es l ds m Φ Ξ) (hn : (assignEach es X.env).length = n := by with_unfolding_all rfl) (hst : (assignEach es X.env).findIdx? (·.1) = none := by with_unfolding_all rfl) (hc : X.calm = true := by with_unfolding_all rfl) : GW X W (.Tuple es k pos) (.tup l) ds m Φ Ξ := fun F H σ v s r Q nn x => by
  cases r with
  | tup hq rr =>
    exact Wg.of (pg_tup hc pw_gs hn hst) ⟨_, _, rfl, sq_t (s.sub _ _ hq), rr.len.trans hl, h F H σ _ s rr Q nn x⟩
theorem sw_asg {tg : Expr} (h : EW X W e ds m (fun d m1 => GW X W tg d ds m1 N.nx Ξ) Ξ) (hs : swapsWithSole [tg] e pos.line X.env = pure false := by with_unfolding_all rfl) (hw : swappedStores [tg] e X.env = pure none := by with_unfolding_all rfl) (h1 : (assignEach [tg] X.env).map (·.2) = [assign tg X.env] := by with_unfolding_all rfl) : SW X W (.Assign [tg] e pos) ds m N Ξ := fun F H σ s De n x =>
  Ws.of (ps_asg pw_e pw_g hs hw h1) (h F H σ s _ (fun v F2 H2 d m2 s1 r q => q F2 H2 σ v (s.go s1) r _ (n.nx.go s1) (x.go s1)) x)
/-! ### raising -/
def Wk (X : Cx) (e : Expr) (σ : L2.St) (H : Hp) (Q : XK) : Prop := ∀ pins s, Inv X pins σ H s → wpAny (model X.prog X.w) X.A (eval e X.env) (MkP X pins σ Q) X.xe s
theorem pw_k : PMk X e (Wk X e) := fun pins s _ _ _ I h => h pins s I
/-- an exception made: its class and fields -/
def KW (X : Cx) (W : WX) (e : Expr) (ds : DS) (m : Mem) (Φ : Addr → List (Str × D) → Mem → Prop) (Ξ : XP) : Prop := ∀ F H σ, StOk X.K F H σ ds m → ∀ Q : XK, (∀ C dd F2 H2 fs m2, Stp X.K F H m F2 H2 m2 → XOk X.K F2 dd fs → Φ C fs m2 → Q (.ref C) dd H2) → Xc X.K F H m Ξ W → Wk X e σ H Q
theorem sw_raise (tk : Takes X W) (h : KW X W e ds m (Ξ ds) Ξ) (hc : X.calm = true := by with_unfolding_all rfl) : SW X W (.Raise (some e) none pos) ds m N Ξ := fun F H σ s De n x =>
  Ws.of (ps_raise hc tk pw_k) (h F H σ s _ (fun C dd F2 H2 fs m2 s1 xo q => x C dd σ F2 H2 ds fs m2 s1 (s.sl.up s1.fz) xo q) x)
/-! ### what is walked -/
structure Yl (K : PySem.W.Frag) (J : It) (F : Hp) (items : List D) : Prop where
  go : ∀ i H, Same F H → i < items.length → J.go i H
  stop : ∀ H, Same F H → J.stop items.length H
  yld : ∀ i H x H' F1 m, Same F F1 → Same F1 H → MemOk K F1 H m → i < items.length → J.yld i H x H' → ∃ F2 d, items[i]? = some d ∧ Stp K F1 H m F2 H' m ∧ Rp K F2 x d
def Wi (X : Cx) (tg iter : Expr) (σ : L2.St) (H : Hp) (R : It → Hp → Prop) : Prop := ∀ pins s, Inv X pins σ H s → wpAny (model X.prog X.w) X.A (eval iter X.env) (fun v s1 => wpAny (model X.prog X.w) X.A (pyIter v) (PIE X pins σ tg R) X.xe s1) X.xe s
theorem pw_i {tg iter : Expr} : PI X tg iter (Wi X tg iter) := ⟨fun pins s _ _ _ I h => h pins s I⟩
theorem Wi.of {tg iter : Expr} {t : TI} (p : PI X tg iter t) {σ : L2.St} {H : Hp} {R : It → Hp → Prop} (h : t σ H R) : Wi X tg iter σ H R := fun pins s I => p.run pins s σ H R I h
def IW (X : Cx) (W : WX) (tg iter : Expr) (ds : DS) (m : Mem) (Φ : List D → Mem → Prop) (Ξ : XP) : Prop := ∀ F H σ, StOk X.K F H σ ds m → ∀ R : It → Hp → Prop, (∀ J F2 H2 items m2, Stp X.K F H m F2 H2 m2 → Yl X.K J F2 items → Φ items m2 → R J H2) → Xc X.K F H m Ξ W → Wi X tg iter σ H R
theorem yl_list {K : PySem.W.Frag} {F : Hp} {a : Addr} {xs : List V} {l : List D} (h : F a = some (.lst xs)) (r : RpA K F xs l) : Yl K (Itl K a) F l := by
  have hs : ∀ {H}, Same F H → SqL K H a xs := fun s => Or.inl (Or.inl (s _ _ h))
  refine ⟨fun i H s hi => ?_, fun H s => ⟨xs, hs s, by rw [r.len]; exact Nat.le_refl _⟩, fun i H x H' F1 m f1 s1 mm hi y => ?_⟩
  · obtain ⟨v, h1, _⟩ := r.get (List.getElem?_eq_getElem hi)
    exact ⟨xs, v, hs s, h1⟩
  · obtain ⟨rfl, y⟩ := y
    obtain ⟨d, h1, h2⟩ := r.gtv (y xs (hs (f1.trans s1)))
    exact ⟨F1, d, h1, Stp.of s1 mm, h2.up f1⟩
theorem yl_tup {K : PySem.W.Frag} {F : Hp} {a : Addr} {xs : List V} {l : List D} (h : SqT K F a xs) (r : RpA K F xs l) : Yl K (Itt K a) F l := by
  have hs : ∀ {H}, Same F H → SqT K H a xs := fun s => same_t s h
  refine ⟨fun i H s hi => ?_, fun H s => ⟨xs, hs s, by rw [r.len]; exact Nat.le_refl _⟩, fun i H x H' F1 m f1 s1 mm hi y => ?_⟩
  · obtain ⟨v, h1, _⟩ := r.get (List.getElem?_eq_getElem hi)
    exact ⟨xs, v, hs s, h1⟩
  · obtain ⟨rfl, y⟩ := y
    obtain ⟨d, h1, h2⟩ := r.gtv (y xs (hs (f1.trans s1)))
    exact ⟨F1, d, h1, Stp.of s1 mm, h2.up f1⟩
def rngD (lo : Int) (n : Nat) : List D := (List.range n).map fun (i : Nat) => .int (lo + (i : Int))
theorem yl_rng {K : PySem.W.Frag} {F : Hp} (lo : Int) (n : Nat) : Yl K (Itr lo n) F (rngD lo n) := by
  have hl : (rngD lo n).length = n := by simp [rngD]
  refine ⟨fun i H s hi => by rw [hl] at hi; exact hi, fun H s => by rw [hl]; exact Nat.le_refl n, fun i H x H' F1 m f1 s1 mm hi y => ?_⟩
  obtain ⟨rfl, rfl⟩ := y
  rw [hl] at hi
  exact ⟨F1, .int (lo + i), by simp [rngD, hi], Stp.of s1 mm, .int _⟩
def signs (s : Str) : List D := s.cps.toList.map fun c => .str ⟨#[c]⟩
theorem yl_str {K : PySem.W.Frag} {F : Hp} (s : Str) : Yl K (Its s) F (signs s) := by
  have hl : (signs s).length = s.cps.size := by simp [signs]
  refine ⟨fun i H _ hi => by rw [hl] at hi; exact hi, fun H _ => by rw [hl]; exact Nat.le_refl _, fun i H x H' F1 m f1 s1 mm hi y => ?_⟩
  obtain ⟨rfl, c, hc, rfl⟩ := y
  refine ⟨F1, .str ⟨#[c]⟩, ?_, Stp.of s1 mm, .str _⟩
  have hc' : s.cps.toList[i]? = some c := by simpa using hc
  simp [signs, List.getElem?_map, hc']
/-- a list, a tuple or a text as a whole -/
inductive Seq : D → List D → Prop
  | lst (l : List D) : Seq (.lst l) l
  | tup (l : List D) : Seq (.tup l) l
  | str (s : Str) : Seq (.str s) (signs s)
theorem iw_lst {tg : Expr} {Φ : List D → Mem → Prop} (h : EW X W e ds m (fun d m1 => ∃ l, d = .lst l ∧ Φ l m1) Ξ) : IW X W tg e ds m Φ Ξ := fun F H σ s R n x =>
  Wi.of (pi_list pw_e) (h F H σ s _ (fun v F2 H2 d m2 s1 r ⟨l, e, q⟩ => by
    subst e
    cases r with
    | lst h1 rr => exact ⟨_, rfl, ⟨_, Or.inl (Or.inl (s1.sub _ _ h1))⟩, n _ F2 H2 l m2 s1 (yl_list h1 rr) q⟩) x)
theorem iw_tup {tg : Expr} {Φ : List D → Mem → Prop} (h : EW X W e ds m (fun d m1 => ∃ l, d = .tup l ∧ Φ l m1) Ξ) : IW X W tg e ds m Φ Ξ := fun F H σ s R n x =>
  Wi.of (pi_tup pw_e) (h F H σ s _ (fun v F2 H2 d m2 s1 r ⟨l, e, q⟩ => by
    subst e
    cases r with
    | tup h1 rr => exact ⟨_, rfl, ⟨_, sq_t (s1.sub _ _ h1)⟩, n _ F2 H2 l m2 s1 (yl_tup (sq_t h1) rr) q⟩) x)
theorem iw_str {tg : Expr} {Φ : List D → Mem → Prop} (h : EW X W e ds m (fun d m1 => ∃ z, d = .str z ∧ Φ (signs z) m1) Ξ) : IW X W tg e ds m Φ Ξ := fun F H σ s R n x =>
  Wi.of (pi_str pw_e) (h F H σ s _ (fun v F2 H2 d m2 s1 r ⟨z, e, q⟩ => by
    subst e
    cases r
    exact ⟨z, rfl, n _ F2 H2 _ m2 s1 (yl_str z) q⟩) x)
theorem iw_rng1 {tg : Expr} {p : Pos} {Φ : List D → Mem → Prop} (hm : X.mg "range" = none) (h : EW X W a ds m (fun d m1 => ∃ j, d = .int j ∧ -(2 ^ 62) ≤ j ∧ j < 2 ^ 62 ∧ Φ (rngD 0 j.toNat) m1) Ξ) (hg : Gl X "range" := by with_unfolding_all rfl) (hs : starEach [a] X.env = [(false, eval a X.env)] := by with_unfolding_all rfl) : IW X W tg (.Call (.Name "range" p) [a] [] pos) ds m Φ Ξ := fun F H σ s R n x =>
  Wi.of (pi_range1 hg hm (pa_cons pw_e pa_nil hs) hs) (h F H σ s _ (fun v F2 H2 d m2 s1 r ⟨j, e, l1, l2, q⟩ => by
    subst e
    cases r
    exact ⟨j, rfl, l1, l2, n _ F2 H2 _ m2 s1 (yl_rng 0 _) q⟩) x)
theorem iw_rng2 {tg : Expr} {p : Pos} {Φ : List D → Mem → Prop} (hm : X.mg "range" = none) (h : EW X W a ds m (fun d1 m1 => EW X W b ds m1 (fun d2 m2 => ∃ i j, d1 = .int i ∧ d2 = .int j ∧ (-(2 ^ 62) ≤ i ∧ i < 2 ^ 62 ∧ -(2 ^ 62) ≤ j ∧ j < 2 ^ 62) ∧ Φ (rngD i (j - i).toNat) m2) Ξ) Ξ) (hg : Gl X "range" := by with_unfolding_all rfl)
    (hs : starEach [a, b] X.env = [(false, eval a X.env), (false, eval b X.env)] := by with_unfolding_all rfl) (hs2 : starEach [b] X.env = [(false, eval b X.env)] := by with_unfolding_all rfl) : IW X W tg (.Call (.Name "range" p) [a, b] [] pos) ds m Φ Ξ := fun F H σ s R n x =>
  Wi.of (pi_range2 hg hm (pa_cons pw_e (pa_cons pw_e pa_nil hs2) (by rw [hs, hs2])) hs hs2) (h F H σ s _ (fun v F2 H2 d m2 s1 r q => q F2 H2 σ (s.go s1) _ (fun v2 F3 H3 d2 m3 s2 r2 ⟨i, j, e1, e2, l, q9⟩ => by
    subst e1 e2
    cases r
    cases r2
    exact ⟨i, j, rfl, l, n _ F3 H3 _ m3 (s1.trans s2) (yl_rng i _) q9⟩) (x.go s1)) x)
/-! ### for: by an invariant over the turn, the slots and the cells -/
theorem sw_for {tg iter : Expr} {body : List Stmt} (hp : PassesOwn (model X.prog X.w) X.A X.env X.xe) (h : IW X W tg iter ds m (fun items m1 => ∃ I : Nat → DS → Mem → Prop, I 0 ds m1 ∧
      (∀ i d ds2 m2, items[i]? = some d → I i ds2 m2 → GW X W tg d ds2 m2 (fun ds3 m3 => BW X W body ds3 m3 { nx := I (i + 1), ct := I (i + 1), bk := N.nx, rt := N.rt } Ξ) Ξ) ∧ ∀ ds2 m2, I items.length ds2 m2 → N.nx ds2 m2) Ξ)
    (hc : X.calm = true := by with_unfolding_all rfl) (hs : ∀ x, foldedSetIterable iter X.env x = pure x := by with_unfolding_all (intro _; rfl)) : SW X W (.For tg iter body [] pos) ds m N Ξ := fun F H σ s De n x =>
  Ws.of (ps_for hp hc pw_i pw_g pw_b hs) (h F H σ s _ (fun J F2 H2 items m2 s1 yl ⟨I, i0, it, ie⟩ => by
    refine ⟨fun i k σ' H' => k = items.length - i ∧ i ≤ items.length ∧ ∃ F' ds' m', Stp X.K F H m F' H' m' ∧ Same F2 F' ∧ SlA X.K F' σ' ds' ∧ I i ds' m', ⟨items.length, by simp, Nat.zero_le _, F2, ds, m2, s1, Same.refl _, s.sl.up s1.fz, i0⟩, ?_⟩
    rintro i k σ' H' ⟨rfl, hi, F', ds', m', s2, f2, sl', q⟩
    by_cases hlt : i < items.length
    · refine .inr ⟨yl.go i H' (f2.trans s2.sub) hlt, fun σ3 H3 => i + 1 ≤ items.length ∧ ∃ F3 ds3 m3, Stp X.K F H m F3 H3 m3 ∧ Same F2 F3 ∧ SlA X.K F3 σ3 ds3 ∧ I (i + 1) ds3 m3, fun σ3 H3 p => ⟨items.length - (i + 1), by omega, rfl, p⟩, fun y H3 hy => ?_⟩
      obtain ⟨F3, d, hd, s3, ry⟩ := yl.yld i H' y H3 F' m' f2 s2.sub s2.mem hlt hy
      have s23 := s2.trans s3
      refine it i d ds' m' hd q F3 H3 σ' y ⟨s3.sub, sl'.up s3.fz, s3.mem⟩ ry _ (fun σ4 F4 H4 ds4 m4 s4 sl4 q4 => ?_) (x.go s23)
      have s24 := s23.trans s4
      have sf : Same F2 F4 := (f2.trans s3.fz).trans s4.fz
      refine q4 F4 H4 σ4 ⟨s4.sub, sl4, s4.mem⟩ _ ⟨fun σ5 F5 H5 ds5 m5 s5 sl5 q5 => ?_, n.rt.go s24, n.nx.go s24, fun σ5 F5 H5 ds5 m5 s5 sl5 q5 => ?_⟩ (x.go s24)
      · exact ⟨hlt, F5, ds5, m5, s24.trans s5, sf.trans s5.fz, sl5, q5⟩
      · exact ⟨hlt, F5, ds5, m5, s24.trans s5, sf.trans s5.fz, sl5, q5⟩
    · have e : i = items.length := by omega
      subst e
      exact .inl ⟨yl.stop H' (f2.trans s2.sub), n.nx σ' F' H' ds' m' s2 sl' (ie ds' m' q)⟩) x)
theorem sw_while {body : List Stmt} (hp : PassesOwn (model X.prog X.w) X.A X.env X.xe) (I : Nat → DS → Mem → Prop) (k0 : Nat) (h0 : I k0 ds m)
    (hs : ∀ k ds2 m2, I k ds2 m2 → TW X W c ds2 m2 (fun t m3 => if t = true then BW X W body ds2 m3 { nx := fun ds4 m4 => ∃ k', k' < k ∧ I k' ds4 m4, ct := fun ds4 m4 => ∃ k', k' < k ∧ I k' ds4 m4, bk := N.nx, rt := N.rt } Ξ else N.nx ds2 m3) Ξ) : SW X W (.While c body [] pos) ds m N Ξ := fun F H σ s De n x =>
  Ws.of (ps_while hp pw_t pw_b) (by
    refine ⟨fun k σ' H' => ∃ F' ds' m', Stp X.K F H m F' H' m' ∧ SlA X.K F' σ' ds' ∧ I k ds' m', ⟨k0, F, ds, m, s.stp, s.sl, h0⟩, ?_⟩
    rintro k σ' H' ⟨F', ds', m', s1, sl1, q⟩
    refine hs k ds' m' q F' H' σ' ⟨s1.sub, sl1, s1.mem⟩ _ (fun t F3 H3 m3 s3 q3 => ?_) (x.go s1)
    have s13 := s1.trans s3
    cases t with
    | true =>
      refine iteT ⟨fun σ5 H5 => ∃ k', k' < k ∧ ∃ F5 ds5 m5, Stp X.K F H m F5 H5 m5 ∧ SlA X.K F5 σ5 ds5 ∧ I k' ds5 m5, fun σ5 H5 p => p, ?_⟩
      refine (show BW X W body ds' m3 _ Ξ from q3) F3 H3 σ' ⟨s3.sub, sl1.up s3.fz, s3.mem⟩ _ ⟨fun σ5 F5 H5 ds5 m5 s5 sl5 q5 => ?_, n.rt.go s13, n.nx.go s13, fun σ5 F5 H5 ds5 m5 s5 sl5 q5 => ?_⟩ (x.go s13)
      · obtain ⟨k', hk, q5⟩ := q5
        exact ⟨k', hk, F5, ds5, m5, s13.trans s5, sl5, q5⟩
      · obtain ⟨k', hk, q5⟩ := q5
        exact ⟨k', hk, F5, ds5, m5, s13.trans s5, sl5, q5⟩
    | false => exact iteF (n.nx σ' F3 H3 ds' m3 s13 (sl1.up s3.fz) q3))
end
end G
namespace G
open PySem PySem.Spec PyProof.Rows L2
/-! ### defs: promises on data -/
abbrev XF := Addr → List (Str × D) → Mem → Prop
abbrev SpD := List D → Mem → (D → Mem → Prop) → XF → Prop
def lift (K : PySem.W.Frag) (n : Nat) (sp : SpD) : Sp := fun vs H Q E => ∃ F l m Φ Ψ, Same F H ∧ RpA K F vs l ∧ l.length = n ∧ MemOk K F H m ∧ sp l m Φ Ψ ∧ Nm K F H m Φ Q ∧ ∀ C dd F2 H2 fs m2, Stp K F H m F2 H2 m2 → XOk K F2 dd fs → Ψ C fs m2 → E (.ref C) dd H2
structure FnD (P : Program) (w : World) (K : PySem.W.Frag) (mg : Str → Option Value) (base : Heap) (k : Nat) (x : Str) (f : Addr) (n : Nat) (sp : SpD) : Prop where
  ok : ∃ fd ps, ps.length = n ∧ FnOk P w K mg base (L2.CX P w) k f fd ps (lift K n sp) ∧ Binds K fd ps []
  kp : PySem.W.keepIn K (.ref f) = true
  gl : mg x = some (.ref f)
/-- a wish that does not look at the slots -/
abbrev Wo (E : XK) : WX := fun cls d _ H => E cls d H
section
variable {P : Program} {w : World} {K : PySem.W.Frag} {mg : Str → Option Value} {base : Heap}
theorem sl_start {F : Hp} : ∀ {vs : List V} {l : List D} (k : Nat), RpA K F vs l → SlA K F (vs.map some ++ List.replicate k none) (l.map some ++ List.replicate k none)
  | _, [], k, r => by
    cases r
    show SlA K F (List.replicate k none) (List.replicate k none)
    induction k with
    | zero => exact .nil
    | succ k ih => exact .cons (.any _) ih
  | _, _ :: _, k, r => by cases r with | cons a b => exact .cons (.val a) (sl_start k b)
theorem fd_ok {x qual y : Str} {st : Stmt} {f : Addr} {fd : FuncData} {N ps : List Str} {k : Nat} {sp : SpD} (Fn : Fun K x qual st f fd) (S : FnScope N ps (defScope st)) (b : Binds K fd ps []) (gl : mg y = some (.ref f))
    (body : ∀ (cdv : Value) (A : Around) (outer : List Env) (s : Shared) (H0 : Hp) (E : XK), Room k (A.deeper (envOfC qual (defScope st) s.heap.objs.size f cdv)) →
      Takes (cxOf (L2.CX P w) P w K mg base N qual (defScope st) f cdv A outer s H0 E) (Wo E) →
      PassesOwn (model P w) (cxOf (L2.CX P w) P w K mg base N qual (defScope st) f cdv A outer s H0 E).A (cxOf (L2.CX P w) P w K mg base N qual (defScope st) f cdv A outer s H0 E).env (cxOf (L2.CX P w) P w K mg base N qual (defScope st) f cdv A outer s H0 E).xe →
      ∀ l m Φ Ψ, l.length = ps.length → sp l m Φ Ψ → BW (cxOf (L2.CX P w) P w K mg base N qual (defScope st) f cdv A outer s H0 E) (Wo E) (defBody st) (l.map some ++ List.replicate (N.length - ps.length) none) m { nx := fun _ m => Φ .non m, rt := Φ } fun _ => Ψ) :
    FnD P w K mg base (k + 1) y f ps.length sp := by
  refine ⟨⟨fd, ps, rfl, Fn.okX S (fun vs H Q E h => ?_) (fun cdv A outer s H vs Q E hr h => ⟨_, pw_b, ?_⟩), b⟩, Fn.kp, gl⟩
  · obtain ⟨F, l, m, Φ, Ψ, _, r, hl, _⟩ := h
    rw [r.len, hl]
  · obtain ⟨F, l, m, Φ, Ψ, sb, r, hl, mm, hs, n, x⟩ := h
    have hv : vs.length = ps.length := by rw [r.len, hl]
    refine body cdv A outer s H E hr (takes_of rfl rfl rfl rfl) (passes_of rfl) l m Φ Ψ hl hs F H (L2.start N vs) ⟨sb, ?_, mm⟩ _ ⟨fun σ F2 H2 ds m2 s1 _ q => n .non F2 H2 .non m2 s1 .non q, n, fun _ _ _ _ _ _ _ q => q.elim, fun _ _ _ _ _ _ _ q => q.elim⟩ fun C dd σ F2 H2 ds fs m2 s1 _ xo q => x C dd F2 H2 fs m2 s1 xo q
    unfold L2.start
    rw [hv]
    exact sl_start _ r
end
section
variable {X : Cx} {W : WX} {e a b c : Expr} {es : List Expr} {ds : DS} {m : Mem} {Φ Ψ : D → Mem → Prop} {Ξ : XP} {N : En} {p pos : Pos} {d : D} {x : Str} {i k n : Nat} {f : Addr} {sp : SpD}
theorem lift_call {σ : L2.St} {F H : Hp} {Q : VK} (s : StOk X.K F H σ ds m) (nn : Nm X.K F H m Φ Q) (xx : Xc X.K F H m Ξ W) {vs : List V} {F2 H2 : Hp} {l : List D} {m2 : Mem} (s1 : Stp X.K F H m F2 H2 m2) (r : RpA X.K F2 vs l) (hl : l.length = n) (hs : sp l m2 Φ (Ξ ds)) :
    lift X.K n sp vs H2 Q (L2.WE W σ) := ⟨F2, l, m2, Φ, Ξ ds, s1.sub, r, hl, s1.mem, hs, nn.go s1, fun C dd F3 H3 fs m3 s2 xo q => xx C dd σ F3 H3 ds fs m3 (s1.trans s2) (s.sl.up (s1.trans s2).fz) xo q⟩
theorem ew_call (Fd : FnD X.prog X.w X.K X.mg X.base k x f n sp) (hr : Room k X.A) (tk : Takes X W) (h : AW X W (e :: es) ds m (fun l m1 => l.length = n ∧ sp l m1 Φ (Ξ ds)) Ξ) (hg : Gl X x := by with_unfolding_all rfl)
    (hdb : (x == ("__debug__" : Str)) = false := by decide) (he : starEach (e :: es) X.env = (false, eval e X.env) :: starEach es X.env := by with_unfolding_all rfl) (hpl : (backTo pos (starEach es X.env)).any (·.1) = false := by with_unfolding_all rfl) : EW X W (.Call (.Name x p) (e :: es) [] pos) ds m Φ Ξ := fun F H σ s Q nn xx => by
  obtain ⟨fd, ps, hn, ok, bd⟩ := Fd.ok
  exact We.of (pe_callS ok hr hg Fd.gl Fd.kp bd (fun σ => passAt tk σ) pw_a hdb he hpl) (h F H σ s _ (fun vs F2 H2 l m2 s1 r ⟨hl, hs⟩ => lift_call s nn xx s1 r hl hs) xx)
/-- f(..), f any expression that gives a def -/
theorem ew_callV {g : Expr} (hr : Room k X.A) (tk : Takes X W) (h : EW X W g ds m (fun d m1 => ∃ (x : Str) (f : Addr) (n : Nat) (sp : SpD), d = .ref f ∧ FnD X.prog X.w X.K X.mg X.base k x f n sp ∧ AW X W (e :: es) ds m1 (fun l m2 => l.length = n ∧ sp l m2 Φ (Ξ ds)) Ξ) Ξ)
    (hc : eval (.Call g (e :: es) [] pos) X.env = (do callWith pos (← eval g X.env) [] (backTo pos (starEach (e :: es) X.env)) (backToKw pos (keywordEach [] X.env))) := by with_unfolding_all rfl)
    (he : starEach (e :: es) X.env = (false, eval e X.env) :: starEach es X.env := by with_unfolding_all rfl) (hpl : (backTo pos (starEach es X.env)).any (·.1) = false := by with_unfolding_all rfl) : EW X W (.Call g (e :: es) [] pos) ds m Φ Ξ := fun F H σ s Q nn xx pins sh I => by
  refine Call_ (thn (h F H σ s (fun v H2 => ∃ F2 d m2, Stp X.K F H m F2 H2 m2 ∧ Rp X.K F2 v d ∧ ∃ (x : Str) (f : Addr) (n : Nat) (sp : SpD), d = .ref f ∧ FnD X.prog X.w X.K X.mg X.base k x f n sp ∧ AW X W (e :: es) ds m2 (fun l m3 => l.length = n ∧ sp l m3 Φ (Ξ ds)) Ξ) (fun v F2 H2 d m2 s1 r q => ⟨F2, d, m2, s1, r, q⟩) xx pins sh I) fun u s1 hh => ?_) hc
  obtain ⟨v, H2, I1, ru, F2, d, m2, st, rv, x, f, n, sp, e1, Fd, q⟩ := hh
  subst e1
  cases rv
  obtain rfl : u = Value.ref f := ru
  obtain ⟨fd, ps, hn, ok, bd⟩ := Fd.ok
  refine PySem.W.callWith_K (h₀ := X.base) I1.ok.mod.kin Fd.kp (thn (q F2 H2 σ (s.go st) (fun vs H3 => lift X.K n sp vs H3 Q (L2.WE W σ)) (fun vs F3 H3 l m3 s3 r ⟨hl, hs⟩ => lift_call s nn xx (st.trans s3) r hl hs) (xx.go st) pos pins s1 I1) fun us s2 ⟨vs, H3, I3, r3, q3⟩ => ⟨I3.kIn, ?_⟩) he hpl
  exact run_fnS ok hr bd (passAt tk σ) I3 r3 q3
end
/-! ### own errors -/
section
variable {X : Cx} {e : Expr} {es : List Expr} {ta : TA} {x : Str} {B C : Addr} {mc : Value} {p1 p2 pos p : Pos}
/-- Base.__init__(self, ..): Base a class of the text over ValueError -/
theorem pe_binit {pl : Sem Bool} (hm : X.mg x = some (.ref B)) (rd : ClX.CRead X.K B mc) (vi : PySem.W.findCls X.K (.ref B) mc "__init__" = some (.val (.builtin "ValueError.__init__"))) (ha : PA X (e :: es) ta) (hg : Gl X x := by with_unfolding_all rfl) (hdb : (x == ("__debug__" : Str)) = false := by decide)
    (hc : eval (.Call (.Attribute (.Name x p1) "__init__" p2) (e :: es) [] pos) X.env = (do
      let obj ← eval (.Name x p1) X.env
      standAt p2.atName
      let (fn, self) ← holding [obj] (getMethod obj "__init__" pl)
      callWith pos fn self (backTo pos (starEach (e :: es) X.env)) (backToKw pos (keywordEach [] X.env))) := by with_unfolding_all rfl)
    (he : starEach (e :: es) X.env = (false, eval e X.env) :: starEach es X.env := by with_unfolding_all rfl) (hpl : (backTo pos (starEach es X.env)).any (·.1) = false := by with_unfolding_all rfl) : PE X (.Call (.Attribute (.Name x p1) "__init__" p2) (e :: es) [] pos) (tVeI X.K ta) := by
  refine ⟨fun pins s σ H Q I h => ?_⟩
  refine PySem.W.methodCall_KW (pl := pl) (ld_glob I hg hm ?_ hdb) hc
  refine PySem.W.method_cls I.kIn rd.ga (PySem.W.cls_value I.kIn rd.rd vi (by decide +kernel) ?_)
  show wpAny _ _ (callWith pos (Value.builtin "ValueError.__init__") [] _ []) _ _ _
  refine PyProof.Rows.callWith_method1 (thn (ha.run pos pins _ σ H _ (I.tok _) h) fun us s1 hh => ?_) he hpl
  obtain ⟨vs, H1, I1, r1, a, C, ws, ev, hl, T, ea, q⟩ := hh
  subst ev
  cases r1 with
  | @cons _ u0 _ ur ra rw' =>
    obtain rfl : u0 = Value.ref a := ra
    exact oinit_ok T I1 ea (by rw [← Paired.length rw', sizeLine_eq]; omega) fun s' J => ⟨.non, H1, J, rfl, q⟩
/-- the end of C(): an exception without a dict is let go -/
theorem mk_bare {pins : List (Addr × Obj)} {σ : L2.St} {H1 H2 : Hp} {Q : XK} {hp hp2 h2 : Heap} {g1 g2 : Array GenState} {d1 d2 : Drawn} {t1 t2 : Nat} {os1 os2 : OsState} {a : Addr} (T : Raises X (.ref C)) (I1 : Inv X pins σ H1 ⟨hp, g1, d1, t1, os1⟩)
    (ha : hp.objs.size ≤ a) (k : ∀ b o, hp.get? b = some o → hp2.get? b = some o) (un : Un (frs X.stack) [] (upd H1 a (exo a C none)) H2 hp2 h2) (hok : HOk X.prog X.w H2 h2) (ho : os2 = os1) (hb : AllBare g2) (ea : H2 a = some (exo a C none)) (q : Q (.ref C) none (del H2 a)) :
    MkP X pins σ Q (.ref a) ⟨h2, g2, d2, t2, os2⟩ := by
  obtain ⟨t0, hoe⟩ := exo_at hok ea
  have hn : H1 a = none := I1.hok.fresh ha
  obtain ⟨Gh, g1', g2'⟩ := restrict h2 fun b => decide (b ≠ a)
  have gk : ∀ b, b ≠ a → Gh.get? b = h2.get? b := fun b hb => g1' b (decide_eq_true hb)
  have ge : Gh.get? a = none := g2' a (by simp)
  have old : ∀ {b : Addr} {o : Obj}, hp.get? b = some o → b ≠ a := fun {b o} z => Nat.ne_of_lt (Nat.lt_of_lt_of_le (Heap.lt_size z) ha)
  have up : ∀ {b : Addr}, b ≠ a → H1 b = none → upd H1 a (exo a C none) b = none := fun {b} hb n => (upd_ne hb).trans n
  have U : Un (frs X.stack) [] H1 (del H2 a) hp Gh := ⟨fun b o z n hf hx => (gk b (old z)).trans (un.keep b o (k b o z) (up (old z) n) hf hx), fun b o z n hf hx => by
      obtain ⟨sl, y⟩ := un.slot b o (k b o z) (up (old z) n) hf hx
      exact ⟨sl, (gk b (old z)).trans y⟩, fun b o z n hx => (del_ne (old z)).trans (un.free b o (k b o z) (up (old z) n) hx), fun b o z hx => by
      obtain ⟨o', y⟩ := un.there b o (k b o z) hx
      exact ⟨o', (gk b (old z)).trans y⟩, fun b xs z => (del_ne (ne_of_none z hn)).trans (un.tups b xs ((upd_ne (ne_of_none z hn)).trans z)), fun b o v z => (del_ne (ne_of_none z hn)).trans (un.frzs b o v ((upd_ne (ne_of_none z hn)).trans z)), fun b ps z => by
      obtain ⟨more, y⟩ := un.tbls b ps ((upd_ne (ne_of_none z hn)).trans z)
      exact ⟨more, (del_ne (ne_of_none z hn)).trans y⟩⟩
  have hok3 : HOk X.prog X.w (del H2 a) Gh := fun b o z => by
    have hba : b ≠ a := fun e => by
      rw [e, del_same] at z
      cases z
    rw [del_ne hba] at z
    have noa : ∀ {c : Addr}, H2 c = some (.own b) → c ≠ a := fun {c} hc => at_ne ea hc exo_own
    exact (hok b o z).stay (fun c v hc y => (gk c (hc.elim (fun e => e ▸ hba) noa)).trans y) (fun c hc => (del_ne (noa hc)).trans hc) fun c xs hc => (del_ne (at_ne ea hc exo_tup)).trans hc
  have J : Inv X pins σ (del H2 a) ⟨Gh, g2, d2, t2, os2⟩ := I1.call' (ch := []) ho U hok3 hb fun b z => absurd z (by simp)
  refine ⟨a, _, _, ⟨Gh, g2, d2, t2, os2⟩, _, .ref C, none, rfl, J, fun b o z => ?_, ge, hoe, ⟨rfl, rfl⟩, rfl, rfl, del_same, rfl, hb, T, q⟩
  by_cases hba : b = a
  · have z' : Gh.get? b = some o := z
    rw [hba, ge] at z'
    cases z'
  · exact (gk b hba).symm.trans z
def tMkB (C : Addr) (sp : Sp) : L2.St → Hp → XK → Prop := fun σ H Q => ∀ a, H a = none → sp [.ref a] (upd H a (exo a C none)) (fun v H2 => v = .non ∧ H2 a = some (exo a C none) ∧ Q (.ref C) none (del H2 a)) (fun _ _ _ => False)
theorem pmk_bare {k : Nat} {fI : Addr} {fd : FuncData} {ps : List Str} {sp : Sp} (T : OexC X.K C) (iC : PySem.W.findIn X.K (.ref C) "__init__" = some (some (.ref fI))) (tI : PySem.W.typeIn X.K (.ref fI) = some (.type "function"))
    (F1 : FnOk X.prog X.w X.K X.mg X.base CX0 k fI fd ps sp) (hr : Room (k + 1) X.A) (hb : Binds X.K fd ps []) (hm : X.mg x = some (.ref C)) (hg : Gl X x := by with_unfolding_all rfl) (hdb : (x == ("__debug__" : Str)) = false := by decide) : PMk X (.Call (.Name x p) [] [] pos) (tMkB C sp) := by
  intro pins s σ H Q I h
  obtain ⟨nm, q, N, bs, bm, sn, sub, ab, col, dd, k0, k1, k2, k3, k5, hC, hbm⟩ := T.cls
  refine wpAny_Call_Name_kw (ld_glob I hg hm ?_ hdb)
  refine PySem.W.callWith_K0 I.kIn T.kC ?_
  show wpAny _ _ (call (.ref C) []) _ _ _
  obtain ⟨hp, g, dr, tk, os⟩ := s
  have hsz : hp.objs.size ≤ hp.objs.size + 1 := Nat.le_succ _
  have hq := h (hp.objs.size + 1) (I.hok.fresh hsz)
  have kk : ∀ b o, hp.get? b = some o → ((hp.push (PySem.W.kdv_tup [])).push (PySem.HandSPX.excO C hp.objs.size)).get? b = some o := fun b o e => Heap.get?_push_of_some _ (Heap.get?_push_of_some _ e)
  have hget : ((hp.push (PySem.W.kdv_tup [])).push (PySem.HandSPX.excO C hp.objs.size)).get? (hp.objs.size + 1) = some (PySem.HandSPX.excO C hp.objs.size) := by heap_get
  have I2 : Inv X pins σ (upd H (hp.objs.size + 1) (exo (hp.objs.size + 1) C none)) ⟨(hp.push (PySem.W.kdv_tup [])).push (PySem.HandSPX.excO C hp.objs.size), g, dr, tk, os⟩ := I.laid (t' := tk) kk hsz (exo_ok hget)
  have r2 : Vals [V.ref (hp.objs.size + 1)] [Value.ref (hp.objs.size + 1)] := .cons rfl .nil
  have hl : [Value.ref (hp.objs.size + 1)].length = ps.length := by
    have e := r2.length
    rw [F1.len _ _ _ _ hq] at e
    exact e.symm
  have bt := hb ⟨(hp.push (PySem.W.kdv_tup [])).push (PySem.HandSPX.excO C hp.objs.size), g, dr, tk, os⟩ [Value.ref (hp.objs.size + 1)] I2.kIn (by rw [List.append_nil]; exact hl)
  rw [List.append_nil] at bt
  refine wpAny_call (PySem.HandSPX.call_own F.excBase_ValueError (fun Y => PySem.HandSPX.refsVE_contains Y bm hbm) (I.kIn _ _ hC) (PySem.W.looks_findIn I.kIn iC) (fun self => PySem.W.bind_fn I.kIn self tI) (by decide)
    (codeAny_mono (F1.run _ X.stack _ _ ⟨[Value.ref (hp.objs.size + 1)], []⟩ [Value.ref (hp.objs.size + 1)] _ _ (fun _ _ _ => False) (hr.make C [] []) (I2.env0.make C [] []) bt r2 hq) fun r s' hq' => ?_))
  cases r with
  | error er => exact hq'.elim
  | ok fl =>
    cases fl with
    | ret u =>
      obtain ⟨v, H2, os2, bare2, un2, hok2, rv, ev, ea, q2⟩ := hq'
      subst ev
      obtain ⟨h2, g2, d2, t2, os'⟩ := s'
      exact ⟨rv, mk_bare (raises_own T.exC T.tyC) I (Nat.le_succ _) kk un2 hok2 os2 bare2 ea q2⟩
    | next => exact False.elim hq'
    | brk => exact False.elim hq'
    | cont => exact False.elim hq'
end
end G
namespace G
open PySem PySem.Spec PyProof.Rows L2
/-! ### an own error class with its __init__ -/
/-- __init__(self, ..): the arguments become the fields fs -/
def spE (C : Addr) (fs : List Str) : Sp := fun vs H Q _ => ∃ a ws, vs = .ref a :: ws ∧ ws.length = fs.length ∧ H a = some (exo a C none) ∧ (fs = [] → Q .non H) ∧
  (fs ≠ [] → ∀ dx, H dx = none → dx ≠ a → Q .non (upd (upd H dx (exd dx (fs.zip ws))) a (exo a C (some dx))))
structure Err (P : Program) (w : World) (K : PySem.W.Frag) (mg : Str → Option Value) (base : Heap) (x : Str) (C : Addr) (fs : List Str) : Prop where
  cl : OexC K C
  gl : mg x = some (.ref C)
  xf : XfC K C
  nf : ∀ f ∈ fs, PySem.W.findIn K (.ref C) f = some none
  init : ∃ fI fd ps, PySem.W.findIn K (.ref C) "__init__" = some (some (.ref fI)) ∧ PySem.W.typeIn K (.ref fI) = some (.type "function") ∧ Binds K fd ps [] ∧ FnOk P w K mg base CX0 1 fI fd ps (spE C fs)
section
variable {X : Cx} {W : WX} {e : Expr} {es : List Expr} {ds : DS} {m : Mem} {Ξ : XP} {p pos : Pos} {x : Str} {C : Addr}
theorem kw_err0 {Φ : XF} (R : Err X.prog X.w X.K X.mg X.base x C []) (hr : Room 2 X.A) (q : Φ C [] m) (hg : Gl X x := by with_unfolding_all rfl) (hdb : (x == ("__debug__" : Str)) = false := by decide) : KW X W (.Call (.Name x p) [] [] pos) ds m Φ Ξ := fun F H σ s Q n xx pins sh I => by
  obtain ⟨fI, fd, ps, iC, tI, hb, F1⟩ := R.init
  refine pmk_bare R.cl iC tI F1 hr hb R.gl hg hdb pins sh σ H Q I fun a ha => ?_
  refine ⟨a, [], rfl, rfl, upd_same, fun _ => ⟨rfl, upd_same, ?_⟩, fun z => absurd rfl z⟩
  have e : del (upd H a (exo a C none)) a = H := by
    funext b
    by_cases hb : b = a
    · rw [hb, del_same, ha]
    · rw [del_ne hb, upd_ne hb]
  rw [e]
  exact n C none F H [] m s.stp (.inl ⟨rfl, rfl⟩) q
theorem zip_fs {fs : List Str} {l : List D} (h : l.length = fs.length) : (fs.zip l).map (·.1) = fs ∧ (fs.zip l).map (·.2) = l := by
  constructor
  · rw [List.map_fst_zip (by omega)]
  · rw [List.map_snd_zip (by omega)]
theorem kw_err {Φ : XF} {fs : List Str} (R : Err X.prog X.w X.K X.mg X.base x C fs) (hne : fs ≠ []) (hz : fs.length ≤ 1000) (hr : Room 2 X.A) (h : AW X W (e :: es) ds m (fun l m1 => l.length = fs.length ∧ Φ C (fs.zip l) m1) Ξ) (hg : Gl X x := by with_unfolding_all rfl) (hdb : (x == ("__debug__" : Str)) = false := by decide)
    (he : starEach (e :: es) X.env = (false, eval e X.env) :: starEach es X.env := by with_unfolding_all rfl) (hpl : (backTo pos (starEach es X.env)).any (·.1) = false := by with_unfolding_all rfl) : KW X W (.Call (.Name x p) (e :: es) [] pos) ds m Φ Ξ := fun F H σ s Q n xx pins sh I => by
  obtain ⟨fI, fd, ps, iC, tI, hb, F1⟩ := R.init
  refine pmk_oex (ds := []) (dvs := []) R.cl iC tI F1 hr hb .nil pass0 hg R.gl pw_a hdb he hpl pins sh σ H Q I ?_
  refine h F H σ s _ (fun vs F2 H2 l m2 s1 r hq => ?_) xx
  obtain ⟨hl, q⟩ := hq
  have hv : vs.length = fs.length := by rw [r.len, hl]
  refine ⟨by omega, fun a ha => ⟨a, vs ++ [], rfl, by rw [List.append_nil]; exact hv, upd_same, fun z => absurd z hne, fun _ dx hdx hda => ⟨rfl, dx, fs.zip (vs ++ []), upd_same, ?_, ?_, ?_⟩⟩⟩
  · rw [upd_ne hda, upd_same]
  · rw [upd_ne hda] at hdx
    exact hdx
  · have hdx' : H2 dx = none := by rw [upd_ne hda] at hdx; exact hdx
    rw [List.append_nil]
    have e1 : upd (del (upd (upd (upd H2 a (exo a C none)) dx (exd dx (fs.zip vs))) a (exo a C (some dx))) a) dx (.xd (fs.zip vs)) = upd H2 dx (.xd (fs.zip vs)) := by
      funext b
      by_cases h1 : b = dx
      · rw [h1, upd_same, upd_same]
      · rw [upd_ne h1, upd_ne h1]
        by_cases h2 : b = a
        · rw [h2, del_same, ha]
        · rw [del_ne h2, upd_ne h2, upd_ne h1, upd_ne h2]
    rw [e1]
    have s2 := Stp.lay (o := .xd (fs.zip vs)) s1.sub s1.mem hdx'
    obtain ⟨z1, z2⟩ := zip_fs hl
    exact n C (some dx) _ _ (fs.zip l) m2 (s1.trans s2) (.inr ⟨dx, vs, rfl, by rw [z1]; exact upd_same, by rw [z2]; exact r.up s2.fz⟩) q
end
/-! ### try with several clauses, with and without names -/
abbrev Cls3 := Value × Option Nat × (Addr → Value → Option Addr → TS)
def outI (De : Ends) (i : Nat) : Ends := { nx := fun σ H => De.nx (σ.set i none) H, rt := De.rt, bk := fun σ H => De.bk (σ.set i none) H, ct := fun σ H => De.ct (σ.set i none) H }
def wMix (K : PySem.W.Frag) (Wout : WX) (De : Ends) : List Cls3 → WX
  | [] => Wout
  | (c, oi, ts) :: r => fun cls d σ H => ∃ b, PySem.W.exmOne K cls c = some b ∧ (b = true → ∀ a, H a = none → match oi with
      | none => ts a cls d De σ H
      | some i => ts a cls d (outI De i) (σ.set i (some (.ref a))) H) ∧ (b = false → wMix K Wout De r cls d σ H)
inductive HMix (X : Cx) : List ExceptHandler → List Cls3 → Prop
  | nil : HMix X [] []
  | plain {x : Str} {c : Value} {ts : Addr → Value → Option Addr → TS} {b0 : Stmt} {su : List Stmt} {np hpos : Pos} {hds : List ExceptHandler} {l : List Cls3} (nm : Names X x c)
      (body : ∀ (a : Addr) (oe : Obj) (cls : Value) (d : Option Addr) (pn : List (Addr × Obj)), Zc cls d oe → (∃ vs, oe.data = .fields vs) → PSs (X.suite a ((a, oe) :: pn)) (b0 :: su) (ts a cls d)) (r : HMix X hds l) :
      HMix X (.ExceptHandler (some (.Name x np)) none (b0 :: su) hpos :: hds) ((c, none, ts) :: l)
  | named {x n : Str} {i : Nat} {c : Value} {ts : Addr → Value → Option Addr → TS} {b0 : Stmt} {su : List Stmt} {np hpos : Pos} {hds : List ExceptHandler} {l : List Cls3} (nm : Names X x c) (hi : X.N[i]? = some n) (hk : X.env.kindOf n = some .local)
      (body : ∀ (a : Addr) (oe : Obj) (cls : Value) (d : Option Addr) (pn : List (Addr × Obj)), Zc cls d oe → (∃ vs, oe.data = .fields vs) → PSs (X.suite a ((a, oe) :: pn)) (b0 :: su) (ts a cls d)) (r : HMix X hds l) :
      HMix X (.ExceptHandler (some (.Name x np)) (some n) (b0 :: su) hpos :: hds) ((c, some i, ts) :: l)
section
variable {X : Cx} {body : List Stmt} {h0 : ExceptHandler} {hds : List ExceptHandler} {l : List Cls3} {pos : Pos} {tb : WX → TS} {Wout : WX}
theorem ps_try_mix (hst : X.stack = X.env :: X.outer) (hfr : X.env.frame = some X.env.locals) (hnd : X.N.Nodup) (tk : Takes X Wout)
    (hbody : ∀ (W : WX) (pn : List (Addr × Obj)) (xe : Value → Shared → Prop), Takes (X.tr pn xe) W → PassesOwn (model X.prog X.w) X.A X.env xe → PSs (X.tr pn xe) body (tb W))
    (hh : HMix X (h0 :: hds) l) : PS X (.Try body (h0 :: hds) [] [] pos) (fun De σ H => tb (wMix X.K Wout De l) De σ H) := by
  constructor
  intro pins s σ H De I h
  have ok := I.ok
  have afr : X.A.frames = some (X.env :: X.outer) := by rw [ok.frames, hst]
  let after : Value → Shared → Prop := fun e s1 => wpAny (model X.prog X.w) X.A (noteFrame e X.env) (fun _ s2 => wpAny (model X.prog X.w) X.A (setFlight e none) (fun _ s3 => wpAny (model X.prog X.w) X.A (handleBy e X.env (h0 :: hds)) (SP X pins De) X.xe s3) X.xe s2) X.xe s1
  have catch_ : Takes (X.tr (X.pn ++ pins) after) (wMix X.K Wout De l) := by
    rintro u s' ⟨a, B, sI, pins', σ', H', cls, d, rfl, J', nb, up, sky, na, os, ag, w⟩
    have J : Inv X pins σ' H' sI := J'.ofTry ok
    rw [show (X.tr (X.pn ++ pins) after).stack = X.env :: X.outer from hst] at sky
    show wpAny (model X.prog X.w) X.A (noteFrame (.ref a) X.env) _ _ _
    refine Sky.land Zc.steady afr hfr sky fun h3 fl up3 => ?_
    have J3 : Inv X pins σ' H' { s' with heap := h3 } := J.landed nb fl.1 (up.trans up3) os ag
    obtain ⟨oe3, vs3, he3, hz3, hd3⟩ := fl.there
    have nfr : a ∉ frs (X.env :: X.outer) := fun hm => by
      obtain ⟨_, o', e', hnf⟩ := fl.2.2.1.mem hm
      rw [he3] at e'
      cases e'
      exact hnf _ hd3
    have nL : a ≠ X.env.locals := fun z => nfr (List.mem_filterMap.mpr ⟨X.env, List.mem_cons_self, hfr.trans (congrArg some z.symm)⟩)
    have nF : a ∉ X.fs := fun hm => by
      obtain ⟨e, he, q⟩ := List.mem_filterMap.mp hm
      exact nfr (List.mem_filterMap.mpr ⟨e, List.mem_cons_of_mem _ he, q⟩)
    have S3 := J3.suite he3 hd3 na nL nF
    have LT : PySem.W.Looks (model X.prog X.w) h3 (typeOf (.ref a)) cls := fun A Q E s k q => wpAny_typeOf_ref (k _ _ he3) (by rw [hz3.1]; exact q)
    have test : ∀ {x : Str} {c : Value} {np : Pos} {Q : Value → Shared → Prop} {E : Value → Shared → Prop}, Names X x c → Q c { s' with heap := h3 } → wpAny (model X.prog X.w) (X.A.mark (some (.ref a))) (eval (.Name x np) X.env) Q E { s' with heap := h3 } := by
      intro x c np Q E hc q
      rcases hc with ⟨hg, hdbg, hm | ⟨hm, hv, hnn⟩⟩
      · exact ld_glob (X := X.suite a ((a, oe3) :: (X.pn ++ pins))) S3 hg hm q hdbg
      · exact ld_blt (X := X.suite a ((a, oe3) :: (X.pn ++ pins))) S3 hg hm hv q hnn hdbg
    suffices go : ∀ {hs' : List ExceptHandler} {l' : List Cls3}, HMix X hs' l' → wMix X.K Wout De l' cls d σ' H' → wpAny (model X.prog X.w) X.A (handleBy (.ref a) X.env hs') (SP X pins De) X.xe { s' with heap := h3 } from go hh w
    intro hs' l' hk
    induction hk with
    | nil =>
      intro w
      refine wpAny_handleBy_nil ?_
      obtain ⟨k1, k2, k3, oe, vs, T, oT, ts', he, hz, hd, h1, hr⟩ := id fl
      have fin : wpAny (model X.prog X.w) X.A (setFlight (.ref a) X.env.frame) (fun _ s4 => wpAny (model X.prog X.w) X.A (throw (.ref a) : Sem Flow) (SP X pins De) X.xe s4) X.xe { s' with heap := h3 } := by
        rw [hfr]
        refine HandSPX.setFlight_upZ fl fun h4 hh4 up4 => wpAny_throw (tk _ _ ?_)
        exact ⟨a, B, sI, pins, σ', H', cls, d, rfl, J, nb, (up.trans up3).trans up4, .inr (.inr (by rw [hst]; exact hh4)), na, os, ag, w⟩
      unfold PySem.passOn
      refine wpAny_bind (wpAny_field he hd h1 ?_)
      rw [if_neg (by simp : ¬ ((Value.ref T == Value.none) = true))]
      first
        | exact wpAny_bind (wpAny_pure (wpAny_bind fin))
        | exact wpAny_bind fin
    | plain nm bd r ih =>
      rintro ⟨b, hb1, yes, no⟩
      refine wpAny_handleBy_cons (codeAny_handlers_test ?_) (by intro q; cases q)
      refine test nm ((PySem.W.exm_one (M := model X.prog X.w) J3.kIn LT hb1).here ?_)
      cases b with
      | true =>
        refine codeAny_handlers_suite (HandSPX.lands_againZ fl fun h4 fl4 up4 => ?_)
        have J4 : Inv X pins σ' H' { s' with heap := h4 } := J.landed nb fl4.1 ((up.trans up3).trans up4) os ag
        obtain ⟨oe4, vs4, he4, hz4, hd4⟩ := fl4.there
        refine wpAny_mono ((bd a oe4 cls d (X.pn ++ pins) hz4 ⟨_, hd4⟩).run [] _ _ H' _ (J4.suite he4 hd4 na nL nF) (yes rfl a na)) (fun f s6 hsp => ?_) fun _ _ z => False.elim z
        cases f with
        | ret u =>
          obtain ⟨v6, σ6, H6, S6, r6, q6⟩ := hsp
          exact ⟨v6, σ6, H6, S6.unsuite ok, r6, q6⟩
        | next => exact let ⟨σ6, H6, S6, q6⟩ := hsp; ⟨σ6, H6, S6.unsuite ok, q6⟩
        | brk => exact let ⟨σ6, H6, S6, q6⟩ := hsp; ⟨σ6, H6, S6.unsuite ok, q6⟩
        | cont => exact let ⟨σ6, H6, S6, q6⟩ := hsp; ⟨σ6, H6, S6.unsuite ok, q6⟩
      | false => exact ih (no rfl)
    | @named x n i c ts b0 su np hpos hds2 l2 nm hi hk bd r ih =>
      rintro ⟨b, hb1, yes, no⟩
      refine wpAny_handleBy_cons (codeAny_handlers_test ?_) (by intro q; cases q)
      refine test nm ((PySem.W.exm_one (M := model X.prog X.w) J3.kIn LT hb1).here ?_)
      cases b with
      | true =>
        refine codeAny_handlers_suite_as (HandSPX.lands_againZ fl fun h4 fl4 up4 => ?_)
        have J4 : Inv X pins σ' H' { s' with heap := h4 } := J.landed nb fl4.1 ((up.trans up3).trans up4) os ag
        obtain ⟨oe4, vs4, he4, hz4, hd4⟩ := fl4.there
        refine store_ok (X := X.suite a ((a, oe4) :: (X.pn ++ pins))) (v := .ref a) (J4.suite he4 hd4 na nL nF) hnd hi (.inl hk) rfl (fun s5 S5 => ?_) (.inr hk)
        refine wpAny_mono ((bd a oe4 cls d (X.pn ++ pins) hz4 ⟨_, hd4⟩).run [] s5 _ H' _ S5 (yes rfl a na)) (fun f s6 hsp => ?_) fun _ _ z => False.elim z
        have fin : ∀ {σ6 : L2.St} {H6 : Hp} {Q : Shared → Prop}, Inv (X.suite a ((a, oe4) :: (X.pn ++ pins))) [] σ6 H6 s6 → (∀ s7, Inv X pins (σ6.set i none) H6 s7 → Q s7) → wpAny (model X.prog X.w) X.A (do bindName X.env n .none; unbindBehindTheSuite X.env n hpos) (fun _ s7 => Q s7) X.xe s6 :=
          fun S6 hq => gone_ok (S6.unsuite ok) hnd hi hk hq
        cases f with
        | ret u =>
          obtain ⟨v6, σ6, H6, S6, r6, q6⟩ := hsp
          exact fin S6 fun s7 J7 => ⟨v6, _, H6, J7, r6, q6⟩
        | next => exact let ⟨σ6, H6, S6, q6⟩ := hsp; fin S6 fun s7 J7 => ⟨_, H6, J7, q6⟩
        | brk => exact let ⟨σ6, H6, S6, q6⟩ := hsp; fin S6 fun s7 J7 => ⟨_, H6, J7, q6⟩
        | cont => exact let ⟨σ6, H6, S6, q6⟩ := hsp; fin S6 fun s7 J7 => ⟨_, H6, J7, q6⟩
      | false => exact ih (no rfl)
  refine wpAny_Try_except (wpAny_mono ((hbody (wMix X.K Wout De l) (X.pn ++ pins) after catch_ PassesOwn.looking).run [] s σ H De (I.toTry _) h) (fun f s1 hsp => ?_) fun e s1 he => he)
  cases f with
  | next => exact let ⟨σ', H', J', q⟩ := hsp; wpAny_execs_nil ⟨σ', H', J'.ofTry ok, q⟩
  | brk => exact let ⟨σ', H', J', q⟩ := hsp; ⟨σ', H', J'.ofTry ok, q⟩
  | cont => exact let ⟨σ', H', J', q⟩ := hsp; ⟨σ', H', J'.ofTry ok, q⟩
  | ret u => exact let ⟨v, σ', H', J', r, q⟩ := hsp; ⟨v, σ', H', J'.ofTry ok, r, q⟩
end
end G
namespace G
open PySem PySem.Spec PyProof.Rows L2
/-! ### try on data -/
inductive HN (X : Cx) : List ExceptHandler → List (Value × Option Nat) → Prop
  | nil : HN X [] []
  | plain {x : Str} {c : Value} {b0 : Stmt} {su : List Stmt} {np hpos : Pos} {hds : List ExceptHandler} {l : List (Value × Option Nat)} (nm : Names X x c) (r : HN X hds l) : HN X (.ExceptHandler (some (.Name x np)) none (b0 :: su) hpos :: hds) ((c, none) :: l)
  | named {x n : Str} {i : Nat} {c : Value} {b0 : Stmt} {su : List Stmt} {np hpos : Pos} {hds : List ExceptHandler} {l : List (Value × Option Nat)} (nm : Names X x c) (hi : X.N[i]? = some n) (hk : X.env.kindOf n = some .local) (r : HN X hds l) :
      HN X (.ExceptHandler (some (.Name x np)) (some n) (b0 :: su) hpos :: hds) ((c, some i) :: l)
def excD (a : Addr) (dd : Option Addr) (fs : List (Str × D)) : D := match dd with
  | some d => .exc a d (fs.map (·.1)) (fs.map (·.2))
  | none => .ref a
def outD (N : En) (i : Nat) : En := { nx := fun ds m => N.nx (ds.set i none) m, rt := N.rt, bk := fun ds m => N.bk (ds.set i none) m, ct := fun ds m => N.ct (ds.set i none) m }
abbrev WF : WX := fun _ _ _ _ => False
/-- an except suite runs, for any exception of the class C with the fields fs -/
def Suite (X : Cx) (N : En) (body : List Stmt) (oi : Option Nat) (ds : DS) (C : Addr) (fs : List (Str × D)) (m : Mem) : Prop :=
  ∀ (a : Addr) (oe : Obj) (dd : Option Addr) (pn : List (Addr × Obj)), Zc (.ref C) dd oe → (∃ vs, oe.data = .fields vs) → (fs = [] ∨ ∃ d, dd = some d) → match oi with
    | none => BW (X.suite a ((a, oe) :: pn)) WF body ds m N X0
    | some i => BW (X.suite a ((a, oe) :: pn)) WF body (ds.set i (some (excD a dd fs))) m (outD N i) X0
def hbody : ExceptHandler → List Stmt
  | .ExceptHandler _ _ b _ => b
def HW (X : Cx) (N : En) (Ξ : XP) : List ExceptHandler → List (Value × Option Nat) → XP
  | h :: hds, (c, oi) :: l => fun ds C fs m => ∃ b, PySem.W.exmOne X.K (.ref C) c = some b ∧ (b = true → Suite X N (hbody h) oi ds C fs m) ∧ (b = false → HW X N Ξ hds l ds C fs m)
  | _, _ => Ξ
theorem excD_ok {K : PySem.W.Frag} {F : Hp} {a : Addr} {dd : Option Addr} {fs : List (Str × D)} (h : XOk K F dd fs) : Rp K F (.ref a) (excD a dd fs) := by
  rcases h with ⟨rfl, rfl⟩ | ⟨d, vs, rfl, h1, h2⟩
  · exact .ref a
  · refine .exc h1 ?_ h2
    have := h2.len
    simp at this
    simp [this]
theorem hw_mix {X : Cx} {N : En} {Ξ : XP} {W : WX} : ∀ {hds : List ExceptHandler} {cs : List (Value × Option Nat)}, HN X hds cs → ∃ l, HMix X hds l ∧ ∀ (De : Ends) F H m, EnOk X.K F H m N De → Xc X.K F H m Ξ W → Xc X.K F H m (HW X N Ξ hds cs) (wMix X.K W De l)
  | _, _, .nil => ⟨[], .nil, fun _ _ _ _ _ x => x⟩
  | _, _, @HN.plain _ x c b0 su np hpos hds cs nm r => by
    obtain ⟨l, hm, hx⟩ := hw_mix (N := N) (Ξ := Ξ) (W := W) r
    refine ⟨_, .plain (ts := fun a cls d De σ H => ∀ oe pn, Zc cls d oe → (∃ vs, oe.data = .fields vs) → Wb (X.suite a ((a, oe) :: pn)) (b0 :: su) De σ H) nm (fun a oe cls d pn hz hf => ⟨fun pins s σ H De I h => h oe pn hz hf pins s I⟩) hm, fun De F H m n x C dd σ F2 H2 ds fs m2 s1 sl xo q => ?_⟩
    obtain ⟨b, hb, yes, no⟩ := q
    refine ⟨b, hb, fun e a na oe pn hz hf => ?_, fun e => hx De F H m n x C dd σ F2 H2 ds fs m2 s1 sl xo (no e)⟩
    exact yes e a oe dd pn hz hf (xo.elim (fun z => .inl z.2) fun ⟨d, _, z, _⟩ => .inr ⟨d, z⟩) F2 H2 σ ⟨s1.sub, sl, s1.mem⟩ De (n.go s1) fun _ _ _ _ _ _ _ _ _ _ _ z => z
  | _, _, @HN.named _ x nn i c b0 su np hpos hds cs nm hi hk r => by
    obtain ⟨l, hm, hx⟩ := hw_mix (N := N) (Ξ := Ξ) (W := W) r
    refine ⟨_, .named (i := i) (ts := fun a cls d De σ H => ∀ oe pn, Zc cls d oe → (∃ vs, oe.data = .fields vs) → Wb (X.suite a ((a, oe) :: pn)) (b0 :: su) De σ H) nm hi hk (fun a oe cls d pn hz hf => ⟨fun pins s σ H De I h => h oe pn hz hf pins s I⟩) hm, fun De F H m n x C dd σ F2 H2 ds fs m2 s1 sl xo q => ?_⟩
    obtain ⟨b, hb, yes, no⟩ := q
    refine ⟨b, hb, fun e a na oe pn hz hf => ?_, fun e => hx De F H m n x C dd σ F2 H2 ds fs m2 s1 sl xo (no e)⟩
    refine yes e a oe dd pn hz hf (xo.elim (fun z => .inl z.2) fun ⟨d, _, z, _⟩ => .inr ⟨d, z⟩) F2 H2 _ ⟨s1.sub, sl.set i (.val (excD_ok xo)), s1.mem⟩ (outI De i) ⟨fun σ5 F5 H5 ds5 m5 s5 sl5 q5 => ?_, n.rt.go s1, fun σ5 F5 H5 ds5 m5 s5 sl5 q5 => ?_, fun σ5 F5 H5 ds5 m5 s5 sl5 q5 => ?_⟩ fun _ _ _ _ _ _ _ _ _ _ _ z => z
    · exact n.nx _ F5 H5 _ m5 (s1.trans s5) (sl5.set i (.any none)) q5
    · exact n.bk _ F5 H5 _ m5 (s1.trans s5) (sl5.set i (.any none)) q5
    · exact n.ct _ F5 H5 _ m5 (s1.trans s5) (sl5.set i (.any none)) q5
section
variable {X : Cx} {W : WX} {e a b c : Expr} {es : List Expr} {ds : DS} {m : Mem} {Φ Ψ : D → Mem → Prop} {Ξ : XP} {N : En} {p pos : Pos} {d : D} {x : Str} {i k n : Nat} {f : Addr} {sp : SpD}
theorem sw_try {body : List Stmt} {h0 : ExceptHandler} {hds : List ExceptHandler} {cs : List (Value × Option Nat)} (hnd : X.N.Nodup) (tk : Takes X W) (hn : HN X (h0 :: hds) cs)
    (h : ∀ (W' : WX) (pn : List (Addr × Obj)) (xe : Value → Shared → Prop), Takes (X.tr pn xe) W' → PassesOwn (model X.prog X.w) X.A X.env xe → BW (X.tr pn xe) W' body ds m N (HW X N Ξ (h0 :: hds) cs)) (hst : X.stack = X.env :: X.outer := by with_unfolding_all rfl) (hfr : X.env.frame = some X.env.locals := by with_unfolding_all rfl) :
    SW X W (.Try body (h0 :: hds) [] [] pos) ds m N Ξ := fun F H σ s De n x => by
  obtain ⟨l, hm, hx⟩ := hw_mix (N := N) (Ξ := Ξ) (W := W) hn
  refine Ws.of (ps_try_mix (tb := fun W' De σ H => ∀ pn xe, Takes (X.tr pn xe) W' → PassesOwn (model X.prog X.w) X.A X.env xe → Wb (X.tr pn xe) body De σ H) hst hfr hnd tk (fun W' pn xe tk' po => ⟨fun pins sh σ H De I hh => hh pn xe tk' po pins sh I⟩) hm) fun pn xe tk' po => ?_
  exact h _ pn xe tk' po F H σ ⟨s.sub, s.sl, s.mem⟩ De ⟨n.nx, n.rt, n.bk, n.ct⟩ (hx De F H m n x)
/-- err.f in an except suite -/
theorem ew_xf {Y : Cx} {a C : Addr} {oe : Obj} {dd : Addr} {pn : List (Addr × Obj)} {ns : List Str} {l : List D} {f : Str} {j : Nat} (T : XfC Y.K C) (hno : PySem.W.findIn Y.K (.ref C) f = some none) (hz : Zc (.ref C) (some dd) oe) (hf : ∃ vs, oe.data = .fields vs)
    (h : EW (Y.suite a ((a, oe) :: pn)) W e ds m (fun d' m1 => d' = .exc a dd ns l ∧ Φ d m1) Ξ) (hj : ns[j]? = some f) (hd : l[j]? = some d) (hnd : ns.Nodup) (hb : attributeBase e f Y.env (eval e Y.env) = eval e Y.env := by with_unfolding_all rfl) : EW (Y.suite a ((a, oe) :: pn)) W (.Attribute e f pos) ds m Φ Ξ := fun F H σ s Q n x =>
  We.of (pe_xf T hno hz hf pw_e hb) (h F H σ s _ (fun v F2 H2 d' m2 s1 r hq => by
    obtain ⟨rfl, q⟩ := hq
    cases r with
    | exc h1 hl rr =>
      obtain ⟨v, h2, h3⟩ := rr.get hd
      refine ⟨rfl, rfl, dd, _, v, rfl, s1.sub _ _ h1, ?_, n v F2 H2 d m2 s1 h3 q⟩
      have key : ∀ (ns : List Str) (xs : List V) (j : Nat), ns.Nodup → ns[j]? = some f → xs[j]? = some v → (ns.zip xs).lookup f = some v := by
        intro ns
        induction ns with
        | nil => intro xs j _ h; simp at h
        | cons y ns ih =>
          intro xs j nd h1 h2
          cases xs with
          | nil => simp at h2
          | cons z xs =>
            cases j with
            | zero => simp at h1 h2; subst h1 h2; simp [List.lookup]
            | succ j =>
              have nd' := List.nodup_cons.mp nd
              have ne : (f == y) = false := by
                simp
                intro e
                subst e
                exact nd'.1 (List.mem_of_getElem? (by simpa using h1))
              simp only [List.zip_cons_cons, List.lookup, ne]
              exact ih xs j nd'.2 (by simpa using h1) (by simpa using h2)
      exact key ns _ j hnd hj h2) x)
end
end G
namespace G
open PySem PySem.Spec PyProof.Rows L2
/-! ### data as the library's data -/
mutual
def py : D → PyData
  | .non => .none
  | .bl b => .bool b
  | .int i => .int i
  | .str s => .str s
  | .tup l => .tuple (pyA l)
  | .lst l => .list (pyA l)
  | .emp => .none
  | .scr _ => .none
  | .ins _ _ _ => .none
  | .ref _ => .none
  | .exc _ _ _ _ => .none
  | .ktp l => .tuple (pyA l)
  | .dK _ _ => .none
  | .dT _ _ => .none
  | .dV _ _ => .none
def pyA : List D → List PyData
  | [] => []
  | d :: l => py d :: pyA l
end
mutual
/-- made of None, truth values, numbers, texts, tuples and lists alone -/
def pl : D → Bool
  | .non => true
  | .bl _ => true
  | .int _ => true
  | .str _ => true
  | .tup l => plA l
  | .lst l => plA l
  | .emp => false
  | .scr _ => false
  | .ins _ _ _ => false
  | .ref _ => false
  | .exc _ _ _ _ => false
  | .ktp l => plA l
  | .dK _ _ => false
  | .dT _ _ => false
  | .dV _ _ => false
def plA : List D → Bool
  | [] => true
  | d :: l => pl d && plA l
end
section
variable {K : PySem.W.Frag} {F H : Hp}
mutual
theorem dp_of (s : Same F H) : ∀ (d : D) (v : V), pl d = true → Rp K F v d → Dp K H v (py d)
  | .non, _, _, h => by cases h; exact .non
  | .bl _, _, _, h => by cases h; exact .bl _
  | .int _, _, _, h => by cases h; exact .int _
  | .str _, _, _, h => by cases h; exact .str _
  | .lst l, _, p, h => by cases h with | lst q r => exact .lst (Or.inl (Or.inl (s _ _ q))) (dpA_of s l _ p r)
  | .tup l, _, p, h => by cases h with | tup q r => exact .tup (sq_t (s _ _ q)) (dpA_of s l _ p r)
  | .emp, _, p, _ => by cases p
  | .scr _, _, p, _ => by cases p
  | .ins _ _ _, _, p, _ => by cases p
  | .ref _, _, p, _ => by cases p
  | .exc _ _ _ _, _, p, _ => by cases p
  | .ktp l, _, p, h => by cases h with | ktp q r => exact .tup (same_t s q.t) (dpA_of s l _ p r)
  | .dK _ _, _, p, _ => by cases p
  | .dT _ _, _, p, _ => by cases p
  | .dV _ _, _, p, _ => by cases p
theorem dpA_of (s : Same F H) : ∀ (l : List D) (vs : List V), plA l = true → RpA K F vs l → DpAll K H vs (pyA l)
  | [], _, _, h => by cases h; exact .nil
  | d :: l, _, p, h => by
    have p' : (pl d && plA l) = true := p
    rw [Bool.and_eq_true] at p'
    cases h with | cons a b => exact .cons (dp_of s d _ p'.1 a) (dpA_of s l _ p'.2 b)
end
mutual
theorem plain_py : ∀ d : D, (py d).plain = true
  | .non => rfl
  | .bl _ => rfl
  | .int _ => rfl
  | .str _ => rfl
  | .lst l => plain_pyA l
  | .tup l => plain_pyA l
  | .emp => rfl
  | .scr _ => rfl
  | .ins _ _ _ => rfl
  | .ref _ => rfl
  | .exc _ _ _ _ => rfl
  | .ktp l => plain_pyA l
  | .dK _ _ => rfl
  | .dT _ _ => rfl
  | .dV _ _ => rfl
theorem plain_pyA : ∀ l : List D, PyData.plainAll (pyA l) = true
  | [] => rfl
  | d :: l => by
    show ((py d).plain && PyData.plainAll (pyA l)) = true
    rw [plain_py d, plain_pyA l]; rfl
end
end
/-! ### comparisons of data -/
/-- == as Python says it -/
def eqD (a b : D) : Bool := PyData.eqv (py a) (py b)
def ltD (a b : D) : Bool := PySem.W.dataLt (py a) (py b)
def dep (d : D) : Nat := (py d).depth
def rEqG (K : PySem.W.Frag) (neg : Bool) : R2 := fun x y H Q => ∃ d e, Dp K H x d ∧ Dp K H y e ∧ d.plain = true ∧ e.plain = true ∧ (d.depth ≤ 60 ∨ e.depth ≤ 60) ∧ Q (.bl (if neg then !PyData.eqv d e else PyData.eqv d e)) H
section
variable {X : Cx} {m : Mem} {Φ : D → Mem → Prop}
theorem op_eqG (hu : X.A.units + 64 < cLine) : OpR X (compareOp .Eq) (rEqG X.K false) := by
  intro pins s σ H x y v u Q I rx ry h
  obtain ⟨d, e, hd, he, pd, pe, hz, q⟩ := h
  obtain ⟨as, r1⟩ := Dp.reads I d x v hd rx
  obtain ⟨bs, r2⟩ := Dp.reads I e y u he ry
  exact SeqAt.eq_plain r1 r2 pd pe (by omega) ⟨.bl _, H, I, rfl, q⟩
theorem op_neG (hu : X.A.units + 64 < cLine) : OpR X (compareOp .NotEq) (rEqG X.K true) := by
  intro pins s σ H x y v u Q I rx ry h
  obtain ⟨d, e, hd, he, pd, pe, hz, q⟩ := h
  obtain ⟨as, r1⟩ := Dp.reads I d x v hd rx
  obtain ⟨bs, r2⟩ := Dp.reads I e y u he ry
  exact SeqAt.ne_plain r1 r2 pd pe (by omega) ⟨.bl _, H, I, rfl, q⟩
theorem Nm.now {K : PySem.W.Frag} {F H : Hp} {Q : VK} (n : Nm K F H m Φ Q) (s : Same F H) (mm : MemOk K F H m) {v : V} {d : D} (r : Rp K F v d) (q : Φ d m) : Q v H := n v F H d m (Stp.of s mm) r q
theorem rd_eq {a b : D} (q : Φ (.bl (eqD a b)) m) (ha : pl a = true := by with_unfolding_all rfl) (hb : pl b = true := by with_unfolding_all rfl) (hd : dep a ≤ 60 ∨ dep b ≤ 60 := by with_unfolding_all first | exact .inl (Nat.le_of_ble_eq_true rfl) | exact .inr (Nat.le_of_ble_eq_true rfl)) : RD X (rEqG X.K false) a b m Φ := fun F H x y Q s mm r1 r2 n =>
  ⟨_, _, dp_of s a x ha r1, dp_of s b y hb r2, plain_py a, plain_py b, hd, n.now s mm (.bl _) q⟩
theorem rd_ne {a b : D} (q : Φ (.bl (!eqD a b)) m) (ha : pl a = true := by with_unfolding_all rfl) (hb : pl b = true := by with_unfolding_all rfl) (hd : dep a ≤ 60 ∨ dep b ≤ 60 := by with_unfolding_all first | exact .inl (Nat.le_of_ble_eq_true rfl) | exact .inr (Nat.le_of_ble_eq_true rfl)) : RD X (rEqG X.K true) a b m Φ := fun F H x y Q s mm r1 r2 n =>
  ⟨_, _, dp_of s a x ha r1, dp_of s b y hb r2, plain_py a, plain_py b, hd, n.now s mm (.bl _) q⟩
/-- the four orders -/
def rOrd (K : PySem.W.Frag) (g : PyData → PyData → Bool) : R2 := fun x y H Q => ∃ d e, Dp K H x d ∧ Dp K H y e ∧ PySem.W.alike d e = true ∧ d ≠ .none ∧ (d.depth ≤ 60 ∨ e.depth ≤ 60) ∧ Q (.bl (g d e)) H
theorem op_ltG (hu : X.A.units + 64 < cLine) : OpR X (compareOp .Lt) (rOrd X.K fun d e => PySem.W.dataLt d e) := by
  intro pins s σ H x y v u Q I rx ry h
  obtain ⟨d, e, hd, he, al, nn, hz, q⟩ := h
  obtain ⟨as, r1⟩ := Dp.reads I d x v hd rx
  obtain ⟨bs, r2⟩ := Dp.reads I e y u he ry
  exact PySem.W.lt_data r1 r2 al nn (by omega) ⟨.bl _, H, I, rfl, q⟩
theorem op_gtG (hu : X.A.units + 64 < cLine) : OpR X (compareOp .Gt) (rOrd X.K fun d e => PySem.W.dataLt e d) := by
  intro pins s σ H x y v u Q I rx ry h
  obtain ⟨d, e, hd, he, al, nn, hz, q⟩ := h
  obtain ⟨as, r1⟩ := Dp.reads I d x v hd rx
  obtain ⟨bs, r2⟩ := Dp.reads I e y u he ry
  exact PySem.W.gt_data r1 r2 al nn (by omega) ⟨.bl _, H, I, rfl, q⟩
theorem op_leG (hu : X.A.units + 64 < cLine) : OpR X (compareOp .LtE) (rOrd X.K fun d e => !PySem.W.dataLt e d) := by
  intro pins s σ H x y v u Q I rx ry h
  obtain ⟨d, e, hd, he, al, nn, hz, q⟩ := h
  obtain ⟨as, r1⟩ := Dp.reads I d x v hd rx
  obtain ⟨bs, r2⟩ := Dp.reads I e y u he ry
  exact PySem.W.le_data r1 r2 al nn (by omega) ⟨.bl _, H, I, rfl, q⟩
theorem op_geG (hu : X.A.units + 64 < cLine) : OpR X (compareOp .GtE) (rOrd X.K fun d e => !PySem.W.dataLt d e) := by
  intro pins s σ H x y v u Q I rx ry h
  obtain ⟨d, e, hd, he, al, nn, hz, q⟩ := h
  obtain ⟨as, r1⟩ := Dp.reads I d x v hd rx
  obtain ⟨bs, r2⟩ := Dp.reads I e y u he ry
  exact PySem.W.ge_data r1 r2 al nn (by omega) ⟨.bl _, H, I, rfl, q⟩
theorem rd_ord {g : PyData → PyData → Bool} {a b : D} (q : Φ (.bl (g (py a) (py b))) m) (hal : PySem.W.alike (py a) (py b) = true) (hn : py a ≠ .none) (ha : pl a = true := by with_unfolding_all rfl) (hb : pl b = true := by with_unfolding_all rfl) (hd : dep a ≤ 60 ∨ dep b ≤ 60 := by with_unfolding_all first | exact .inl (Nat.le_of_ble_eq_true rfl) | exact .inr (Nat.le_of_ble_eq_true rfl)) : RD X (rOrd X.K g) a b m Φ := fun F H x y Q s mm r1 r2 n =>
  ⟨_, _, dp_of s a x ha r1, dp_of s b y hb r2, hal, hn, hd, n.now s mm (.bl _) q⟩
theorem lt_ii (i j : Int) : PySem.W.dataLt (.int i) (.int j) = decide (i < j) := PySem.W.dataLt_int i j
theorem rd_lt {i j : Int} (q : Φ (.bl (decide (i < j))) m) : RD X (rOrd X.K fun d e => PySem.W.dataLt d e) (.int i) (.int j) m Φ := rd_ord (a := .int i) (b := .int j) (show Φ (.bl (PySem.W.dataLt (.int i) (.int j))) m by rw [lt_ii]; exact q) rfl (fun z => nomatch z)
theorem rd_gt {i j : Int} (q : Φ (.bl (decide (j < i))) m) : RD X (rOrd X.K fun d e => PySem.W.dataLt e d) (.int i) (.int j) m Φ := rd_ord (a := .int i) (b := .int j) (show Φ (.bl (PySem.W.dataLt (.int j) (.int i))) m by rw [lt_ii]; exact q) rfl (fun z => nomatch z)
theorem not_lt_d (i j : Int) : (!decide (j < i)) = decide (i ≤ j) := by
  by_cases h : i ≤ j
  · rw [decide_eq_true h, decide_eq_false (by omega)]; rfl
  · rw [decide_eq_false h, decide_eq_true (by omega)]; rfl
theorem rd_le {i j : Int} (q : Φ (.bl (decide (i ≤ j))) m) : RD X (rOrd X.K fun d e => !PySem.W.dataLt e d) (.int i) (.int j) m Φ := rd_ord (a := .int i) (b := .int j) (show Φ (.bl (!PySem.W.dataLt (.int j) (.int i))) m by rw [lt_ii, not_lt_d]; exact q) rfl (fun z => nomatch z)
theorem rd_ge {i j : Int} (q : Φ (.bl (decide (j ≤ i))) m) : RD X (rOrd X.K fun d e => !PySem.W.dataLt d e) (.int i) (.int j) m Φ := rd_ord (a := .int i) (b := .int j) (show Φ (.bl (!PySem.W.dataLt (.int i) (.int j))) m by rw [lt_ii, not_lt_d]; exact q) rfl (fun z => nomatch z)
/-! ### is None -/
def isN : D → Bool
  | .non => true
  | _ => false
theorem Rp.isN {K : PySem.W.Frag} {F : Hp} {v : V} {d : D} (r : Rp K F v d) : decide (v = .non) = G.isN d := by cases r <;> rfl
theorem rd_is {d : D} (q : Φ (.bl (isN d)) m) : RD X (fun x y H Q => y = V.non ∧ Q (.bl (decide (x = .non))) H) d .non m Φ := fun F H x y Q s mm r1 r2 n => by
  cases r2
  exact ⟨rfl, n.now s mm (.bl _) (by rw [r1.isN]; exact q)⟩
theorem rd_isnt {d : D} (q : Φ (.bl (!isN d)) m) : RD X (fun x y H Q => y = V.non ∧ Q (.bl (!decide (x = .non))) H) d .non m Φ := fun F H x y Q s mm r1 r2 n => by
  cases r2
  exact ⟨rfl, n.now s mm (.bl _) (by rw [r1.isN]; exact q)⟩
/-! ### arithmetic -/
/-- + of numbers, texts, lists, tuples -/
def rAddG (K : PySem.W.Frag) : R2 := fun x y H Q => rI0 (fun i j => .int (i + j)) x y H Q ∨ (∃ i j, x = .str i ∧ y = .str j ∧ i.length + j.length ≤ sizeLine ∧ Q (.str (i ++ j)) H) ∨ rCat x y H Q ∨ rCatA K x y H Q
theorem op_addG : OpR X (binaryOp .Add) (rAddG X.K) := by
  intro pins s σ H x y v u Q I rx ry h
  rcases h with h | h | h | h
  · exact op_add pins s σ H x y v u Q I rx ry h
  · exact op_add_str pins s σ H x y v u Q I rx ry h
  · exact op_cat pins s σ H x y v u Q I rx ry h
  · exact op_catA pins s σ H x y v u Q I rx ry h
theorem rd_add {i j : Int} (q : Φ (.int (i + j)) m) : RD X (rAddG X.K) (.int i) (.int j) m Φ := fun F H x y Q s mm r1 r2 n => by
  cases r1; cases r2
  exact .inl ⟨i, j, rfl, rfl, n.now s mm (.int _) q⟩
theorem rd_addS {i j : Str} (hz : i.length + j.length ≤ sizeLine) (q : Φ (.str (i ++ j)) m) : RD X (rAddG X.K) (.str i) (.str j) m Φ := fun F H x y Q s mm r1 r2 n => by
  cases r1; cases r2
  exact .inr (.inl ⟨i, j, rfl, rfl, hz, n.now s mm (.str _) q⟩)
theorem rd_addL {a b : List D} (hz : a.length + b.length ≤ sizeLine) (q : Φ (.lst (a ++ b)) m) : RD X (rAddG X.K) (.lst a) (.lst b) m Φ := fun F H x y Q s mm r1 r2 n => by
  cases r1 with
  | lst h1 t1 =>
    cases r2 with
    | lst h2 t2 =>
      refine .inr (.inr (.inl ⟨_, _, _, _, rfl, rfl, s _ _ h1, s _ _ h2, by rw [t1.len, t2.len]; exact hz, fun p hp => ?_⟩))
      exact n _ _ _ _ _ (Stp.lay s mm hp) (.lst upd_same ((t1.app t2).up (Stp.lay s mm hp).fz)) q
theorem rd_addT {a b : List D} (hz : a.length + b.length ≤ sizeLine) (q : Φ (.tup (a ++ b)) m) : RD X (rAddG X.K) (.tup a) (.tup b) m Φ := fun F H x y Q s mm r1 r2 n => by
  cases r1 with
  | tup h1 t1 =>
    cases r2 with
    | tup h2 t2 =>
      refine .inr (.inr (.inr ⟨_, _, _, _, rfl, rfl, sq_t (s _ _ h1), sq_t (s _ _ h2), by rw [t1.len, t2.len]; exact hz, fun e => ?_, fun _ e => ?_, fun _ _ p hp => ?_⟩))
      · subst e
        cases t1
        exact n.now s mm (.tup h2 t2) q
      · subst e
        cases t2
        rw [List.append_nil] at q
        exact n.now s mm (.tup h1 t1) q
      · exact n _ _ _ _ _ (Stp.lay s mm hp) (.tup (upd_same) ((t1.app t2).up (Stp.lay s mm hp).fz)) q
theorem rd_I0 {g : Int → Int → Int} {i j : Int} (q : Φ (.int (g i j)) m) : RD X (rI0 fun i j => .int (g i j)) (.int i) (.int j) m Φ := fun F H x y Q s mm r1 r2 n => by
  cases r1; cases r2
  exact ⟨i, j, rfl, rfl, n.now s mm (.int _) q⟩
theorem rd_I {C : Int → Int → Prop} {g : Int → Int → Int} {i j : Int} (hc : C i j) (q : Φ (.int (g i j)) m) : RD X (rI C fun i j => .int (g i j)) (.int i) (.int j) m Φ := fun F H x y Q s mm r1 r2 n => by
  cases r1; cases r2
  exact ⟨i, j, rfl, rfl, hc, n.now s mm (.int _) q⟩
/-- * of numbers, of a text and a number, of a list and a number -/
def rMulG (K : PySem.W.Frag) : R2 := fun x y H Q => rI CMul (fun i j => .int (i * j)) x y H Q ∨ (∃ (z : Str) (k : Int), x = .str z ∧ y = .int k ∧ MulOk z k ∧ Q (.str (Txt.mul z k)) H) ∨ rRep x y H Q ∨ rRepT K x y H Q
theorem op_mul_str : OpR X (binaryOp .Mult) (fun x y H Q => ∃ (z : Str) (k : Int), x = V.str z ∧ y = V.int k ∧ MulOk z k ∧ Q (.str (Txt.mul z k)) H) := by
  intro pins s σ H x y v u Q I rx ry h
  obtain ⟨z, k, rfl, rfl, ok, q⟩ := h
  obtain ⟨t, rfl⟩ := rx
  obtain ⟨t', rfl⟩ := ry
  exact SB.mul ok fun t2 tk => ⟨.str _, H, I.tok _, ⟨_, rfl⟩, q⟩
theorem op_mulG : OpR X (binaryOp .Mult) (rMulG X.K) := by
  intro pins s σ H x y v u Q I rx ry h
  rcases h with h | h | h | h
  · exact op_mul pins s σ H x y v u Q I rx ry h
  · exact op_mul_str pins s σ H x y v u Q I rx ry h
  · exact op_rep pins s σ H x y v u Q I rx ry h
  · exact op_repT pins s σ H x y v u Q I rx ry h
theorem rd_mul {i j : Int} (hc : CMul i j) (q : Φ (.int (i * j)) m) : RD X (rMulG X.K) (.int i) (.int j) m Φ := fun F H x y Q s mm r1 r2 n => by
  cases r1; cases r2
  exact .inl ⟨i, j, rfl, rfl, hc, n.now s mm (.int _) q⟩
theorem rd_mulS {z : Str} {k : Int} (ok : MulOk z k) (q : Φ (.str (Txt.mul z k)) m) : RD X (rMulG X.K) (.str z) (.int k) m Φ := fun F H x y Q s mm r1 r2 n => by
  cases r1; cases r2
  exact .inr (.inl ⟨z, k, rfl, rfl, ok, n.now s mm (.str _) q⟩)
theorem rep_rp {K : PySem.W.Frag} {F : Hp} {vs : List V} {l : List D} (r : RpA K F vs l) : ∀ k : Nat, RpA K F (List.replicate k vs).flatten (List.replicate k l).flatten
  | 0 => .nil
  | k + 1 => by
    rw [List.replicate_succ, List.replicate_succ, List.flatten_cons, List.flatten_cons]
    exact r.app (rep_rp r k)
theorem rd_mulL {l : List D} {k : Int} (h1 : -(2 ^ 63) ≤ k) (h2 : k < 2 ^ 63) (h3 : l.length * k.toNat ≤ sizeLine) (q : Φ (.lst (List.replicate k.toNat l).flatten) m) : RD X (rMulG X.K) (.lst l) (.int k) m Φ := fun F H x y Q s mm r1 r2 n => by
  cases r2
  cases r1 with
  | lst g1 t1 =>
    refine .inr (.inr (.inl ⟨_, _, _, rfl, rfl, s _ _ g1, h1, h2, by rw [t1.len]; exact h3, fun p hp => ?_⟩))
    exact n _ _ _ _ _ (Stp.lay s mm hp) (.lst upd_same ((rep_rp t1 _).up (Stp.lay s mm hp).fz)) q
end
end G
namespace G
open PySem PySem.Spec PyProof.Rows L2
section
variable {X : Cx} {W : WX} {e a b c : Expr} {es : List Expr} {ds : DS} {m : Mem} {Φ Ψ : D → Mem → Prop} {Ξ : XP} {N : En} {p pos : Pos} {d : D} {x : Str} {i k n : Nat} {f : Addr} {sp : SpD}
/-! ### built-ins by values -/
def RC (X : Cx) (r : List V → Hp → VK → Prop) (l : List D) (m : Mem) (Φ : D → Mem → Prop) : Prop := ∀ F H vs Q, Same F H → MemOk X.K F H m → RpA X.K F vs l → Nm X.K F H m Φ Q → r vs H Q
theorem ew_callB {id : String} {r : List V → Hp → VK → Prop} (hc : CallR X (.builtin id) r) (hm : X.mg x = none) (hv : bootBuiltins x = some (.builtin id)) (h : AW X W (e :: es) ds m (fun l m1 => RC X r l m1 Φ) Ξ) (hg : Gl X x := by with_unfolding_all rfl) (hn : x ≠ "__name__" := by decide) (hdb : (x == ("__debug__" : Str)) = false := by decide)
    (he : starEach (e :: es) X.env = (false, eval e X.env) :: starEach es X.env := by with_unfolding_all rfl) (hpl : (backTo pos (starEach es X.env)).any (·.1) = false := by with_unfolding_all rfl) : EW X W (.Call (.Name x p) (e :: es) [] pos) ds m Φ Ξ := fun F H σ s Q nn xx =>
  We.of (pe_callB hc hg hm hv pw_a hn hdb he hpl) (h F H σ s _ (fun vs F2 H2 l m2 s1 r q => q F2 H2 vs Q s1.sub s1.mem r (nn.go s1)) xx)
theorem ew_callTy {T : String} {r : List V → Hp → VK → Prop} (hc : CallR X (.type T) r) (hm : X.mg x = none) (hv : bootBuiltins x = some (.type T)) (h : AW X W (e :: es) ds m (fun l m1 => RC X r l m1 Φ) Ξ) (hg : Gl X x := by with_unfolding_all rfl) (hn : x ≠ "__name__" := by decide) (hdb : (x == ("__debug__" : Str)) = false := by decide)
    (he : starEach (e :: es) X.env = (false, eval e X.env) :: starEach es X.env := by with_unfolding_all rfl) (hpl : (backTo pos (starEach es X.env)).any (·.1) = false := by with_unfolding_all rfl) : EW X W (.Call (.Name x p) (e :: es) [] pos) ds m Φ Ξ := fun F H σ s Q nn xx =>
  We.of (pe_callTy hc hg hm hv pw_a hn hdb he hpl) (h F H σ s _ (fun vs F2 H2 l m2 s1 r q => q F2 H2 vs Q s1.sub s1.mem r (nn.go s1)) xx)
/-- len -/
def lenD : D → Option Nat
  | .str s => some s.length
  | .tup l => some l.length
  | .lst l => some l.length
  | .ktp l => some l.length
  | .scr l => some l.length
  | _ => none
theorem rc_len {j : Nat} (h : lenD d = some j) (hz : j ≤ sizeLine) (q : Φ (.int j) m) : RC X (fun xs H Q => ∃ x n, xs = [x] ∧ LenV X.K x H n ∧ Q (.int n) H) [d] m Φ := fun F H vs Q s mm r n => by
  cases r with
  | cons r1 t =>
    cases t
    refine ⟨_, j, rfl, ?_, n.now s mm (.int _) q⟩
    cases r1 with
    | str z => exact ⟨by cases h; exact hz, by cases h; rfl⟩
    | lst h1 t1 => exact .inl ⟨_, Or.inl (Or.inl (s _ _ h1)), by cases h; exact t1.len.symm⟩
    | tup h1 t1 => exact .inr ⟨_, sq_t (s _ _ h1), by cases h; exact t1.len.symm⟩
    | ktp h1 t1 => exact .inr ⟨_, same_t s h1.t, by cases h; exact t1.len.symm⟩
    | scr h1 => exact .inl ⟨_, s.seq h1, by cases h; simp⟩
    | _ => cases h
theorem ew_len (hm : X.mg "len" = none) (h : EW X W a ds m (fun d m1 => ∃ j : Nat, lenD d = some j ∧ j ≤ sizeLine ∧ Φ (.int j) m1) Ξ) (hg : Gl X "len" := by with_unfolding_all rfl) (he : starEach [a] X.env = [(false, eval a X.env)] := by with_unfolding_all rfl) : EW X W (.Call (.Name "len" p) [a] [] pos) ds m Φ Ξ :=
  ew_callB call_len hm PySem.boot_len (aw_cons (h.mono fun d m1 ⟨j, h1, h2, h3⟩ => aw_nil (rc_len h1 h2 h3)) he) hg (he := he) (hpl := rfl)
theorem rc_int {j : Int} (q : Φ (.int j) m) : RC X (fun xs H Q => (∃ i, xs = [V.int i] ∧ Q (.int i) H) ∨ ∃ k, xs = [V.bl k] ∧ Q (.int (if k then 1 else 0)) H) [.int j] m Φ := fun F H vs Q s mm r n => by
  cases r with
  | cons r1 t =>
    cases t
    cases r1
    exact .inl ⟨j, rfl, n.now s mm (.int _) q⟩
theorem rc_intB {j : Bool} (q : Φ (.int (if j then 1 else 0)) m) : RC X (fun xs H Q => (∃ i, xs = [V.int i] ∧ Q (.int i) H) ∨ ∃ k, xs = [V.bl k] ∧ Q (.int (if k then 1 else 0)) H) [.bl j] m Φ := fun F H vs Q s mm r n => by
  cases r with
  | cons r1 t =>
    cases t
    cases r1
    exact .inr ⟨j, rfl, n.now s mm (.int _) q⟩
theorem rc_min2 {i j : Int} (q : Φ (.int (if j < i then j else i)) m) : RC X (fun xs H Q => ∃ i j, xs = [V.int i, V.int j] ∧ Q (.int (if j < i then j else i)) H) [.int i, .int j] m Φ := fun F H vs Q s mm r n => by
  cases r with
  | cons r1 t =>
    cases t with
    | cons r2 t =>
      cases t
      cases r1
      cases r2
      exact ⟨i, j, rfl, n.now s mm (.int _) q⟩
/-! ### isinstance -/
def tyN : D → Option String
  | .non => some "NoneType"
  | .bl _ => some "bool"
  | .int _ => some "int"
  | .str _ => some "str"
  | .tup _ => some "tuple"
  | .lst _ => some "list"
  | .emp => some "dict"
  | .ktp _ => some "tuple"
  | .dT _ _ => some "dict"
  | _ => none
theorem Rp.ty {K : PySem.W.Frag} {F H : Hp} {v : V} {t : String} (r : Rp K F v d) (h : tyN d = some t) (s : Same F H) : TyX K H v (.type t) := by
  cases r with
  | non => cases h; exact .base .non
  | bl b => cases h; exact .base (.bl b)
  | int b => cases h; exact .base (.int b)
  | str b => cases h; exact .base (.str b)
  | lst q _ => cases h; exact .base (.lst (s _ _ q))
  | emp q => cases h; exact .base (.dK (s _ _ q))
  | tup q _ => cases h; exact .base (.tup (s _ _ q))
  | dT q _ _ => cases h; exact .base (.dT (s _ _ q))
  | ktp q _ =>
    cases h
    rcases q with ⟨o, _, q⟩ | ⟨o, its, n, q, c, _⟩
    · exact .fTuple (s _ _ q)
    · exact .kTuple q c
  | _ => cases h
/-- what the written part says of a class of the text, for isinstance -/
structure ClsI (K : PySem.W.Frag) (C : Addr) : Prop where
  cl : Cls K C
  ha : PySem.W.findIn K (.ref C) "__class__" = some (some (.builtin "object.__class__"))
  hn : PySem.W.specialIn K (.builtin "object.__class__") "__get__" = some (some (.builtin "getset_descriptor.__get__"))
  htk : PySem.W.takesIn K (.builtin "object.__class__") = some true
  hm : PySem.W.mroIn K C (.type "object") = some true
  no : ∀ t ∈ ["NoneType", "bool", "int", "str", "tuple", "list", "dict"], PySem.W.kitOne K (.type t) (.ref C) = some false
  nob : ∀ t ∈ ["bool", "int", "str", "tuple", "list"], PySem.W.kitOne K (.ref C) (.type t) = some false
theorem ty_ins {K : PySem.W.Frag} {F H : Hp} {v : V} {C : Addr} {ns : List Str} {l : List D} (T : ClsI K C) (r : Rp K F v (.ins C ns l)) (s : Same F H) : TyX K H v (.ref C) := by
  cases r with
  | ins h hl t => exact .base (.ins (s _ _ h) T.cl T.ha T.hn T.htk T.hm)
/-- isinstance(e, T), T a built-in class -/
theorem ew_isi {T : String} {q2 : Pos} (hm : X.mg "isinstance" = none) (hT : X.mg T = none) (hb : bootBuiltins T = some (.type T)) (h : EW X W a ds m (fun d m1 => ∃ t k, tyN d = some t ∧ kitB t T = some k ∧ Φ (.bl k) m1) Ξ) (hg : Gl X "isinstance" := by with_unfolding_all rfl) (hgT : Gl X T := by with_unfolding_all rfl)
    (hn : (T : Str) ≠ "__name__" := by decide) (hdb : ((T : Str) == ("__debug__" : Str)) = false := by decide) (he : starEach [a, .Name T q2] X.env = [(false, eval a X.env), (false, eval (.Name T q2) X.env)] := by with_unfolding_all rfl) : EW X W (.Call (.Name "isinstance" p) [a, .Name T q2] [] pos) ds m Φ Ξ := fun F H σ s Q nn xx =>
  We.of (pe_callB call_isi hg hm (by decide +kernel) (pa_cons pw_e (pa_cons (pe_bltn (v := .ty T) hgT hT hb rfl hn hdb) pa_nil) he) (he := he) (hpl := rfl)) (h F H σ s _ (fun v F2 H2 d m2 s1 r ⟨t, k, h1, h2, q⟩ => ⟨v, .ty T, .type t, .type T, k, rfl, .ty T, r.ty h1 s1.sub, kit_ty h2, nn _ F2 H2 _ m2 s1 (.bl k) q⟩) xx)
/-- isinstance(e, (T, U)) -/
theorem ew_isi2 {T U : String} {q2 q3 q4 : Pos} {kk} (hm : X.mg "isinstance" = none) (hT : X.mg T = none) (hU : X.mg U = none) (hb : bootBuiltins T = some (.type T)) (hb2 : bootBuiltins U = some (.type U)) (h : EW X W a ds m (fun d m1 => ∃ t k1 k2, tyN d = some t ∧ kitB t T = some k1 ∧ kitB t U = some k2 ∧ Φ (.bl (k1 || k2)) m1) Ξ) (hg : Gl X "isinstance" := by with_unfolding_all rfl) (hgT : Gl X T := by with_unfolding_all rfl) (hgU : Gl X U := by with_unfolding_all rfl)
    (hn : (T : Str) ≠ "__name__" := by decide) (hdb : ((T : Str) == ("__debug__" : Str)) = false := by decide) (hn2 : (U : Str) ≠ "__name__" := by decide) (hdb2 : ((U : Str) == ("__debug__" : Str)) = false := by decide)
    (he : starEach [a, .Tuple [.Name T q2, .Name U q3] kk q4] X.env = [(false, eval a X.env), (false, eval (.Tuple [.Name T q2, .Name U q3] kk q4) X.env)] := by with_unfolding_all rfl) : EW X W (.Call (.Name "isinstance" p) [a, .Tuple [.Name T q2, .Name U q3] kk q4] [] pos) ds m Φ Ξ := fun F H σ s Q nn xx =>
  We.of (pe_callB call_isiT hg hm (by decide +kernel) (pa_cons pw_e (pa_cons (pe_tup (pa_cons (pe_bltn (v := .ty T) hgT hT hb rfl hn hdb) (pa_cons (pe_bltn (v := .ty U) hgU hU hb2 rfl hn2 hdb2) pa_nil))) pa_nil) he) (he := he) (hpl := rfl)) (h F H σ s _ (fun v F2 H2 d m2 s1 r ⟨t, k1, k2, h1, h2, h3, q⟩ => by
    refine ⟨by show 2 ≤ sizeLine; decide, fun tp hp => ?_⟩
    have s2 := Stp.lay (o := .tup [.ty T, .ty U]) s1.sub s1.mem hp
    refine ⟨v, tp, _, .type t, _, k1 || k2, rfl, upd_same, .cons (.ty T) (.cons (.ty U) .nil), (r.up s2.fz).ty h1 s2.sub, ?_, nn _ _ _ _ m2 (s1.trans s2) (.bl _) q⟩
    refine kitAny_cons (kit_ty h2) (fun e => kitAny_cons (kit_ty h3) (fun e2 => ?_) (fun e2 => ?_)) (fun e => by rw [e]; rfl)
    · rw [e, e2]; rfl
    · rw [e, e2]; rfl) xx)
/-- isinstance(e, C), C a class of the text -/
def isC (C : Addr) : D → Option Bool
  | .ins C' _ _ => if C' = C then some true else none
  | d => (tyN d).map fun _ => false
theorem kit_self {K : PySem.W.Frag} {C : Addr} : PySem.W.kitOne K (.ref C) (.ref C) = some true := by
  unfold PySem.W.kitOne
  simp
theorem ew_isiC {C : Addr} {q2 : Pos} {cn : Str} (T : ClsI X.K C) (hm : X.mg "isinstance" = none) (hC : X.mg cn = some (.ref C)) (h : EW X W a ds m (fun d m1 => ∃ k, isC C d = some k ∧ Φ (.bl k) m1) Ξ) (hg : Gl X "isinstance" := by with_unfolding_all rfl) (hgC : Gl X cn := by with_unfolding_all rfl)
    (hdb : (cn == ("__debug__" : Str)) = false := by decide) (he : starEach [a, .Name cn q2] X.env = [(false, eval a X.env), (false, eval (.Name cn q2) X.env)] := by with_unfolding_all rfl) : EW X W (.Call (.Name "isinstance" p) [a, .Name cn q2] [] pos) ds m Φ Ξ := fun F H σ s Q nn xx =>
  We.of (pe_callB call_isi hg hm (by decide +kernel) (pa_cons pw_e (pa_cons (pe_glob (v := .ref C) hgC hC rfl hdb) pa_nil) he) (he := he) (hpl := rfl)) (h F H σ s _ (fun v F2 H2 d m2 s1 r ⟨k, h1, q⟩ => by
    have fin : ∀ t, TyX X.K H2 v t → PySem.W.kitOne X.K t (.ref C) = some k → rIsi X.K [v, .ref C] H2 Q := fun t ty hk => ⟨v, .ref C, t, .ref C, k, rfl, .own C, ty, hk, nn _ F2 H2 _ m2 s1 (.bl k) q⟩
    have low : ∀ t, tyN d = some t → k = false → rIsi X.K [v, .ref C] H2 Q := fun t ht hk => by
      refine fin _ (r.ty ht s1.sub) ?_
      subst hk
      refine T.no t ?_
      cases d <;> cases ht <;> decide
    cases d with
    | ins C' ns l =>
      by_cases e : C' = C
      · subst e
        have h1' : (if C' = C' then some true else none) = some k := h1
        rw [if_pos rfl] at h1'
        cases h1'
        exact fin _ (ty_ins T r s1.sub) kit_self
      · have h1' : (if C' = C then some true else none) = some k := h1
        rw [if_neg e] at h1'
        cases h1'
    | non => exact low _ rfl (by cases h1; rfl)
    | bl _ => exact low _ rfl (by cases h1; rfl)
    | int _ => exact low _ rfl (by cases h1; rfl)
    | str _ => exact low _ rfl (by cases h1; rfl)
    | tup _ => exact low _ rfl (by cases h1; rfl)
    | lst _ => exact low _ rfl (by cases h1; rfl)
    | emp => exact low _ rfl (by cases h1; rfl)
    | ktp _ => exact low _ rfl (by cases h1; rfl)
    | dK _ _ => cases h1
    | dV _ _ => cases h1
    | dT _ _ => exact low _ rfl (by cases h1; rfl)
    | scr _ => cases h1
    | ref _ => cases h1
    | exc _ _ _ _ => cases h1) xx)
/-! ### subscripts -/
theorem ew_ix {r : R2} (hr : IxR X r) (h : EW X W a ds m (fun d1 m1 => EW X W b ds m1 (fun d2 m2 => RD X r d1 d2 m2 Φ) Ξ) Ξ) (hs : PlainIx b := by with_unfolding_all (intro _ _; rfl)) : EW X W (.Subscript a b pos) ds m Φ Ξ := fun F H σ s Q n x =>
  We.of (pe_ix hr pw_e pw_e hs) (h F H σ s _ (fun v F2 H2 d1 m2 s1 r1 q => q F2 H2 σ (s.go s1) _ (fun u F3 H3 d2 m3 s2 r2 q2 => q2 F3 H3 v u Q s2.sub s2.mem (r1.up s2.fz) r2 (n.go (s1.trans s2))) (x.go s1)) x)
theorem at_rp {K : PySem.W.Frag} {F : Hp} {vs : List V} {l : List D} {i : Int} (r : RpA K F vs l) (h : atI l i = some d) : ∃ v, atI vs i = some v ∧ Rp K F v d := by
  unfold atI at h ⊢
  rw [r.len]
  cases e : ixN l.length i with
  | none => rw [e] at h; cases h
  | some j =>
    rw [e] at h
    obtain ⟨v, h1, h2⟩ := r.get (i := j) (d := d) h
    exact ⟨v, h1, h2⟩
theorem rd_ixL {l : List D} {i : Int} (h : atI l i = some d) (q : Φ d m) : RD X (rIx X.K) (.lst l) (.int i) m Φ := fun F H x y Q s mm r1 r2 n => by
  cases r2
  cases r1 with
  | lst h1 t =>
    obtain ⟨v, h2, h3⟩ := at_rp t h
    exact .inl ⟨_, _, _, v, rfl, rfl, Or.inl (Or.inl (s _ _ h1)), h2, n.now s mm h3 q⟩
theorem rd_ixT {l : List D} {i : Int} (h : atI l i = some d) (q : Φ d m) : RD X (rIx X.K) (.tup l) (.int i) m Φ := fun F H x y Q s mm r1 r2 n => by
  cases r2
  cases r1 with
  | tup h1 t =>
    obtain ⟨v, h2, h3⟩ := at_rp t h
    exact .inr (.inl ⟨_, _, _, v, rfl, rfl, sq_t (s _ _ h1), h2, n.now s mm h3 q⟩)
theorem rd_ixS {z : Str} {i : Int} {c : Nat} (hz : z.length ≤ sizeLine) (h : atI z.cps.toList i = some c) (q : Φ (.str ⟨#[c]⟩) m) : RD X (rIx X.K) (.str z) (.int i) m Φ := fun F H x y Q s mm r1 r2 n => by
  cases r2
  cases r1
  exact .inr (.inr ⟨z, i, c, rfl, rfl, hz, h, n.now s mm (.str _) q⟩)
theorem rd_ixC {l : List Int} {i j : Int} (h : atI l i = some j) (q : Φ (.int j) m) : RD X (rIx X.K) (.scr l) (.int i) m Φ := fun F H x y Q s mm r1 r2 n => by
  cases r2
  cases r1 with
  | scr h1 =>
    have h2 : atI (l.map V.int) i = some (.int j) := by
      unfold atI at h ⊢
      rw [List.length_map]
      cases e : ixN l.length i with
      | none => rw [e] at h; cases h
      | some k =>
        rw [e] at h
        show (l.map V.int)[k]? = some (.int j)
        rw [List.getElem?_map, show l[k]? = some j from h]
        rfl
    exact .inl ⟨_, _, _, _, rfl, rfl, s.seq h1, h2, n.now s mm (.int _) q⟩
/-- a cell's item -/
theorem rd_ixM {r : Addr} {l : List D} {i : Int} (hm : (r, MC.lst l) ∈ m) (h : atI l i = some d) (q : Φ d m) : RD X (rIx X.K) (.ref r) (.int i) m Φ := fun F H x y Q s mm r1 r2 n => by
  cases r2
  cases r1
  obtain ⟨vs, h1, t⟩ := mm.ce _ hm
  obtain ⟨v, h2, h3⟩ := at_rp t h
  exact .inl ⟨r, vs, i, v, rfl, rfl, Or.inl (Or.inl h1), h2, n.now s mm h3 q⟩
/-- r[i] = v, r the first cell -/
theorem gw_subM {o ix : Expr} {Φ : DS → Mem → Prop} (h : EW X W o ds m (fun d1 m1 => EW X W ix ds m1 (fun d2 m2 => ∃ (r : Addr) (l : List D) (rest : Mem) (k : Int) (j : Nat), d1 = .ref r ∧ d2 = .int k ∧ m2 = (r, .lst l) :: rest ∧ ixN l.length k = some j ∧ Φ ds ((r, .lst (l.set j d)) :: rest)) Ξ) Ξ)
    (ha : ∀ v, assign (.Subscript o ix pos) X.env v = (do
      let obj ← holding [v] (eval o X.env)
      let sub ← holding [v, obj] (eval ix X.env)
      standAt pos
      holding [v, obj, sub] (setItem obj sub v)
      release [v, obj, sub] []) := by with_unfolding_all (intro _; rfl)) : GW X W (.Subscript o ix pos) d ds m Φ Ξ := fun F H σ v s rv Q n x =>
  Wg.of (pg_sub pw_e pw_e set_list ha) (h F H σ s _ (fun v1 F2 H2 d1 m2 s1 r1 q => q F2 H2 σ (s.go s1) _ (fun v2 F3 H3 d2 m3 s2 r2 ⟨r, l, rest, k, j, e1, e2, e3, hj, q3⟩ => by
    subst e1 e2 e3
    cases r1
    cases r2
    obtain ⟨vs, h1, t⟩ := s2.mem.ce _ List.mem_cons_self
    have sv := rv.up (s1.trans s2).fz
    refine ⟨r, vs, k, j, rfl, rfl, h1, by rw [t.len]; exact hj, ?_⟩
    exact n σ F3 _ ds _ ((s1.trans s2).trans (Stp.put (c' := .lst (l.set j d)) s2.sub s2.mem ⟨_, upd_same, t.set j sv⟩)) (s.sl.up (s1.trans s2).fz) q3) (x.go s1)) x)
/-! ### slices -/
def rSlG (K : PySem.W.Frag) : V → Option Int → Option Int → Hp → VK → Prop := fun x lo hi H Q => rSlL K x lo hi H Q ∨ rSlA K x lo hi H Q ∨ rSlS x lo hi H Q
theorem sl_G : SlR X (rSlG X.K) := SlR.or sl_list (SlR.or sl_tupA sl_str)
def cutD (xs : List D) (lo hi : Option Int) : List D := (xs.drop (HT.sIx xs.length 0 lo)).take (HT.sIx xs.length xs.length hi - HT.sIx xs.length 0 lo)
theorem cut_rp {K : PySem.W.Frag} {F : Hp} {vs : List V} {l : List D} {lo hi : Option Int} (r : RpA K F vs l) : RpA K F (cutV vs lo hi) (cutD l lo hi) := by
  unfold cutV cutD
  rw [r.len]
  exact (r.drop _).take _
/-- the two ends of a slice -/
def OW (X : Cx) (W : WX) (e : Option Expr) (ds : DS) (m : Mem) (Φ : Option Int → Mem → Prop) (Ξ : XP) : Prop := match e with
  | none => Φ none m
  | some e => EW X W e ds m (fun d m1 => ∃ i, d = .int i ∧ Φ (some i) m1) Ξ
def SLD (X : Cx) (d : D) (lo hi : Option Int) (m : Mem) (Φ : D → Mem → Prop) : Prop := ∀ F H x Q, Same F H → MemOk X.K F H m → Rp X.K F x d → Nm X.K F H m Φ Q → rSlG X.K x lo hi H Q
def tPo (X : Cx) : Option Expr → TO
  | none => tNoPart
  | some e => tPart (We X e)
theorem po_w : ∀ {lo : Option Expr}, PO X lo (tPo X lo)
  | none => po_none
  | some _ => po_some pw_e
theorem ow_run : ∀ {lo : Option Expr} {Φ : Option Int → Mem → Prop}, OW X W lo ds m Φ Ξ → ∀ {F H : Hp} {σ : L2.St}, StOk X.K F H σ ds m → Xc X.K F H m Ξ W → ∀ {Q : Option Int → Hp → Prop}, (∀ o F2 H2 m2, Stp X.K F H m F2 H2 m2 → Φ o m2 → Q o H2) → tPo X lo σ H Q
  | none, _, h, F, H, _, s, _, _, n => n none F H m s.stp h
  | some e, Φ, h, F, H, σ, s, xx, Q, n => (show EW X W e ds m _ Ξ from h) F H σ s _ (fun v F2 H2 d m2 s1 r ⟨i, e, q⟩ => by
      subst e
      cases r
      exact ⟨i, rfl, n _ F2 H2 m2 s1 q⟩) xx
theorem ew_slice {lo hi : Option Expr} {p2 : Pos} (h : EW X W e ds m (fun d m1 => OW X W lo ds m1 (fun l m2 => OW X W hi ds m2 (fun u m3 => SLD X d l u m3 Φ) Ξ) Ξ) Ξ) : EW X W (.Subscript e (.Slice lo hi none p2) pos) ds m Φ Ξ := fun F H σ s Q n x =>
  We.of (pe_slice sl_G pw_e po_w po_w) (h F H σ s _ (fun v F2 H2 d m2 s1 r q => ow_run q (s.go s1) (x.go s1) fun l F3 H3 m3 s2 q2 => ow_run q2 ((s.go s1).go s2) ((x.go s1).go s2) fun u F4 H4 m4 s3 q3 =>
    q3 F4 H4 v Q s3.sub s3.mem (r.up (s2.trans s3).fz) (n.go (s1.trans (s2.trans s3)))) x)
theorem sd_lst {l : List D} {lo hi : Option Int} (q : Φ (.lst (cutD l lo hi)) m) : SLD X (.lst l) lo hi m Φ := fun F H x Q s mm r n => by
  cases r with
  | lst h t => exact .inl ⟨_, _, rfl, Or.inl (Or.inl (s _ _ h)), fun p hp => n _ _ _ _ _ (Stp.lay s mm hp) (.lst upd_same ((cut_rp t).up (Stp.lay s mm hp).fz)) q⟩
theorem cut_whole {α : Type} {xs : List α} {lo hi : Option Int} (h1 : HT.sIx xs.length 0 lo = 0) (h2 : HT.sIx xs.length xs.length hi = xs.length) : (xs.drop (HT.sIx xs.length 0 lo)).take (HT.sIx xs.length xs.length hi - HT.sIx xs.length 0 lo) = xs := by
  rw [h1, h2]; simp
theorem sd_tup {l : List D} {lo hi : Option Int} (q : Φ (.tup (cutD l lo hi)) m) : SLD X (.tup l) lo hi m Φ := fun F H x Q s mm r n => by
  cases r with
  | tup h t =>
    refine .inr (.inl ⟨_, _, rfl, sq_t (s _ _ h), fun ⟨w1, w2⟩ => ?_, fun _ p hp => n _ _ _ _ _ (Stp.lay s mm hp) (.tup upd_same ((cut_rp t).up (Stp.lay s mm hp).fz)) q⟩)
    rw [t.len] at w1 w2
    unfold cutD at q
    rw [cut_whole w1 w2] at q
    exact n.now s mm (.tup h t) q
/-! ### fields -/
theorem zip_at {v : V} {f : Str} : ∀ (ns : List Str) (xs : List V) (j : Nat), ns.Nodup → ns[j]? = some f → xs[j]? = some v → (ns.zip xs).lookup f = some v
  | [], _, _, _, h, _ => by simp at h
  | _ :: _, [], _, _, _, h => by simp at h
  | y :: ns, z :: xs, 0, _, h1, h2 => by simp at h1 h2; subst h1 h2; simp [List.lookup]
  | y :: ns, z :: xs, j + 1, nd, h1, h2 => by
    have nd' := List.nodup_cons.mp nd
    have ne : (f == y) = false := by
      simp
      intro e
      subst e
      exact nd'.1 (List.mem_of_getElem? (by simpa using h1))
    simp only [List.zip_cons_cons, List.lookup, ne]
    exact zip_at ns xs j nd'.2 (by simpa using h1) (by simpa using h2)
theorem zip_no {f : Str} : ∀ (ns : List Str) (xs : List V), f ∉ ns → (ns.zip xs).lookup f = none
  | [], _, _ => rfl
  | _ :: _, [], _ => rfl
  | y :: ns, z :: xs, h => by
    have ne : (f == y) = false := by
      simp
      intro e
      exact h (by rw [e]; exact List.mem_cons_self)
    simp only [List.zip_cons_cons, List.lookup, ne]
    exact zip_no ns xs fun z => h (List.mem_cons_of_mem _ z)
/-- o.f, o a frozen instance -/
theorem ew_fld {C : Addr} {g : Str} (j : Nat) (T : Cls X.K C) (na : NoAttr X.K C g) (h : EW X W e ds m (fun d m1 => ∃ ns l d', d = .ins C ns l ∧ ns.Nodup ∧ ns[j]? = some g ∧ l[j]? = some d' ∧ Φ d' m1) Ξ) (hb : attributeBase e g X.env (eval e X.env) = eval e X.env := by with_unfolding_all rfl) : EW X W (.Attribute e g pos) ds m Φ Ξ := fun F H σ s Q n x =>
  We.of (pe_fld pw_e hb) (h F H σ s _ (fun v F2 H2 d m2 s1 r ⟨ns, l, d', e1, nd, h1, h2, q⟩ => by
    subst e1
    cases r with
    | ins h3 hl t =>
      obtain ⟨v, h4, h5⟩ := t.get h2
      exact ⟨_, C, _, _, v, rfl, s1.sub _ _ h3, T, na, zip_at ns _ j nd h1 h4, n _ F2 H2 _ m2 s1 h5 q⟩) x)
/-- o.f, o a cell -/
theorem ew_fldM {C r : Addr} {g : Str} (j : Nat) (T : Cls X.K C) (na : NoAttr X.K C g) (h : EW X W e ds m (fun d m1 => ∃ ns l d', d = .ref r ∧ (r, MC.obj C ns l) ∈ m1 ∧ ns.Nodup ∧ ns[j]? = some g ∧ l[j]? = some d' ∧ Φ d' m1) Ξ) (hb : attributeBase e g X.env (eval e X.env) = eval e X.env := by with_unfolding_all rfl) : EW X W (.Attribute e g pos) ds m Φ Ξ := fun F H σ s Q n x =>
  We.of (pe_fld pw_e hb) (h F H σ s _ (fun v F2 H2 d m2 s1 r ⟨ns, l, d', e1, hm, nd, h1, h2, q⟩ => by
    subst e1
    cases r
    obtain ⟨dx, vs, h3, hl, t⟩ := s1.mem.ce _ hm
    obtain ⟨v, h4, h5⟩ := t.get h2
    exact ⟨_, C, _, _, v, rfl, h3, T, na, zip_at ns _ j nd h1 h4, n _ F2 H2 _ m2 s1 h5 q⟩) x)
theorem put_new {f : Str} {y : V} : ∀ (ns : List Str) (vs : List V), f ∉ ns → ns.length = vs.length → putF f y (ns.zip vs) = (ns ++ [f]).zip (vs ++ [y])
  | [], [], _, _ => rfl
  | [], _ :: _, _, h => by simp at h
  | _ :: _, [], _, h => by simp at h
  | n :: ns, v :: vs, hf, hl => by
    have ne : ¬ n = f := fun e => hf (by rw [e]; exact List.mem_cons_self)
    show (if n = f then (n, y) :: ns.zip vs else (n, v) :: putF f y (ns.zip vs)) = (n, v) :: (ns ++ [f]).zip (vs ++ [y])
    rw [if_neg ne, put_new ns vs (fun z => hf (List.mem_cons_of_mem _ z)) (by simpa using hl)]
theorem put_old {f : Str} {y : V} : ∀ (ns : List Str) (vs : List V) (j : Nat), ns.Nodup → ns[j]? = some f → ns.length = vs.length → putF f y (ns.zip vs) = ns.zip (vs.set j y)
  | [], _, _, _, h, _ => by simp at h
  | _ :: _, [], _, _, _, h => by simp at h
  | n :: ns, v :: vs, 0, _, h, _ => by
    have e : n = f := by simpa using h
    show (if n = f then (n, y) :: ns.zip vs else (n, v) :: putF f y (ns.zip vs)) = (n, y) :: ns.zip vs
    rw [if_pos e]
  | n :: ns, v :: vs, j + 1, nd, h, hl => by
    have nd' := List.nodup_cons.mp nd
    have h' : ns[j]? = some f := by simpa using h
    have ne : ¬ n = f := fun e => nd'.1 (by rw [e]; exact List.mem_of_getElem? h')
    show (if n = f then (n, y) :: ns.zip vs else (n, v) :: putF f y (ns.zip vs)) = (n, v) :: ns.zip (vs.set j y)
    rw [if_neg ne, put_old ns vs j nd'.2 h' (by simpa using hl)]
/-- self.f = e, a new field of the first cell -/
theorem sw_fldN {C r : Addr} {g : Str} {o : Expr} {p2 : Pos} {ns : List Str} {l : List D} {rest : Mem} (T : Cls X.K C) (na : NoAttr X.K C g) (h : EW X W e ds m (fun d m1 => EW X W o ds m1 (fun d2 m2 => d2 = .ref r ∧ m2 = (r, .obj C ns l) :: rest ∧ ns.length < 1000 ∧ g ∉ ns ∧ N.nx ds ((r, .obj C (ns ++ [g]) (l ++ [d])) :: rest)) Ξ) Ξ)
    (hs : swapsWith e (some (.Attribute o g p2)) pos.line X.env = pure false := by with_unfolding_all rfl) : SW X W (.Assign [.Attribute o g p2] e pos) ds m N Ξ := fun F H σ s De n x =>
  Ws.of (ps_fld pw_e pw_e hs) (h F H σ s _ (fun v F2 H2 d m2 s1 r1 q => q F2 H2 σ (s.go s1) _ (fun u F3 H3 d2 m3 s2 r2 ⟨e1, e2, hl, hg, q3⟩ => by
    subst e1 e2
    cases r2
    obtain ⟨dx, vs, h3, hl3, t⟩ := s2.mem.ce _ List.mem_cons_self
    refine ⟨r, C, dx, _, rfl, h3, T, na, by simp [List.length_zip]; omega, ?_⟩
    rw [put_new ns vs hg hl3]
    exact n.nx σ F3 _ ds _ ((s1.trans s2).trans (Stp.put (c' := .obj C (ns ++ [g]) (l ++ [d])) s2.sub s2.mem ⟨dx, _, upd_same, by simp [hl3], t.app (.cons (r1.up s2.fz) .nil)⟩)) (s.sl.up (s1.trans s2).fz) q3) (x.go s1)) x)
/-- self.f = e, a field of the first cell that it has -/
theorem sw_fldO {C r : Addr} {g : Str} {o : Expr} {p2 : Pos} {ns : List Str} {l : List D} {rest : Mem} (j : Nat) (T : Cls X.K C) (na : NoAttr X.K C g) (h : EW X W e ds m (fun d m1 => EW X W o ds m1 (fun d2 m2 => d2 = .ref r ∧ m2 = (r, .obj C ns l) :: rest ∧ ns.length < 1000 ∧ ns.Nodup ∧ ns[j]? = some g ∧ N.nx ds ((r, .obj C ns (l.set j d)) :: rest)) Ξ) Ξ)
    (hs : swapsWith e (some (.Attribute o g p2)) pos.line X.env = pure false := by with_unfolding_all rfl) : SW X W (.Assign [.Attribute o g p2] e pos) ds m N Ξ := fun F H σ s De n x =>
  Ws.of (ps_fld pw_e pw_e hs) (h F H σ s _ (fun v F2 H2 d m2 s1 r1 q => q F2 H2 σ (s.go s1) _ (fun u F3 H3 d2 m3 s2 r2 ⟨e1, e2, hl, hnd, hg, q3⟩ => by
    subst e1 e2
    cases r2
    obtain ⟨dx, vs, h3, hl3, t⟩ := s2.mem.ce _ List.mem_cons_self
    refine ⟨r, C, dx, _, rfl, h3, T, na, by simp [List.length_zip]; omega, ?_⟩
    rw [put_old ns vs j hnd hg hl3]
    exact n.nx σ F3 _ ds _ ((s1.trans s2).trans (Stp.put (c' := .obj C ns (l.set j d)) s2.sub s2.mem ⟨dx, _, upd_same, by simp [hl3], t.set j (r1.up s2.fz)⟩)) (s.sl.up (s1.trans s2).fz) q3) (x.go s1)) x)
end
end G
namespace G
open PySem PySem.Spec PyProof.Rows L2
/-! ### comprehensions -/
def wipeD (ds : DS) : List Nat → DS
  | [] => ds
  | v :: vs => (wipeD ds vs).set v none
theorem wipe_sl {K : PySem.W.Frag} {F : Hp} {σ : L2.St} {ds : DS} (h : SlA K F σ ds) : ∀ vs : List Nat, SlA K F (wipe σ vs) (wipeD ds vs)
  | [] => h
  | v :: vs => (wipe_sl h vs).set v (.any none)
theorem wipe_at {o p : Option V} {j : Nat} {σ : L2.St} : ∀ vs : List Nat, (wipe (σ.set j o) vs).set j p = (wipe σ vs).set j p
  | [] => by simp [wipe]
  | v :: vs => by
    show ((wipe (σ.set j o) vs).set v none).set j p = ((wipe σ vs).set v none).set j p
    by_cases h : v = j
    · subst h
      rw [List.set_set, List.set_set]
      exact wipe_at vs
    · rw [List.set_comm _ _ h, List.set_comm _ _ h, wipe_at vs]
theorem wipe_in {o : Option V} {j : Nat} {σ : L2.St} : ∀ {vs : List Nat}, j ∈ vs → wipe (σ.set j o) vs = wipe σ vs
  | [], h => by simp at h
  | v :: vs, h => by
    show (wipe (σ.set j o) vs).set v none = (wipe σ vs).set v none
    by_cases e : v = j
    · subst e
      exact wipe_at vs
    · rw [wipe_in (List.mem_of_ne_of_mem (fun z => e z.symm) h)]
theorem wipe_none {σ : L2.St} : ∀ {vs : List Nat} {j : Nat}, j ∈ vs → (wipe σ vs).set j none = wipe σ vs
  | [], _, h => by simp at h
  | v :: vs, j, h => by
    show ((wipe σ vs).set v none).set j none = (wipe σ vs).set v none
    by_cases e : v = j
    · subst e
      rw [List.set_set]
    · rw [List.set_comm _ _ e, wipe_none (List.mem_of_ne_of_mem (fun z => e z.symm) h)]
theorem wipe_wipe {σ : L2.St} : ∀ {us vs : List Nat}, (∀ u ∈ us, u ∈ vs) → wipe (wipe σ vs) us = wipe σ vs
  | [], _, _ => rfl
  | u :: us, vs, h => by
    show (wipe (wipe σ vs) us).set u none = wipe σ vs
    rw [wipe_wipe fun z hz => h z (List.mem_cons_of_mem _ hz), wipe_none (h u List.mem_cons_self)]
section
variable {X : Cx} {W : WX} {e a b c : Expr} {es : List Expr} {ds : DS} {m : Mem} {Φ Ψ : D → Mem → Prop} {Ξ : XP} {N : En} {p pos : Pos} {d : D} {x : Str} {i k n : Nat} {f : Addr} {sp : SpD} {scope : Scope}
/-- an expression, a test inside a comprehension's block -/
def EB (X : Cx) (scope : Scope) (e : Expr) (ds : DS) (m : Mem) (Φ : D → Mem → Prop) : Prop := ∀ (s0 : Shared) (H0 : Hp) (C : Addr) (cl : List (Str × Addr)) (fp : List Addr), EW (X.blk s0 H0 scope (compEnvC scope cl C X.env) fp) WF e ds m Φ X0
def TB1 (X : Cx) (scope : Scope) (e : Expr) (ds : DS) (m : Mem) (Φ : Bool → Mem → Prop) : Prop := ∀ (s0 : Shared) (H0 : Hp) (C : Addr) (cl : List (Str × Addr)) (fp : List Addr), TW (X.blk s0 H0 scope (compEnvC scope cl C X.env) fp) WF e ds m Φ X0
def TBs (X : Cx) (scope : Scope) : List Expr → DS → Mem → (Bool → Mem → Prop) → Prop
  | [], _, m, Φ => Φ true m
  | [c], ds, m, Φ => TB1 X scope c ds m Φ
  | _, _, _, _ => False
def wEB (X : Cx) (scope : Scope) (e : Expr) : TE := fun σ H Q => ∀ (s0 : Shared) (H0 : Hp) (C : Addr) (cl : List (Str × Addr)) (fp : List Addr), We (X.blk s0 H0 scope (compEnvC scope cl C X.env) fp) e σ H Q
def wTB (X : Cx) (scope : Scope) : List Expr → TT
  | [] => tYes
  | [c] => fun σ H Q => ∀ (s0 : Shared) (H0 : Hp) (C : Addr) (cl : List (Str × Addr)) (fp : List Addr), Wt (X.blk s0 H0 scope (compEnvC scope cl C X.env) fp) c σ H Q
  | _ => fun _ _ _ => False
theorem pb_e (s0 : Shared) (H0 : Hp) (C : Addr) (cl : List (Str × Addr)) (fp : List Addr) : PE (X.blk s0 H0 scope (compEnvC scope cl C X.env) fp) e (wEB X scope e) := ⟨fun pins s _ _ _ I h => h s0 H0 C cl fp pins s I⟩
theorem pb_t (s0 : Shared) (H0 : Hp) (C : Addr) (cl : List (Str × Addr)) (fp : List Addr) : ∀ {ifs : List Expr}, PTs (X.blk s0 H0 scope (compEnvC scope cl C X.env) fp) ifs (wTB X scope ifs)
  | [] => pts_nil
  | [c] => pts_one ⟨fun pins s _ _ _ I h => h s0 H0 C cl fp pins s I⟩
  | _ :: _ :: _ => ⟨fun _ _ _ _ _ _ h => h.elim⟩
theorem x0_any {K : PySem.W.Frag} {F H : Hp} {W : WX} : Xc K F H m X0 W := fun _ _ _ _ _ _ _ _ _ _ _ z => z.elim
theorem eb_run (h : EB X scope e ds m Φ) {F H : Hp} {σ : L2.St} (s : StOk X.K F H σ ds m) {Q : VK} (n : Nm X.K F H m Φ Q) : wEB X scope e σ H Q := fun s0 H0 C cl fp => h s0 H0 C cl fp F H σ s Q n x0_any
theorem tb_run : ∀ {ifs : List Expr} {Φ : Bool → Mem → Prop}, TBs X scope ifs ds m Φ → ∀ {F H : Hp} {σ : L2.St}, StOk X.K F H σ ds m → ∀ {Q : Bool → Hp → Prop}, NmT X.K F H m Φ Q → wTB X scope ifs σ H Q
  | [], _, h, F, H, _, s, _, n => n true F H m s.stp h
  | [c], _, h, F, H, σ, s, Q, n => fun s0 H0 C cl fp => (show TB1 X scope c ds m _ from h) s0 H0 C cl fp F H σ s Q n x0_any
  | _ :: _ :: _, _, h, _, _, _, _, _, _ => h.elim
/-- what a comprehension asks, its target's names at the slots js -/
def LcI (X : Cx) (scope : Scope) (elt : Expr) (ifs : List Expr) (asg : D → DS → Option DS) (items : List D) (ds : DS) (m : Mem) (Φ : D → Mem → Prop) : Prop := ∃ I : Nat → List D → Mem → Prop, I 0 [] m ∧
  (∀ i d acc m2, items[i]? = some d → I i acc m2 → ∃ ds3, asg d ds = some ds3 ∧ TBs X scope ifs ds3 m2 fun t m3 => if t = true then EB X scope elt ds3 m3 fun y m4 => acc.length < sizeLine ∧ I (i + 1) (acc ++ [y]) m4 else I (i + 1) acc m3) ∧
  ∀ acc m2, I items.length acc m2 → Φ (.lst acc) m2
/-- the target's way of storing, on values and on data -/
structure Tgt (X : Cx) (g : TG) (vs : List Nat) (asg : D → DS → Option DS) : Prop where
  st : ∀ F H σ (ds ds3 : DS) v d (Q : L2.St → Hp → Prop), Same F H → SlA X.K F σ (wipeD ds vs) → Rp X.K F v d → asg d ds = some ds3 → (∀ σ2, SlA X.K F σ2 ds3 → wipe σ2 vs = wipe σ vs → Q σ2 H) → g v σ H Q
theorem tgt_name {j : Nat} {vs : List Nat} (hj : j ∈ vs) : Tgt X (gName j) vs (fun d ds => some ((wipeD ds vs).set j (some d))) := ⟨fun F H σ ds ds3 v d Q s sl r e q => by
  cases e
  exact q _ (sl.set j (.val r)) (wipe_in hj)⟩
def gNames : List Nat → TGs
  | [] => gNil
  | j :: js => gCons (gName j) (gNames js)
def setAll : List Nat → List D → DS → Option DS
  | [], [], ds => some ds
  | j :: js, d :: l, ds => setAll js l (ds.set j (some d))
  | _, _, _ => none
def setTup (vs js : List Nat) : D → DS → Option DS
  | .tup l, ds => setAll js l (wipeD ds vs)
  | _, _ => none
theorem setAll_len : ∀ {js : List Nat} {l : List D} {ds ds3 : DS}, setAll js l ds = some ds3 → l.length = js.length
  | [], [], _, _, _ => rfl
  | j :: js, d :: l, ds, ds3, h => by
    have := setAll_len (js := js) (l := l) (ds := ds.set j (some d)) (ds3 := ds3) h
    simp [this]
  | [], _ :: _, _, _, h => by cases h
  | _ :: _, [], _, _, h => by cases h
theorem gnames_run {K : PySem.W.Frag} {F H : Hp} {Q : L2.St → Hp → Prop} {vs : List Nat} {σ0 : L2.St} : ∀ {js : List Nat} {l : List D} {us : List V} {σ : L2.St} {ds ds3 : DS}, (∀ j ∈ js, j ∈ vs) → SlA K F σ ds → RpA K F us l → setAll js l ds = some ds3 → wipe σ vs = σ0 → (∀ σ2, SlA K F σ2 ds3 → wipe σ2 vs = σ0 → Q σ2 H) → gNames js us σ H Q
  | [], [], _, _, _, _, _, sl, r, e, w, q => by
    cases r
    cases e
    exact ⟨rfl, q _ sl w⟩
  | j :: js, d :: l, _, σ, _, _, hj, sl, r, e, w, q => by
    cases r with
    | cons r1 rr =>
      refine ⟨_, _, rfl, ?_⟩
      exact gnames_run (fun z hz => hj z (List.mem_cons_of_mem _ hz)) (sl.set j (.val r1)) rr e ((wipe_in (hj j List.mem_cons_self)).trans w) q
  | [], _ :: _, _, _, _, _, _, _, _, e, _, _ => by cases e
  | _ :: _, [], _, _, _, _, _, _, _, e, _, _ => by cases e
theorem tgt_tup {js vs : List Nat} {nn : Nat} (hn : js.length = nn) (hj : ∀ j ∈ js, j ∈ vs) : Tgt X (gTup X.K nn (gNames js)) vs (setTup vs js) := ⟨fun F H σ ds ds3 v d Q s sl r e q => by
  cases d with
  | tup l =>
    have e' : setAll js l (wipeD ds vs) = some ds3 := e
    cases r with
    | tup h t => exact ⟨_, _, rfl, sq_t (s _ _ h), by rw [t.len, setAll_len e', hn], gnames_run hj sl t e' rfl q⟩
  | _ => cases e⟩
theorem lc_go {elt : Expr} {ifs : List Expr} {g : TG} {vs : List Nat} {asg : D → DS → Option DS} {J : It} {F H F1 H1 : Hp} {m1 : Mem} {items : List D} {σ : L2.St} {Q : VK} (T : Tgt X g vs asg) (s : StOk X.K F H σ ds m) (n : Nm X.K F H m Φ Q) (s1 : Stp X.K F H m F1 H1 m1) (yl : Yl X.K J F1 items) (h : LcI X scope elt ifs asg items ds m1 Φ) :
    ∀ Dl, H1 Dl = none → ∃ Wv : Nat → Nat → Hp → Prop, (∃ k, Wv 0 k (upd H1 Dl (.lst []))) ∧ ∀ i k H2, Wv i k H2 → (J.stop i H2 ∧ Q (.ref Dl) H2) ∨ (J.go i H2 ∧ ∃ Nx : Hp → Prop, (∀ H', Nx H' → ∃ k', k' < k ∧ Wv (i + 1) k' H') ∧
      ∀ x H', J.yld i H2 x H' → g x (wipe σ vs) H' fun σ2 H2 => wipe σ2 vs = wipe σ vs ∧ wTB X scope ifs σ2 H2 fun b H3 => if b = true then wEB X scope elt σ2 H3 fun y H4 => ∃ acc, H4 Dl = some (.lst acc) ∧ acc.length < sizeLine ∧ Nx (upd H4 Dl (.lst (acc ++ [y]))) else Nx H3) := by
  intro Dl hD
  obtain ⟨I, i0, turn, fin⟩ := h
  let St (i : Nat) (H2 : Hp) : Prop := ∃ F2 m2 acc us, H2 Dl = some (.lst us) ∧ F2 Dl = none ∧ Dl ∉ dom m2 ∧ RpA X.K F2 us acc ∧ Stp X.K F H m F2 H2 m2 ∧ Same F1 F2 ∧ I i acc m2
  have hDH : H Dl = none := by
    cases e : H Dl with
    | none => rfl
    | some o => exact absurd hD (s1.th Dl (by rw [e]; simp))
  refine ⟨fun i k H2 => k = items.length - i ∧ i ≤ items.length ∧ St i H2, ⟨items.length, by simp, Nat.zero_le _, F1, m1, [], [], upd_same, s1.sub.free hD, fun z => ?_, .nil, ?_, Same.refl _, i0⟩, ?_⟩
  · obtain ⟨q, hq, e⟩ := List.mem_map.mp z
    exact (s1.mem.ce q hq).ne (by rw [e]; exact hD)
  · exact s1.trans (Stp.wide s1.sub s1.mem fun a o q => by rw [upd_ne (ne_of_none q hD)]; exact q)
  rintro i k H2 ⟨rfl, hi, F2, m2, acc, us, hl, hfd, hdm, ra, s2, sf, q⟩
  by_cases hlt : i < items.length
  · refine .inr ⟨yl.go i H2 (sf.trans s2.sub) hlt, fun H' => i + 1 ≤ items.length ∧ St (i + 1) H', fun H' p => ⟨items.length - (i + 1), by omega, rfl, p⟩, fun xv H' hy => ?_⟩
    obtain ⟨F3, d, hd, s3, ry⟩ := yl.yld i H2 xv H' F2 m2 sf s2.sub s2.mem hlt hy
    obtain ⟨ds3, ha, ht⟩ := turn i d acc m2 hd q
    have sl0 : SlA X.K F3 (wipe σ vs) (wipeD ds vs) := wipe_sl (s.sl.up (s2.trans s3).fz) vs
    refine T.st F3 H' _ ds ds3 xv d _ s3.sub sl0 ry ha fun σ2 sl2 w2 => ⟨w2.trans (wipe_wipe fun u hu => hu), ?_⟩
    have keepD : ∀ {Fa Ha ma}, Stp X.K F2 H2 m2 Fa Ha ma → Ha Dl = some (.lst us) ∧ Fa Dl = none ∧ Dl ∉ dom ma := fun {Fa Ha ma} sa => by
      refine ⟨sa.keep _ _ hl hdm, sa.new _ _ hl trivial hfd fun z => absurd z hdm, fun z => ?_⟩
      rcases sa.dm _ z with z | z
      · exact hdm z
      · rw [hl] at z; cases z
    refine tb_run ht ⟨s3.sub, sl2, s3.mem⟩ fun t F4 H4 m4 s4 q4 => ?_
    cases t with
    | false =>
      obtain ⟨k1, k2, k3⟩ := keepD (s3.trans s4)
      exact iteF ⟨hlt, F4, m4, acc, us, k1, k2, k3, ra.up (s3.trans s4).fz, s2.trans (s3.trans s4), sf.trans (s3.trans s4).fz, q4⟩
    | true =>
      refine iteT (eb_run (show EB X scope elt ds3 m4 _ from q4) ⟨s4.sub, sl2.up s4.fz, s4.mem⟩ fun y F5 H5 dy m5 s5 r5 hq => ?_)
      obtain ⟨hz, q5⟩ := hq
      have s35 := (s3.trans s4).trans s5
      obtain ⟨k1, k2, k3⟩ := keepD s35
      have rl : us.length = acc.length := ra.len
      refine ⟨us, k1, by rw [rl]; exact hz, hlt, F5, m5, acc ++ [dy], us ++ [y], upd_same, k2, k3, (ra.up s35.fz).app (.cons r5 .nil), ?_, sf.trans s35.fz, q5⟩
      have sA := s2.trans s35
      -- the new list is written
      refine ⟨sA.fz, fun a o z => ?_, ⟨sA.mem.nd, sA.mem.fr, fun pr hp => ?_⟩, fun a o z hn => ?_, sA.new, fun a z => ?_, sA.dm⟩
      · rw [upd_ne (ne_of_none z k2)]; exact sA.sub a o z
      · have ne : pr.1 ≠ Dl := fun e => k3 (by rw [← e]; exact List.mem_map.mpr ⟨pr, hp, rfl⟩)
        exact (sA.mem.ce pr hp).up (Same.refl _) fun o w => by rw [upd_ne ne]; exact w
      · have ne : a ≠ Dl := fun e => by rw [e, hDH] at z; cases z
        rw [upd_ne ne]; exact sA.keep a o z hn
      · by_cases e : a = Dl
        · subst e; rw [upd_same]; simp
        · rw [upd_ne e]; exact sA.th a z
  · have e : i = items.length := by omega
    subst e
    refine .inl ⟨yl.stop H2 (sf.trans s2.sub), ?_⟩
    -- the list is frozen
    have hF : Same F2 (upd F2 Dl (.lst us)) := fun a o z => by rw [upd_ne (ne_of_none z hfd)]; exact z
    refine n (.ref Dl) (upd F2 Dl (.lst us)) H2 (.lst acc) m2 ⟨s2.fz.trans hF, fun a o z => ?_, ⟨s2.mem.nd, fun pr hp => ?_, fun pr hp => (s2.mem.ce pr hp).up hF fun o w => w⟩, s2.keep, fun a ob z t w u => ?_, s2.th, s2.dm⟩ (.lst upd_same (ra.up hF)) (fin acc m2 q)
    · by_cases e : a = Dl
      · subst e; rw [upd_same] at z; rw [hl]; exact z
      · rw [upd_ne e] at z; exact s2.sub a o z
    · have ne : pr.1 ≠ Dl := fun e => hdm (by rw [← e]; exact List.mem_map.mpr ⟨pr, hp, rfl⟩)
      rw [upd_ne ne]; exact s2.mem.fr pr hp
    · have ne : a ≠ Dl := fun e => by rw [e, hDH] at z; cases z
      rw [upd_ne ne]; exact s2.new a ob z t w u
theorem ew_lc {elt tg iter : Expr} {ifs : List Expr} {own : List (Str × Nat)} {g : TG} {asg : D → DS → Option DS} (hN : X.N.Nodup) (ok : BlkOk X.N X.env.scope scope own) (T : Tgt X g (own.map (·.2)) asg)
    (hg : ∀ (s : Shared) (H : Hp) (C : Addr) (cl : List (Str × Addr)) (fp : List Addr), PG (X.blk s H scope (compEnvC scope cl C X.env) fp) tg g) (h : IW X W tg iter ds m (fun items m1 => LcI X scope elt ifs asg items ds m1 Φ) Ξ)
    (hs : ∀ x, foldedSetIterable iter X.env x = pure x := by with_unfolding_all (intro _; rfl)) (hc : X.calm = true := by with_unfolding_all rfl) : EW X W (.ListComp elt [⟨tg, iter, ifs, 0⟩] scope pos) ds m Φ Ξ := fun F H σ s Q n x =>
  We.of (pe_lc hc hN pw_i ok hg (fun s0 H0 C cl fp => pb_t s0 H0 C cl fp) (fun s0 H0 C cl fp => pb_e s0 H0 C cl fp) hs) (h F H σ s _ (fun J F2 H2 items m2 s1 yl q => lc_go T s n s1 yl q) x)
/-- y = [..] -/
theorem sw_setLc {elt tg iter : Expr} {ifs : List Expr} {own : List (Str × Nat)} {g : TG} {asg : D → DS → Option DS} (i : Nat) {y : Str} {yp spos : Pos} (hN : X.N.Nodup) (ok : BlkOk X.N X.env.scope scope own) (T : Tgt X g (own.map (·.2)) asg) (hyl : X.env.scope.names.lookup y = some .local)
    (hsw : swapsWith (.ListComp elt [⟨tg, iter, ifs, 0⟩] scope pos) (some (.Name y yp)) spos.line X.env = pure true)
    (hg : ∀ (s : Shared) (H : Hp) (C : Addr) (cl : List (Str × Addr)) (fp : List Addr), PG (X.blk s H scope (compEnvC scope cl C X.env) fp) tg g) (h : IW X W tg iter ds m (fun items m1 => LcI X scope elt ifs asg items ds m1 (fun d m2 => N.nx (ds.set i (some d)) m2)) Ξ)
    (hy : X.N[i]? = some y := by with_unfolding_all rfl) (hs : ∀ x, foldedSetIterable iter X.env x = pure x := by with_unfolding_all (intro _; rfl)) (hc : X.calm = true := by with_unfolding_all rfl) : SW X W (.Assign [.Name y yp] (.ListComp elt [⟨tg, iter, ifs, 0⟩] scope pos) spos) ds m N Ξ := fun F H σ s De n x =>
  Ws.of (ps_setLc hc hN hy hyl hsw pw_i ok hg (fun s0 H0 C cl fp => pb_t s0 H0 C cl fp) (fun s0 H0 C cl fp => pb_e s0 H0 C cl fp) hs) (h F H σ s _ (fun J F2 H2 items m2 s1 yl q => lc_go (Q := fun v H' => De.nx (σ.set i (some v)) H') T s (fun v F3 H3 d m3 s3 r q3 => n.nx _ F3 H3 _ m3 s3 ((s.sl.up s3.fz).set i (.val r)) q3) s1 yl q) x)
end
end G
namespace G
open PySem PySem.Spec PyProof.Rows L2
/-! ### enumerate over lists, tuples and texts -/
theorem meets_enum1 {v : Value} {o : Obj} {Hc : Heap → Prop} (B : Begins v o Hc) :
    Meets (Builtin.«enumerate.__new__» ⟨[.type "enumerate", v], []⟩) (fun _ R s => Hc s.heap ∧ R (.ok (.ret (.ref (s.heap.push o).objs.size))) { s with heap := (s.heap.push o).push { cls := .type "enumerate", data := .fields #[.none, .bool false, .ref s.heap.objs.size, rawInt 0, .none, .none] } }) :=
  .of_wp fun prog w A R s h => by
    obtain ⟨hp, g, d, tk, os⟩ := s
    obtain ⟨h1, h⟩ := h
    have hsub := sub_enumerate
    have go : ∀ {A' : Around} {E : Value → Shared → Prop} {Q : Value → Shared → Prop}, Q (.ref hp.objs.size) ⟨hp.push o, g, d, tk, os⟩ → wpAny (model prog w) A' (pyIter v) Q E ⟨hp, g, d, tk, os⟩ := fun q => B.iter prog w _ _ ⟨hp, g, d, tk, os⟩ _ h1 q
    wp_walk using go
    refine wpAny_stack_any fun st => wpAny_pure ?_
    split
    · rename_i c _ _ _ _ _
      cases (c == Value.type "enumerate") <;> (wp_walk using go; exact ⟨_, rfl, h⟩)
    · wp_walk using go
      exact ⟨_, rfl, h⟩
theorem call_enum1 {prog : Program} {w : World} {A : Around} {E : Value → Shared → Prop} {s : Shared} {v : Value} {o : Obj} {Hc : Heap → Prop} {Q : Value → Shared → Prop} (B : Begins v o Hc) (h1 : Hc s.heap)
    (h : ∀ h', IsEnum h' (s.heap.objs.size + 1) s.heap.objs.size 0 .none → h'.get? s.heap.objs.size = some o → (∀ b u, s.heap.get? b = some u → h'.get? b = some u) → Q (.ref (s.heap.objs.size + 1)) { s with heap := h' }) : wpAny (model prog w) A (call (.type "enumerate") [v]) Q E s := by
  refine callType_new F.called_enumerate (by decide) (F.typeCall_enumerate_1 _) (F.newCall_enumerate_1 _) (fun obj => F.args_object_init_2 obj _) F.entry_enumerate_new (meets_enum1 B) ⟨h1, ?_⟩
  have hz : (s.heap.push o).objs.size = s.heap.objs.size + 1 := Heap.size_push ..
  show _ ∧ _
  rw [hz]
  have he : IsEnum ((s.heap.push o).push { cls := .type "enumerate", data := .fields #[.none, .bool false, .ref s.heap.objs.size, rawInt 0, .none, .none] }) (s.heap.objs.size + 1) s.heap.objs.size 0 .none := by
    have q := Heap.get?_push_size (s.heap.push o) (o := { cls := .type "enumerate", data := .fields #[.none, .bool false, .ref s.heap.objs.size, rawInt 0, .none, .none] }) rfl
    rw [hz] at q
    exact q
  exact ⟨⟨_, he, rfl⟩, h _ he (Heap.get?_push_of_some _ (Heap.get?_push_size _ B.free)) fun b u y => Heap.get?_push_of_some _ (Heap.get?_push_of_some _ y)⟩
/-- one turn of an enumeration -/
theorem enum_item {X : Cx} {pins : List (Addr × Obj)} {s : Shared} {σ : L2.St} {H : Hp} {E : Value → Shared → Prop} {elts : List Expr} {kk : Nat} {tpos : Pos} {e it : Addr} {fp : List Addr} {n i : Nat} {P : Nat → Value → Prop} {Sx : Nat → Heap → Prop} {old : Value} {Rx : V → Prop} {Tn : Heap → Prop}
    (Dr : Draws X.prog X.w X.A.in1 it fp n P Sx) (I : Inv X pins σ H s) (hf : ∀ b ∈ [e, it], FpOk X pins H b) (he : IsEnum s.heap e it i old) (hst : Sx i s.heap) (hlt : i < n) (hne : e ≠ it) (hef : e ∉ fp) (hP : ∀ u, P i u → ∃ x, RelV x u ∧ Rx x)
    (hT : ∀ h h', Sx (i + 1) h → (∀ b o, b ≠ e → h.get? b = some o → h'.get? b = some o) → Tn h') :
    wpAny (model X.prog X.w) X.A (pyNext (.ref e)) (fun r s1 => ∃ u, r = some u ∧ wpAny (model X.prog X.w) X.A (letOwnedTupleGo (.Tuple elts kk tpos) (.ref e) u) (fun _ s2 => ∃ x H', Inv X pins σ H' s2 ∧ RelV x u ∧ (∃ T y, x = .ref T ∧ H T = none ∧ H' = upd H T (.tup [.int (i : Nat), y]) ∧ Rx y) ∧
      ((∃ old', IsEnum s2.heap e it (((i + 1 : Nat)) : Int) old') ∧ Tn s2.heap) ∧ ∀ b ∈ [e, it], H' b = none) E s1) E s := by
  have hel : e < s.heap.objs.size := Heap.lt_size he
  obtain ⟨oi, hoi⟩ := Dr.live i _ hst
  have hil : it < s.heap.objs.size := Heap.lt_size hoi
  refine wpAny_pyNext_enum_itemD Dr he hst hlt hne hef fun x h' tk px ho st' hTp hsz hk => ⟨_, rfl, wpAny_letOwnedTupleGo_enum (s := { s with heap := h', toks := tk + 1 }) ho fun h2 he2 sb => ?_⟩
  obtain ⟨y, ry, rx⟩ := hP x px
  have hT2 : h2.get? s.heap.objs.size = some { cls := .type "tuple", data := .seq #[.int i tk, x] } := (sb.2 _ (Nat.ne_of_gt hel)).trans hTp
  have new : ObjOk X.prog X.w (upd H s.heap.objs.size (.tup [.int (i : Nat), y])) h2 s.heap.objs.size (.tup [.int (i : Nat), y]) := ⟨by show 2 ≤ sizeLine; decide, [.int i tk, x], .cons ⟨_, rfl⟩ (.cons ry .nil), ⟨_, hT2, rfl, _, rfl⟩⟩
  have I1 : Inv X pins σ (upd H s.heap.objs.size (.tup [.int (i : Nat), y])) { s with heap := h2, toks := tk + 1 } :=
    I.turnedNew (ch := [e, it]) (fun b ob hb q => (sb.2 b (fun z => hb (by simp [z]))).trans (hk b ob (fun z => hb (by simp [z])) (fun z => hb (by simp [z])) q)) hf (Nat.le_refl _) new
  refine ⟨.ref s.heap.objs.size, _, I1, rfl, ⟨_, y, rfl, I.hok.fresh (Nat.le_refl _), rfl, rx⟩, ⟨⟨x, ?_⟩, hT h' h2 st' fun b o hb q => (sb.2 b hb).trans q⟩, fun b hb => ?_⟩
  · rw [show ((i + 1 : Nat) : Int) = (i : Int) + 1 by omega]
    exact he2
  · have hb' : b < s.heap.objs.size := by
      rcases List.mem_cons.mp hb with z | z
      · rw [z]; exact hel
      · rw [List.mem_singleton.mp z]; exact hil
    rw [upd_ne (Nat.ne_of_lt hb')]
    exact (hf b hb).1
def Itet (K : PySem.W.Frag) (a : Addr) : It :=
  ⟨fun i H => ∃ xs x, SqT K H a xs ∧ xs[i]? = some x, fun i H v H' => ∃ T y, v = .ref T ∧ H T = none ∧ H' = upd H T (.tup [.int (i : Nat), y]) ∧ ∀ xs, SqT K H a xs → xs[i]? = some y, fun i H => ∃ xs, SqT K H a xs ∧ xs.length = i⟩
def Ites (x : Str) : It := ⟨fun i _ => i < x.cps.size, fun i H v H' => ∃ T y, v = .ref T ∧ H T = none ∧ H' = upd H T (.tup [.int (i : Nat), y]) ∧ ∃ c, x.cps[i]? = some c ∧ y = .str ⟨#[c]⟩, fun i _ => x.cps.size = i⟩
theorem apart_cls {h : Heap} {a b : Addr} {o u : Obj} (ha : h.get? a = some o) (hb : h.get? b = some u) (hc : o.cls ≠ u.cls) : a ≠ b := fun z => by
  rw [z, hb] at ha
  cases ha
  exact hc rfl
theorem turn_enumT {P : Program} {w : World} {K : PySem.W.Frag} {elts : List Expr} {kk : Nat} {tpos : Pos} (a e it : Addr) : Turn P w K (.Tuple elts kk tpos) (Itet K a) [e, it] e (fun i h => (∃ old, IsEnum h e it ((i : Nat) : Int) old) ∧ h.IsTupleIter it a i ∧ e ≠ it) where
  mem := by simp
  obj := fun i h st b hb => by
    obtain ⟨⟨old, he⟩, ⟨o, ho, hc, hd⟩, _⟩ := st
    rcases List.mem_cons.mp hb with z | z
    · rw [z]; exact ⟨_, he, fun v q => nomatch q⟩
    · rw [List.mem_singleton.mp z]; exact ⟨o, ho, fun v q => by rw [hd] at q; cases q⟩
  keep := fun i h h' st k => let ⟨⟨old, he⟩, hi, hn⟩ := st; ⟨⟨old, k e (by simp) _ he⟩, hi.at fun o q => k it (by simp) o q, hn⟩
  item := by
    intro X hP hw hK hc i pins s σ H E I hf st hg
    subst hP hw hK
    obtain ⟨⟨old, he⟩, hit, hne⟩ := st
    obtain ⟨xs, x, hq, hx⟩ := hg
    obtain ⟨its, rv, pt, hz⟩ := I.tuple hq
    have hT : s.heap.IsTuple a its.toArray := pt
    obtain ⟨oa, ha1, ha2, _⟩ := id hT
    obtain ⟨oi, hi1, hi2, _⟩ := id hit
    have nai : a ≠ it := apart_cls ha1 hi1 (by rw [ha2, hi2]; decide)
    have nae : a ≠ e := apart_cls ha1 he (by rw [ha2]; show Value.type "tuple" ≠ Value.type "enumerate"; decide)
    have hlen := rv.length
    have hxl : i < its.toArray.size := by
      have := (List.getElem?_eq_some_iff.mp hx).1
      simp
      omega
    refine thn (enum_item (Rx := fun y => ∀ ys, SqT X.K H a ys → ys[i]? = some y) (Tn := fun h => h.IsTupleIter it a (i + 1)) (Draws.tuple (A := X.A.in1) (I.ok.hd hc) it a nai its.toArray) I hf he ⟨hit, hT⟩ hxl hne (fun z => by rcases List.mem_cons.mp z with z | z; exact hne z; exact nae (List.mem_singleton.mp z).symm) (fun u hu => ?_) fun h h' st k => st.1.at fun o q => k it o (fun z => hne z.symm) q) fun r s1 ⟨u, hr, h1⟩ => ⟨u, hr, thn h1 fun _ s2 ⟨y, H', I2, ry, yy, ⟨e1, e2⟩, e3⟩ => ⟨y, H', I2, ry, yy, ⟨e1, e2, hne⟩, e3⟩⟩
    obtain ⟨u', hu', ru⟩ := rv.get hx
    have hu2 : its[i]? = some u := by simpa using hu
    rw [hu'] at hu2
    cases hu2
    exact ⟨x, ru, fun ys hy => by rw [I.tuple_inj hy hq]; exact hx⟩
  done := by
    intro X hP hw hK hc i pins s σ H E I hf st hg
    subst hP hw hK
    obtain ⟨⟨old, he⟩, hit, hne⟩ := st
    obtain ⟨xs, hq, hx⟩ := hg
    obtain ⟨its, rv, pt, hz⟩ := I.tuple hq
    have hT : s.heap.IsTuple a its.toArray := pt
    obtain ⟨oa, ha1, ha2, _⟩ := id hT
    obtain ⟨oi, hi1, hi2, _⟩ := id hit
    have nai : a ≠ it := apart_cls ha1 hi1 (by rw [ha2, hi2]; decide)
    obtain ⟨f0, f1, f2, f3, f4, f5⟩ := hf it (by simp)
    have hl := rv.length
    refine wpAny_pyNext_enum_endD (Draws.tuple (A := X.A.in1) (I.ok.hd hc) it a nai its.toArray) he ⟨?_, hT⟩ fun h' eb => ⟨rfl, I.turned (t' := s.toks) (fun b o hb q => eb b o hb q) f0 f1 f3 f4 f5⟩
    have e : its.toArray.size = i := by simp; omega
    rw [e]
    exact hit
  self := fun A i s Q E st h => let ⟨⟨_, he⟩, _⟩ := st; wpAny_pyIter_enum he h
theorem turn_enumS {P : Program} {w : World} {K : PySem.W.Frag} {elts : List Expr} {kk : Nat} {tpos : Pos} (x : Str) (t : Tok) (e it : Addr) : Turn P w K (.Tuple elts kk tpos) (Ites x) [e, it] e (fun i h => (∃ old, IsEnum h e it ((i : Nat) : Int) old) ∧ h.IsStrIter it (strIterType x) x t i ∧ e ≠ it) where
  mem := by simp
  obj := fun i h st b hb => by
    obtain ⟨⟨old, he⟩, ⟨o, ho, hc, hd⟩, _⟩ := st
    rcases List.mem_cons.mp hb with z | z
    · rw [z]; exact ⟨_, he, fun v q => nomatch q⟩
    · rw [List.mem_singleton.mp z]; exact ⟨o, ho, fun v q => by rw [hd] at q; cases q⟩
  keep := fun i h h' st k => let ⟨⟨old, he⟩, hi, hn⟩ := st; ⟨⟨old, k e (by simp) _ he⟩, let ⟨o, ho, hr⟩ := hi; ⟨o, k it (by simp) o ho, hr⟩, hn⟩
  item := by
    intro X hP hw hK hc i pins s σ H E I hf st hg
    subst hP hw hK
    obtain ⟨⟨old, he⟩, hit, hne⟩ := st
    refine thn (enum_item (Rx := fun y => ∃ c, x.cps[i]? = some c ∧ y = .str ⟨#[c]⟩) (Tn := fun h => h.IsStrIter it (strIterType x) x t (i + 1)) (Draws.text (A := X.A.in1) (I.ok.hd hc) it x t) I hf he hit hg hne (fun z => hne (List.mem_singleton.mp z)) (fun u hu => ?_) fun h h' st k => let ⟨o, ho, hr⟩ := st; ⟨o, k it o (fun z => hne z.symm) ho, hr⟩) fun r s1 ⟨u, hr, h1⟩ => ⟨u, hr, thn h1 fun _ s2 ⟨y, H', I2, ry, yy, ⟨e1, e2⟩, e3⟩ => ⟨y, H', I2, ry, yy, ⟨e1, e2, hne⟩, e3⟩⟩
    obtain ⟨c, u', hc', rfl⟩ := hu
    exact ⟨.str ⟨#[c]⟩, ⟨_, rfl⟩, c, hc', rfl⟩
  done := by
    intro X hP hw hK hc i pins s σ H E I hf st hg
    subst hP hw hK
    obtain ⟨⟨old, he⟩, hit, hne⟩ := st
    obtain ⟨f0, f1, f2, f3, f4, f5⟩ := hf it (by simp)
    have hg' : x.cps.size = i := hg
    subst hg'
    exact wpAny_pyNext_enum_endD (Draws.text (A := X.A.in1) (I.ok.hd hc) it x t) he hit fun h' eb => ⟨rfl, I.turned (t' := s.toks) (fun b o hb q => eb b o hb q) f0 f1 f3 f4 f5⟩
  self := fun A i s Q E st h => let ⟨⟨_, he⟩, _⟩ := st; wpAny_pyIter_enum he h
/-- what enumerate gives -/
def enumD (l : List D) : List D := (List.range l.length).zipWith (fun i d => .tup [.int (i : Nat), d]) l
theorem enumD_len (l : List D) : (enumD l).length = l.length := by simp [enumD]
theorem enumD_at {l : List D} {i : Nat} {d : D} (h : l[i]? = some d) : (enumD l)[i]? = some (.tup [.int (i : Nat), d]) := by
  have hi := (List.getElem?_eq_some_iff.mp h).1
  simp [enumD, List.getElem?_zipWith, h, List.getElem?_range hi]
theorem yl_pair {K : PySem.W.Frag} {F H : Hp} {m : Mem} {T : Addr} {i : Nat} {y : V} {d : D} (s : Same F H) (mm : MemOk K F H m) (hT : H T = none) (r : Rp K F y d) : ∃ F2, Stp K F H m F2 (upd H T (.tup [.int (i : Nat), y])) m ∧ Rp K F2 (.ref T) (.tup [.int (i : Nat), d]) :=
  ⟨_, Stp.lay s mm hT, .tup (upd_same) (.cons (.int _) (.cons (r.up (Stp.lay s mm hT).fz) .nil))⟩
theorem yl_enumL {K : PySem.W.Frag} {F : Hp} {a : Addr} {xs : List V} {l : List D} (h : F a = some (.lst xs)) (r : RpA K F xs l) : Yl K (Ite K a) F (enumD l) := by
  have hs : ∀ {H}, Same F H → SqL K H a xs := fun s => Or.inl (Or.inl (s _ _ h))
  refine ⟨fun i H s hi => ?_, fun H s => ⟨xs, hs s, by rw [r.len, enumD_len]; exact Nat.le_refl _⟩, fun i H x H' F1 m f1 s1 mm hi y => ?_⟩
  · rw [enumD_len] at hi
    obtain ⟨v, h1, _⟩ := r.get (List.getElem?_eq_getElem hi)
    exact ⟨xs, v, hs s, h1⟩
  · obtain ⟨T, y, rfl, hT, rfl, hy⟩ := y
    obtain ⟨d, h1, h2⟩ := r.gtv (hy xs (hs (f1.trans s1)))
    obtain ⟨F2, s2, r2⟩ := yl_pair (i := i) s1 mm hT (h2.up f1)
    exact ⟨F2, _, enumD_at h1, s2, r2⟩
theorem yl_enumT {K : PySem.W.Frag} {F : Hp} {a : Addr} {xs : List V} {l : List D} (h : SqT K F a xs) (r : RpA K F xs l) : Yl K (Itet K a) F (enumD l) := by
  have hs : ∀ {H}, Same F H → SqT K H a xs := fun s => same_t s h
  refine ⟨fun i H s hi => ?_, fun H s => ⟨xs, hs s, by rw [r.len, enumD_len]⟩, fun i H x H' F1 m f1 s1 mm hi y => ?_⟩
  · rw [enumD_len] at hi
    obtain ⟨v, h1, _⟩ := r.get (List.getElem?_eq_getElem hi)
    exact ⟨xs, v, hs s, h1⟩
  · obtain ⟨T, y, rfl, hT, rfl, hy⟩ := y
    obtain ⟨d, h1, h2⟩ := r.gtv (hy xs (hs (f1.trans s1)))
    obtain ⟨F2, s2, r2⟩ := yl_pair (i := i) s1 mm hT (h2.up f1)
    exact ⟨F2, _, enumD_at h1, s2, r2⟩
theorem yl_enumS {K : PySem.W.Frag} {F : Hp} (z : Str) : Yl K (Ites z) F (enumD (signs z)) := by
  have hl : (enumD (signs z)).length = z.cps.size := by rw [enumD_len]; simp [signs]
  refine ⟨fun i H _ hi => by rw [hl] at hi; exact hi, fun H _ => hl.symm, fun i H x H' F1 m f1 s1 mm hi y => ?_⟩
  obtain ⟨T, y, rfl, hT, rfl, c, hc, rfl⟩ := y
  obtain ⟨F2, s2, r2⟩ := yl_pair (i := i) (d := .str ⟨#[c]⟩) s1 mm hT (.str _)
  refine ⟨F2, _, enumD_at ?_, s2, r2⟩
  have hc' : z.cps.toList[i]? = some c := by simpa using hc
  simp [signs, List.getElem?_map, hc']
section
variable {X : Cx} {W : WX} {e a b c : Expr} {es : List Expr} {ds : DS} {m : Mem} {Ξ : XP} {p pos : Pos}
/-- enumerate(e), e a list, a tuple or a text -/
theorem iw_enum {elts : List Expr} {kk : Nat} {tpos : Pos} {Φ : List D → Mem → Prop} (hm : X.mg "enumerate" = none) (h : EW X W a ds m (fun d m1 => ∃ l, Seq d l ∧ Φ (enumD l) m1) Ξ) (hg : Gl X "enumerate" := by with_unfolding_all rfl) (hs : starEach [a] X.env = [(false, eval a X.env)] := by with_unfolding_all rfl) : IW X W (.Tuple elts kk tpos) (.Call (.Name "enumerate" p) [a] [] pos) ds m Φ Ξ := fun F H σ s R n x pins sh I => by
  let Qa : List V → Hp → Prop := fun vs H2 => ∃ v F2 d m2, vs = [v] ∧ Stp X.K F H m F2 H2 m2 ∧ Rp X.K F2 v d ∧ ∃ l, Seq d l ∧ Φ (enumD l) m2
  have wa : Wa X [a] σ H Qa := Wa.of (pa_cons pw_e pa_nil hs) (h F H σ s (fun v H2 => Qa [v] H2) (fun v F2 H2 d m2 s1 r q => ⟨v, F2, d, m2, rfl, s1, r, q⟩) x)
  refine Call_ (ld_blt I hg hm boot_enumerate (PyProof.Rows.callWith_type1 (thn (wa pos pins sh I) fun us s1 hh => ?_) hs rfl))
  obtain ⟨vs, H2, I1, rv, v, F2, d, m2, rfl, st, rp, l, sq, q⟩ := hh
  cases rv with
  | @cons _ u _ _ ru rr =>
    cases rr
    have fp2 : ∀ b ∈ [s1.heap.objs.size + 1, s1.heap.objs.size], FpOk X pins H2 b := fun b hb => by
      have hle : s1.heap.objs.size ≤ b := by
        rcases List.mem_cons.mp hb with z | z
        · rw [z]; exact Nat.le_add_right _ _
        · rw [List.mem_singleton.mp z]; exact Nat.le_refl _
      exact I1.fpOk hle (I1.hok.fresh hle)
    cases sq with
    | lst l =>
      cases rp with
      | @lst la xs _ h1 t1 =>
        obtain rfl : u = Value.ref la := ru
        obtain ⟨its, rv2, pl2, hz⟩ := I1.list (xs := xs) (Or.inl (Or.inl (st.sub _ _ h1)))
        refine call_enumerate_list pl2.isList fun h' he hit hsz hk => wpAny_pyIter_enum he ?_
        exact ⟨s1.heap.objs.size + 1, _, _, _, H2, rfl, I1.kept (t' := s1.toks) hk, turn_enum la _ _, ⟨⟨.none, he⟩, hit, Nat.succ_ne_self _⟩, fp2, n _ F2 H2 _ m2 st (yl_enumL h1 t1) q⟩
    | tup l =>
      cases rp with
      | @tup la xs _ h1 t1 =>
        obtain rfl : u = Value.ref la := ru
        obtain ⟨its, rv2, pl2, hz⟩ := I1.tuple (sq_t (st.sub _ _ h1))
        refine call_enum1 (begins_tuple la its.toArray) (show s1.heap.IsTuple la its.toArray from pl2) fun h' he hit hk => wpAny_pyIter_enum he ?_
        exact ⟨s1.heap.objs.size + 1, _, _, _, H2, rfl, I1.kept (t' := s1.toks) hk, turn_enumT la _ _, ⟨⟨.none, he⟩, ⟨_, hit, rfl, rfl⟩, Nat.succ_ne_self _⟩, fp2, n _ F2 H2 _ m2 st (yl_enumT (sq_t h1) t1) q⟩
    | str z =>
      cases rp
      obtain ⟨tk, rfl⟩ := ru
      refine call_enum1 (begins_text z tk) trivial fun h' he hit hk => wpAny_pyIter_enum he ?_
      exact ⟨s1.heap.objs.size + 1, _, _, _, H2, rfl, I1.kept (t' := s1.toks) hk, turn_enumS z tk _ _, ⟨⟨.none, he⟩, ⟨_, hit, rfl, rfl⟩, Nat.succ_ne_self _⟩, fp2, n _ F2 H2 _ m2 st (yl_enumS z) q⟩
end
end G
namespace G
open PySem PySem.Spec PyProof.Rows L2
section
variable {X : Cx} {W : WX} {e a b c : Expr} {es : List Expr} {ds : DS} {m : Mem} {Φ Ψ : D → Mem → Prop} {Ξ : XP} {N : En} {p pos : Pos} {d : D} {x : Str} {i k n : Nat} {f C : Addr} {sp : SpD}
/-! ### making instances -/
theorem run_makeS {pins : List (Addr × Obj)} {σ : L2.St} {H : Hp} {s : Shared} {Q : VK} {us : List Value} {vs : List V} {fd : FuncData} {ps : List Str} {sp : Sp} (M : Mk X.K C f) (F1 : FnOk X.prog X.w X.K X.mg X.base (L2.CX X.prog X.w) k f fd ps sp) (hr : Room (k + 1) X.A) (hb : Binds X.K fd ps []) (tk : Takes X W) (I : Inv X pins σ H s) (r : Vals vs us)
    (h : ∀ x dx, H x = none → H dx = none → dx ≠ x → sp (.ref x :: vs) (upd (upd H dx (.own x)) x (.ins C dx [])) (fun v H2 => v = .non ∧ Q (.ref x) H2) (L2.WE W σ)) : wpAny (model X.prog X.w) X.A (call (.ref C) us) (EP X pins σ Q) X.xe s := by
  have hq := h (s.heap.objs.size + 1) s.heap.objs.size (I.hok.fresh (Nat.le_succ _)) (I.hok.fresh (Nat.le_refl _)) (Nat.ne_of_lt (Nat.lt_succ_self _))
  have I2 := Inv.made (C := C) I
  have r2 : Vals (V.ref (s.heap.objs.size + 1) :: vs) (Value.ref (s.heap.objs.size + 1) :: us) := .cons rfl r
  have hl : (Value.ref (s.heap.objs.size + 1) :: us).length = ps.length := r2.length.symm.trans (F1.len _ _ _ _ hq)
  have bt := hb _ (Value.ref (s.heap.objs.size + 1) :: us) I2.kIn (by rw [List.append_nil]; exact hl)
  rw [List.append_nil] at bt
  refine wpAny_call (make_map (f := f) I.kIn M.makes M.init (beq_iff_eq.mp M.fn) (codeAny_mono (F1.run _ X.stack _ _ ⟨Value.ref (s.heap.objs.size + 1) :: us, []⟩ (Value.ref (s.heap.objs.size + 1) :: us) _ _ (L2.WE W σ) (hr.make C us []) (I2.env0.make C us []) bt r2 hq) fun rs s' hq' => ?_))
  cases rs with
  | error er => exact passAt tk σ pins _ _ er s' I2 hq'
  | ok fl =>
    cases fl with
    | ret u =>
      obtain ⟨v, H', I3, rv, ev, q3⟩ := I2.after hq'
      subst ev
      exact ⟨rv, ⟨V.ref (s.heap.objs.size + 1), H', I3, rfl, q3⟩⟩
    | next => exact False.elim hq'
    | brk => exact False.elim hq'
    | cont => exact False.elim hq'
/-- a class of the text that is made by its __init__ -/
structure MkD (P : Program) (w : World) (K : PySem.W.Frag) (mg : Str → Option Value) (base : Heap) (k : Nat) (x : Str) (C : Addr) (n : Nat) (sp : SpD) : Prop where
  ok : ∃ f fd ps, ps.length = n + 1 ∧ Mk K C f ∧ FnOk P w K mg base (L2.CX P w) k f fd ps (lift K (n + 1) sp) ∧ Binds K fd ps []
  gl : mg x = some (.ref C)
/-- a heap step where a new cell x (with its dict) is there -/
theorem made_stp {K : PySem.W.Frag} {F H : Hp} {m : Mem} {C x dx : Addr} (s : Same F H) (mm : MemOk K F H m) (hx : H x = none) (hd : H dx = none) (ne : dx ≠ x) : Stp K F H m F (upd (upd H dx (.own x)) x (.ins C dx [])) ((x, .obj C [] []) :: m) := by
  have e1 : Same H (upd H dx (.own x)) := fun a o q => by rw [upd_ne (ne_of_none q hd)]; exact q
  have s1 := Stp.wide s mm e1
  have hx' : upd H dx (.own x) x = none := by rw [upd_ne (Ne.symm ne)]; exact hx
  exact s1.trans (Stp.cell (c := .obj C [] []) s1.sub s1.mem hx' ⟨dx, [], upd_same, rfl, .nil⟩)
/-- cells that are no longer looked at -/
theorem Stp.forget {K : PySem.W.Frag} {F H F2 H2 : Hp} {m m2 m3 : Mem} (s : Stp K F H m F2 H2 m2) (e : m3.Sublist m2) : Stp K F H m F2 H2 m3 :=
  have hd : (dom m3).Sublist (dom m2) := e.map _
  ⟨s.fz, s.sub, ⟨s.mem.nd.sublist hd, fun q hq => s.mem.fr q (e.subset hq), fun q hq => s.mem.ce q (e.subset hq)⟩, s.keep, fun a o z t w u => s.new a o z t w fun h => hd.subset (u h), s.th, fun a z => s.dm a (hd.subset z)⟩
/-- C(e, ..): an instance that does not change any more -/
theorem ew_make (Md : MkD X.prog X.w X.K X.mg X.base k x C n sp) (hr : Room (k + 1) X.A) (tk : Takes X W) (h : AW X W (e :: es) ds m (fun l m1 => l.length = n ∧ ∀ x, x ∉ dom m1 → sp (.ref x :: l) ((x, .obj C [] []) :: m1) (fun d m2 => d = .non ∧ ∃ ns l2 m3, m2 = (x, .obj C ns l2) :: m3 ∧ Φ (.ins C ns l2) m3) (fun C' fs m2 => ∃ c m3, m2 = (x, c) :: m3 ∧ Ξ ds C' fs m3)) Ξ) (hg : Gl X x := by with_unfolding_all rfl)
    (hdb : (x == ("__debug__" : Str)) = false := by decide) (he : starEach (e :: es) X.env = (false, eval e X.env) :: starEach es X.env := by with_unfolding_all rfl) (hpl : (backTo pos (starEach es X.env)).any (·.1) = false := by with_unfolding_all rfl) : EW X W (.Call (.Name x p) (e :: es) [] pos) ds m Φ Ξ := fun F H σ s Q nn xx pins sh I => by
  obtain ⟨f, fd, ps, hn, M, ok, bd⟩ := Md.ok
  refine wpAny_Call_Name_kw (ld_glob I hg Md.gl ?_ hdb)
  let Qa : List V → Hp → Prop := fun vs H2 => ∀ y dy, H2 y = none → H2 dy = none → dy ≠ y → lift X.K (n + 1) sp (.ref y :: vs) (upd (upd H2 dy (.own y)) y (.ins C dy [])) (fun v H3 => v = .non ∧ Q (.ref y) H3) (L2.WE W σ)
  refine PySem.W.callWith_K (h₀ := X.base) I.ok.mod.kin M.kp (thn (h F H σ s Qa (fun vs F2 H2 l m2 s1 r hq y dy hy hdy ne => ?_) xx pos pins sh I) fun us s1 ⟨vs, H1, I1, rv, q⟩ => ⟨I1.kIn, run_makeS M ok hr bd tk I1 rv q⟩) he hpl
  obtain ⟨hl, hs⟩ := hq
  have s2 := made_stp (C := C) s1.sub s1.mem hy hdy ne
  have hyd : y ∉ dom m2 := fun z => by
    obtain ⟨q, hq, e⟩ := List.mem_map.mp z
    exact (s1.mem.ce q hq).ne (by rw [e]; exact hy)
  have hyH : H y = none := by
    cases e : H y with
    | none => rfl
    | some o => exact absurd hy (s1.th y (by rw [e]; simp))
  refine ⟨F2, _, _, _, _, s2.sub, .cons (.ref y) r, by simp [hl], s2.mem, hs y hyd, fun v F3 H3 d m3 s3 r3 hq => ?_, fun C' dd F3 H3 fs m3 s3 xo hq => ?_⟩
  · obtain ⟨rfl, ns, l2, m4, rfl, q⟩ := hq
    cases r3
    have s5 := s1.trans (s2.trans s3)
    obtain ⟨F4, s4, r4⟩ := Stp.freeze (j := 0) s5.sub s5.mem rfl
    exact ⟨rfl, nn _ F4 H3 _ m4 (s5.trans s4) r4 q⟩
  · obtain ⟨c, m4, rfl, q⟩ := hq
    have s4 := (s1.trans (s2.trans s3)).forget (List.sublist_cons_self (y, c) m4)
    exact xx C' dd σ F3 H3 ds fs m4 s4 (s.sl.up s4.fz) xo q
/-- C(e, ..): an instance that will change -/
theorem ew_makeM (Md : MkD X.prog X.w X.K X.mg X.base k x C n sp) (hr : Room (k + 1) X.A) (tk : Takes X W) (h : AW X W (e :: es) ds m (fun l m1 => l.length = n ∧ ∀ x, x ∉ dom m1 → sp (.ref x :: l) ((x, .obj C [] []) :: m1) (fun d m2 => d = .non ∧ Φ (.ref x) m2) (fun C' fs m2 => ∃ c m3, m2 = (x, c) :: m3 ∧ Ξ ds C' fs m3)) Ξ) (hg : Gl X x := by with_unfolding_all rfl)
    (hdb : (x == ("__debug__" : Str)) = false := by decide) (he : starEach (e :: es) X.env = (false, eval e X.env) :: starEach es X.env := by with_unfolding_all rfl) (hpl : (backTo pos (starEach es X.env)).any (·.1) = false := by with_unfolding_all rfl) : EW X W (.Call (.Name x p) (e :: es) [] pos) ds m Φ Ξ := fun F H σ s Q nn xx pins sh I => by
  obtain ⟨f, fd, ps, hn, M, ok, bd⟩ := Md.ok
  refine wpAny_Call_Name_kw (ld_glob I hg Md.gl ?_ hdb)
  let Qa : List V → Hp → Prop := fun vs H2 => ∀ y dy, H2 y = none → H2 dy = none → dy ≠ y → lift X.K (n + 1) sp (.ref y :: vs) (upd (upd H2 dy (.own y)) y (.ins C dy [])) (fun v H3 => v = .non ∧ Q (.ref y) H3) (L2.WE W σ)
  refine PySem.W.callWith_K (h₀ := X.base) I.ok.mod.kin M.kp (thn (h F H σ s Qa (fun vs F2 H2 l m2 s1 r hq y dy hy hdy ne => ?_) xx pos pins sh I) fun us s1 ⟨vs, H1, I1, rv, q⟩ => ⟨I1.kIn, run_makeS M ok hr bd tk I1 rv q⟩) he hpl
  obtain ⟨hl, hs⟩ := hq
  have s2 := made_stp (C := C) s1.sub s1.mem hy hdy ne
  have hyd : y ∉ dom m2 := fun z => by
    obtain ⟨q, hq, e⟩ := List.mem_map.mp z
    exact (s1.mem.ce q hq).ne (by rw [e]; exact hy)
  refine ⟨F2, _, _, _, _, s2.sub, .cons (.ref y) r, by simp [hl], s2.mem, hs y hyd, fun v F3 H3 d m3 s3 r3 hq => ?_, fun C' dd F3 H3 fs m3 s3 xo hq => ?_⟩
  · obtain ⟨rfl, q⟩ := hq
    cases r3
    exact ⟨rfl, nn _ F3 H3 _ m3 (s1.trans (s2.trans s3)) (.ref y) q⟩
  · obtain ⟨c, m4, rfl, q⟩ := hq
    have s4 := (s1.trans (s2.trans s3)).forget (List.sublist_cons_self (y, c) m4)
    exact xx C' dd σ F3 H3 ds fs m4 s4 (s.sl.up s4.fz) xo q
end
section
variable {P : Program} {w : World} {K : PySem.W.Frag} {mg : Str → Option Value} {base : Heap}
/-- an __init__ of the text -/
theorem md_ok {x qual y : Str} {st : Stmt} {f C : Addr} {fd : FuncData} {N ps : List Str} {k n : Nat} {sp : SpD} (Fn : Fun K x qual st f fd) (S : FnScope N ps (defScope st)) (b : Binds K fd ps []) (M : Mk K C f) (gl : mg y = some (.ref C)) (hn : ps.length = n + 1)
    (body : ∀ (cdv : Value) (A : Around) (outer : List Env) (s : Shared) (H0 : Hp) (E : XK), Room k (A.deeper (envOfC qual (defScope st) s.heap.objs.size f cdv)) →
      Takes (cxOf (L2.CX P w) P w K mg base N qual (defScope st) f cdv A outer s H0 E) (Wo E) →
      PassesOwn (model P w) (cxOf (L2.CX P w) P w K mg base N qual (defScope st) f cdv A outer s H0 E).A (cxOf (L2.CX P w) P w K mg base N qual (defScope st) f cdv A outer s H0 E).env (cxOf (L2.CX P w) P w K mg base N qual (defScope st) f cdv A outer s H0 E).xe →
      ∀ l m Φ Ψ, l.length = ps.length → sp l m Φ Ψ → BW (cxOf (L2.CX P w) P w K mg base N qual (defScope st) f cdv A outer s H0 E) (Wo E) (defBody st) (l.map some ++ List.replicate (N.length - ps.length) none) m { nx := fun _ m => Φ .non m, rt := Φ } fun _ => Ψ) :
    MkD P w K mg base (k + 1) y C n sp := by
  refine ⟨⟨f, fd, ps, hn, M, ?_, b⟩, gl⟩
  rw [← hn]
  refine Fn.okX S (fun vs H Q E h => ?_) (fun cdv A outer s H vs Q E hr h => ⟨_, pw_b, ?_⟩)
  · obtain ⟨F, l, m, Φ, Ψ, _, r, hl, _⟩ := h
    rw [r.len, hl]
  · obtain ⟨F, l, m, Φ, Ψ, sb, r, hl, mm, hs, nn, x⟩ := h
    have hv : vs.length = ps.length := by rw [r.len, hl]
    refine body cdv A outer s H E hr (takes_of rfl rfl rfl rfl) (passes_of rfl) l m Φ Ψ hl hs F H (L2.start N vs) ⟨sb, ?_, mm⟩ _ ⟨fun σ F2 H2 ds m2 s1 _ q => nn .non F2 H2 .non m2 s1 .non q, nn, fun _ _ _ _ _ _ _ q => q.elim, fun _ _ _ _ _ _ _ q => q.elim⟩ fun C dd σ F2 H2 ds fs m2 s1 _ xo q => x C dd F2 H2 fs m2 s1 xo q
    unfold L2.start
    rw [hv]
    exact sl_start _ r
end
end G
namespace G
open PySem PySem.Spec PyProof.Rows L2
section
variable {X : Cx} {W : WX} {e a b c : Expr} {es : List Expr} {ds : DS} {m : Mem} {Φ Ψ : D → Mem → Prop} {Ξ : XP} {N : En} {p pos : Pos} {d : D} {x : Str} {i k n : Nat} {f C : Addr} {sp : SpD}
/-- a op b op' c -/
theorem ew_chain {op op' : CmpOp} {r r' : R2} (ho : OpR X (compareOp op) r) (ho' : OpR X (compareOp op') r') (h : EW X W a ds m (fun d1 m1 => EW X W b ds m1 (fun d2 m2 => RD X r d1 d2 m2 (asT fun t m3 => if t = true then EW X W c ds m3 (fun d3 m4 => RD X r' d2 d3 m4 Φ) Ξ else Φ (.bl false) m3)) Ξ) Ξ)
    (hm : lastMarks [op, op'] [b, c] = false := by with_unfolding_all rfl) : EW X W (.Compare a [op, op'] [b, c] pos) ds m Φ Ξ := fun F H σ s Q n x =>
  We.of (pe_chain ho ho' pw_e pw_e pw_e hm) (h F H σ s _ (fun v F2 H2 d1 m2 s1 r1 q => q F2 H2 σ (s.go s1) _ (fun u F3 H3 d2 m3 s2 r2 q2 => q2 F3 H3 v u _ s2.sub s2.mem (r1.up s2.fz) r2 (fun z F4 H4 d3 m4 s3 r3 q3 => by
    obtain ⟨t, rfl, q3⟩ := q3
    cases r3
    refine ⟨t, rfl, ?_⟩
    have s12 := s1.trans (s2.trans s3)
    cases t with
    | true => exact iteT ((show EW X W c ds m4 _ Ξ from q3) F4 H4 σ (s.go s12) _ (fun w F5 H5 d4 m5 s4 r4 q4 => q4 F5 H5 u w Q s4.sub s4.mem (r2.up (s3.trans s4).fz) r4 (n.go (s12.trans s4))) (x.go s12))
    | false => exact iteF (n _ F4 H4 _ m4 s12 (.bl _) q3))) (x.go s1)) x)
/-- -a -/
theorem ew_neg {j : Int} {k2} {q2 : Pos} (q : Φ (.int (-j)) m) : EW X W (.UnaryOp .USub (.Constant (.int j) k2 q2) pos) ds m Φ Ξ := fun F H σ s Q n x =>
  We.of (pe_un un_neg pe_int) ⟨j, rfl, n _ F H _ m s.stp (.int _) q⟩
end
/-- a def of the text -/
def Def (K : PySem.W.Frag) (mg : Str → Option Value) (x qual : Str) (st : Stmt) (ps : List Str) : Prop := ∃ f fd, Fun K x qual st f fd ∧ Binds K fd ps [] ∧ mg x = some (.ref f)
def FnE (P : Program) (w : World) (K : PySem.W.Frag) (mg : Str → Option Value) (base : Heap) (k : Nat) (x : Str) (n : Nat) (sp : SpD) : Prop := ∃ f, FnD P w K mg base k x f n sp
/-- the built-ins as they are -/
def Bi (mg : Str → Option Value) (l : List Str) : Prop := ∀ x ∈ l, mg x = none
end G
namespace G
open PySem PySem.Spec PyProof.Rows L2
section
variable {X : Cx} {W : WX} {e a b c : Expr} {es : List Expr} {ds : DS} {m : Mem} {Φ Ψ : D → Mem → Prop} {Ξ : XP} {N : En} {p pos : Pos} {d : D} {x : Str} {i k n : Nat} {f C : Addr} {sp : SpD}
def intD : D → Option Int
  | .int i => some i
  | .bl b => some (if b then 1 else 0)
  | _ => none
/-- int(e) of a number or a truth value -/
theorem ew_intc (hm : X.mg "int" = none) (h : EW X W a ds m (fun d m1 => ∃ j, intD d = some j ∧ Φ (.int j) m1) Ξ) (hg : Gl X "int" := by with_unfolding_all rfl) (he : starEach [a] X.env = [(false, eval a X.env)] := by with_unfolding_all rfl) : EW X W (.Call (.Name "int" p) [a] [] pos) ds m Φ Ξ :=
  ew_callTy call_int1 hm (by decide +kernel) (aw_cons (h.mono fun d m1 ⟨j, h1, h2⟩ => aw_nil (by
    cases d <;> cases h1
    · exact rc_intB h2
    · exact rc_int h2)) he) hg (he := he) (hpl := rfl)
theorem ew_min2 (hm : X.mg "min" = none) (h : EW X W a ds m (fun d m1 => EW X W b ds m1 (fun d2 m2 => ∃ i j, d = .int i ∧ d2 = .int j ∧ Φ (.int (if j < i then j else i)) m2) Ξ) Ξ) (hg : Gl X "min" := by with_unfolding_all rfl) (hc : X.calm = true := by with_unfolding_all rfl) (he : starEach [a, b] X.env = [(false, eval a X.env), (false, eval b X.env)] := by with_unfolding_all rfl)
    (he2 : starEach [b] X.env = [(false, eval b X.env)] := by with_unfolding_all rfl) : EW X W (.Call (.Name "min" p) [a, b] [] pos) ds m Φ Ξ :=
  ew_callB (call_min2 hc) hm (by decide +kernel) (aw_cons (h.mono fun d m1 h2 => aw_cons (h2.mono fun d2 m2 ⟨i, j, e1, e2, q⟩ => by
    subst e1 e2
    exact aw_nil (rc_min2 q)) he2) (by rw [he, he2])) hg (he := by rw [he, he2]) (hpl := by rw [he2]; rfl)
/-- a test that is known either way -/
theorem if_bool {k : Bool} {A B : Prop} (h1 : k = true → A) (h2 : k = false → B) : if k = true then A else B := by
  cases k with
  | true => exact iteT (h1 rfl)
  | false => exact iteF (h2 rfl)
/-- an expression whose value is known and that changes nothing -/
def EV (X : Cx) (W : WX) (e : Expr) (ds : DS) (m : Mem) (d : D) (Ξ : XP) : Prop := EW X W e ds m (fun d' m' => d' = d ∧ m' = m) Ξ
theorem EV.use (h : EV X W e ds m d Ξ) (q : Φ d m) : EW X W e ds m Φ Ξ := EW.mono h fun d' m' ⟨e1, e2⟩ => by rw [e1, e2]; exact q
/-- and, or of truth values, by their values -/
theorem ev_and {rs : List Expr} {k t : Bool} (h1 : EV X W a ds m (.bl k) Ξ) (h2 : k = true → EV X W (.BoolOp .And (b :: rs) pos) ds m (.bl t) Ξ) : EV X W (.BoolOp .And (a :: b :: rs) pos) ds m (.bl (k && t)) Ξ :=
  ew_and (h1.use ⟨k, rfl, if_bool (fun e => (h2 e).use ⟨by rw [e]; rfl, rfl⟩) fun e => ⟨by rw [e]; rfl, rfl⟩⟩)
theorem ev_or {rs : List Expr} {k t : Bool} (h1 : EV X W a ds m (.bl k) Ξ) (h2 : k = false → EV X W (.BoolOp .Or (b :: rs) pos) ds m (.bl t) Ξ) : EV X W (.BoolOp .Or (a :: b :: rs) pos) ds m (.bl (k || t)) Ξ :=
  ew_or (h1.use ⟨k, rfl, if_bool (fun e => ⟨by rw [e]; rfl, rfl⟩) fun e => (h2 e).use ⟨by rw [e]; rfl, rfl⟩⟩)
/-- the same as tests -/
def TV (X : Cx) (W : WX) (e : Expr) (ds : DS) (m : Mem) (k : Bool) (Ξ : XP) : Prop := TW X W e ds m (fun k' m' => k' = k ∧ m' = m) Ξ
theorem TW.mono {Φ Ψ : Bool → Mem → Prop} (h : TW X W e ds m Φ Ξ) (k : ∀ d m, Φ d m → Ψ d m) : TW X W e ds m Ψ Ξ := fun F H σ s Q n x => h F H σ s Q (fun b F2 H2 m2 a q => n b F2 H2 m2 a (k b m2 q)) x
theorem TV.use {k : Bool} {Φ : Bool → Mem → Prop} (h : TV X W e ds m k Ξ) (q : Φ k m) : TW X W e ds m Φ Ξ := TW.mono h fun d' m' ⟨e1, e2⟩ => by rw [e1, e2]; exact q
theorem tv_and {rs : List Expr} {k t : Bool} (h1 : TV X W a ds m k Ξ) (h2 : k = true → PWt X W (.BoolOp .And (b :: rs) pos) ds m (fun k' m' => k' = t ∧ m' = m) Ξ) : PWt X W (.BoolOp .And (a :: b :: rs) pos) ds m (fun k' m' => k' = (k && t) ∧ m' = m) Ξ :=
  ww_and (h1.use (if_bool (fun e => by rw [e, Bool.true_and]; exact h2 e) fun e => ⟨by rw [e]; rfl, rfl⟩))
theorem tv_or {rs : List Expr} {k t : Bool} (h1 : TV X W a ds m k Ξ) (h2 : k = false → PWt X W (.BoolOp .Or (b :: rs) pos) ds m (fun k' m' => k' = t ∧ m' = m) Ξ) : PWt X W (.BoolOp .Or (a :: b :: rs) pos) ds m (fun k' m' => k' = (k || t) ∧ m' = m) Ξ :=
  ww_or (h1.use (if_bool (fun e => ⟨by rw [e]; rfl, rfl⟩) fun e => by rw [e, Bool.false_or]; exact h2 e))
end
/-- a def's body: what all its steps ask of the room -/
theorem bw_start {X : Cx} {W : WX} {sts : List Stmt} {ds : DS} {m : Mem} {N : En} {Ξ : XP} (h1 : X.A.units + 64 < cLine) (h2 : X.N.Nodup) (k : X.A.units + 64 < cLine → X.N.Nodup → BW X W sts ds m N Ξ) : BW X W sts ds m N Ξ := k h1 h2
end G
namespace G
open PySem PySem.Spec PyProof.Rows L2
section
variable {X : Cx} {W : WX} {a b : Expr} {ds : DS} {m : Mem} {Φ : D → Mem → Prop} {Ξ : XP} {pos : Pos} {d : D}
/-- the built-in names that the texts read -/
structure BI (mg : Str → Option Value) : Prop where
  b_len : mg "len" = none
  b_int : mg "int" = none
  b_isinstance : mg "isinstance" = none
  b_min : mg "min" = none
  b_max : mg "max" = none
  b_range : mg "range" = none
  b_enumerate : mg "enumerate" = none
  b_sorted : mg "sorted" = none
  b_tuple : mg "tuple" = none
  b_list : mg "list" = none
  b_dict : mg "dict" = none
  b_set : mg "set" = none
  b_any : mg "any" = none
  b_all : mg "all" = none
  b_sum : mg "sum" = none
  b_str : mg "str" = none
  b_zip : mg "zip" = none
  b_bool : mg "bool" = none
  b_reversed : mg "reversed" = none
  b_abs : mg "abs" = none
/-- what all steps of a def ask of the room -/
structure Bs (X : Cx) : Prop where
  hu : X.A.units + 64 < cLine
  nd : X.N.Nodup
  bi : BI X.mg
theorem Bs.tr {X : Cx} (B : Bs X) (pn : List (Addr × Obj)) (xe : Value → Shared → Prop) : Bs (X.tr pn xe) := ⟨B.hu, B.nd, B.bi⟩
theorem bw_begin {sts : List Stmt} {N : En} (h : Bs X) (k : Bs X → BW X W sts ds m N Ξ) : BW X W sts ds m N Ξ := k h
theorem ex_some {α : Type} {a : Option α} {j : α} {P : α → Prop} (h : a = some j) (q : P j) : ∃ j, a = some j ∧ P j := ⟨j, h, q⟩
theorem ex_len {a : Option Nat} {j : Nat} {P : Nat → Prop} (h : a = some j) (h2 : j ≤ sizeLine) (q : P j) : ∃ j, a = some j ∧ j ≤ sizeLine ∧ P j := ⟨j, h, h2, q⟩
theorem sw_to {e : Expr} {N : En} {x : Str} (i : Nat) {pos' : Pos} (B : Bs X) (h : EW X W e ds m (fun d m1 => N.nx (ds.set i (some d)) m1) Ξ) (hi : X.N[i]? = some x := by with_unfolding_all rfl) (hx : Loc X.env.scope x := by with_unfolding_all first | exact Or.inl rfl | exact Or.inr rfl) (hs : swapsWith e (some (.Name x pos')) pos.line X.env = pure false := by with_unfolding_all rfl)
    (hf : X.fn x = true ∨ X.env.scope.names.lookup x = some .local := by with_unfolding_all first | exact .inl rfl | exact .inr rfl | assumption) : SW X W (.Assign [.Name x pos'] e pos) ds m N Ξ := sw_set i B.nd h hi hx hs hf
theorem gw_to {x : Str} (i : Nat) {Φ : DS → Mem → Prop} (B : Bs X) (q : Φ (ds.set i (some d)) m) (hi : X.N[i]? = some x := by with_unfolding_all rfl) (hx : Loc X.env.scope x := by with_unfolding_all first | exact Or.inl rfl | exact Or.inr rfl)
    (hf : X.fn x = true ∨ X.env.scope.names.lookup x = some .local := by with_unfolding_all first | exact .inl rfl | exact .inr rfl | assumption) : GW X W (.Name x pos) d ds m Φ Ξ := gw_name i B.nd q hi hx hf
theorem ew_lenB (B : Bs X) (h : EW X W a ds m (fun d m1 => ∃ j : Nat, lenD d = some j ∧ j ≤ sizeLine ∧ Φ (.int j) m1) Ξ) (hg : Gl X "len" := by with_unfolding_all rfl) (he : starEach [a] X.env = [(false, eval a X.env)] := by with_unfolding_all rfl) {p : Pos} : EW X W (.Call (.Name "len" p) [a] [] pos) ds m Φ Ξ := ew_len B.bi.b_len h hg he
theorem ew_intB (B : Bs X) (h : EW X W a ds m (fun d m1 => ∃ j, intD d = some j ∧ Φ (.int j) m1) Ξ) (hg : Gl X "int" := by with_unfolding_all rfl) (he : starEach [a] X.env = [(false, eval a X.env)] := by with_unfolding_all rfl) {p : Pos} : EW X W (.Call (.Name "int" p) [a] [] pos) ds m Φ Ξ := ew_intc B.bi.b_int h hg he
/-- isinstance on data -/
def isT (T : String) (d : D) : Option Bool := (tyN d).bind fun t => kitB t T
def isT2 (T U : String) (d : D) : Option Bool := (tyN d).bind fun t => (kitB t T).bind fun a => (kitB t U).map fun b => a || b
theorem ew_isi_int {p q2 : Pos} (B : Bs X) (h : EW X W a ds m (fun d m1 => ∃ k, isT "int" d = some k ∧ Φ (.bl k) m1) Ξ) (hg : Gl X "isinstance" := by with_unfolding_all rfl) (hgT : Gl X "int" := by with_unfolding_all rfl) (he : starEach [a, .Name "int" q2] X.env = [(false, eval a X.env), (false, eval (.Name "int" q2) X.env)] := by with_unfolding_all rfl) : EW X W (.Call (.Name "isinstance" p) [a, .Name "int" q2] [] pos) ds m Φ Ξ :=
  ew_isi B.bi.b_isinstance B.bi.b_int (by decide +kernel) (h.mono fun d m1 ⟨k, h1, q⟩ => by
    unfold isT at h1
    obtain ⟨t, e1, e2⟩ := Option.bind_eq_some_iff.mp h1
    exact ⟨t, k, e1, e2, q⟩) hg hgT (he := he)
theorem ew_isi_bool {p q2 : Pos} (B : Bs X) (h : EW X W a ds m (fun d m1 => ∃ k, isT "bool" d = some k ∧ Φ (.bl k) m1) Ξ) (hg : Gl X "isinstance" := by with_unfolding_all rfl) (hgT : Gl X "bool" := by with_unfolding_all rfl) (he : starEach [a, .Name "bool" q2] X.env = [(false, eval a X.env), (false, eval (.Name "bool" q2) X.env)] := by with_unfolding_all rfl) : EW X W (.Call (.Name "isinstance" p) [a, .Name "bool" q2] [] pos) ds m Φ Ξ :=
  ew_isi B.bi.b_isinstance B.bi.b_bool (by decide +kernel) (h.mono fun d m1 ⟨k, h1, q⟩ => by
    unfold isT at h1
    obtain ⟨t, e1, e2⟩ := Option.bind_eq_some_iff.mp h1
    exact ⟨t, k, e1, e2, q⟩) hg hgT (he := he)
theorem ew_isi_str {p q2 : Pos} (B : Bs X) (h : EW X W a ds m (fun d m1 => ∃ k, isT "str" d = some k ∧ Φ (.bl k) m1) Ξ) (hg : Gl X "isinstance" := by with_unfolding_all rfl) (hgT : Gl X "str" := by with_unfolding_all rfl) (he : starEach [a, .Name "str" q2] X.env = [(false, eval a X.env), (false, eval (.Name "str" q2) X.env)] := by with_unfolding_all rfl) : EW X W (.Call (.Name "isinstance" p) [a, .Name "str" q2] [] pos) ds m Φ Ξ :=
  ew_isi B.bi.b_isinstance B.bi.b_str (by decide +kernel) (h.mono fun d m1 ⟨k, h1, q⟩ => by
    unfold isT at h1
    obtain ⟨t, e1, e2⟩ := Option.bind_eq_some_iff.mp h1
    exact ⟨t, k, e1, e2, q⟩) hg hgT (he := he)
theorem ew_isi_tuple {p q2 : Pos} (B : Bs X) (h : EW X W a ds m (fun d m1 => ∃ k, isT "tuple" d = some k ∧ Φ (.bl k) m1) Ξ) (hg : Gl X "isinstance" := by with_unfolding_all rfl) (hgT : Gl X "tuple" := by with_unfolding_all rfl) (he : starEach [a, .Name "tuple" q2] X.env = [(false, eval a X.env), (false, eval (.Name "tuple" q2) X.env)] := by with_unfolding_all rfl) : EW X W (.Call (.Name "isinstance" p) [a, .Name "tuple" q2] [] pos) ds m Φ Ξ :=
  ew_isi B.bi.b_isinstance B.bi.b_tuple (by decide +kernel) (h.mono fun d m1 ⟨k, h1, q⟩ => by
    unfold isT at h1
    obtain ⟨t, e1, e2⟩ := Option.bind_eq_some_iff.mp h1
    exact ⟨t, k, e1, e2, q⟩) hg hgT (he := he)
theorem ew_isi_list {p q2 : Pos} (B : Bs X) (h : EW X W a ds m (fun d m1 => ∃ k, isT "list" d = some k ∧ Φ (.bl k) m1) Ξ) (hg : Gl X "isinstance" := by with_unfolding_all rfl) (hgT : Gl X "list" := by with_unfolding_all rfl) (he : starEach [a, .Name "list" q2] X.env = [(false, eval a X.env), (false, eval (.Name "list" q2) X.env)] := by with_unfolding_all rfl) : EW X W (.Call (.Name "isinstance" p) [a, .Name "list" q2] [] pos) ds m Φ Ξ :=
  ew_isi B.bi.b_isinstance B.bi.b_list (by decide +kernel) (h.mono fun d m1 ⟨k, h1, q⟩ => by
    unfold isT at h1
    obtain ⟨t, e1, e2⟩ := Option.bind_eq_some_iff.mp h1
    exact ⟨t, k, e1, e2, q⟩) hg hgT (he := he)
theorem ew_isi_dict {p q2 : Pos} (B : Bs X) (h : EW X W a ds m (fun d m1 => ∃ k, isT "dict" d = some k ∧ Φ (.bl k) m1) Ξ) (hg : Gl X "isinstance" := by with_unfolding_all rfl) (hgT : Gl X "dict" := by with_unfolding_all rfl) (he : starEach [a, .Name "dict" q2] X.env = [(false, eval a X.env), (false, eval (.Name "dict" q2) X.env)] := by with_unfolding_all rfl) : EW X W (.Call (.Name "isinstance" p) [a, .Name "dict" q2] [] pos) ds m Φ Ξ :=
  ew_isi B.bi.b_isinstance B.bi.b_dict (by decide +kernel) (h.mono fun d m1 ⟨k, h1, q⟩ => by
    unfold isT at h1
    obtain ⟨t, e1, e2⟩ := Option.bind_eq_some_iff.mp h1
    exact ⟨t, k, e1, e2, q⟩) hg hgT (he := he)
theorem ew_isi_lt {p q2 q3 q4 : Pos} {kk} (B : Bs X) (h : EW X W a ds m (fun d m1 => ∃ k, isT2 "list" "tuple" d = some k ∧ Φ (.bl k) m1) Ξ) (hg : Gl X "isinstance" := by with_unfolding_all rfl) (hgT : Gl X "list" := by with_unfolding_all rfl) (hgU : Gl X "tuple" := by with_unfolding_all rfl)
    (he : starEach [a, .Tuple [.Name "list" q2, .Name "tuple" q3] kk q4] X.env = [(false, eval a X.env), (false, eval (.Tuple [.Name "list" q2, .Name "tuple" q3] kk q4) X.env)] := by with_unfolding_all rfl) : EW X W (.Call (.Name "isinstance" p) [a, .Tuple [.Name "list" q2, .Name "tuple" q3] kk q4] [] pos) ds m Φ Ξ :=
  ew_isi2 B.bi.b_isinstance B.bi.b_list B.bi.b_tuple (by decide +kernel) (by decide +kernel) (h.mono fun d m1 ⟨k, h1, q⟩ => by
    unfold isT2 at h1
    obtain ⟨t, e1, e2⟩ := Option.bind_eq_some_iff.mp h1
    obtain ⟨k1, e3, e4⟩ := Option.bind_eq_some_iff.mp e2
    obtain ⟨k2, e5, e6⟩ := Option.map_eq_some_iff.mp e4
    subst e6
    exact ⟨t, k1, k2, e1, e3, e5, q⟩) hg hgT hgU (he := he)
theorem tw_bo {op} {es : List Expr} {Φ : Bool → Mem → Prop} (h : PWt X W (.BoolOp op es pos) ds m Φ Ξ) : TW X W (.BoolOp op es pos) ds m Φ Ξ := tw_bool h
/-! ### the operations by their signs -/
def R_add (K : PySem.W.Frag) : R2 := rAddG K
def R_mul (K : PySem.W.Frag) : R2 := rMulG K
def R_sub : R2 := rI0 fun i j => .int (i - j)
def R_mod : R2 := rI (fun _ j => 0 < j) fun i j => .int (i % j)
def R_fdv : R2 := rI CDivW fun i j => .int (i / j)
def R_pow : R2 := rI CPow fun i j => .int (i ^ j.toNat)
def R_eq (K : PySem.W.Frag) : R2 := rEqG K false
def R_ne (K : PySem.W.Frag) : R2 := rEqG K true
def R_lt (K : PySem.W.Frag) : R2 := rOrd K fun d e => PySem.W.dataLt d e
def R_gt (K : PySem.W.Frag) : R2 := rOrd K fun d e => PySem.W.dataLt e d
def R_le (K : PySem.W.Frag) : R2 := rOrd K fun d e => !PySem.W.dataLt e d
def R_ge (K : PySem.W.Frag) : R2 := rOrd K fun d e => !PySem.W.dataLt d e
def R_is : R2 := fun x y H Q => y = V.non ∧ Q (.bl (decide (x = .non))) H
def R_isnt : R2 := fun x y H Q => y = V.non ∧ Q (.bl (!decide (x = .non))) H
def R_ix (K : PySem.W.Frag) : R2 := rIx K
theorem ew_idx (h : EW X W a ds m (fun d1 m1 => EW X W b ds m1 (fun d2 m2 => RD X (R_ix X.K) d1 d2 m2 Φ) Ξ) Ξ) (hs : PlainIx b := by with_unfolding_all (intro _ _; rfl)) : EW X W (.Subscript a b pos) ds m Φ Ξ := ew_ix ix_seq h hs
theorem ew_add (h : EW X W a ds m (fun d1 m1 => EW X W b ds m1 (fun d2 m2 => RD X (R_add X.K) d1 d2 m2 Φ) Ξ) Ξ) : EW X W (.BinOp a .Add b pos) ds m Φ Ξ := ew_bin op_addG h
theorem ew_mul (h : EW X W a ds m (fun d1 m1 => EW X W b ds m1 (fun d2 m2 => RD X (R_mul X.K) d1 d2 m2 Φ) Ξ) Ξ) : EW X W (.BinOp a .Mult b pos) ds m Φ Ξ := ew_bin op_mulG h
theorem ew_sub (h : EW X W a ds m (fun d1 m1 => EW X W b ds m1 (fun d2 m2 => RD X (R_sub) d1 d2 m2 Φ) Ξ) Ξ) : EW X W (.BinOp a .Sub b pos) ds m Φ Ξ := ew_bin op_sub h
theorem ew_mod (h : EW X W a ds m (fun d1 m1 => EW X W b ds m1 (fun d2 m2 => RD X (R_mod) d1 d2 m2 Φ) Ξ) Ξ) : EW X W (.BinOp a .Mod b pos) ds m Φ Ξ := ew_bin op_mod h
theorem ew_fdv (h : EW X W a ds m (fun d1 m1 => EW X W b ds m1 (fun d2 m2 => RD X (R_fdv) d1 d2 m2 Φ) Ξ) Ξ) : EW X W (.BinOp a .FloorDiv b pos) ds m Φ Ξ := ew_bin op_fdivW h
theorem ew_pow (h : EW X W a ds m (fun d1 m1 => EW X W b ds m1 (fun d2 m2 => RD X (R_pow) d1 d2 m2 Φ) Ξ) Ξ) : EW X W (.BinOp a .Pow b pos) ds m Φ Ξ := ew_bin op_pow h
theorem ew_eqq (B : Bs X) (h : EW X W a ds m (fun d1 m1 => EW X W b ds m1 (fun d2 m2 => RD X (R_eq X.K) d1 d2 m2 Φ) Ξ) Ξ) (hm : behindInMarks .Eq b = false := by with_unfolding_all first | exact nomark _ | rfl) : EW X W (.Compare a [.Eq] [b] pos) ds m Φ Ξ := ew_cmp (op_eqG B.hu) h hm
theorem tw_eqq {Φ : Bool → Mem → Prop} (B : Bs X) (h : EW X W a ds m (fun d1 m1 => EW X W b ds m1 (fun d2 m2 => RD X (R_eq X.K) d1 d2 m2 (asT Φ)) Ξ) Ξ) (hm : behindInMarks .Eq b = false := by with_unfolding_all first | exact nomark _ | rfl) : TW X W (.Compare a [.Eq] [b] pos) ds m Φ Ξ := tw_cmp (op_eqG B.hu) h hm
theorem ew_neq (B : Bs X) (h : EW X W a ds m (fun d1 m1 => EW X W b ds m1 (fun d2 m2 => RD X (R_ne X.K) d1 d2 m2 Φ) Ξ) Ξ) (hm : behindInMarks .NotEq b = false := by with_unfolding_all first | exact nomark _ | rfl) : EW X W (.Compare a [.NotEq] [b] pos) ds m Φ Ξ := ew_cmp (op_neG B.hu) h hm
theorem tw_neq {Φ : Bool → Mem → Prop} (B : Bs X) (h : EW X W a ds m (fun d1 m1 => EW X W b ds m1 (fun d2 m2 => RD X (R_ne X.K) d1 d2 m2 (asT Φ)) Ξ) Ξ) (hm : behindInMarks .NotEq b = false := by with_unfolding_all first | exact nomark _ | rfl) : TW X W (.Compare a [.NotEq] [b] pos) ds m Φ Ξ := tw_cmp (op_neG B.hu) h hm
theorem ew_ltq (B : Bs X) (h : EW X W a ds m (fun d1 m1 => EW X W b ds m1 (fun d2 m2 => RD X (R_lt X.K) d1 d2 m2 Φ) Ξ) Ξ) (hm : behindInMarks .Lt b = false := by with_unfolding_all first | exact nomark _ | rfl) : EW X W (.Compare a [.Lt] [b] pos) ds m Φ Ξ := ew_cmp (op_ltG B.hu) h hm
theorem tw_ltq {Φ : Bool → Mem → Prop} (B : Bs X) (h : EW X W a ds m (fun d1 m1 => EW X W b ds m1 (fun d2 m2 => RD X (R_lt X.K) d1 d2 m2 (asT Φ)) Ξ) Ξ) (hm : behindInMarks .Lt b = false := by with_unfolding_all first | exact nomark _ | rfl) : TW X W (.Compare a [.Lt] [b] pos) ds m Φ Ξ := tw_cmp (op_ltG B.hu) h hm
theorem ew_leq (B : Bs X) (h : EW X W a ds m (fun d1 m1 => EW X W b ds m1 (fun d2 m2 => RD X (R_le X.K) d1 d2 m2 Φ) Ξ) Ξ) (hm : behindInMarks .LtE b = false := by with_unfolding_all first | exact nomark _ | rfl) : EW X W (.Compare a [.LtE] [b] pos) ds m Φ Ξ := ew_cmp (op_leG B.hu) h hm
theorem tw_leq {Φ : Bool → Mem → Prop} (B : Bs X) (h : EW X W a ds m (fun d1 m1 => EW X W b ds m1 (fun d2 m2 => RD X (R_le X.K) d1 d2 m2 (asT Φ)) Ξ) Ξ) (hm : behindInMarks .LtE b = false := by with_unfolding_all first | exact nomark _ | rfl) : TW X W (.Compare a [.LtE] [b] pos) ds m Φ Ξ := tw_cmp (op_leG B.hu) h hm
theorem ew_gtq (B : Bs X) (h : EW X W a ds m (fun d1 m1 => EW X W b ds m1 (fun d2 m2 => RD X (R_gt X.K) d1 d2 m2 Φ) Ξ) Ξ) (hm : behindInMarks .Gt b = false := by with_unfolding_all first | exact nomark _ | rfl) : EW X W (.Compare a [.Gt] [b] pos) ds m Φ Ξ := ew_cmp (op_gtG B.hu) h hm
theorem tw_gtq {Φ : Bool → Mem → Prop} (B : Bs X) (h : EW X W a ds m (fun d1 m1 => EW X W b ds m1 (fun d2 m2 => RD X (R_gt X.K) d1 d2 m2 (asT Φ)) Ξ) Ξ) (hm : behindInMarks .Gt b = false := by with_unfolding_all first | exact nomark _ | rfl) : TW X W (.Compare a [.Gt] [b] pos) ds m Φ Ξ := tw_cmp (op_gtG B.hu) h hm
theorem ew_geq (B : Bs X) (h : EW X W a ds m (fun d1 m1 => EW X W b ds m1 (fun d2 m2 => RD X (R_ge X.K) d1 d2 m2 Φ) Ξ) Ξ) (hm : behindInMarks .GtE b = false := by with_unfolding_all first | exact nomark _ | rfl) : EW X W (.Compare a [.GtE] [b] pos) ds m Φ Ξ := ew_cmp (op_geG B.hu) h hm
theorem tw_geq {Φ : Bool → Mem → Prop} (B : Bs X) (h : EW X W a ds m (fun d1 m1 => EW X W b ds m1 (fun d2 m2 => RD X (R_ge X.K) d1 d2 m2 (asT Φ)) Ξ) Ξ) (hm : behindInMarks .GtE b = false := by with_unfolding_all first | exact nomark _ | rfl) : TW X W (.Compare a [.GtE] [b] pos) ds m Φ Ξ := tw_cmp (op_geG B.hu) h hm
theorem ew_isq (h : EW X W a ds m (fun d1 m1 => EW X W b ds m1 (fun d2 m2 => RD X (R_is) d1 d2 m2 Φ) Ξ) Ξ) (hm : behindInMarks .Is b = false := by with_unfolding_all first | exact nomark _ | rfl) : EW X W (.Compare a [.Is] [b] pos) ds m Φ Ξ := ew_cmp op_isN h hm
theorem tw_isq {Φ : Bool → Mem → Prop} (h : EW X W a ds m (fun d1 m1 => EW X W b ds m1 (fun d2 m2 => RD X (R_is) d1 d2 m2 (asT Φ)) Ξ) Ξ) (hm : behindInMarks .Is b = false := by with_unfolding_all first | exact nomark _ | rfl) : TW X W (.Compare a [.Is] [b] pos) ds m Φ Ξ := tw_cmp op_isN h hm
theorem ew_isntq (h : EW X W a ds m (fun d1 m1 => EW X W b ds m1 (fun d2 m2 => RD X (R_isnt) d1 d2 m2 Φ) Ξ) Ξ) (hm : behindInMarks .IsNot b = false := by with_unfolding_all first | exact nomark _ | rfl) : EW X W (.Compare a [.IsNot] [b] pos) ds m Φ Ξ := ew_cmp op_notN h hm
theorem tw_isntq {Φ : Bool → Mem → Prop} (h : EW X W a ds m (fun d1 m1 => EW X W b ds m1 (fun d2 m2 => RD X (R_isnt) d1 d2 m2 (asT Φ)) Ξ) Ξ) (hm : behindInMarks .IsNot b = false := by with_unfolding_all first | exact nomark _ | rfl) : TW X W (.Compare a [.IsNot] [b] pos) ds m Φ Ξ := tw_cmp op_notN h hm
/-! ### what they do on data -/
theorem ad_ii {i j : Int} (q : Φ (.int (i + j)) m) : RD X (R_add X.K) (.int i) (.int j) m Φ := rd_add q
theorem ad_ss {i j : Str} (hz : i.length + j.length ≤ sizeLine) (q : Φ (.str (i ++ j)) m) : RD X (R_add X.K) (.str i) (.str j) m Φ := rd_addS hz q
theorem ad_ll {a b : List D} (hz : a.length + b.length ≤ sizeLine) (q : Φ (.lst (a ++ b)) m) : RD X (R_add X.K) (.lst a) (.lst b) m Φ := rd_addL hz q
theorem ad_tt {a b : List D} (hz : a.length + b.length ≤ sizeLine) (q : Φ (.tup (a ++ b)) m) : RD X (R_add X.K) (.tup a) (.tup b) m Φ := rd_addT hz q
theorem mu_ii {i j : Int} (hc : CMul i j) (q : Φ (.int (i * j)) m) : RD X (R_mul X.K) (.int i) (.int j) m Φ := rd_mul hc q
theorem mu_si {z : Str} {k : Int} (ok : MulOk z k) (q : Φ (.str (Txt.mul z k)) m) : RD X (R_mul X.K) (.str z) (.int k) m Φ := rd_mulS ok q
theorem mu_li {l : List D} {k : Int} (h1 : -(2 ^ 63) ≤ k) (h2 : k < 2 ^ 63) (h3 : l.length * k.toNat ≤ sizeLine) (q : Φ (.lst (List.replicate k.toNat l).flatten) m) : RD X (R_mul X.K) (.lst l) (.int k) m Φ := rd_mulL h1 h2 h3 q
theorem su_ii {i j : Int} (q : Φ (.int (i - j)) m) : RD X R_sub (.int i) (.int j) m Φ := rd_I0 q
theorem mo_ii {i j : Int} (hc : 0 < j) (q : Φ (.int (i % j)) m) : RD X R_mod (.int i) (.int j) m Φ := rd_I hc q
theorem fd_ii {i j : Int} (hc : CDivW i j) (q : Φ (.int (i / j)) m) : RD X R_fdv (.int i) (.int j) m Φ := rd_I hc q
theorem po_ii {i j : Int} (hc : CPow i j) (q : Φ (.int (i ^ j.toNat)) m) : RD X R_pow (.int i) (.int j) m Φ := rd_I hc q
theorem lt_ii' {i j : Int} (q : Φ (.bl (decide (i < j))) m) : RD X (R_lt X.K) (.int i) (.int j) m Φ := rd_lt q
theorem gt_ii' {i j : Int} (q : Φ (.bl (decide (j < i))) m) : RD X (R_gt X.K) (.int i) (.int j) m Φ := rd_gt q
theorem le_ii' {i j : Int} (q : Φ (.bl (decide (i ≤ j))) m) : RD X (R_le X.K) (.int i) (.int j) m Φ := rd_le q
theorem ge_ii' {i j : Int} (q : Φ (.bl (decide (j ≤ i))) m) : RD X (R_ge X.K) (.int i) (.int j) m Φ := rd_ge q
theorem is_non {d : D} (q : Φ (.bl (isN d)) m) : RD X R_is d .non m Φ := rd_is q
theorem isnt_non {d : D} (q : Φ (.bl (!isN d)) m) : RD X R_isnt d .non m Φ := rd_isnt q
theorem eq_dd {a b : D} (q : Φ (.bl (eqD a b)) m) (ha : pl a = true := by with_unfolding_all rfl) (hb : pl b = true := by with_unfolding_all rfl) (hd : dep a ≤ 60 ∨ dep b ≤ 60 := by with_unfolding_all first | exact .inl (Nat.le_of_ble_eq_true rfl) | exact .inr (Nat.le_of_ble_eq_true rfl)) : RD X (R_eq X.K) a b m Φ := rd_eq q ha hb hd
theorem ne_dd {a b : D} (q : Φ (.bl (!eqD a b)) m) (ha : pl a = true := by with_unfolding_all rfl) (hb : pl b = true := by with_unfolding_all rfl) (hd : dep a ≤ 60 ∨ dep b ≤ 60 := by with_unfolding_all first | exact .inl (Nat.le_of_ble_eq_true rfl) | exact .inr (Nat.le_of_ble_eq_true rfl)) : RD X (R_ne X.K) a b m Φ := rd_ne q ha hb hd
theorem lt_dd {a b : D} (q : Φ (.bl (PySem.W.dataLt (py a) (py b))) m) (hal : PySem.W.alike (py a) (py b) = true) (hn : py a ≠ .none) (ha : pl a = true := by with_unfolding_all rfl) (hb : pl b = true := by with_unfolding_all rfl) (hd : dep a ≤ 60 ∨ dep b ≤ 60 := by with_unfolding_all first | exact .inl (Nat.le_of_ble_eq_true rfl) | exact .inr (Nat.le_of_ble_eq_true rfl)) : RD X (R_lt X.K) a b m Φ := rd_ord (g := fun d e => PySem.W.dataLt d e) q hal hn ha hb hd
theorem gt_dd {a b : D} (q : Φ (.bl (PySem.W.dataLt (py b) (py a))) m) (hal : PySem.W.alike (py a) (py b) = true) (hn : py a ≠ .none) (ha : pl a = true := by with_unfolding_all rfl) (hb : pl b = true := by with_unfolding_all rfl) (hd : dep a ≤ 60 ∨ dep b ≤ 60 := by with_unfolding_all first | exact .inl (Nat.le_of_ble_eq_true rfl) | exact .inr (Nat.le_of_ble_eq_true rfl)) : RD X (R_gt X.K) a b m Φ := rd_ord (g := fun d e => PySem.W.dataLt e d) q hal hn ha hb hd
theorem le_dd {a b : D} (q : Φ (.bl (!PySem.W.dataLt (py b) (py a))) m) (hal : PySem.W.alike (py a) (py b) = true) (hn : py a ≠ .none) (ha : pl a = true := by with_unfolding_all rfl) (hb : pl b = true := by with_unfolding_all rfl) (hd : dep a ≤ 60 ∨ dep b ≤ 60 := by with_unfolding_all first | exact .inl (Nat.le_of_ble_eq_true rfl) | exact .inr (Nat.le_of_ble_eq_true rfl)) : RD X (R_le X.K) a b m Φ := rd_ord (g := fun d e => !PySem.W.dataLt e d) q hal hn ha hb hd
theorem ge_dd {a b : D} (q : Φ (.bl (!PySem.W.dataLt (py a) (py b))) m) (hal : PySem.W.alike (py a) (py b) = true) (hn : py a ≠ .none) (ha : pl a = true := by with_unfolding_all rfl) (hb : pl b = true := by with_unfolding_all rfl) (hd : dep a ≤ 60 ∨ dep b ≤ 60 := by with_unfolding_all first | exact .inl (Nat.le_of_ble_eq_true rfl) | exact .inr (Nat.le_of_ble_eq_true rfl)) : RD X (R_ge X.K) a b m Φ := rd_ord (g := fun d e => !PySem.W.dataLt d e) q hal hn ha hb hd
theorem ix_l {l : List D} {i : Int} (h : atI l i = some d) (q : Φ d m) : RD X (R_ix X.K) (.lst l) (.int i) m Φ := rd_ixL h q
theorem ix_t {l : List D} {i : Int} (h : atI l i = some d) (q : Φ d m) : RD X (R_ix X.K) (.tup l) (.int i) m Φ := rd_ixT h q
theorem ix_s {z : Str} {i : Int} {c : Nat} (hz : z.length ≤ sizeLine) (h : atI z.cps.toList i = some c) (q : Φ (.str ⟨#[c]⟩) m) : RD X (R_ix X.K) (.str z) (.int i) m Φ := rd_ixS hz h q
theorem ix_c {l : List Int} {i j : Int} (h : atI l i = some j) (q : Φ (.int j) m) : RD X (R_ix X.K) (.scr l) (.int i) m Φ := rd_ixC h q
theorem ix_m {r : Addr} {l : List D} {i : Int} (hm : (r, MC.lst l) ∈ m) (h : atI l i = some d) (q : Φ d m) : RD X (R_ix X.K) (.ref r) (.int i) m Φ := rd_ixM hm h q
/-- a truth value behind a test -/
theorem as_t {Φ : Bool → Mem → Prop} {k : Bool} (q : Φ k m) : asT Φ (.bl k) m := ⟨k, rfl, q⟩
theorem ew_chLL {c : Expr} (B : Bs X) (h : EW X W a ds m (fun d1 m1 => EW X W b ds m1 (fun d2 m2 => RD X (R_le X.K) d1 d2 m2 (asT fun t m3 => if t = true then EW X W c ds m3 (fun d3 m4 => RD X (R_le X.K) d2 d3 m4 Φ) Ξ else Φ (.bl false) m3)) Ξ) Ξ)
    (hm : lastMarks [.LtE, .LtE] [b, c] = false := by with_unfolding_all rfl) : EW X W (.Compare a [.LtE, .LtE] [b, c] pos) ds m Φ Ξ := ew_chain (op_leG B.hu) (op_leG B.hu) h hm
theorem if_t {k : Bool} {A B : Prop} (e : k = true) (h : A) : if k = true then A else B := by rw [e]; exact iteT h
theorem if_f {k : Bool} {A B : Prop} (e : k = false) (h : B) : if k = true then A else B := by rw [e]; exact iteF h
end
end G
namespace G
open PySem PySem.Spec PyProof.Rows L2
/-! ### sorted -/
def kI : Key → Int ⊕ List Nat
  | .inl i => .inl i
  | .inr z => .inr z.cps.toList
/-- keys that are tuples, in Python's order -/
def kLt (a b : List Key) : Bool := lexLt itemOrd (a.map kI) (b.map kI)
def isR : Key → Bool
  | .inl _ => false
  | .inr _ => true
/-- the kinds of a tuple's items -/
def shp (k : List Key) : List Bool := k.map isR
theorem tup_items {sh : Nat → Bool} : ∀ {k : List Key} {us : List Value} {i : Nat}, Vals (k.map kV) us → (∀ j, j < k.length → sh (i + j) = (shp k).getD j false) → tupItems sh i us = some (k.map kI)
  | [], _, _, r, _ => by cases r; rfl
  | .inl n :: k, _, i, r, h => by
    cases r with
    | @cons _ u _ us ru rr =>
      obtain ⟨t, rfl⟩ := (show ∃ t, u = Value.int n t from ru)
      have h0 : sh i = false := h 0 (by simp)
      have ih := tup_items (sh := sh) (k := k) (i := i + 1) rr fun j hj => by
        have := h (j + 1) (by simpa using hj)
        rw [show i + 1 + j = i + (j + 1) by omega, this]; rfl
      show (if sh i = true then none else (tupItems sh (i + 1) us).map (Sum.inl n :: ·)) = _
      rw [h0, ih]; rfl
  | .inr z :: k, _, i, r, h => by
    cases r with
    | @cons _ u _ us ru rr =>
      obtain ⟨t, rfl⟩ := (show ∃ t, u = Value.str z t from ru)
      have h0 : sh i = true := h 0 (by simp)
      have ih := tup_items (sh := sh) (k := k) (i := i + 1) rr fun j hj => by
        have := h (j + 1) (by simpa using hj)
        rw [show i + 1 + j = i + (j + 1) by omega, this]; rfl
      show (if sh i = true then (tupItems sh (i + 1) us).map (Sum.inr z.cps.toList :: ·) else none) = _
      rw [h0, ih]; rfl
/-- sorted(v), v's items tuples of one kind -/
theorem sorted_t {X : Cx} {pins : List (Addr × Obj)} {σ : L2.St} {H : Hp} {s : Shared} {v : Value} {ps : List (List Key × Addr)} {sh : List Bool} {Q : VK} (I : Inv X pins σ H s)
    (hcol : ∀ {E : Value → Shared → Prop} {R : List Value → Shared → Prop}, (∀ h' tk, (∀ b o, s.heap.get? b = some o → h'.get? b = some o) → R (ps.map fun p => Value.ref p.2) { s with heap := h', toks := tk }) → wpAny (model X.prog X.w) X.A.in1 (collect v) R E s)
    (hp : ∀ p ∈ ps, H p.2 = some (.tup (p.1.map kV))) (hs : ∀ p ∈ ps, shp p.1 = sh) (hne : sh ≠ []) (hL : ps.length ≤ sizeLine)
    (q : ∀ (ps' : List (List Key × Addr)) p, ps'.Perm ps → ps'.Pairwise (fun a b => kLt b.1 a.1 = false) → H p = none → Q (.ref p) (upd H p (.lst (ps'.map fun p => V.ref p.2)))) :
    wpAny (model X.prog X.w) X.A (call (.builtin "sorted") [v]) (EP X pins σ Q) X.xe s := by
  refine Calls.call_function_entry PyProof.Rows.kind_sorted PyProof.Rows.plain_sorted PyProof.Rows.entry_sorted (PyProof.Rows.args_sorted1 _) ?_
  unfold Builtin.«sorted»
  refine wpAny_bind (m := checkCount "sorted" 1 1 _) (wpAny_pure ?_)
  refine wpAny_bind (hcol fun h' tk hk => ?_)
  have I1 : Inv X pins σ H { s with heap := h', toks := tk } := I.kept hk
  let us : List Value := ps.map fun p => Value.ref p.2
  have hul : us.length = ps.length := List.length_map _
  refine wpAny_bind (wpAny_newList ?_ (by show us.length ≤ _; rw [hul]; exact hL))
  have hoL : (h'.push (seqObj "list" us.toArray 0)).get? h'.objs.size = some (seqObj "list" us.toArray 0) := Heap.get?_push_size _ rfl
  show wpAny _ _ _ _ _ { s with heap := h'.push (seqObj "list" us.toArray 0), toks := tk }
  let shape : Nat → Bool := fun i => sh.getD i false
  let h2 := h'.push (seqObj "list" us.toArray 0)
  -- each item's object
  have hob : ∀ p ∈ ps, ∃ o its n, h2.get? p.2 = some o ∧ o.cls = .type "tuple" ∧ o.data = .seq its n ∧ Vals (p.1.map kV) its.toList := fun p hm => by
    obtain ⟨_, its, r, o, h1, h2, n, h3⟩ := (show ObjOk X.prog X.w H h' p.2 (.tup (p.1.map kV)) from I1.hok _ _ (hp p hm))
    exact ⟨o, its.toArray, n, Heap.get?_push_of_some _ h1, h2, h3, by simpa using r⟩
  have hkey : ∀ p ∈ ps, tupKey h2 shape (.ref p.2) = some (p.1.map kI) := fun p hm => by
    obtain ⟨o, its, n, h1, h2', h3, r⟩ := hob p hm
    simp only [tupKey, h1, h3]
    refine tup_items r fun j hj => ?_
    rw [hs p hm, Nat.zero_add]
  have hkeyC : ∀ p ∈ ps, PyProof.Rows.G.tupKeyC h2 shape (.ref p.2) = some (p.1.map kI) := fun p hm => by
    obtain ⟨o, its, n, h1, h2', h3, r⟩ := hob p hm
    unfold PyProof.Rows.G.tupKeyC
    rw [if_pos (by simp [PyProof.Rows.G.isTupObj, h1, h2'])]
    exact hkey p hm
  have hk' : ∀ v, v ∈ us → ∃ l, PyProof.Rows.G.tupKeyC h2 shape v = some l := fun v hv => by
    obtain ⟨p, hm, rfl⟩ := List.mem_map.mp hv
    exact ⟨_, hkeyC p hm⟩
  have ht : ∃ fs, TupsOf h2 shape us fs := by
    have all : ∀ l : List (List Key × Addr), (∀ p ∈ l, p ∈ ps) → ∃ fs, TupsOf h2 shape (l.map fun p => Value.ref p.2) fs := by
      intro l
      induction l with
      | nil => exact fun _ => ⟨[], .nil⟩
      | cons p l ih =>
        intro hl
        obtain ⟨fs, hf⟩ := ih fun z hz => hl z (List.mem_cons_of_mem _ hz)
        have hm := hl p List.mem_cons_self
        obtain ⟨o, its, n, h1, h2', h3, r⟩ := hob p hm
        have hsp := hs p hm
        obtain ⟨k, a⟩ := p
        cases k with
        | nil => exact absurd (show sh = [] from hsp.symm) hne
        | cons k0 k =>
          have hcons : ∃ u us', its.toList = u :: us' ∧ RelV (kV k0) u := by
            generalize its.toList = il at r
            cases r with
            | cons ru rr => exact ⟨_, _, rfl, ru⟩
          obtain ⟨u, us', hu, ru⟩ := hcons
          have h0 : its[0]? = some u := by rw [← Array.getElem?_toList, hu]; rfl
          have hsh : shape 0 = isR k0 := by show sh.getD 0 false = _; rw [← hsp]; rfl
          refine ⟨u :: fs, .cons ⟨a, o, its, n, rfl, h1, h2', h3, h0, fun e => ?_, fun e => ?_⟩ hf⟩
          · rw [hsh] at e
            cases k0 with
            | inl i => obtain ⟨t, ht⟩ := (show ∃ t, u = Value.int i t from ru); exact ⟨i, t, ht⟩
            | inr z => cases e
          · rw [hsh] at e
            cases k0 with
            | inl i => cases e
            | inr z => obtain ⟨t, ht⟩ := (show ∃ t, u = Value.str z t from ru); exact ⟨z, t, ht⟩
    exact all ps fun _ h => h
  obtain ⟨fs, ht⟩ := ht
  refine wpAny_bind (wpAny_holding (wpAny_call_entry PyProof.Rows.slot_list_sort ⟨_, hoL, rfl⟩ PyProof.Rows.entry_list_sort
    (PyProof.Rows.G.list_sort_tups (s := { s with heap := h2, toks := tk }) hoL ht hk' (by rw [hul]; exact hL) fun st' hpm hst _ => ⟨_, rfl, ?_⟩) (PyProof.Rows.args_list_sort _)))
  -- what comes out
  have hl : (arrOf st').toList.Perm (us.zip us) := by rw [← pairsOf_toList]; exact Array.perm_iff_toList_perm.mp hpm
  have hz : us.zip us = ps.map fun p => (Value.ref p.2, Value.ref p.2) := by
    show (ps.map _).zip (ps.map _) = _
    rw [List.zip_map']
  rw [hz] at hl
  obtain ⟨ps', hps, he⟩ : ∃ ps' : List (List Key × Addr), ps'.Perm ps ∧ (arrOf st').toList = ps'.map fun p => (Value.ref p.2, Value.ref p.2) := by
    have gen : ∀ (l : List Keyed) (qs : List (List Key × Addr)), l.Perm (qs.map fun p => (Value.ref p.2, Value.ref p.2)) → ∃ ps' : List (List Key × Addr), ps'.Perm qs ∧ l = ps'.map fun p => (Value.ref p.2, Value.ref p.2) := by
      intro l
      induction l with
      | nil =>
        intro qs h
        have : qs.map (fun p : List Key × Addr => (Value.ref p.2, Value.ref p.2)) = [] := h.symm.eq_nil
        have : qs = [] := List.map_eq_nil_iff.mp this
        subst this
        exact ⟨[], .nil, rfl⟩
      | cons a l ih =>
        intro qs h
        have ha : a ∈ qs.map fun p : List Key × Addr => (Value.ref p.2, Value.ref p.2) := h.mem_iff.mp List.mem_cons_self
        obtain ⟨p, hm, rfl⟩ := List.mem_map.mp ha
        obtain ⟨l1, l2, rfl⟩ := List.append_of_mem hm
        have h2 : l.Perm ((l1 ++ l2).map fun p : List Key × Addr => (Value.ref p.2, Value.ref p.2)) := by
          rw [List.map_append, List.map_cons] at h
          rw [List.map_append]
          exact (h.trans List.perm_middle).cons_inv
        obtain ⟨ps', h3, rfl⟩ := ih _ h2
        exact ⟨p :: ps', (h3.cons p).trans List.perm_middle.symm, rfl⟩
    exact gen _ _ hl
  have hsz : (pairsOf us).size = (arrOf st').size := hpm.size_eq.symm
  have hsorted : ps'.Pairwise fun a b => kLt b.1 a.1 = false := by
    have hks : KeysOf (PyProof.Rows.G.tupKindC h2 shape) (arrOf st') := fun p hp => by
      rw [he] at hp
      obtain ⟨q, hq, rfl⟩ := List.mem_map.mp hp
      exact ⟨_, hkeyC q (hps.mem_iff.mp hq)⟩
    have pw := keyLe_of_sorted hks (by rw [← hsz]; exact hst)
    rw [he, List.pairwise_map] at pw
    refine List.Pairwise.imp_of_mem (fun {a b} ha hb hh => ?_) pw
    obtain ⟨x, y, hx, hy, hle⟩ := hh
    have ex := (hkeyC a (hps.mem_iff.mp ha)).symm.trans hx
    have ey := (hkeyC b (hps.mem_iff.mp hb)).symm.trans hy
    have ex' := Option.some.inj ex
    have ey' := Option.some.inj ey
    subst ex' ey'
    exact hle
  obtain ⟨e', he'⟩ := PyProof.Rows.sortedHeap_at (vs := us) (out := (arrOf st').map (·.2)) hoL
  have hout : ((arrOf st').map (·.2)).toList = ps'.map fun p => Value.ref p.2 := by rw [Array.toList_map, he, List.map_map]; rfl
  have hlen : (ps'.map fun p => V.ref p.2).length ≤ sizeLine := by rw [List.length_map, hps.length_eq]; exact hL
  have hvals : Vals (ps'.map fun p => V.ref p.2) ((arrOf st').map (·.2)).toList := by
    rw [hout]
    have := vals_refs (ps'.map (·.2))
    rw [List.map_map, List.map_map] at this
    exact this
  refine wpAny_pure ⟨_, rfl, .ref h'.objs.size, upd H h'.objs.size (.lst (ps'.map fun p => V.ref p.2)), I1.laid (t' := tk) (fun b u e => ?_) (Nat.le_refl _)
    (show ObjOk X.prog X.w _ _ _ (.lst (ps'.map fun p => V.ref p.2)) from ⟨hlen, ((arrOf st').map (·.2)).toList, e', hvals, by rw [Array.toArray_toList]; exact he'⟩), rfl, q ps' _ hps hsorted (I1.hok.fresh (Nat.le_refl _))⟩
  have hb : b < h'.objs.size := Heap.lt_size e
  rw [PyProof.Rows.sortedHeap_old (Nat.ne_of_lt hb) (by rw [size_push']; exact Nat.lt_succ_of_lt hb)]
  exact Heap.get?_push_of_some _ e
/-- sorted(v), v's items texts -/
theorem sorted_s {X : Cx} {pins : List (Addr × Obj)} {σ : L2.St} {H : Hp} {s : Shared} {v : Value} {us : List Value} {zs : List Str} {Q : VK} (I : Inv X pins σ H s) (hS : StrsAre us zs)
    (hcol : ∀ {E : Value → Shared → Prop} {R : List Value → Shared → Prop}, (∀ h' tk, (∀ b o, s.heap.get? b = some o → h'.get? b = some o) → R us { s with heap := h', toks := tk }) → wpAny (model X.prog X.w) X.A.in1 (collect v) R E s)
    (hL : zs.length ≤ sizeLine) (q : ∀ (ys : List Str) p, ys.Perm zs → sortedS ys = true → H p = none → Q (.ref p) (upd H p (.lst (ys.map V.str)))) :
    wpAny (model X.prog X.w) X.A (call (.builtin "sorted") [v]) (EP X pins σ Q) X.xe s := by
  have hul : us.length = zs.length := (StrsAre.length hS)
  refine Calls.call_function_entry PyProof.Rows.kind_sorted PyProof.Rows.plain_sorted PyProof.Rows.entry_sorted (PyProof.Rows.args_sorted1 _) ?_
  unfold Builtin.«sorted»
  refine wpAny_bind (m := checkCount "sorted" 1 1 _) (wpAny_pure ?_)
  refine wpAny_bind (hcol fun h' tk hk => ?_)
  have I1 : Inv X pins σ H { s with heap := h', toks := tk } := I.kept hk
  refine wpAny_bind (wpAny_newList ?_ (by rw [hul]; exact hL))
  have hoL : (h'.push (seqObj "list" us.toArray 0)).get? h'.objs.size = some (seqObj "list" us.toArray 0) := Heap.get?_push_size _ rfl
  show wpAny _ _ _ _ _ { s with heap := h'.push (seqObj "list" us.toArray 0), toks := tk }
  refine wpAny_bind (wpAny_holding (wpAny_call_entry PyProof.Rows.slot_list_sort ⟨_, hoL, rfl⟩ PyProof.Rows.entry_list_sort
    (list_sort_treeKAny strKind_oneLt (s := { s with heap := h'.push (seqObj "list" us.toArray 0), toks := tk }) hoL hS.keysOf (fun v₁ v₂ rest e => keyKind_strs (by rw [← e]; exact hS)) (by rw [hul]; exact hL) fun st' hp hs => ⟨_, rfl, ?_⟩)
    (PyProof.Rows.args_list_sort _)))
  obtain ⟨ys, g1, g2, g3⟩ := sorted_out_str hS hp hs
  obtain ⟨e', he'⟩ := PyProof.Rows.sortedHeap_at (vs := us) (out := (arrOf st').map (·.2)) hoL
  have hlen : (ys.map V.str).length ≤ sizeLine := by rw [List.length_map, g2.length_eq]; exact hL
  refine wpAny_pure ⟨_, rfl, .ref h'.objs.size, upd H h'.objs.size (.lst (ys.map V.str)), I1.laid (t' := tk) (fun b u e => ?_) (Nat.le_refl _)
    (show ObjOk X.prog X.w _ _ _ (.lst (ys.map V.str)) from ⟨hlen, ((arrOf st').map (·.2)).toList, e', vals_of_strs g1, by rw [Array.toArray_toList]; exact he'⟩), rfl, q ys _ g2 g3 (I1.hok.fresh (Nat.le_refl _))⟩
  have hb : b < h'.objs.size := Heap.lt_size e
  rw [PyProof.Rows.sortedHeap_old (Nat.ne_of_lt hb) (by rw [size_push']; exact Nat.lt_succ_of_lt hb)]
  exact Heap.get?_push_of_some _ e
end G
namespace G
open PySem PySem.Spec PyProof.Rows L2
def keyD : Key → D
  | .inl i => .int i
  | .inr z => .str z
def tupK (k : List Key) : D := .tup (k.map keyD)
/-- the items of a thing that is walked -/
def srcD : D → Option (List D)
  | .lst l => some l
  | .tup l => some l
  | .ktp l => some l
  | .dK ks _ => some (ks.map keyD)
  | .dT ks _ => some (ks.map tupK)
  | .emp => some []
  | _ => none
section
variable {X : Cx} {pins : List (Addr × Obj)} {σ : L2.St} {H F : Hp} {s : Shared}
abbrev Col (X : Cx) (s : Shared) (v : Value) (us : List Value) : Prop := ∀ {E : Value → Shared → Prop} {R : List Value → Shared → Prop}, (∀ h' tk, (∀ b o, s.heap.get? b = some o → h'.get? b = some o) → R us { s with heap := h', toks := tk }) → wpAny (model X.prog X.w) X.A.in1 (collect v) R E s
theorem col_l {p : Addr} {xs : List V} (I : Inv X pins σ H s) (h : SqL X.K H p xs) : ∃ us, Vals xs us ∧ Col X s (.ref p) us ∧ us.length ≤ sizeLine := by
  obtain ⟨its, r, pl, hz⟩ := I.list h
  obtain ⟨o, n, h1, h2, _, h3⟩ := pl
  have hl : its.length ≤ sizeLine := by rw [← r.length]; exact hz
  exact ⟨its, r, fun {E R} q => wpAny_collect_seq (T := "list") p (.inl rfl) h1 h2 h3 (fun h' hk => by simpa using q h' s.toks hk) (by simpa using hl), hl⟩
theorem col_t {p : Addr} {xs : List V} (I : Inv X pins σ H s) (h : SqT X.K H p xs) : ∃ us, Vals xs us ∧ Col X s (.ref p) us ∧ us.length ≤ sizeLine := by
  obtain ⟨its, r, pl, hz⟩ := I.tuple h
  obtain ⟨o, h1, h2, n, h3⟩ := pl
  have hl : its.length ≤ sizeLine := by rw [← r.length]; exact hz
  exact ⟨its, r, fun {E R} q => wpAny_collect_seq (T := "tuple") p (.inr rfl) h1 h2 h3 (fun h' hk => by simpa using q h' s.toks hk) (by simpa using hl), hl⟩
theorem col_raw {p : Addr} {o : Obj} {es : Array DictEntry} {ep : Nat} (hcalm : X.calm = true) (I : Inv X pins σ H s) (lo : (p == sysModules) = false) (ho : s.heap.get? p = some o) (hx : o.ExactDict) (hdt : o.data = .dict es ep) (hn : es.size ≤ sizeLine) : Col X s (.ref p) (es.toList.map (·.key)) := fun {E R} q => by
  refine PySem.W.kdu_collect (A := X.A.in1) (kdl_raw lo hx hdt) (I.ok.hd hcalm) ho hn fun h' tk acc hk it => ?_
  have e : acc.toList = es.toList.map (·.key) := by
    apply List.ext_getElem?
    intro j
    rw [List.getElem?_map]
    cases hj : acc.toList[j]? with
    | none =>
      have h1 := List.getElem?_eq_none_iff.mp hj
      have h2 : es.toList.length ≤ j := by rw [Array.length_toList, ← it.1, ← Array.length_toList]; exact h1
      rw [List.getElem?_eq_none h2]; rfl
    | some v =>
      obtain ⟨en, hen, hv⟩ := it.2 j v (by rw [← Array.getElem?_toList]; exact hj)
      rw [Array.getElem?_toList, hen, hv]; rfl
  rw [e]
  exact q h' tk hk
theorem col_dK {p : Addr} {kvs : List (Key × V)} (hcalm : X.calm = true) (I : Inv X pins σ H s) (hd : Rd H p (.dK kvs)) : ∃ us, Vals (kvs.map fun kv => kV kv.1) us ∧ Col X s (.ref p) us ∧ us.length ≤ sizeLine := by
  obtain ⟨z, lo, vs, rel, dd⟩ := dk_rd I.hok hd
  have ek : (kvs.map fun kv => kV kv.1) = vs.map fun p => kV p.1 := by
    have e := congrArg (List.map kV) rel.keys
    rw [List.map_map, List.map_map] at e
    exact e
  have hn : vs.length ≤ sizeLine := by rw [← rel.length]; exact z
  obtain ⟨es, ep, ⟨o, ho, hx, hdt⟩, hsz, hk⟩ := dd.raw
  have hl : (es.toList.map (·.key)).length = vs.length := by rw [List.length_map, Array.length_toList, hsz]
  refine ⟨es.toList.map (·.key), ?_, fun {E R} q => col_raw hcalm I lo ho hx hdt (by rw [hsz]; exact hn) q, by rw [hl]; exact hn⟩
  rw [ek]
  refine keys_at hl fun j v e => ?_
  rw [List.getElem?_map] at e
  cases he : es.toList[j]? with
  | none => rw [he] at e; cases e
  | some en =>
    rw [he] at e
    have ev : en.key = v := Option.some.inj e
    have hj : j < es.size := by
      have := (List.getElem?_eq_some_iff.mp he).1
      simpa using this
    have hjv : j < vs.length := by rw [← hsz]; exact hj
    have hen : es[j] = en := by
      have := (List.getElem?_eq_some_iff.mp he).2
      simpa using this
    obtain ⟨h1, h2⟩ := hk j hj vs[j].1 vs[j].2 (List.getElem?_eq_getElem hjv)
    refine ⟨vs[j].1, vs[j].2, List.getElem?_eq_getElem hjv, ?_⟩
    rw [← ev, ← hen]
    exact h1
theorem col_dT {p : Addr} {kvs : List (List Key × V)} (hcalm : X.calm = true) (I : Inv X pins σ H s) (hd : Rd H p (.dT kvs)) : ∃ ps : List (List Key × Addr), ps.map (·.1) = kvs.map (·.1) ∧ (∀ p ∈ ps, H p.2 = some (.tup (p.1.map kV))) ∧ Col X s (.ref p) (ps.map fun p => Value.ref p.2) ∧ ps.length ≤ sizeLine := by
  obtain ⟨z, lo, xs, kt, dd⟩ := dt_rd I.hok hd
  have hl : kvs.length = xs.length := Paired.length kt
  have hn : xs.length ≤ sizeLine := by rw [← hl]; exact z
  obtain ⟨es, ep, ⟨o, ho, hx, hdt⟩, hsz, hk⟩ := Heap.DictOfH.raw dd
  have hks : ∀ {kvs : List (List Key × V)} {xs : List (List Key × Addr × Value)}, KT H kvs xs → (xs.map fun x => (x.1, x.2.1)).map (·.1) = kvs.map (·.1) ∧ ∀ p ∈ (xs.map fun x => (x.1, x.2.1)), H p.2 = some (.tup (p.1.map kV)) := by
    intro kvs xs r
    induction r with
    | nil => exact ⟨rfl, fun p hp => by cases hp⟩
    | cons h t ih =>
      refine ⟨?_, fun p hp => ?_⟩
      · rw [List.map_cons, List.map_cons, List.map_cons, ih.1, h.1]
      · rw [List.map_cons] at hp
        rcases List.mem_cons.mp hp with e | e
        · subst e
          rw [← h.1]; exact h.2.1
        · exact ih.2 p e
  refine ⟨xs.map fun x => (x.1, x.2.1), (hks kt).1, (hks kt).2, ?_, by rw [List.length_map]; exact hn⟩
  have e : es.toList.map (·.key) = (xs.map fun x => (x.1, x.2.1)).map fun p => Value.ref p.2 := by
    rw [List.map_map]
    apply List.ext_getElem?
    intro j
    rw [List.getElem?_map, List.getElem?_map]
    by_cases hj : j < es.size
    · obtain ⟨y, h1, h2, _⟩ := hk j hj
      rw [h1, show es.toList[j]? = some es[j] from by simp [hj]]
      show some es[j].key = some (Value.ref y.2.1)
      rw [h2]
    · rw [List.getElem?_eq_none (by rw [Array.length_toList]; omega), List.getElem?_eq_none (by omega)]; rfl
  rw [← e]
  exact fun {E R} q => col_raw hcalm I lo ho hx hdt (by rw [hsz]; exact hn) q
end
/-! ### keys as data -/
theorem rp_key {K : PySem.W.Frag} {F : Hp} {v : V} {k : Key} (r : Rp K F v (keyD k)) : v = kV k := by
  cases k with
  | inl i => cases r; rfl
  | inr z => cases r; rfl
theorem key_rp {K : PySem.W.Frag} {F : Hp} : ∀ k : Key, Rp K F (kV k) (keyD k)
  | .inl i => .int i
  | .inr z => .str z
theorem rpA_keys {K : PySem.W.Frag} {F : Hp} : ∀ {ks : List Key} {vs : List V}, RpA K F vs (ks.map keyD) → vs = ks.map kV
  | [], _, r => by cases r; rfl
  | k :: ks, _, r => by cases r with | cons a b => rw [rp_key a, rpA_keys b]; rfl
theorem keys_rpA {K : PySem.W.Frag} {F : Hp} : ∀ ks : List Key, RpA K F (ks.map kV) (ks.map keyD)
  | [] => .nil
  | k :: ks => .cons (key_rp k) (keys_rpA ks)
theorem rp_tupK {K : PySem.W.Frag} {F : Hp} {v : V} {k : List Key} (r : Rp K F v (tupK k)) : ∃ a, v = .ref a ∧ F a = some (.tup (k.map kV)) := by
  cases r with
  | tup h t => rw [rpA_keys t] at h; exact ⟨_, rfl, h⟩
theorem rpA_tupK {K : PySem.W.Frag} {F : Hp} : ∀ {ks : List (List Key)} {vs : List V}, RpA K F vs (ks.map tupK) → ∃ ps : List (List Key × Addr), ps.map (·.1) = ks ∧ vs = ps.map (fun p => V.ref p.2) ∧ ∀ p ∈ ps, F p.2 = some (.tup (p.1.map kV))
  | [], _, r => by cases r; exact ⟨[], rfl, rfl, fun _ h => by cases h⟩
  | k :: ks, _, r => by
    cases r with
    | cons a b =>
      obtain ⟨ad, rfl, h1⟩ := rp_tupK a
      obtain ⟨ps, h2, rfl, h3⟩ := rpA_tupK b
      refine ⟨(k, ad) :: ps, by rw [List.map_cons, h2], rfl, fun p hp => ?_⟩
      rcases List.mem_cons.mp hp with e | e
      · subst e; exact h1
      · exact h3 p e
theorem tupK_rpA {K : PySem.W.Frag} {F : Hp} : ∀ {ps : List (List Key × Addr)}, (∀ p ∈ ps, F p.2 = some (.tup (p.1.map kV))) → RpA K F (ps.map fun p => V.ref p.2) ((ps.map (·.1)).map tupK)
  | [], _ => .nil
  | p :: ps, h => .cons (.tup (h p List.mem_cons_self) (keys_rpA _)) (tupK_rpA fun q hq => h q (List.mem_cons_of_mem _ hq))
theorem Stp.adopts {K : PySem.W.Frag} {F H : Hp} {m : Mem} (s : Same F H) (mm : MemOk K F H m) : ∀ {ps : List (List Key × Addr)}, (∀ p ∈ ps, H p.2 = some (.tup (p.1.map kV))) → ∃ F2, Stp K F H m F2 H m ∧ ∀ p ∈ ps, F2 p.2 = some (.tup (p.1.map kV))
  | [], _ => ⟨F, Stp.of s mm, fun _ h => by cases h⟩
  | p :: ps, h => by
    obtain ⟨F2, s2, h2⟩ := Stp.adopts s mm fun q hq => h q (List.mem_cons_of_mem p hq)
    obtain ⟨F3, s3, h3⟩ := Stp.adopt (b := p.2) s2.sub s2.mem (h p List.mem_cons_self)
    refine ⟨F3, s2.trans s3, fun q hq => ?_⟩
    rcases List.mem_cons.mp hq with e | e
    · subst e; exact h3
    · exact s3.fz _ _ (h2 q e)
theorem zip_fst {α β : Type} : ∀ {ks : List α} {vs : List β}, ks.length = vs.length → (ks.zip vs).map (·.1) = ks
  | [], [], _ => rfl
  | k :: ks, v :: vs, h => by rw [List.zip_cons_cons, List.map_cons, zip_fst (by simpa using h)]
  | [], _ :: _, h => by simp at h
  | _ :: _, [], h => by simp at h
/-! ### sorted on data -/
def SrtS (zs : List Str) (Φ : List Str → Prop) : Prop := ∀ ys, ys.Perm zs → sortedS ys = true → Φ ys
def SrtT (ks : List (List Key)) (Φ : List (List Key) → Prop) : Prop := ∀ ys, ys.Perm ks → ys.Pairwise (fun a b => kLt b a = false) → Φ ys
/-- sorted(d), d's items texts, or tuples of one kind -/
def fSorted : D → Mem → (D → Mem → Prop) → Prop := fun d m Φ => ∃ l, srcD d = some l ∧ l.length ≤ sizeLine ∧
  ((∃ zs, l = zs.map D.str ∧ SrtS zs fun ys => Φ (.lst (ys.map D.str)) m) ∨ ∃ ks sh, l = ks.map tupK ∧ sh ≠ [] ∧ (∀ k ∈ ks, shp k = sh) ∧ SrtT ks fun ys => Φ (.lst (ys.map tupK)) m)
section
variable {X : Cx} {W : WX} {e a b c : Expr} {ds : DS} {m : Mem} {Φ Ψ : D → Mem → Prop} {Ξ : XP} {p pos : Pos} {d : D}
theorem str_rpA {K : PySem.W.Frag} {F : Hp} : ∀ zs : List Str, RpA K F (zs.map V.str) (zs.map D.str)
  | [] => .nil
  | z :: zs => .cons (.str z) (str_rpA zs)
theorem rpA_str {K : PySem.W.Frag} {F : Hp} : ∀ {zs : List Str} {vs : List V}, RpA K F vs (zs.map D.str) → vs = zs.map V.str
  | [], _, r => by cases r; rfl
  | z :: zs, _, r => by cases r with | cons a b => cases a; rw [rpA_str b]; rfl
theorem map_perm {α β : Type} {f : α → β} : ∀ {l' : List β} {l : List α}, l'.Perm (l.map f) → ∃ k : List α, k.Perm l ∧ l' = k.map f
  | [], l, h => by
    have : l = [] := List.map_eq_nil_iff.mp h.symm.eq_nil
    subst this; exact ⟨[], .nil, rfl⟩
  | x :: l', l, h => by
    obtain ⟨y, hm, rfl⟩ := List.mem_map.mp (h.mem_iff.mp List.mem_cons_self)
    obtain ⟨l1, l2, rfl⟩ := List.append_of_mem hm
    have h2 : l'.Perm ((l1 ++ l2).map f) := by
      rw [List.map_append, List.map_cons] at h
      rw [List.map_append]
      exact (h.trans List.perm_middle).cons_inv
    obtain ⟨k, h3, rfl⟩ := map_perm h2
    exact ⟨y :: k, (h3.cons y).trans List.perm_middle.symm, rfl⟩
/-- what is walked, as values: its items tuples, or anything -/
theorem src_vals {F H : Hp} {v : V} {l : List D} {pins : List (Addr × Obj)} {σ : L2.St} {s : Shared} (hc : X.calm = true) (I : Inv X pins σ H s) (sb : Same F H) (r : Rp X.K F v d) (hs : srcD d = some l) :
    (∃ (q : Addr) (ks : List (List Key)) (vs : List V), v = .ref q ∧ H q = some (.dT (ks.zip vs)) ∧ ks.length = vs.length ∧ l = ks.map tupK) ∨ ∃ (q : Addr) (xs : List V) (us : List Value), v = .ref q ∧ RpA X.K F xs l ∧ Vals xs us ∧ Col X s (.ref q) us ∧ us.length ≤ sizeLine := by
  cases r with
  | lst h t =>
    cases hs
    obtain ⟨us, h1, h2, h3⟩ := col_l I (show SqL X.K H _ _ from Or.inl (Or.inl (sb _ _ h)))
    exact .inr ⟨_, _, us, rfl, t, h1, h2, h3⟩
  | tup h t =>
    cases hs
    obtain ⟨us, h1, h2, h3⟩ := col_t I (sq_t (sb _ _ h))
    exact .inr ⟨_, _, us, rfl, t, h1, h2, h3⟩
  | ktp h t =>
    cases hs
    obtain ⟨us, h1, h2, h3⟩ := col_t I (same_t sb h.t)
    exact .inr ⟨_, _, us, rfl, t, h1, h2, h3⟩
  | emp h =>
    cases hs
    obtain ⟨us, h1, h2, h3⟩ := col_dK hc I (.inl (sb _ _ h))
    exact .inr ⟨_, [], us, rfl, .nil, h1, h2, h3⟩
  | @dK a ob ks xs ds h hl t =>
    cases hs
    obtain ⟨us, h1, h2, h3⟩ := col_dK hc I (.inr ⟨ob, sb _ _ h⟩)
    have e : (ks.zip xs).map (fun kv => kV kv.1) = ks.map kV := by
      have := congrArg (List.map kV) (zip_fst hl)
      rw [List.map_map] at this
      exact this
    rw [e] at h1
    exact .inr ⟨_, _, us, rfl, keys_rpA ks, h1, h2, h3⟩
  | @dT a ks xs ds h hl t =>
    cases hs
    exact .inl ⟨_, ks, xs, rfl, sb _ _ h, hl, rfl⟩
  | _ => cases hs
theorem ew_sorted (hm : X.mg "sorted" = none) (h : EW X W a ds m (fun d m1 => fSorted d m1 Φ) Ξ) (hc : X.calm = true := by with_unfolding_all rfl) (hg : Gl X "sorted" := by with_unfolding_all rfl) (he : starEach [a] X.env = [(false, eval a X.env)] := by with_unfolding_all rfl) : EW X W (.Call (.Name "sorted" p) [a] [] pos) ds m Φ Ξ := fun F H σ s Q nn xx => by
  let rr : List V → Hp → VK → Prop := fun vs H2 Q => ∃ v F2 d m2, vs = [v] ∧ Same F2 H2 ∧ MemOk X.K F2 H2 m2 ∧ Rp X.K F2 v d ∧ fSorted d m2 Φ ∧ Nm X.K F2 H2 m2 Φ Q
  have cr : CallR X (.builtin "sorted") rr := by
    intro pins s σ H vs us Q I rv hq
    obtain ⟨v, F2, d, m2, rfl, sb, mm, r, ⟨l, hs, hz, hq⟩, n⟩ := hq
    obtain ⟨u, rfl, ru⟩ := vals1 rv
    -- the list that is laid
    have fin : ∀ {F3 : Hp} {o : Addr} {ys : List V} {ld : List D}, Stp X.K F2 H m2 F3 H m2 → RpA X.K F3 ys ld → H o = none → Φ (.lst ld) m2 → Q (.ref o) (upd H o (.lst ys)) := fun {F3 o ys ld} s3 t ho q => by
      have s4 := Stp.lay (o := .lst ys) s3.sub s3.mem ho
      exact n _ _ _ _ _ (s3.trans s4) (.lst upd_same (t.up s4.fz)) q
    rcases src_vals hc I sb r hs with ⟨q, ks, xs, rfl, hd, hl, rfl⟩ | ⟨q, xs, us, rfl, t, v1, col, hz2⟩
    · cases ru
      obtain ⟨ps, e1, e2, col, e3⟩ := col_dT hc I (.inl hd)
      rw [zip_fst hl] at e1
      rcases hq with ⟨zs, ez, hq⟩ | ⟨ks', sh, ek, hne, hsh, hq⟩
      · -- no key
        have : ks = [] := by
          cases ks with
          | nil => rfl
          | cons k ks =>
            cases zs with
            | nil => cases ez
            | cons z zs => cases ez
        subst this
        have : ps = [] := List.map_eq_nil_iff.mp e1
        subst this
        have : zs = [] := List.map_eq_nil_iff.mp ez.symm
        subst this
        refine sorted_t (ps := []) (sh := [false]) I col (fun _ h => by cases h) (fun _ h => by cases h) (by simp) e3 fun ps' o hp _ ho => ?_
        have : ps' = [] := hp.eq_nil
        subst this
        exact fin (Stp.of sb mm) .nil ho (hq [] .nil rfl)
      · have hk : ks' = ks := by
          have inj : ∀ {a b : List (List Key)}, a.map tupK = b.map tupK → a = b := by
            have kd : ∀ {a b : Key}, keyD a = keyD b → a = b := by
              intro a b h
              cases a <;> cases b <;> cases h <;> rfl
            have kl : ∀ {a b : List Key}, a.map keyD = b.map keyD → a = b := fun {a b} h => List.map_inj_right (fun _ _ => kd) |>.mp h
            exact fun {a b} h => List.map_inj_right (fun x y (e : tupK x = tupK y) => kl (by cases x <;> cases y <;> simpa [tupK] using e)) |>.mp h
          exact (inj ek).symm
        subst hk
        refine sorted_t (ps := ps) (sh := sh) I col e2 (fun p hp => hsh _ (by rw [← e1]; exact List.mem_map.mpr ⟨p, hp, rfl⟩)) hne e3 fun ps' o hp hs ho => ?_
        obtain ⟨F3, s3, h3⟩ := Stp.adopts sb mm (ps := ps') fun p hq => e2 p (hp.mem_iff.mp hq)
        refine fin s3 (tupK_rpA h3) ho (hq _ (by rw [← e1]; exact hp.map _) (List.pairwise_map.mpr hs))
    · cases ru
      rcases hq with ⟨zs, rfl, hq⟩ | ⟨ks, sh, rfl, hne, hsh, hq⟩
      · have := rpA_str t
        subst this
        refine sorted_s I v1.strs col (by simpa using hz) fun ys o hp hs ho => ?_
        exact fin (Stp.of sb mm) (str_rpA ys) ho (hq ys hp hs)
      · obtain ⟨ps, rfl, rfl, h3⟩ := rpA_tupK t
        have e : us = ps.map fun p => Value.ref p.2 := by
          have gen : ∀ {ps : List (List Key × Addr)} {us : List Value}, Vals (ps.map fun p => V.ref p.2) us → us = ps.map fun p => Value.ref p.2 := by
            intro ps
            induction ps with
            | nil => intro us r; cases r; rfl
            | cons p ps ih => intro us r; cases r with | cons a b => rw [ih b, show _ = Value.ref p.2 from a]; rfl
          exact gen v1
        subst e
        refine sorted_t (ps := ps) (sh := sh) I col (fun p hp => sb _ _ (h3 p hp)) (fun p hp => hsh _ (List.mem_map.mpr ⟨p, hp, rfl⟩)) hne (by simpa using hz2) fun ps' o hp hs ho => ?_
        exact fin (Stp.of sb mm) (tupK_rpA fun p hq => h3 p (hp.mem_iff.mp hq)) ho (hq _ (hp.map _) (List.pairwise_map.mpr hs))
  exact We.of (pe_callB cr hg hm (by decide +kernel) (pa_cons pw_e pa_nil he) (he := he) (hpl := rfl)) (h F H σ s _ (fun v F2 H2 d m2 s1 r q => ⟨v, F2, d, m2, rfl, s1.sub, s1.mem, r, q, nn.go s1⟩) xx)
end
end G
namespace G
open PySem PySem.Spec PyProof.Rows L2
/-! ### what a text does on data, as one function -/
abbrev ME := DS → Mem → (D → Mem → Prop) → XP → Prop
abbrev MT := DS → Mem → (Bool → Mem → Prop) → XP → Prop
abbrev MA := DS → Mem → (List D → Mem → Prop) → XP → Prop
abbrev MS := DS → Mem → En → XP → Prop
abbrev MG := D → DS → Mem → (DS → Mem → Prop) → XP → Prop
abbrev F2 := D → D → Mem → (D → Mem → Prop) → Prop
abbrev F1 := D → Mem → (D → Mem → Prop) → Prop
def br (k : Bool) (A B : Prop) : Prop := match k with
  | true => A
  | false => B
def gd (k : Bool) (A : Prop) : Prop := match k with
  | true => A
  | false => False
def om {α : Type} (a : Option α) (f : α → Prop) : Prop := match a with
  | some j => f j
  | none => False
def bB (d : D) (f : Bool → Prop) : Prop := match d with
  | .bl k => f k
  | _ => False
theorem br_t {k : Bool} {A B : Prop} (e : k = true) (h : A) : br k A B := by rw [e]; exact h
theorem br_f {k : Bool} {A B : Prop} (e : k = false) (h : B) : br k A B := by rw [e]; exact h
theorem br_b {k : Bool} {A B : Prop} (h1 : k = true → A) (h2 : k = false → B) : br k A B := by
  cases k with
  | true => exact h1 rfl
  | false => exact h2 rfl
theorem br_same {k : Bool} {A : Prop} (h : A) : br k A A := by cases k <;> exact h
theorem gd_of {k : Bool} {A : Prop} (e : k = true) (h : A) : gd k A := by rw [e]; exact h
theorem om_of {α : Type} {a : Option α} {j : α} {f : α → Prop} (e : a = some j) (h : f j) : om a f := by rw [e]; exact h
theorem br_if {k : Bool} {A B : Prop} (h : br k A B) : if k = true then A else B := by
  cases k with
  | true => exact iteT h
  | false => exact iteF h
theorem gd_t {k : Bool} {A : Prop} (h : gd k A) : k = true ∧ A := by
  cases k with
  | true => exact ⟨rfl, h⟩
  | false => exact False.elim h
theorem om_some {α : Type} {a : Option α} {f : α → Prop} (h : om a f) : ∃ j, a = some j ∧ f j := by
  cases a with
  | some j => exact ⟨j, rfl, h⟩
  | none => exact False.elim h
theorem bB_as {d : D} {m : Mem} {Φ : Bool → Mem → Prop} (h : bB d fun k => Φ k m) : asT Φ d m := by
  cases d with
  | bl k => exact ⟨k, rfl, h⟩
  | _ => exact False.elim h
/-! the forms -/
def k_ (d : D) : ME := fun _ m Φ _ => Φ d m
def v_ (i : Nat) : ME := fun ds m Φ _ => match ds[i]? with
  | some (some d) => Φ d m
  | _ => False
def o2 (f : F2) (a b : ME) : ME := fun ds m Φ Ξ => a ds m (fun d1 m1 => b ds m1 (fun d2 m2 => f d1 d2 m2 Φ) Ξ) Ξ
def o1 (f : F1) (a : ME) : ME := fun ds m Φ Ξ => a ds m (fun d m1 => f d m1 Φ) Ξ
def not_ (a : ME) : ME := fun ds m Φ Ξ => a ds m (fun d m1 => bB d fun k => Φ (.bl (!k)) m1) Ξ
def and_ (a b : ME) : ME := fun ds m Φ Ξ => a ds m (fun d m1 => bB d fun k => br k (b ds m1 Φ Ξ) (Φ (.bl false) m1)) Ξ
def or_ (a b : ME) : ME := fun ds m Φ Ξ => a ds m (fun d m1 => bB d fun k => br k (Φ (.bl true) m1) (b ds m1 Φ Ξ)) Ξ
def ite_ (c : MT) (a b : ME) : ME := fun ds m Φ Ξ => c ds m (fun k m1 => br k (a ds m1 Φ Ξ) (b ds m1 Φ Ξ)) Ξ
def tst (a : ME) : MT := fun ds m Φ Ξ => a ds m (fun d m1 => bB d fun k => Φ k m1) Ξ
def tnot (a : MT) : MT := fun ds m Φ Ξ => a ds m (fun k m1 => Φ (!k) m1) Ξ
def tand (a b : MT) : MT := fun ds m Φ Ξ => a ds m (fun k m1 => br k (b ds m1 Φ Ξ) (Φ false m1)) Ξ
def tor (a b : MT) : MT := fun ds m Φ Ξ => a ds m (fun k m1 => br k (Φ true m1) (b ds m1 Φ Ξ)) Ξ
def nil_ : MA := fun _ m Φ _ => Φ [] m
def cons_ (a : ME) (b : MA) : MA := fun ds m Φ Ξ => a ds m (fun d m1 => b ds m1 (fun l m2 => Φ (d :: l) m2) Ξ) Ξ
def tup_ (a : MA) : ME := fun ds m Φ Ξ => a ds m (fun l m1 => gd (decide (l.length ≤ sizeLine)) (Φ (.tup l) m1)) Ξ
def lst_ (a : MA) : ME := fun ds m Φ Ξ => a ds m (fun l m1 => gd (decide (l.length ≤ sizeLine)) (Φ (.lst l) m1)) Ξ
def lstM_ (a : MA) : ME := fun ds m Φ Ξ => a ds m (fun l m1 => gd (decide (l.length ≤ sizeLine)) (∀ p, p ∉ dom m1 → Φ (.ref p) ((p, .lst l) :: m1))) Ξ
/-- a call: here the evaluation stops -/
structure CallW (sp : SpD) (l : List D) (m : Mem) (Φ : D → Mem → Prop) (Ψ : XF) : Prop where
  run : sp l m Φ Ψ
def call_ (n : Nat) (sp : SpD) (a : MA) : ME := fun ds m Φ Ξ => a ds m (fun l m1 => gd (decide (l.length = n)) (CallW sp l m1 Φ (Ξ ds))) Ξ
/-- two operands: what is asked of them, what comes out -/
def oAdd : F2 := fun d1 d2 m Φ => match d1, d2 with
  | .int i, .int j => Φ (.int (i + j)) m
  | .str a, .str b => gd (decide (a.length + b.length ≤ sizeLine)) (Φ (.str (a ++ b)) m)
  | .lst a, .lst b => gd (decide (a.length + b.length ≤ sizeLine)) (Φ (.lst (a ++ b)) m)
  | .tup a, .tup b => gd (decide (a.length + b.length ≤ sizeLine)) (Φ (.tup (a ++ b)) m)
  | _, _ => False
def oSub : F2 := fun d1 d2 m Φ => match d1, d2 with
  | .int i, .int j => Φ (.int (i - j)) m
  | _, _ => False
def oMul : F2 := fun d1 d2 m Φ => match d1, d2 with
  | .int i, .int j => CMul i j ∧ Φ (.int (i * j)) m
  | .str z, .int k => MulOk z k ∧ Φ (.str (Txt.mul z k)) m
  | .lst l, .int k => (-(2 ^ 63) ≤ k ∧ k < 2 ^ 63 ∧ l.length * k.toNat ≤ sizeLine) ∧ Φ (.lst (List.replicate k.toNat l).flatten) m
  | _, _ => False
def oMod : F2 := fun d1 d2 m Φ => match d1, d2 with
  | .int i, .int j => 0 < j ∧ Φ (.int (i % j)) m
  | _, _ => False
def oFdv : F2 := fun d1 d2 m Φ => match d1, d2 with
  | .int i, .int j => CDivW i j ∧ Φ (.int (i / j)) m
  | _, _ => False
def oPow : F2 := fun d1 d2 m Φ => match d1, d2 with
  | .int i, .int j => CPow i j ∧ Φ (.int (i ^ j.toNat)) m
  | _, _ => False
def plk (a b : D) : Bool := pl a && pl b && (decide (dep a ≤ 60) || decide (dep b ≤ 60))
def oEq : F2 := fun a b m Φ => gd (plk a b) (Φ (.bl (eqD a b)) m)
def oNe : F2 := fun a b m Φ => gd (plk a b) (Φ (.bl (!eqD a b)) m)
def nn (a : D) : Bool := match py a with
  | .none => false
  | _ => true
def alk (a b : D) : Bool := plk a b && PySem.W.alike (py a) (py b) && nn a
def oLt : F2 := fun a b m Φ => match a, b with
  | .int i, .int j => Φ (.bl (decide (i < j))) m
  | a, b => gd (alk a b) (Φ (.bl (PySem.W.dataLt (py a) (py b))) m)
def oGt : F2 := fun a b m Φ => match a, b with
  | .int i, .int j => Φ (.bl (decide (j < i))) m
  | a, b => gd (alk a b) (Φ (.bl (PySem.W.dataLt (py b) (py a))) m)
def oLe : F2 := fun a b m Φ => match a, b with
  | .int i, .int j => Φ (.bl (decide (i ≤ j))) m
  | a, b => gd (alk a b) (Φ (.bl (!PySem.W.dataLt (py b) (py a))) m)
def oGe : F2 := fun a b m Φ => match a, b with
  | .int i, .int j => Φ (.bl (decide (j ≤ i))) m
  | a, b => gd (alk a b) (Φ (.bl (!PySem.W.dataLt (py a) (py b))) m)
def oIs : F2 := fun a b m Φ => match b with
  | .non => Φ (.bl (isN a)) m
  | _ => False
def oIsnt : F2 := fun a b m Φ => match b with
  | .non => Φ (.bl (!isN a)) m
  | _ => False
def oIx : F2 := fun a b m Φ => match a, b with
  | .lst l, .int i => om (atI l i) fun d => Φ d m
  | .tup l, .int i => om (atI l i) fun d => Φ d m
  | .scr l, .int i => om (atI l i) fun j => Φ (.int j) m
  | .str z, .int i => gd (decide (z.length ≤ sizeLine)) (om (atI z.cps.toList i) fun c => Φ (.str ⟨#[c]⟩) m)
  | .ref r, .int i => ∃ l, (r, MC.lst l) ∈ m ∧ om (atI l i) fun d => Φ d m
  | _, _ => False
def fLen : F1 := fun d m Φ => om (lenD d) fun j => gd (decide (j ≤ sizeLine)) (Φ (.int j) m)
def fInt : F1 := fun d m Φ => om (intD d) fun j => Φ (.int j) m
def fIs (T : String) : F1 := fun d m Φ => om (isT T d) fun k => Φ (.bl k) m
def fIsLT : F1 := fun d m Φ => om (isT2 "list" "tuple" d) fun k => Φ (.bl k) m
def fIsC (C : Addr) : F1 := fun d m Φ => om (isC C d) fun k => Φ (.bl k) m
def chLL (a b c : ME) : ME := fun ds m Φ Ξ => a ds m (fun d1 m1 => b ds m1 (fun d2 m2 => oLe d1 d2 m2 fun t m3 => bB t fun k => br k (c ds m3 (fun d3 m4 => oLe d2 d3 m4 Φ) Ξ) (Φ (.bl false) m3)) Ξ) Ξ
/-! the statements -/
def nil_s : MS := fun ds m N _ => N.nx ds m
def seq (a b : MS) : MS := fun ds m N Ξ => a ds m { N with nx := fun ds1 m1 => b ds1 m1 N Ξ } Ξ
def ex_ (a : ME) : MS := fun ds m N Ξ => a ds m (fun _ m1 => N.nx ds m1) Ξ
def ret_ (a : ME) : MS := fun ds m N Ξ => a ds m N.rt Ξ
def retN_ : MS := fun _ m N _ => N.rt .non m
def pass_ : MS := fun ds m N _ => N.nx ds m
def brk_ : MS := fun ds m N _ => N.bk ds m
def cnt_ : MS := fun ds m N _ => N.ct ds m
def if_ (c : MT) (a b : MS) : MS := fun ds m N Ξ => c ds m (fun k m1 => br k (a ds m1 N Ξ) (b ds m1 N Ξ)) Ξ
def set_ (i : Nat) (a : ME) : MS := fun ds m N Ξ => a ds m (fun d m1 => N.nx (ds.set i (some d)) m1) Ξ
def asg_ (g : MG) (a : ME) : MS := fun ds m N Ξ => a ds m (fun d m1 => g d ds m1 N.nx Ξ) Ξ
def par_ (i j : Nat) (a b : ME) : MS := fun ds m N Ξ => a ds m (fun d1 m1 => b ds m1 (fun d2 m2 => N.nx ((ds.set i (some d1)).set j (some d2)) m2) Ξ) Ξ
def g_ (i : Nat) : MG := fun d ds m Φ _ => Φ (ds.set i (some d)) m
def gsN : List D → DS → Mem → (DS → Mem → Prop) → XP → Prop := fun l ds m Φ _ => match l with
  | [] => Φ ds m
  | _ => False
def gsC (g : MG) (r : List D → DS → Mem → (DS → Mem → Prop) → XP → Prop) : List D → DS → Mem → (DS → Mem → Prop) → XP → Prop := fun l ds m Φ Ξ => match l with
  | d :: l => g d ds m (fun ds1 m1 => r l ds1 m1 Φ Ξ) Ξ
  | _ => False
def gT (n : Nat) (r : List D → DS → Mem → (DS → Mem → Prop) → XP → Prop) : MG := fun d ds m Φ Ξ => match d with
  | .tup l => gd (decide (l.length = n)) (r l ds m Φ Ξ)
  | _ => False
def subM (d1 d2 d : D) (m : Mem) (Φ : Mem → Prop) : Prop := match d1, d2, m with
  | .ref r, .int k, (r', .lst l) :: rest => r' = r ∧ om (ixN l.length k) fun j => Φ ((r, .lst (l.set j d)) :: rest)
  | _, _, _ => False
def gSub (o ix : ME) : MG := fun d ds m Φ Ξ => o ds m (fun d1 m1 => ix ds m1 (fun d2 m2 => subM d1 d2 d m2 (Φ ds)) Ξ) Ξ
/-- a for's turns, by an invariant -/
structure ForW (g : MG) (b : MS) (items : List D) (ds : DS) (m : Mem) (N : En) (Ξ : XP) : Prop where
  run : ∃ I : Nat → DS → Mem → Prop, I 0 ds m ∧
    (∀ i d ds2 m2, items[i]? = some d → I i ds2 m2 → g d ds2 m2 (fun ds3 m3 => b ds3 m3 { nx := I (i + 1), ct := I (i + 1), bk := N.nx, rt := N.rt } Ξ) Ξ) ∧ ∀ ds2 m2, I items.length ds2 m2 → N.nx ds2 m2
def for_ (it : MA) (g : MG) (b : MS) : MS := fun ds m N Ξ => it ds m (fun items m1 => ForW g b items ds m1 N Ξ) Ξ
structure WhileW (c : MT) (b : MS) (ds : DS) (m : Mem) (N : En) (Ξ : XP) : Prop where
  run : ∃ (I : Nat → DS → Mem → Prop) (k0 : Nat), I k0 ds m ∧
    ∀ k ds2 m2, I k ds2 m2 → c ds2 m2 (fun t m3 => br t (b ds2 m3 { nx := fun ds4 m4 => ∃ k', k' < k ∧ I k' ds4 m4, ct := fun ds4 m4 => ∃ k', k' < k ∧ I k' ds4 m4, bk := N.nx, rt := N.rt } Ξ) (N.nx ds2 m3)) Ξ
def while_ (c : MT) (b : MS) : MS := fun ds m N Ξ => WhileW c b ds m N Ξ
def it_l (a : ME) : MA := fun ds m Φ Ξ => a ds m (fun d m1 => match d with
  | .lst l => Φ l m1
  | _ => False) Ξ
def it_t (a : ME) : MA := fun ds m Φ Ξ => a ds m (fun d m1 => match d with
  | .tup l => Φ l m1
  | _ => False) Ξ
def it_s (a : ME) : MA := fun ds m Φ Ξ => a ds m (fun d m1 => match d with
  | .str z => Φ (signs z) m1
  | _ => False) Ξ
/-- a number within the machine's words -/
structure RgW (j : Int) (A : Prop) : Prop where
  lo : -(2 ^ 62) ≤ j
  hi : j < 2 ^ 62
  run : A
def it_r (a : ME) : MA := fun ds m Φ Ξ => a ds m (fun d m1 => match d with
  | .int j => RgW j (Φ (rngD 0 j.toNat) m1)
  | _ => False) Ξ
def it_r2 (a b : ME) : MA := fun ds m Φ Ξ => a ds m (fun d1 m1 => b ds m1 (fun d2 m2 => match d1, d2 with
  | .int i, .int j => RgW i (RgW j (Φ (rngD i (j - i).toNat) m2))
  | _, _ => False) Ξ) Ξ
def it_e (a : ME) : MA := fun ds m Φ Ξ => a ds m (fun d m1 => match d with
  | .lst l => Φ (enumD l) m1
  | .tup l => Φ (enumD l) m1
  | .str z => Φ (enumD (signs z)) m1
  | _ => False) Ξ
def raise0 (C : Addr) : MS := fun ds m _ Ξ => Ξ ds C [] m
def raise_ (C : Addr) (fs : List Str) (a : MA) : MS := fun ds m _ Ξ => a ds m (fun l m1 => gd (decide (l.length = fs.length)) (Ξ ds C (fs.zip l) m1)) Ξ
def oSl (d : D) (lo hi : Option Int) (m : Mem) (Φ : D → Mem → Prop) : Prop := match d with
  | .lst l => Φ (.lst (cutD l lo hi)) m
  | .tup l => Φ (.tup (cutD l lo hi)) m
  | .str z => gd (decide (z.length ≤ sizeLine)) (Φ (.str (cutS z lo hi)) m)
  | _ => False
abbrev MO := DS → Mem → (Option Int → Mem → Prop) → XP → Prop
def no_ : MO := fun _ m Φ _ => Φ none m
def so_ (a : ME) : MO := fun ds m Φ Ξ => a ds m (fun d m1 => match d with
  | .int i => Φ (some i) m1
  | _ => False) Ξ
def sl_ (a : ME) (lo hi : MO) : ME := fun ds m Φ Ξ => a ds m (fun d m1 => lo ds m1 (fun l m2 => hi ds m2 (fun u m3 => oSl d l u m3 Φ) Ξ) Ξ) Ξ
end G
namespace G
open PySem PySem.Spec PyProof.Rows L2
section
variable {X : Cx} {W : WX} {e a b c : Expr} {es : List Expr} {st : Stmt} {sts rest : List Stmt} {ds : DS} {m : Mem} {Φ Ψ : D → Mem → Prop} {Ξ : XP} {N N' : En} {p pos : Pos} {d : D} {x : Str} {i k n : Nat} {f C : Addr} {sp : SpD}
theorem AW.mono {Φ Ψ : List D → Mem → Prop} (h : AW X W es ds m Φ Ξ) (k : ∀ d m, Φ d m → Ψ d m) : AW X W es ds m Ψ Ξ := fun F H σ s Q n x => h F H σ s Q (fun v F2 H2 d m2 a r q => n v F2 H2 d m2 a r (k d m2 q)) x
theorem GW.mono {tg : Expr} {Φ Ψ : DS → Mem → Prop} (h : GW X W tg d ds m Φ Ξ) (k : ∀ d m, Φ d m → Ψ d m) : GW X W tg d ds m Ψ Ξ := fun F H σ v s r Q n x => h F H σ v s r Q (fun σ2 F2 H2 ds2 m2 a r q => n σ2 F2 H2 ds2 m2 a r (k ds2 m2 q)) x
theorem IW.mono {tg iter : Expr} {Φ Ψ : List D → Mem → Prop} (h : IW X W tg iter ds m Φ Ξ) (k : ∀ d m, Φ d m → Ψ d m) : IW X W tg iter ds m Ψ Ξ := fun F H σ s Q n x => h F H σ s Q (fun v F2 H2 d m2 a r q => n v F2 H2 d m2 a r (k d m2 q)) x
structure EnLe (N N' : En) : Prop where
  nx : ∀ ds m, N.nx ds m → N'.nx ds m
  rt : ∀ d m, N.rt d m → N'.rt d m
  bk : ∀ ds m, N.bk ds m → N'.bk ds m
  ct : ∀ ds m, N.ct ds m → N'.ct ds m
theorem EnOk.le {K : PySem.W.Frag} {F H : Hp} {De : Ends} (n : EnOk K F H m N' De) (k : EnLe N N') : EnOk K F H m N De :=
  ⟨fun σ F2 H2 ds m2 a r q => n.nx σ F2 H2 ds m2 a r (k.nx ds m2 q), fun v F2 H2 d m2 a r q => n.rt v F2 H2 d m2 a r (k.rt d m2 q), fun σ F2 H2 ds m2 a r q => n.bk σ F2 H2 ds m2 a r (k.bk ds m2 q), fun σ F2 H2 ds m2 a r q => n.ct σ F2 H2 ds m2 a r (k.ct ds m2 q)⟩
theorem SW.mono (h : SW X W st ds m N Ξ) (k : EnLe N N') : SW X W st ds m N' Ξ := fun F H σ s De n x => h F H σ s De (n.le k) x
theorem SW.nx {g : DS → Mem → Prop} (h : SW X W st ds m { N with nx := g } Ξ) (k : ∀ ds m, g ds m → N'.nx ds m) (hN : N' = { N with nx := N'.nx }) : SW X W st ds m N' Ξ := h.mono ⟨k, by rw [hN]; exact fun _ _ z => z, by rw [hN]; exact fun _ _ z => z, by rw [hN]; exact fun _ _ z => z⟩
structure RE (X : Cx) (W : WX) (e : Expr) (t : ME) : Prop where
  run : ∀ {ds m Φ Ξ}, t ds m Φ Ξ → EW X W e ds m Φ Ξ
structure RT (X : Cx) (W : WX) (e : Expr) (t : MT) : Prop where
  run : ∀ {ds m Φ Ξ}, t ds m Φ Ξ → TW X W e ds m Φ Ξ
structure RW (X : Cx) (W : WX) (e : Expr) (t : MT) : Prop where
  run : ∀ {ds m Φ Ξ}, t ds m Φ Ξ → PWt X W e ds m Φ Ξ
structure RA (X : Cx) (W : WX) (es : List Expr) (t : MA) : Prop where
  run : ∀ {ds m Φ Ξ}, t ds m Φ Ξ → AW X W es ds m Φ Ξ
structure RS (X : Cx) (W : WX) (st : Stmt) (t : MS) : Prop where
  run : ∀ {ds m N Ξ}, t ds m N Ξ → SW X W st ds m N Ξ
structure RB (X : Cx) (W : WX) (sts : List Stmt) (t : MS) : Prop where
  run : ∀ {ds m N Ξ}, t ds m N Ξ → BW X W sts ds m N Ξ
structure RG (X : Cx) (W : WX) (e : Expr) (t : MG) : Prop where
  run : ∀ {d ds m Φ Ξ}, t d ds m Φ Ξ → GW X W e d ds m Φ Ξ
structure RGs (X : Cx) (W : WX) (es : List Expr) (t : List D → DS → Mem → (DS → Mem → Prop) → XP → Prop) : Prop where
  run : ∀ {l ds m Φ Ξ}, t l ds m Φ Ξ → GWs X W es l ds m Φ Ξ
structure RI (X : Cx) (W : WX) (tg e : Expr) (t : MA) : Prop where
  run : ∀ {ds m Φ Ξ}, t ds m Φ Ξ → IW X W tg e ds m Φ Ξ
variable {ta tb tc : ME} {ca cb cc : MT} {aa : MA} {sa sb : MS} {ga : MG}
/-! ### expressions -/
theorem r_int {n : Int} {j} : RE X W (.Constant (.int n) j pos) (k_ (.int n)) := ⟨fun h => ew_int h⟩
theorem r_str {z : Str} {j} : RE X W (.Constant (.str z) j pos) (k_ (.str z)) := ⟨fun h => ew_str h⟩
theorem r_bl {k : Bool} {j} : RE X W (.Constant (.bool k) j pos) (k_ (.bl k)) := ⟨fun h => ew_bl h⟩
theorem r_non {j} : RE X W (.Constant .none j pos) (k_ .non) := ⟨fun h => ew_non h⟩
theorem r_neg {j : Int} {k2} {q2 : Pos} : RE X W (.UnaryOp .USub (.Constant (.int j) k2 q2) pos) (k_ (.int (-j))) := ⟨fun h => ew_neg h⟩
theorem r_glob {v : V} {u : Value} (hm : X.mg x = some u) (r : RelV v u) (rp : ∀ F, Rp X.K F v d) (hg : Gl X x := by rfl) (hb : (x == ("__debug__" : Str)) = false := by decide) : RE X W (.Name x pos) (k_ d) := ⟨fun h => ew_glob hm r rp h hg hb⟩
/-- a name and its slot -/
structure Nam (N : List Str) (i : Nat) (x : Str) : Prop where
  hN : N[i]? = some x
  hb : (x == ("__debug__" : Str)) = false
  hc : (x == ("__classdict__" : Str)) = false
theorem r_v (n : Nam X.N i x) (hv : Vis X.env.scope x) : RE X W (.Name x pos) (v_ i) := ⟨fun {ds m Φ Ξ} h => by
  unfold v_ at h
  split at h
  · next d hd => exact ew_name i hd h n.hN hv n.hb n.hc
  · exact h.elim⟩
/-- a global name that has a datum -/
def Glb (K : PySem.W.Frag) (mg : Str → Option Value) (x : Str) (d : D) : Prop := ∃ v u, mg x = some u ∧ RelV v u ∧ ∀ F, Rp K F v d
theorem r_g (g : Glb X.K X.mg x d) (hg : Gl X x := by rfl) (hb : (x == ("__debug__" : Str)) = false := by decide) : RE X W (.Name x pos) (k_ d) := ⟨fun h => by
  obtain ⟨v, u, h1, h2, h3⟩ := g
  exact ew_glob h1 h2 h3 h hg hb⟩
theorem r_nil : RA X W [] nil_ := ⟨fun h => aw_nil h⟩
theorem r_cons (ha : RE X W e ta) (hb : RA X W es aa) (hs : starEach (e :: es) X.env = (false, eval e X.env) :: starEach es X.env := by rfl) : RA X W (e :: es) (cons_ ta aa) := ⟨fun h => aw_cons ((ha.run h).mono fun _ _ q => hb.run q) hs⟩
section
theorem two {g : F2} {r : R2} (hr : ∀ {d1 d2 m Φ}, g d1 d2 m Φ → RD X r d1 d2 m Φ) (ha : RE X W a ta) (hb : RE X W b tb) (h : o2 g ta tb ds m Φ Ξ) : EW X W a ds m (fun d1 m1 => EW X W b ds m1 (fun d2 m2 => RD X r d1 d2 m2 Φ) Ξ) Ξ := (ha.run h).mono fun _ _ q => (hb.run q).mono fun _ _ q2 => hr q2
theorem g_add {d1 d2 : D} (h : oAdd d1 d2 m Φ) : RD X (R_add X.K) d1 d2 m Φ := by
  unfold oAdd at h
  split at h
  · exact ad_ii h
  · exact ad_ss (of_decide_eq_true (gd_t h).1) (gd_t h).2
  · exact ad_ll (of_decide_eq_true (gd_t h).1) (gd_t h).2
  · exact ad_tt (of_decide_eq_true (gd_t h).1) (gd_t h).2
  · exact h.elim
theorem g_sub {d1 d2 : D} (h : oSub d1 d2 m Φ) : RD X R_sub d1 d2 m Φ := by
  unfold oSub at h
  split at h
  · exact su_ii h
  · exact h.elim
theorem g_mul {d1 d2 : D} (h : oMul d1 d2 m Φ) : RD X (R_mul X.K) d1 d2 m Φ := by
  unfold oMul at h
  split at h
  · exact mu_ii h.1 h.2
  · exact mu_si h.1 h.2
  · exact mu_li h.1.1 h.1.2.1 h.1.2.2 h.2
  · exact h.elim
theorem g_mod {d1 d2 : D} (h : oMod d1 d2 m Φ) : RD X R_mod d1 d2 m Φ := by
  unfold oMod at h
  split at h
  · exact mo_ii h.1 h.2
  · exact h.elim
theorem g_fdv {d1 d2 : D} (h : oFdv d1 d2 m Φ) : RD X R_fdv d1 d2 m Φ := by
  unfold oFdv at h
  split at h
  · exact fd_ii h.1 h.2
  · exact h.elim
theorem g_pow {d1 d2 : D} (h : oPow d1 d2 m Φ) : RD X R_pow d1 d2 m Φ := by
  unfold oPow at h
  split at h
  · exact po_ii h.1 h.2
  · exact h.elim
theorem plk_of {d1 d2 : D} (h : plk d1 d2 = true) : pl d1 = true ∧ pl d2 = true ∧ (dep d1 ≤ 60 ∨ dep d2 ≤ 60) := by
  unfold plk at h
  simp only [Bool.and_eq_true, Bool.or_eq_true, decide_eq_true_eq] at h
  exact ⟨h.1.1, h.1.2, h.2⟩
theorem g_eq {d1 d2 : D} (h : oEq d1 d2 m Φ) : RD X (R_eq X.K) d1 d2 m Φ := by
  obtain ⟨h1, h2⟩ := gd_t h
  obtain ⟨p1, p2, p3⟩ := plk_of h1
  exact eq_dd h2 p1 p2 p3
theorem g_ne {d1 d2 : D} (h : oNe d1 d2 m Φ) : RD X (R_ne X.K) d1 d2 m Φ := by
  obtain ⟨h1, h2⟩ := gd_t h
  obtain ⟨p1, p2, p3⟩ := plk_of h1
  exact ne_dd h2 p1 p2 p3
theorem alk_of {d1 d2 : D} (h : alk d1 d2 = true) : pl d1 = true ∧ pl d2 = true ∧ (dep d1 ≤ 60 ∨ dep d2 ≤ 60) ∧ PySem.W.alike (py d1) (py d2) = true ∧ py d1 ≠ .none := by
  unfold alk at h
  simp only [Bool.and_eq_true] at h
  obtain ⟨p1, p2, p3⟩ := plk_of h.1.1
  refine ⟨p1, p2, p3, h.1.2, fun e => ?_⟩
  have := h.2
  unfold nn at this
  rw [e] at this
  cases this
theorem g_lt {d1 d2 : D} (h : oLt d1 d2 m Φ) : RD X (R_lt X.K) d1 d2 m Φ := by
  unfold oLt at h
  split at h
  · exact lt_ii' h
  · obtain ⟨h1, h2⟩ := gd_t h
    obtain ⟨p1, p2, p3, p4, p5⟩ := alk_of h1
    exact lt_dd h2 p4 p5 p1 p2 p3
theorem g_gt {d1 d2 : D} (h : oGt d1 d2 m Φ) : RD X (R_gt X.K) d1 d2 m Φ := by
  unfold oGt at h
  split at h
  · exact gt_ii' h
  · obtain ⟨h1, h2⟩ := gd_t h
    obtain ⟨p1, p2, p3, p4, p5⟩ := alk_of h1
    exact gt_dd h2 p4 p5 p1 p2 p3
theorem g_le {d1 d2 : D} (h : oLe d1 d2 m Φ) : RD X (R_le X.K) d1 d2 m Φ := by
  unfold oLe at h
  split at h
  · exact le_ii' h
  · obtain ⟨h1, h2⟩ := gd_t h
    obtain ⟨p1, p2, p3, p4, p5⟩ := alk_of h1
    exact le_dd h2 p4 p5 p1 p2 p3
theorem g_ge {d1 d2 : D} (h : oGe d1 d2 m Φ) : RD X (R_ge X.K) d1 d2 m Φ := by
  unfold oGe at h
  split at h
  · exact ge_ii' h
  · obtain ⟨h1, h2⟩ := gd_t h
    obtain ⟨p1, p2, p3, p4, p5⟩ := alk_of h1
    exact ge_dd h2 p4 p5 p1 p2 p3
theorem g_is {d1 d2 : D} (h : oIs d1 d2 m Φ) : RD X R_is d1 d2 m Φ := by
  unfold oIs at h
  split at h
  · exact is_non h
  · exact h.elim
theorem g_isnt {d1 d2 : D} (h : oIsnt d1 d2 m Φ) : RD X R_isnt d1 d2 m Φ := by
  unfold oIsnt at h
  split at h
  · exact isnt_non h
  · exact h.elim
theorem g_ix {d1 d2 : D} (h : oIx d1 d2 m Φ) : RD X (R_ix X.K) d1 d2 m Φ := by
  unfold oIx at h
  split at h
  · obtain ⟨j, e, q⟩ := om_some h; exact ix_l e q
  · obtain ⟨j, e, q⟩ := om_some h; exact ix_t e q
  · obtain ⟨j, e, q⟩ := om_some h; exact ix_c e q
  · obtain ⟨h1, h2⟩ := gd_t h
    obtain ⟨j, e, q⟩ := om_some h2; exact ix_s (of_decide_eq_true h1) e q
  · obtain ⟨l, hl, h2⟩ := h
    obtain ⟨j, e, q⟩ := om_some h2; exact ix_m hl e q
  · exact h.elim
theorem r_add (ha : RE X W a ta) (hb : RE X W b tb) : RE X W (.BinOp a .Add b pos) (o2 oAdd ta tb) := ⟨fun h => ew_add (two g_add ha hb h)⟩
theorem r_sub (ha : RE X W a ta) (hb : RE X W b tb) : RE X W (.BinOp a .Sub b pos) (o2 oSub ta tb) := ⟨fun h => ew_sub (two g_sub ha hb h)⟩
theorem r_mul (ha : RE X W a ta) (hb : RE X W b tb) : RE X W (.BinOp a .Mult b pos) (o2 oMul ta tb) := ⟨fun h => ew_mul (two g_mul ha hb h)⟩
theorem r_mod (ha : RE X W a ta) (hb : RE X W b tb) : RE X W (.BinOp a .Mod b pos) (o2 oMod ta tb) := ⟨fun h => ew_mod (two g_mod ha hb h)⟩
theorem r_fdv (ha : RE X W a ta) (hb : RE X W b tb) : RE X W (.BinOp a .FloorDiv b pos) (o2 oFdv ta tb) := ⟨fun h => ew_fdv (two g_fdv ha hb h)⟩
theorem r_pow (ha : RE X W a ta) (hb : RE X W b tb) : RE X W (.BinOp a .Pow b pos) (o2 oPow ta tb) := ⟨fun h => ew_pow (two g_pow ha hb h)⟩
theorem r_ix (ha : RE X W a ta) (hb : RE X W b tb) (hs : PlainIx b := by intro _ _; rfl) : RE X W (.Subscript a b pos) (o2 oIx ta tb) := ⟨fun h => ew_idx (two g_ix ha hb h) hs⟩
theorem RD.mono {r : R2} {d1 d2 : D} (h : RD X r d1 d2 m Φ) (k : ∀ d m, Φ d m → Ψ d m) : RD X r d1 d2 m Ψ := fun F H x y Q s mm r1 r2 n => h F H x y Q s mm r1 r2 fun v F2 H2 d m2 a r q => n v F2 H2 d m2 a r (k d m2 q)
theorem twoT {g : F2} {r : R2} {Φ : Bool → Mem → Prop} (hr : ∀ {d1 d2 m Φ}, g d1 d2 m Φ → RD X r d1 d2 m Φ) (ha : RE X W a ta) (hb : RE X W b tb) (h : tst (o2 g ta tb) ds m Φ Ξ) : EW X W a ds m (fun d1 m1 => EW X W b ds m1 (fun d2 m2 => RD X r d1 d2 m2 (asT Φ)) Ξ) Ξ := (ha.run h).mono fun _ _ q => (hb.run q).mono fun _ _ q2 => (hr q2).mono fun _ _ z => bB_as z
theorem r_eq (B : Bs X) (ha : RE X W a ta) (hb : RE X W b tb) (hm : behindInMarks .Eq b = false := by first | exact nomark _ | rfl) : RE X W (.Compare a [.Eq] [b] pos) (o2 oEq ta tb) := ⟨fun h => ew_eqq B (two g_eq ha hb h) hm⟩
theorem t_eq (B : Bs X) (ha : RE X W a ta) (hb : RE X W b tb) (hm : behindInMarks .Eq b = false := by first | exact nomark _ | rfl) : RT X W (.Compare a [.Eq] [b] pos) (tst (o2 oEq ta tb)) := ⟨fun h => tw_eqq B (twoT g_eq ha hb h) hm⟩
theorem r_ne (B : Bs X) (ha : RE X W a ta) (hb : RE X W b tb) (hm : behindInMarks .NotEq b = false := by first | exact nomark _ | rfl) : RE X W (.Compare a [.NotEq] [b] pos) (o2 oNe ta tb) := ⟨fun h => ew_neq B (two g_ne ha hb h) hm⟩
theorem t_ne (B : Bs X) (ha : RE X W a ta) (hb : RE X W b tb) (hm : behindInMarks .NotEq b = false := by first | exact nomark _ | rfl) : RT X W (.Compare a [.NotEq] [b] pos) (tst (o2 oNe ta tb)) := ⟨fun h => tw_neq B (twoT g_ne ha hb h) hm⟩
theorem r_lt (B : Bs X) (ha : RE X W a ta) (hb : RE X W b tb) (hm : behindInMarks .Lt b = false := by first | exact nomark _ | rfl) : RE X W (.Compare a [.Lt] [b] pos) (o2 oLt ta tb) := ⟨fun h => ew_ltq B (two g_lt ha hb h) hm⟩
theorem t_lt (B : Bs X) (ha : RE X W a ta) (hb : RE X W b tb) (hm : behindInMarks .Lt b = false := by first | exact nomark _ | rfl) : RT X W (.Compare a [.Lt] [b] pos) (tst (o2 oLt ta tb)) := ⟨fun h => tw_ltq B (twoT g_lt ha hb h) hm⟩
theorem r_le (B : Bs X) (ha : RE X W a ta) (hb : RE X W b tb) (hm : behindInMarks .LtE b = false := by first | exact nomark _ | rfl) : RE X W (.Compare a [.LtE] [b] pos) (o2 oLe ta tb) := ⟨fun h => ew_leq B (two g_le ha hb h) hm⟩
theorem t_le (B : Bs X) (ha : RE X W a ta) (hb : RE X W b tb) (hm : behindInMarks .LtE b = false := by first | exact nomark _ | rfl) : RT X W (.Compare a [.LtE] [b] pos) (tst (o2 oLe ta tb)) := ⟨fun h => tw_leq B (twoT g_le ha hb h) hm⟩
theorem r_gt (B : Bs X) (ha : RE X W a ta) (hb : RE X W b tb) (hm : behindInMarks .Gt b = false := by first | exact nomark _ | rfl) : RE X W (.Compare a [.Gt] [b] pos) (o2 oGt ta tb) := ⟨fun h => ew_gtq B (two g_gt ha hb h) hm⟩
theorem t_gt (B : Bs X) (ha : RE X W a ta) (hb : RE X W b tb) (hm : behindInMarks .Gt b = false := by first | exact nomark _ | rfl) : RT X W (.Compare a [.Gt] [b] pos) (tst (o2 oGt ta tb)) := ⟨fun h => tw_gtq B (twoT g_gt ha hb h) hm⟩
theorem r_ge (B : Bs X) (ha : RE X W a ta) (hb : RE X W b tb) (hm : behindInMarks .GtE b = false := by first | exact nomark _ | rfl) : RE X W (.Compare a [.GtE] [b] pos) (o2 oGe ta tb) := ⟨fun h => ew_geq B (two g_ge ha hb h) hm⟩
theorem t_ge (B : Bs X) (ha : RE X W a ta) (hb : RE X W b tb) (hm : behindInMarks .GtE b = false := by first | exact nomark _ | rfl) : RT X W (.Compare a [.GtE] [b] pos) (tst (o2 oGe ta tb)) := ⟨fun h => tw_geq B (twoT g_ge ha hb h) hm⟩
theorem r_is (ha : RE X W a ta) (hb : RE X W b tb) (hm : behindInMarks .Is b = false := by first | exact nomark _ | rfl) : RE X W (.Compare a [.Is] [b] pos) (o2 oIs ta tb) := ⟨fun h => ew_isq (two g_is ha hb h) hm⟩
theorem t_is (ha : RE X W a ta) (hb : RE X W b tb) (hm : behindInMarks .Is b = false := by first | exact nomark _ | rfl) : RT X W (.Compare a [.Is] [b] pos) (tst (o2 oIs ta tb)) := ⟨fun h => tw_isq (twoT g_is ha hb h) hm⟩
theorem r_isnt (ha : RE X W a ta) (hb : RE X W b tb) (hm : behindInMarks .IsNot b = false := by first | exact nomark _ | rfl) : RE X W (.Compare a [.IsNot] [b] pos) (o2 oIsnt ta tb) := ⟨fun h => ew_isntq (two g_isnt ha hb h) hm⟩
theorem t_isnt (ha : RE X W a ta) (hb : RE X W b tb) (hm : behindInMarks .IsNot b = false := by first | exact nomark _ | rfl) : RT X W (.Compare a [.IsNot] [b] pos) (tst (o2 oIsnt ta tb)) := ⟨fun h => tw_isntq (twoT g_isnt ha hb h) hm⟩
end
end
end G
namespace G
open PySem PySem.Spec PyProof.Rows L2
section
variable {X : Cx} {W : WX} {e a b c : Expr} {es : List Expr} {st : Stmt} {sts rest : List Stmt} {ds : DS} {m : Mem} {Φ Ψ : D → Mem → Prop} {Ξ : XP} {N N' : En} {p pos : Pos} {d : D} {x : Str} {i k n : Nat} {f C : Addr} {sp : SpD}
variable {ta tb tc : ME} {ca cb cc : MT} {aa : MA} {sa sb : MS} {ga : MG}
theorem if_of {k : Bool} {A B A' B' : Prop} (h : br k A B) (h1 : A → A') (h2 : B → B') : if k = true then A' else B' := by
  cases k with
  | true => exact iteT (h1 h)
  | false => exact iteF (h2 h)
theorem asT.of {d : D} {m : Mem} {f : Bool → Prop} {Φ : Bool → Mem → Prop} (h : bB d f) (k : ∀ b, f b → Φ b m) : asT Φ d m := by
  cases d with
  | bl b => exact ⟨b, rfl, k b h⟩
  | _ => exact False.elim h
theorem r_not (ha : RE X W a ta) : RE X W (.UnaryOp .Not a pos) (not_ ta) := ⟨fun h => ew_not ((ha.run h).mono fun _ _ q => asT.of q fun _ z => z)⟩
theorem r_one {op} (ha : RE X W a ta) : RE X W (.BoolOp op [a] pos) ta := ⟨fun h => ew_one (ha.run h)⟩
theorem r_and {rs : List Expr} (ha : RE X W a ta) (hb : RE X W (.BoolOp .And (b :: rs) pos) tb) : RE X W (.BoolOp .And (a :: b :: rs) pos) (and_ ta tb) := ⟨fun h => ew_and ((ha.run h).mono fun _ _ q => asT.of q fun _ z => if_of z hb.run fun w => w)⟩
theorem r_or {rs : List Expr} (ha : RE X W a ta) (hb : RE X W (.BoolOp .Or (b :: rs) pos) tb) : RE X W (.BoolOp .Or (a :: b :: rs) pos) (or_ ta tb) := ⟨fun h => ew_or ((ha.run h).mono fun _ _ q => asT.of q fun _ z => if_of z (fun w => w) hb.run)⟩
theorem r_ite (hc : RT X W c cc) (ha : RE X W a ta) (hb : RE X W b tb) : RE X W (.IfExp c a b pos) (ite_ cc ta tb) := ⟨fun h => ew_if ((hc.run h).mono fun _ _ q => if_of q ha.run hb.run)⟩
theorem t_val (ha : RE X W e ta) (he : ∀ whole, isTrue e X.env whole = (do let v ← whole; standAt e.pos; holding [v] (truthy v)) := by intro _; rfl) : RT X W e (tst ta) := ⟨fun h => tw_val ((ha.run h).mono fun _ _ q => bB_as q) he⟩
theorem t_not (ha : RT X W a ca) : RT X W (.UnaryOp .Not a pos) (tnot ca) := ⟨fun h => tw_not (ha.run h)⟩
theorem t_bo {op} {es : List Expr} (h : RW X W (.BoolOp op es pos) ca) : RT X W (.BoolOp op es pos) ca := ⟨fun q => tw_bo (h.run q)⟩
theorem w_and1 (ha : RT X W a ca) : RW X W (.BoolOp .And [a] pos) ca := ⟨fun h => ww_and1 (ha.run h)⟩
theorem w_or1 (ha : RT X W a ca) : RW X W (.BoolOp .Or [a] pos) ca := ⟨fun h => ww_or1 (ha.run h)⟩
theorem w_and {rs : List Expr} (ha : RT X W a ca) (hb : RW X W (.BoolOp .And (b :: rs) pos) cb) : RW X W (.BoolOp .And (a :: b :: rs) pos) (tand ca cb) := ⟨fun h => ww_and ((ha.run h).mono fun _ _ q => if_of q hb.run fun w => w)⟩
theorem w_or {rs : List Expr} (ha : RT X W a ca) (hb : RW X W (.BoolOp .Or (b :: rs) pos) cb) : RW X W (.BoolOp .Or (a :: b :: rs) pos) (tor ca cb) := ⟨fun h => ww_or ((ha.run h).mono fun _ _ q => if_of q (fun w => w) hb.run)⟩
theorem gdd {c : Prop} [Decidable c] {A : Prop} (h : gd (decide c) A) : c ∧ A := ⟨of_decide_eq_true (gd_t h).1, (gd_t h).2⟩
theorem r_tup {k} (ha : RA X W es aa) : RE X W (.Tuple es k pos) (tup_ aa) := ⟨fun h => ew_tup ((ha.run h).mono fun _ _ q => gdd q)⟩
theorem r_lst (ha : RA X W es aa) : RE X W (.List es pos) (lst_ aa) := ⟨fun h => ew_lst ((ha.run h).mono fun _ _ q => gdd q)⟩
theorem r_lstM (ha : RA X W es aa) : RE X W (.List es pos) (lstM_ aa) := ⟨fun h => ew_lstM ((ha.run h).mono fun _ _ q => gdd q)⟩
theorem r_len (B : Bs X) (ha : RE X W a ta) (hg : Gl X "len" := by rfl) (he : starEach [a] X.env = [(false, eval a X.env)] := by rfl) : RE X W (.Call (.Name "len" p) [a] [] pos) (o1 fLen ta) := ⟨fun h => ew_lenB B ((ha.run h).mono fun _ _ q => by
  obtain ⟨j, e, q⟩ := om_some q
  exact ⟨j, e, (gdd q).1, (gdd q).2⟩) hg he⟩
theorem r_intc (B : Bs X) (ha : RE X W a ta) (hg : Gl X "int" := by rfl) (he : starEach [a] X.env = [(false, eval a X.env)] := by rfl) : RE X W (.Call (.Name "int" p) [a] [] pos) (o1 fInt ta) := ⟨fun h => ew_intB B ((ha.run h).mono fun _ _ q => om_some q) hg he⟩
theorem r_isi_int {q2 : Pos} (B : Bs X) (ha : RE X W a ta) (hg : Gl X "isinstance" := by rfl) (hgT : Gl X "int" := by rfl) (he : starEach [a, .Name "int" q2] X.env = [(false, eval a X.env), (false, eval (.Name "int" q2) X.env)] := by rfl) : RE X W (.Call (.Name "isinstance" p) [a, .Name "int" q2] [] pos) (o1 (fIs "int") ta) := ⟨fun h => ew_isi_int B ((ha.run h).mono fun _ _ q => om_some q) hg hgT he⟩
theorem r_isi_bool {q2 : Pos} (B : Bs X) (ha : RE X W a ta) (hg : Gl X "isinstance" := by rfl) (hgT : Gl X "bool" := by rfl) (he : starEach [a, .Name "bool" q2] X.env = [(false, eval a X.env), (false, eval (.Name "bool" q2) X.env)] := by rfl) : RE X W (.Call (.Name "isinstance" p) [a, .Name "bool" q2] [] pos) (o1 (fIs "bool") ta) := ⟨fun h => ew_isi_bool B ((ha.run h).mono fun _ _ q => om_some q) hg hgT he⟩
theorem r_isi_str {q2 : Pos} (B : Bs X) (ha : RE X W a ta) (hg : Gl X "isinstance" := by rfl) (hgT : Gl X "str" := by rfl) (he : starEach [a, .Name "str" q2] X.env = [(false, eval a X.env), (false, eval (.Name "str" q2) X.env)] := by rfl) : RE X W (.Call (.Name "isinstance" p) [a, .Name "str" q2] [] pos) (o1 (fIs "str") ta) := ⟨fun h => ew_isi_str B ((ha.run h).mono fun _ _ q => om_some q) hg hgT he⟩
theorem r_isi_tuple {q2 : Pos} (B : Bs X) (ha : RE X W a ta) (hg : Gl X "isinstance" := by rfl) (hgT : Gl X "tuple" := by rfl) (he : starEach [a, .Name "tuple" q2] X.env = [(false, eval a X.env), (false, eval (.Name "tuple" q2) X.env)] := by rfl) : RE X W (.Call (.Name "isinstance" p) [a, .Name "tuple" q2] [] pos) (o1 (fIs "tuple") ta) := ⟨fun h => ew_isi_tuple B ((ha.run h).mono fun _ _ q => om_some q) hg hgT he⟩
theorem r_isi_list {q2 : Pos} (B : Bs X) (ha : RE X W a ta) (hg : Gl X "isinstance" := by rfl) (hgT : Gl X "list" := by rfl) (he : starEach [a, .Name "list" q2] X.env = [(false, eval a X.env), (false, eval (.Name "list" q2) X.env)] := by rfl) : RE X W (.Call (.Name "isinstance" p) [a, .Name "list" q2] [] pos) (o1 (fIs "list") ta) := ⟨fun h => ew_isi_list B ((ha.run h).mono fun _ _ q => om_some q) hg hgT he⟩
theorem r_isi_dict {q2 : Pos} (B : Bs X) (ha : RE X W a ta) (hg : Gl X "isinstance" := by rfl) (hgT : Gl X "dict" := by rfl) (he : starEach [a, .Name "dict" q2] X.env = [(false, eval a X.env), (false, eval (.Name "dict" q2) X.env)] := by rfl) : RE X W (.Call (.Name "isinstance" p) [a, .Name "dict" q2] [] pos) (o1 (fIs "dict") ta) := ⟨fun h => ew_isi_dict B ((ha.run h).mono fun _ _ q => om_some q) hg hgT he⟩
theorem r_isi_lt {q2 q3 q4 : Pos} {kk} (B : Bs X) (ha : RE X W a ta) (hg : Gl X "isinstance" := by rfl) (hgT : Gl X "list" := by rfl) (hgU : Gl X "tuple" := by rfl)
    (he : starEach [a, .Tuple [.Name "list" q2, .Name "tuple" q3] kk q4] X.env = [(false, eval a X.env), (false, eval (.Tuple [.Name "list" q2, .Name "tuple" q3] kk q4) X.env)] := by rfl) : RE X W (.Call (.Name "isinstance" p) [a, .Tuple [.Name "list" q2, .Name "tuple" q3] kk q4] [] pos) (o1 fIsLT ta) := ⟨fun h => ew_isi_lt B ((ha.run h).mono fun _ _ q => om_some q) hg hgT hgU he⟩
theorem r_isiC {q2 : Pos} {cn : Str} (B : Bs X) (T : ClsI X.K C) (hC : X.mg cn = some (.ref C)) (ha : RE X W a ta) (hg : Gl X "isinstance" := by rfl) (hgC : Gl X cn := by rfl)
    (hdb : (cn == ("__debug__" : Str)) = false := by decide) (he : starEach [a, .Name cn q2] X.env = [(false, eval a X.env), (false, eval (.Name cn q2) X.env)] := by rfl) : RE X W (.Call (.Name "isinstance" p) [a, .Name cn q2] [] pos) (o1 (fIsC C) ta) := ⟨fun h => ew_isiC T B.bi.b_isinstance hC ((ha.run h).mono fun _ _ q => om_some q) hg hgC hdb he⟩
theorem g_le2 {d1 d2 : D} {Φ : D → Mem → Prop} (h : oLe d1 d2 m Φ) : RD X (R_le X.K) d1 d2 m Φ := g_le h
theorem r_chLL (B : Bs X) (ha : RE X W a ta) (hb : RE X W b tb) (hc : RE X W c tc) (hm : lastMarks [.LtE, .LtE] [b, c] = false := by rfl) : RE X W (.Compare a [.LtE, .LtE] [b, c] pos) (chLL ta tb tc) :=
  ⟨fun h => ew_chLL B ((ha.run h).mono fun _ _ q => (hb.run q).mono fun _ _ q2 => (g_le q2).mono fun _ _ z => asT.of z fun _ w => if_of w (fun y => (hc.run y).mono fun _ _ y2 => g_le y2) fun y => y) hm⟩
/-! ### slices -/
structure RO (X : Cx) (W : WX) (e : Option Expr) (t : MO) : Prop where
  run : ∀ {ds m Φ Ξ}, t ds m Φ Ξ → OW X W e ds m Φ Ξ
variable {oa ob : MO}
theorem o_none : RO X W none no_ := ⟨fun h => h⟩
theorem o_some (ha : RE X W e ta) : RO X W (some e) (so_ ta) := ⟨fun {ds m Φ Ξ} h => (show EW X W e ds m _ Ξ from (ha.run h).mono fun d _ q => by
  cases d with
  | int i => exact ⟨i, rfl, q⟩
  | _ => exact False.elim q)⟩
theorem OW.mono {o : Option Expr} {Φ Ψ : Option Int → Mem → Prop} (h : OW X W o ds m Φ Ξ) (k : ∀ d m, Φ d m → Ψ d m) : OW X W o ds m Ψ Ξ := by
  cases o with
  | none => exact k _ _ h
  | some e => exact EW.mono (show EW X W e ds m _ Ξ from h) fun d m1 ⟨i, e, q⟩ => ⟨i, e, k _ _ q⟩
theorem sd_str {z : Str} {lo hi : Option Int} (hz : z.length ≤ sizeLine) (q : Φ (.str (cutS z lo hi)) m) : SLD X (.str z) lo hi m Φ := fun F H x Q s mm r n => by
  cases r
  exact .inr (.inr ⟨z, rfl, hz, n.now s mm (.str _) q⟩)
theorem r_sl {lo hi : Option Expr} {p2 : Pos} (ha : RE X W e ta) (hl : RO X W lo oa) (hh : RO X W hi ob) : RE X W (.Subscript e (.Slice lo hi none p2) pos) (sl_ ta oa ob) := ⟨fun h => ew_slice ((ha.run h).mono fun d _ q => (hl.run q).mono fun _ _ q2 => (hh.run q2).mono fun _ _ q3 => by
  cases d with
  | lst l => exact sd_lst q3
  | tup l => exact sd_tup q3
  | str z => exact sd_str (gdd q3).1 (gdd q3).2
  | _ => exact False.elim q3)⟩
/-! ### statements -/
theorem b_nil : RB X W [] nil_s := ⟨fun h => bw_nil h⟩
theorem b_cons (ha : RS X W st sa) (hb : RB X W rest sb) : RB X W (st :: rest) (seq sa sb) := ⟨fun {ds m N Ξ} h => bw_cons ((ha.run h).mono ⟨fun _ _ q => hb.run q, fun _ _ q => q, fun _ _ q => q, fun _ _ q => q⟩)⟩
theorem s_ex (ha : RE X W e ta) (hs : swapsWith e none pos.line X.env = pure false := by rfl) : RS X W (.Expr e pos) (ex_ ta) := ⟨fun h => sw_expr (ha.run h) hs⟩
theorem s_ret (ha : RE X W e ta) : RS X W (.Return (some e) pos) (ret_ ta) := ⟨fun h => sw_ret (ha.run h)⟩
theorem s_retN : RS X W (.Return none pos) retN_ := ⟨fun h => sw_retN h⟩
theorem s_pass : RS X W (.Pass pos) pass_ := ⟨fun h => sw_pass h⟩
theorem s_if {l1 l2 : List Stmt} (hc : RT X W c cc) (ha : RB X W l1 sa) (hb : RB X W l2 sb) : RS X W (.If c l1 l2 pos) (if_ cc sa sb) := ⟨fun h => sw_if ((hc.run h).mono fun _ _ q => if_of q ha.run hb.run)⟩
/-- a name that can be stored -/
theorem s_set {pos' : Pos} (B : Bs X) (n : Nam X.N i x) (hx : Loc X.env.scope x) (hf : X.fn x = true ∨ X.env.scope.names.lookup x = some .local) (ha : RE X W e ta) (hs : swapsWith e (some (.Name x pos')) pos.line X.env = pure false := by rfl) : RS X W (.Assign [.Name x pos'] e pos) (set_ i ta) := ⟨fun h => sw_set i B.nd (ha.run h) n.hN hx hs hf⟩
theorem s_asg {tg : Expr} (hg : RG X W tg ga) (ha : RE X W e ta) (hs : swapsWithSole [tg] e pos.line X.env = pure false := by rfl) (hw : swappedStores [tg] e X.env = pure none := by rfl) (h1 : (assignEach [tg] X.env).map (·.2) = [assign tg X.env] := by rfl) : RS X W (.Assign [tg] e pos) (asg_ ga ta) := ⟨fun h => sw_asg ((ha.run h).mono fun _ _ q => hg.run q) hs hw h1⟩
theorem gt_name (B : Bs X) (n : Nam X.N i x) (hx : Loc X.env.scope x) (hf : X.fn x = true ∨ X.env.scope.names.lookup x = some .local) : RG X W (.Name x pos) (g_ i) := ⟨fun h => gw_name i B.nd h n.hN hx hf⟩
theorem gt_nil : RGs X W [] gsN := ⟨fun {l ds m Φ Ξ} h => by
  cases l with
  | nil => exact gws_nil h
  | cons => exact False.elim h⟩
theorem gt_cons {r : List D → DS → Mem → (DS → Mem → Prop) → XP → Prop} (hg : RG X W e ga) (hr : RGs X W es r) (hs : (assignEach (e :: es) X.env).map (·.2) = assign e X.env :: (assignEach es X.env).map (·.2) := by rfl) : RGs X W (e :: es) (gsC ga r) := ⟨fun {l ds m Φ Ξ} h => by
  cases l with
  | nil => exact False.elim h
  | cons d l => exact gws_cons ((hg.run (show ga d ds m (fun ds1 m1 => r l ds1 m1 Φ Ξ) Ξ from h)).mono fun _ _ q => hr.run q) hs⟩
theorem gt_tup {k n : Nat} {r : List D → DS → Mem → (DS → Mem → Prop) → XP → Prop} (hr : RGs X W es r) (hn : (assignEach es X.env).length = n := by rfl) (hst : (assignEach es X.env).findIdx? (·.1) = none := by rfl) (hc : X.calm = true := by rfl) : RG X W (.Tuple es k pos) (gT n r) := ⟨fun {d ds m Φ Ξ} h => by
  cases d with
  | tup l => exact gw_tup (gdd h).1 (hr.run (gdd h).2) hn hst hc
  | _ => exact False.elim h⟩
theorem gt_sub {o ix : Expr} (ho : RE X W o ta) (hx : RE X W ix tb)
    (ha : ∀ v, assign (.Subscript o ix pos) X.env v = (do
      let obj ← holding [v] (eval o X.env)
      let sub ← holding [v, obj] (eval ix X.env)
      standAt pos
      holding [v, obj, sub] (setItem obj sub v)
      release [v, obj, sub] []) := by intro _; rfl) : RG X W (.Subscript o ix pos) (gSub ta tb) := ⟨fun {d ds m Φ Ξ} h => gw_subM ((ho.run h).mono fun d1 _ q => (hx.run q).mono fun d2 m2 q2 => by
  unfold subM at q2
  split at q2
  · next r k r' l rest =>
    obtain ⟨rfl, q3⟩ := q2
    obtain ⟨j, e, q4⟩ := om_some q3
    exact ⟨_, _, _, _, _, rfl, rfl, rfl, e, q4⟩
  · exact q2.elim) ha⟩
theorem s_par (i j : Nat) {y : Str} {px py pt : Pos} {kt k2 pt2} (B : Bs X) (ha : RE X W a ta) (hb : RE X W b tb) (hi : X.N[i]? = some x := by rfl) (hj : X.N[j]? = some y := by rfl) (hij : i ≠ j := by decide)
    (hx : X.env.scope.names.lookup x = some .local := by rfl) (hy : X.env.scope.names.lookup y = some .local := by rfl) (hc : X.calm = true := by rfl)
    (hw : swappedStores [.Tuple [.Name x px, .Name y py] kt pt] (.Tuple [a, b] k2 pt2) X.env = pure (some [x, y]) := by rfl) (hs : swapsWithSole [.Tuple [.Name x px, .Name y py] kt pt] (.Tuple [a, b] k2 pt2) pos.line X.env = pure false := by rfl)
    (h1 : starEach [a, b] X.env = (false, eval a X.env) :: starEach [b] X.env := by rfl) (h2 : starEach [b] X.env = (false, eval b X.env) :: starEach [] X.env := by rfl) :
    RS X W (.Assign [.Tuple [.Name x px, .Name y py] kt pt] (.Tuple [a, b] k2 pt2) pos) (par_ i j ta tb) := ⟨fun h => sw_par i j B.nd (aw_cons ((ha.run h).mono fun _ _ q => aw_cons ((hb.run q).mono fun _ _ q2 => aw_nil ⟨_, _, rfl, q2⟩) h2) h1) hi hj hij hx hy hc hw hs⟩
/-! ### walking -/
theorem i_l {tg : Expr} (ha : RE X W e ta) : RI X W tg e (it_l ta) := ⟨fun h => iw_lst ((ha.run h).mono fun d _ q => by
  cases d with
  | lst l => exact ⟨l, rfl, q⟩
  | _ => exact False.elim q)⟩
theorem i_t {tg : Expr} (ha : RE X W e ta) : RI X W tg e (it_t ta) := ⟨fun h => iw_tup ((ha.run h).mono fun d _ q => by
  cases d with
  | tup l => exact ⟨l, rfl, q⟩
  | _ => exact False.elim q)⟩
theorem i_s {tg : Expr} (ha : RE X W e ta) : RI X W tg e (it_s ta) := ⟨fun h => iw_str ((ha.run h).mono fun d _ q => by
  cases d with
  | str l => exact ⟨l, rfl, q⟩
  | _ => exact False.elim q)⟩
theorem RgW.nat {n : Nat} {A : Prop} (h : n < 4611686018427387904) (q : A) : RgW (n : Int) A := by
  have e : (2 : Int) ^ 62 = 4611686018427387904 := by decide
  exact ⟨by rw [e]; omega, by rw [e]; omega, q⟩
theorem RgW.sm {j : Int} {A : Prop} (h1 : -1000000 ≤ j) (h2 : j ≤ 1000000) (q : A) : RgW j A := by
  have e : (2 : Int) ^ 62 = 4611686018427387904 := by decide
  exact ⟨by rw [e]; omega, by rw [e]; omega, q⟩
theorem i_r {tg : Expr} (B : Bs X) (ha : RE X W a ta) (hg : Gl X "range" := by rfl) (hs : starEach [a] X.env = [(false, eval a X.env)] := by rfl) : RI X W tg (.Call (.Name "range" p) [a] [] pos) (it_r ta) := ⟨fun h => iw_rng1 B.bi.b_range ((ha.run h).mono fun d _ q => by
  cases d with
  | int j => exact ⟨j, rfl, q.lo, q.hi, q.run⟩
  | _ => exact False.elim q) hg hs⟩
theorem i_r2 {tg : Expr} (B : Bs X) (ha : RE X W a ta) (hb : RE X W b tb) (hg : Gl X "range" := by rfl) (hs : starEach [a, b] X.env = [(false, eval a X.env), (false, eval b X.env)] := by rfl) (hs2 : starEach [b] X.env = [(false, eval b X.env)] := by rfl) : RI X W tg (.Call (.Name "range" p) [a, b] [] pos) (it_r2 ta tb) := ⟨fun h => iw_rng2 B.bi.b_range ((ha.run h).mono fun d1 _ q => (hb.run q).mono fun d2 _ q2 => by
  split at q2
  · next i j =>
    exact ⟨i, j, rfl, rfl, ⟨q2.lo, q2.hi, q2.run.lo, q2.run.hi⟩, q2.run.run⟩
  · exact q2.elim) hg hs hs2⟩
theorem i_e {elts : List Expr} {kk : Nat} {tpos : Pos} (B : Bs X) (ha : RE X W a ta) (hg : Gl X "enumerate" := by rfl) (hs : starEach [a] X.env = [(false, eval a X.env)] := by rfl) : RI X W (.Tuple elts kk tpos) (.Call (.Name "enumerate" p) [a] [] pos) (it_e ta) := ⟨fun h => iw_enum B.bi.b_enumerate ((ha.run h).mono fun d _ q => by
  cases d with
  | lst l => exact ⟨l, .lst l, q⟩
  | tup l => exact ⟨l, .tup l, q⟩
  | str l => exact ⟨_, .str l, q⟩
  | _ => exact False.elim q) hg hs⟩
theorem BW.mono {sts : List Stmt} (h : BW X W sts ds m N Ξ) (k : EnLe N N') : BW X W sts ds m N' Ξ := fun F H σ s De n x => h F H σ s De (n.le k) x
theorem s_for {tg iter : Expr} {body : List Stmt} {it : MA} (hp : PassesOwn (model X.prog X.w) X.A X.env X.xe) (hi : RI X W tg iter it) (hg : RG X W tg ga) (hb : RB X W body sa) (hc : X.calm = true := by rfl) (hs : ∀ x, foldedSetIterable iter X.env x = pure x := by intro _; rfl) : RS X W (.For tg iter body [] pos) (for_ it ga sa) :=
  ⟨fun h => sw_for hp ((hi.run h).mono fun items m1 ⟨⟨I, h0, ht, he⟩⟩ => ⟨I, h0, fun i d ds2 m2 hd q => (hg.run (ht i d ds2 m2 hd q)).mono fun _ _ q2 => hb.run q2, he⟩) hc hs⟩
theorem s_while {body : List Stmt} (hp : PassesOwn (model X.prog X.w) X.A X.env X.xe) (ht : RT X W c cc) (hb : RB X W body sa) : RS X W (.While c body [] pos) (while_ cc sa) :=
  ⟨fun ⟨⟨I, k0, h0, hs⟩⟩ => sw_while hp I k0 h0 fun k ds2 m2 q => (ht.run (hs k ds2 m2 q)).mono fun _ _ q2 => if_of q2 hb.run fun z => z⟩
end
end G
namespace G
open PySem PySem.Spec PyProof.Rows L2
/-! ### what a def's text stands in -/
structure Vw (P : Program) (w : World) (K : PySem.W.Frag) (mg : Str → Option Value) (base : Heap) (k : Nat) (X : Cx) (W : WX) : Prop where
  bs : Bs X
  room : Room k X.A
  tk : Takes X W
  eP : X.prog = P
  eW : X.w = w
  eK : X.K = K
  eM : X.mg = mg
  eB : X.base = base
section
variable {P : Program} {w : World} {K : PySem.W.Frag} {mg : Str → Option Value} {base : Heap}
variable {X : Cx} {W : WX} {e a b c : Expr} {es : List Expr} {st : Stmt} {sts rest : List Stmt} {ds : DS} {m : Mem} {Φ Ψ : D → Mem → Prop} {Ξ : XP} {N N' : En} {p pos : Pos} {d : D} {x : Str} {i j k n : Nat} {f C : Addr} {sp : SpD}
variable {ta tb tc : ME} {ca cb cc : MT} {aa : MA} {sa sb : MS} {ga : MG}
theorem Vw.fn (V : Vw P w K mg base k X W) (F : FnD P w K mg base j x f n sp) : FnD X.prog X.w X.K X.mg X.base j x f n sp := by rw [V.eP, V.eW, V.eK, V.eM, V.eB]; exact F
theorem Vw.md (V : Vw P w K mg base k X W) (F : MkD P w K mg base j x C n sp) : MkD X.prog X.w X.K X.mg X.base j x C n sp := by rw [V.eP, V.eW, V.eK, V.eM, V.eB]; exact F
theorem Vw.er {fs : List Str} (V : Vw P w K mg base k X W) (F : Err P w K mg base x C fs) : Err X.prog X.w X.K X.mg X.base x C fs := by rw [V.eP, V.eW, V.eK, V.eM, V.eB]; exact F
theorem Vw.tr (V : Vw P w K mg base k X W) {W' : WX} {pn : List (Addr × Obj)} {xe : Value → Shared → Prop} (t : Takes (X.tr pn xe) W') : Vw P w K mg base k (X.tr pn xe) W' := ⟨⟨V.bs.hu, V.bs.nd, V.bs.bi⟩, V.room, t, V.eP, V.eW, V.eK, V.eM, V.eB⟩
theorem takes_no {X : Cx} : Takes X WF := fun u s' ⟨_, _, _, _, _, _, _, _, _, _, _, _, _, _, _, _, w⟩ => w.elim
theorem Vw.blk (V : Vw P w K mg base k X W) {s0 : Shared} {H0 : Hp} {scope : Scope} {env : Env} {fp : List Addr} : Vw P w K mg base k (X.blk s0 H0 scope env fp) WF := ⟨⟨V.bs.hu, V.bs.nd, V.bs.bi⟩, V.room, takes_no, V.eP, V.eW, V.eK, V.eM, V.eB⟩
theorem Bs.blk (B : Bs X) {s0 : Shared} {H0 : Hp} {scope : Scope} {env : Env} {fp : List Addr} : Bs (X.blk s0 H0 scope env fp) := ⟨B.hu, B.nd, B.bi⟩
/-! ### calls -/
theorem r_call (V : Vw P w K mg base k X W) (F : FnE P w K mg base j x n sp) (ha : RA X W (e :: es) aa) (hj : j ≤ k := by decide) (hg : Gl X x := by rfl)
    (hdb : (x == ("__debug__" : Str)) = false := by decide) (he : starEach (e :: es) X.env = (false, eval e X.env) :: starEach es X.env := by rfl) (hpl : (backTo pos (starEach es X.env)).any (·.1) = false := by rfl) : RE X W (.Call (.Name x p) (e :: es) [] pos) (call_ n sp aa) := ⟨fun h => by
  obtain ⟨f, F⟩ := F
  exact ew_call (V.fn F) (V.room.mono hj) V.tk ((ha.run h).mono fun _ _ q => ⟨(gdd q).1, (gdd q).2.run⟩) hg hdb he hpl⟩
/-- C(..), an instance that stays as it is -/
structure MakeW (C : Addr) (sp : SpD) (l : List D) (m : Mem) (Φ : D → Mem → Prop) (Ψ : XF) : Prop where
  run : ∀ x, x ∉ dom m → sp (.ref x :: l) ((x, .obj C [] []) :: m) (fun d m2 => d = .non ∧ ∃ ns l2 m3, m2 = (x, .obj C ns l2) :: m3 ∧ Φ (.ins C ns l2) m3) (fun C' fs m2 => ∃ c m3, m2 = (x, c) :: m3 ∧ Ψ C' fs m3)
def make_ (C : Addr) (n : Nat) (sp : SpD) (a : MA) : ME := fun ds m Φ Ξ => a ds m (fun l m1 => gd (decide (l.length = n)) (MakeW C sp l m1 Φ (Ξ ds))) Ξ
theorem r_make (V : Vw P w K mg base k X W) (F : MkD P w K mg base j x C n sp) (ha : RA X W (e :: es) aa) (hj : j + 1 ≤ k := by decide) (hg : Gl X x := by rfl)
    (hdb : (x == ("__debug__" : Str)) = false := by decide) (he : starEach (e :: es) X.env = (false, eval e X.env) :: starEach es X.env := by rfl) (hpl : (backTo pos (starEach es X.env)).any (·.1) = false := by rfl) : RE X W (.Call (.Name x p) (e :: es) [] pos) (make_ C n sp aa) := ⟨fun h => ew_make (V.md F) (V.room.mono hj) V.tk ((ha.run h).mono fun _ _ q => ⟨(gdd q).1, (gdd q).2.run⟩) hg hdb he hpl⟩
/-- C(..), an instance that changes -/
structure MakeMW (C : Addr) (sp : SpD) (l : List D) (m : Mem) (Φ : D → Mem → Prop) (Ψ : XF) : Prop where
  run : ∀ x, x ∉ dom m → sp (.ref x :: l) ((x, .obj C [] []) :: m) (fun d m2 => d = .non ∧ Φ (.ref x) m2) (fun C' fs m2 => ∃ c m3, m2 = (x, c) :: m3 ∧ Ψ C' fs m3)
def makeM_ (C : Addr) (n : Nat) (sp : SpD) (a : MA) : ME := fun ds m Φ Ξ => a ds m (fun l m1 => gd (decide (l.length = n)) (MakeMW C sp l m1 Φ (Ξ ds))) Ξ
theorem r_makeM (V : Vw P w K mg base k X W) (F : MkD P w K mg base j x C n sp) (ha : RA X W (e :: es) aa) (hj : j + 1 ≤ k := by decide) (hg : Gl X x := by rfl)
    (hdb : (x == ("__debug__" : Str)) = false := by decide) (he : starEach (e :: es) X.env = (false, eval e X.env) :: starEach es X.env := by rfl) (hpl : (backTo pos (starEach es X.env)).any (·.1) = false := by rfl) : RE X W (.Call (.Name x p) (e :: es) [] pos) (makeM_ C n sp aa) := ⟨fun h => ew_makeM (V.md F) (V.room.mono hj) V.tk ((ha.run h).mono fun _ _ q => ⟨(gdd q).1, (gdd q).2.run⟩) hg hdb he hpl⟩
/-! ### raising -/
theorem s_raise0 {q : Pos} (V : Vw P w K mg base k X W) (R : Err P w K mg base x C []) (hk : 2 ≤ k := by decide) (hg : Gl X x := by rfl) (hdb : (x == ("__debug__" : Str)) = false := by decide) (hc : X.calm = true := by rfl) : RS X W (.Raise (some (.Call (.Name x p) [] [] q)) none pos) (raise0 C) := ⟨fun h => sw_raise V.tk (kw_err0 (V.er R) (V.room.mono hk) h hg hdb) hc⟩
theorem s_raise {q : Pos} {fs : List Str} (V : Vw P w K mg base k X W) (R : Err P w K mg base x C fs) (ha : RA X W (e :: es) aa) (hne : fs ≠ [] := by decide) (hz : fs.length ≤ 1000 := by decide) (hk : 2 ≤ k := by decide) (hg : Gl X x := by rfl) (hdb : (x == ("__debug__" : Str)) = false := by decide) (hc : X.calm = true := by rfl)
    (he : starEach (e :: es) X.env = (false, eval e X.env) :: starEach es X.env := by rfl) (hpl : (backTo q (starEach es X.env)).any (·.1) = false := by rfl) : RS X W (.Raise (some (.Call (.Name x p) (e :: es) [] q)) none pos) (raise_ C fs aa) := ⟨fun h => sw_raise V.tk (kw_err (V.er R) hne hz (V.room.mono hk) ((ha.run h).mono fun _ _ q => gdd q) hg hdb he hpl) hc⟩
/-! ### fields -/
def fFld (C : Addr) (ns : List Str) (j : Nat) : F1 := fun d m Φ => match d with
  | .ins C' ns' l => (C' = C ∧ ns' = ns) ∧ om l[j]? fun d => Φ d m
  | _ => False
def fFldM (C : Addr) (ns : List Str) (j : Nat) : F1 := fun d m Φ => match d with
  | .ref r => ∃ l, (r, MC.obj C ns l) ∈ m ∧ om l[j]? fun d => Φ d m
  | _ => False
theorem r_fld {g : Str} {ns : List Str} (T : Cls X.K C) (na : NoAttr X.K C g) (ha : RE X W e ta) (hn : ns.Nodup := by decide) (hj : ns[j]? = some g := by rfl) (hb : attributeBase e g X.env (eval e X.env) = eval e X.env := by rfl) : RE X W (.Attribute e g pos) (o1 (fFld C ns j) ta) := ⟨fun h => ew_fld j T na ((ha.run h).mono fun d _ q => by
  cases d with
  | ins C' ns' l =>
    obtain ⟨⟨rfl, rfl⟩, q2⟩ := q
    obtain ⟨d', e, q3⟩ := om_some q2
    exact ⟨_, l, d', rfl, hn, hj, e, q3⟩
  | _ => exact False.elim q) hb⟩
/-! ### comprehensions, one generator -/
def TBo (t : Option MT) (ds : DS) (m : Mem) (Φ : Bool → Mem → Prop) : Prop := match t with
  | none => Φ true m
  | some t => t ds m Φ X0
structure LcW (asg : D → DS → Option DS) (t : Option MT) (el : ME) (items : List D) (ds : DS) (m : Mem) (Φ : D → Mem → Prop) : Prop where
  run : ∃ I : Nat → List D → Mem → Prop, I 0 [] m ∧
    (∀ i d acc m2, items[i]? = some d → I i acc m2 → om (asg d ds) fun ds3 => TBo t ds3 m2 fun k m3 => br k (el ds3 m3 (fun y m4 => acc.length < sizeLine ∧ I (i + 1) (acc ++ [y]) m4) X0) (I (i + 1) acc m3)) ∧ ∀ acc m2, I items.length acc m2 → Φ (.lst acc) m2
def lc_ (it : MA) (asg : D → DS → Option DS) (t : Option MT) (el : ME) : ME := fun ds m Φ Ξ => it ds m (fun items m1 => LcW asg t el items ds m1 Φ) Ξ
/-- what a comprehension's block asks -/
structure REb (X : Cx) (scope : Scope) (e : Expr) (t : ME) : Prop where
  run : ∀ (s0 : Shared) (H0 : Hp) (C : Addr) (cl : List (Str × Addr)) (fp : List Addr), RE (X.blk s0 H0 scope (compEnvC scope cl C X.env) fp) WF e t
structure RTb (X : Cx) (scope : Scope) (ifs : List Expr) (t : Option MT) : Prop where
  run : ∀ {ds m Φ}, TBo t ds m Φ → TBs X scope ifs ds m Φ
variable {scope : Scope}
theorem tb_none : RTb X scope [] none := ⟨fun h => h⟩
theorem tb_one (h : ∀ (s0 : Shared) (H0 : Hp) (C : Addr) (cl : List (Str × Addr)) (fp : List Addr), RT (X.blk s0 H0 scope (compEnvC scope cl C X.env) fp) WF c cc) : RTb X scope [c] (some cc) := ⟨fun q s0 H0 C cl fp => (h s0 H0 C cl fp).run q⟩
theorem TBs.mono {ifs : List Expr} {Φ Ψ : Bool → Mem → Prop} (h : TBs X scope ifs ds m Φ) (k : ∀ d m, Φ d m → Ψ d m) : TBs X scope ifs ds m Ψ := by
  match ifs, h with
  | [], h => exact k _ _ h
  | [c], h => exact fun s0 H0 C cl fp => TW.mono ((show TB1 X scope c ds m Φ from h) s0 H0 C cl fp) k
  | _ :: _ :: _, h => exact False.elim h
theorem lc_of {elt : Expr} {ifs : List Expr} {asg : D → DS → Option DS} {t : Option MT} {items : List D} (he : REb X scope elt ta) (ht : RTb X scope ifs t)
    (h : LcW asg t ta items ds m Φ) :
    LcI X scope elt ifs asg items ds m Φ := by
  obtain ⟨I, h0, h1, h2⟩ := h.run
  refine ⟨I, h0, fun i d acc m2 hd q => ?_, h2⟩
  obtain ⟨ds3, e, q2⟩ := om_some (h1 i d acc m2 hd q)
  exact ⟨ds3, e, (ht.run q2).mono fun _ _ q3 => if_of q3 (fun q4 s0 H0 C cl fp => (he.run s0 H0 C cl fp).run q4) fun z => z⟩
theorem r_lc {elt tg iter : Expr} {ifs : List Expr} {own : List (Str × Nat)} {g : TG} {asg : D → DS → Option DS} {it : MA} {t : Option MT} (B : Bs X) (ok : BlkOk X.N X.env.scope scope own) (T : Tgt X g (own.map (·.2)) asg)
    (hg : ∀ (s : Shared) (H : Hp) (C : Addr) (cl : List (Str × Addr)) (fp : List Addr), PG (X.blk s H scope (compEnvC scope cl C X.env) fp) tg g) (hi : RI X W tg iter it) (ht : RTb X scope ifs t) (he : REb X scope elt ta)
    (hs : ∀ x, foldedSetIterable iter X.env x = pure x := by intro _; rfl) (hc : X.calm = true := by rfl) : RE X W (.ListComp elt [⟨tg, iter, ifs, 0⟩] scope pos) (lc_ it asg t ta) := ⟨fun h => ew_lc B.nd ok T hg ((hi.run h).mono fun _ _ q => lc_of he ht q) hs hc⟩
theorem s_setLc {elt tg iter : Expr} {ifs : List Expr} {own : List (Str × Nat)} {g : TG} {asg : D → DS → Option DS} {it : MA} {t : Option MT} {y : Str} {yp spos : Pos} (B : Bs X) (ok : BlkOk X.N X.env.scope scope own) (T : Tgt X g (own.map (·.2)) asg)
    (hg : ∀ (s : Shared) (H : Hp) (C : Addr) (cl : List (Str × Addr)) (fp : List Addr), PG (X.blk s H scope (compEnvC scope cl C X.env) fp) tg g) (hi : RI X W tg iter it) (ht : RTb X scope ifs t) (he : REb X scope elt ta) (hyl : X.env.scope.names.lookup y = some .local := by rfl)
    (hsw : swapsWith (.ListComp elt [⟨tg, iter, ifs, 0⟩] scope pos) (some (.Name y yp)) spos.line X.env = pure true := by rfl) (hy : X.N[i]? = some y := by rfl) (hs : ∀ x, foldedSetIterable iter X.env x = pure x := by intro _; rfl) (hc : X.calm = true := by rfl) :
    RS X W (.Assign [.Name y yp] (.ListComp elt [⟨tg, iter, ifs, 0⟩] scope pos) spos) (set_ i (lc_ it asg t ta)) := ⟨fun h => sw_setLc i B.nd ok T hyl hsw hg ((hi.run h).mono fun _ _ q => lc_of he ht q) hy hs hc⟩
/-- a comprehension whose test and element change nothing -/
theorem lc_pure {asg : D → DS → Option DS} {t : Option MT} {items : List D} {q : D → Bool} {g : D → D} (hn : items.length ≤ sizeLine)
    (h : ∀ d ∈ items, ∃ ds3, asg d ds = some ds3 ∧ (∀ Ψ : Bool → Mem → Prop, Ψ (q d) m → TBo t ds3 m Ψ) ∧ (q d = true → ∀ Ψ : D → Mem → Prop, Ψ (g d) m → ta ds3 m Ψ X0)) (hq : Φ (.lst ((items.filter q).map g)) m) :
    LcW asg t ta items ds m Φ := by
  refine ⟨fun i acc m2 => acc = ((items.take i).filter q).map g ∧ m2 = m, ⟨by simp, rfl⟩, fun i d acc m2 hd hi => ?_, fun acc m2 hi => ?_⟩
  · obtain ⟨rfl, rfl⟩ := hi
    have hlt : i < items.length := (List.getElem?_eq_some_iff.mp hd).1
    have hmem : d ∈ items := List.mem_of_getElem? hd
    obtain ⟨ds3, e, h1, h2⟩ := h d hmem
    have tk : items.take (i + 1) = items.take i ++ [d] := by rw [List.take_succ, hd]; rfl
    refine om_of e (h1 _ (br_b (fun hq => ?_) fun hq => ?_))
    · refine h2 hq _ ⟨?_, ?_, rfl⟩
      · have h3 : (((items.take i).filter q).map g).length ≤ (items.take i).length := by rw [List.length_map]; exact List.length_filter_le _ _
        rw [List.length_take] at h3
        omega
      · rw [tk, List.filter_append, List.map_append]; simp [hq]
    · refine ⟨?_, rfl⟩
      rw [tk, List.filter_append, List.map_append]; simp [hq]
  · obtain ⟨rfl, rfl⟩ := hi
    rw [List.take_length]; exact hq
/-! ### try -/
/-- an except clause: its class, the class it is met by, its name's slot, its suite -/
structure Hd where
  cls : Value
  met : Addr
  oi : Option Nat
  suite : Addr → Option Addr → MS
def suiteW (h : Hd) (N : En) (ds : DS) (fs : List (Str × D)) (m : Mem) : Prop := ∀ (a : Addr) (dd : Option Addr), (fs = [] ∨ ∃ d, dd = some d) → match h.oi with
  | none => h.suite a dd ds m N X0
  | some i => h.suite a dd (ds.set i (some (excD a dd fs))) m (outD N i) X0
def hdW (mt : Addr → Value → Option Bool) (N : En) (Ξ : XP) : List Hd → XP
  | [] => Ξ
  | h :: hs => fun ds C fs m => ∃ b, mt C h.cls = some b ∧ (b = true → C = h.met ∧ suiteW h N ds fs m) ∧ (b = false → hdW mt N Ξ hs ds C fs m)
def try_ (mt : Addr → Value → Option Bool) (b : MS) (hs : List Hd) : MS := fun ds m N Ξ => b ds m N (hdW mt N Ξ hs)
/-- an except clause of the text -/
structure RH (X : Cx) (h : ExceptHandler) (t : Hd) : Prop where
  run : ∀ (a : Addr) (oe : Obj) (dd : Option Addr) (pn : List (Addr × Obj)), Zc (.ref t.met) dd oe → (∃ vs, oe.data = .fields vs) → RB (X.suite a ((a, oe) :: pn)) WF (hbody h) (t.suite a dd)
inductive RHs (X : Cx) : List ExceptHandler → List Hd → Prop
  | nil : RHs X [] []
  | cons {h : ExceptHandler} {hs : List ExceptHandler} {t : Hd} {ts : List Hd} (a : RH X h t) (b : RHs X hs ts) : RHs X (h :: hs) (t :: ts)
theorem hw_of {X : Cx} {N : En} {Ξ : XP} : ∀ {hs : List ExceptHandler} {ts : List Hd} {ds : DS} {C : Addr} {fs : List (Str × D)} {m : Mem}, RHs X hs ts → hdW (PySem.W.exmOne X.K <| .ref ·) N Ξ ts ds C fs m → HW X N Ξ hs (ts.map fun t => (t.cls, t.oi)) ds C fs m
  | _, _, _, _, _, _, .nil, h => h
  | _, _, _, _, _, _, .cons (t := t) a b, h => by
    obtain ⟨k, e, yes, no⟩ := h
    refine ⟨k, e, fun hk a1 oe dd pn hz hf hn => ?_, fun hk => hw_of b (no hk)⟩
    obtain ⟨rfl, q⟩ := yes hk
    have q1 := q a1 dd hn
    have r1 := (a.run a1 oe dd pn hz hf)
    revert q1
    cases t.oi with
    | none => exact fun q1 => r1.run q1
    | some i => exact fun q1 => r1.run q1
theorem s_try {body : List Stmt} {h0 : ExceptHandler} {hds : List ExceptHandler} {ts : List Hd} (V : Vw P w K mg base k X W) (hn : HN X (h0 :: hds) (ts.map fun t => (t.cls, t.oi)))
    (hb : ∀ (W' : WX) (pn : List (Addr × Obj)) (xe : Value → Shared → Prop), Vw P w K mg base k (X.tr pn xe) W' → PassesOwn (model X.prog X.w) X.A X.env xe → RB (X.tr pn xe) W' body sa) (hh : RHs X (h0 :: hds) ts) (hst : X.stack = X.env :: X.outer := by rfl) (hfr : X.env.frame = some X.env.locals := by rfl) :
    RS X W (.Try body (h0 :: hds) [] [] pos) (try_ (PySem.W.exmOne K <| .ref ·) sa ts) := ⟨fun {ds m N Ξ} h => sw_try V.bs.nd V.tk hn (fun W' pn xe tk po => by
  have h2 := (hb W' pn xe (V.tr tk) po).run h
  refine fun F H σ s De n x => h2 F H σ s De n fun C dd σ2 F2 H2 ds2 fs m2 s1 sl xo q => x C dd σ2 F2 H2 ds2 fs m2 s1 sl xo (hw_of hh ?_)
  have : (PySem.W.exmOne K <| .ref ·) = (PySem.W.exmOne X.K <| .ref ·) := by rw [V.eK]
  rw [this] at q
  exact q) hst hfr⟩
/-- err.f in an except suite -/
def fXf (a : Addr) (dd : Option Addr) (ns : List Str) (j : Nat) : F1 := fun d m Φ => match d with
  | .exc a' d' ns' l => (a' = a ∧ some d' = dd ∧ ns' = ns) ∧ om l[j]? fun d => Φ d m
  | _ => False
theorem r_xf {Y : Cx} {a : Addr} {oe : Obj} {dd : Option Addr} {pn : List (Addr × Obj)} {ns : List Str} {f : Str} (T : XfC Y.K C) (hno : PySem.W.findIn Y.K (.ref C) f = some none) (hz : Zc (.ref C) dd oe) (hf : ∃ vs, oe.data = .fields vs) (he : RE (Y.suite a ((a, oe) :: pn)) W e ta)
    (hj : ns[j]? = some f := by rfl) (hnd : ns.Nodup := by decide) (hb : attributeBase e f Y.env (eval e Y.env) = eval e Y.env := by rfl) : RE (Y.suite a ((a, oe) :: pn)) W (.Attribute e f pos) (o1 (fXf a dd ns j) ta) := ⟨fun {ds m Φ Ξ} h F H σ s Q n x =>
  We.of (pe_xf T hno hz hf pw_e hb) (he.run h F H σ s _ (fun v F2 H2 d' m2 s1 r hq => by
    cases d' with
    | exc a' d' ns' l =>
      obtain ⟨⟨rfl, rfl, rfl⟩, q⟩ := hq
      obtain ⟨dv, hd, q⟩ := om_some q
      cases r with
      | exc h1 hl rr =>
        obtain ⟨v, h2, h3⟩ := rr.get hd
        exact ⟨rfl, rfl, d', _, v, rfl, s1.sub _ _ h1, zip_at _ _ j hnd hj h2, n v F2 H2 dv m2 s1 h3 q⟩
    | _ => exact False.elim hq) x)⟩
/-- a def of the text keeps its promise: the match with the text, the promise on data -/
theorem fn_of {x qual : Str} {st : Stmt} {N ps : List Str} {t : MS} (T : BI mg) (df : Def K mg x qual st ps) (S : FnScope N ps (defScope st))
    (hR : ∀ (f : Addr) (cdv : Value) (A : Around) (outer : List Env) (s : Shared) (H0 : Hp) (E : XK), Vw P w K mg base k (cxOf (L2.CX P w) P w K mg base N qual (defScope st) f cdv A outer s H0 E) (Wo E) →
      PassesOwn (model P w) (cxOf (L2.CX P w) P w K mg base N qual (defScope st) f cdv A outer s H0 E).A (cxOf (L2.CX P w) P w K mg base N qual (defScope st) f cdv A outer s H0 E).env (cxOf (L2.CX P w) P w K mg base N qual (defScope st) f cdv A outer s H0 E).xe →
      RB (cxOf (L2.CX P w) P w K mg base N qual (defScope st) f cdv A outer s H0 E) (Wo E) (defBody st) t)
    (hp : ∀ l m Φ Ψ, sp l m Φ Ψ → l.length = ps.length → t (l.map some ++ List.replicate (N.length - ps.length) none) m { nx := fun _ m => Φ .non m, rt := Φ } fun _ => Ψ) : FnE P w K mg base (k + 1) x ps.length sp := by
  obtain ⟨f, fd, Fn, bd, gl⟩ := df
  refine ⟨f, fd_ok Fn S bd gl fun cdv A outer s0 H0 E hr tk hpo l m Φ Ψ hl h => ?_⟩
  exact (hR f cdv A outer s0 H0 E ⟨⟨hr.units, S.nd, T⟩, hr, tk, rfl, rfl, rfl, rfl, rfl⟩ hpo).run (hp l m Φ Ψ h hl)
end
end G
namespace G
open PySem PySem.Spec PyProof.Rows L2
section
variable {P : Program} {w : World} {K : PySem.W.Frag} {mg : Str → Option Value} {base : Heap}
variable {X : Cx} {W : WX} {e a b c : Expr} {es : List Expr} {st : Stmt} {sts rest : List Stmt} {ds : DS} {m : Mem} {Φ Ψ : D → Mem → Prop} {Ξ : XP} {N N' : En} {p pos : Pos} {d : D} {x : Str} {i j k n : Nat} {f C : Addr} {sp : SpD}
variable {ta tb tc : ME} {ca cb cc : MT} {aa : MA} {sa sb : MS} {ga : MG}
/-- what is never reached -/
def dead_ : MS := fun _ _ _ _ => False
theorem b_dead : RB X W sts dead_ := ⟨fun h => h.elim⟩
theorem s_dead : RS X W st dead_ := ⟨fun h => h.elim⟩
def deadE : ME := fun _ _ _ _ => False
theorem r_dead : RE X W e deadE := ⟨fun h => h.elim⟩
theorem r_emp : RE X W (.Dict [] [] pos) (k_ .emp) := ⟨fun h => ew_emp h pe_dnewK⟩
def oMin : F2 := fun d1 d2 m Φ => match d1, d2 with
  | .int i, .int j => Φ (.int (if j < i then j else i)) m
  | _, _ => False
theorem r_min2 (B : Bs X) (ha : RE X W a ta) (hb : RE X W b tb) (hg : Gl X "min" := by rfl) (hc : X.calm = true := by rfl) (he : starEach [a, b] X.env = [(false, eval a X.env), (false, eval b X.env)] := by rfl) (he2 : starEach [b] X.env = [(false, eval b X.env)] := by rfl) : RE X W (.Call (.Name "min" p) [a, b] [] pos) (o2 oMin ta tb) :=
  ⟨fun h => ew_min2 B.bi.b_min ((ha.run h).mono fun d1 _ q => (hb.run q).mono fun d2 _ q2 => by
    unfold oMin at q2
    split at q2
    · exact ⟨_, _, rfl, rfl, q2⟩
    · exact q2.elim) hg hc he he2⟩
/-! ### any, all -/
def bools : List D → Option (List Bool)
  | [] => some []
  | .bl b :: l => (bools l).map (b :: ·)
  | _ => none
theorem bools_rp {F : Hp} : ∀ {l : List D} {vs : List V} {bs : List Bool}, RpA K F vs l → bools l = some bs → vs = bs.map V.bl
  | [], _, _, r, h => by cases r; cases h; rfl
  | d :: l, _, _, r, h => by
    cases r with
    | cons r1 rr =>
      cases d with
      | bl b =>
        obtain ⟨bs, e1, e2⟩ := Option.map_eq_some_iff.mp (show (bools l).map (b :: ·) = some _ from h)
        subst e2
        cases r1
        rw [bools_rp rr e1]
        rfl
      | _ => cases h
theorem bools_map {α : Type} (f : α → Bool) : ∀ l : List α, bools (l.map fun x => .bl (f x)) = some (l.map f)
  | [] => rfl
  | x :: l => by
    show (bools (l.map fun x => .bl (f x))).map (f x :: ·) = _
    rw [bools_map f l]
    rfl
def fAll : F1 := fun d m Φ => match d with
  | .lst l => om (bools l) fun bs => Φ (.bl (bs.all id)) m
  | _ => False
def fAny : F1 := fun d m Φ => match d with
  | .lst l => om (bools l) fun bs => Φ (.bl (bs.any id)) m
  | _ => False
theorem r_all (B : Bs X) (ha : RE X W a ta) (hg : Gl X "all" := by rfl) (hc : X.calm = true := by rfl) (he : starEach [a] X.env = [(false, eval a X.env)] := by rfl) : RE X W (.Call (.Name "all" p) [a] [] pos) (o1 fAll ta) :=
  ⟨fun h => ew_callB (cr_all hc) B.bi.b_all (by decide +kernel) (aw_cons ((ha.run h).mono fun d m1 q => aw_nil (by
    cases d with
    | lst l =>
      obtain ⟨bs, e, q⟩ := om_some q
      intro F H vs Q s mm r n
      cases r with
      | cons r1 t =>
        cases t
        cases r1 with
        | lst h1 t => exact ⟨_, bs, rfl, by rw [← bools_rp t e]; exact Or.inl (Or.inl (s _ _ h1)), n.now s mm (.bl _) q⟩
    | _ => exact False.elim q)) he) hg (he := he) (hpl := rfl)⟩
theorem r_any (B : Bs X) (ha : RE X W a ta) (hg : Gl X "any" := by rfl) (hc : X.calm = true := by rfl) (he : starEach [a] X.env = [(false, eval a X.env)] := by rfl) : RE X W (.Call (.Name "any" p) [a] [] pos) (o1 fAny ta) :=
  ⟨fun h => ew_callB (cr_any hc) B.bi.b_any (by decide +kernel) (aw_cons ((ha.run h).mono fun d m1 q => aw_nil (by
    cases d with
    | lst l =>
      obtain ⟨bs, e, q⟩ := om_some q
      intro F H vs Q s mm r n
      cases r with
      | cons r1 t =>
        cases t
        cases r1 with
        | lst h1 t => exact ⟨_, bs, rfl, by rw [← bools_rp t e]; exact Or.inl (Or.inl (s _ _ h1)), n.now s mm (.bl _) q⟩
    | _ => exact False.elim q)) he) hg (he := he) (hpl := rfl)⟩
/-! ### what is known of the text's classes -/
structure Kls (K : PySem.W.Frag) (mg : Str → Option Value) (x : Str) (C : Addr) (fs : List Str) : Prop where
  cl : ClsI K C
  gl : mg x = some (.ref C)
  na : ∀ f ∈ fs, NoAttr K C f
theorem Vw.cli {fs : List Str} (V : Vw P w K mg base k X W) (c : Kls K mg x C fs) : ClsI X.K C := by rw [V.eK]; exact c.cl
theorem Vw.cls {fs : List Str} (V : Vw P w K mg base k X W) (c : Kls K mg x C fs) : Cls X.K C := by rw [V.eK]; exact c.cl.cl
theorem Vw.clg {fs : List Str} (V : Vw P w K mg base k X W) (c : Kls K mg x C fs) : X.mg x = some (.ref C) := by rw [V.eM]; exact c.gl
theorem Vw.noa {fs : List Str} {f : Str} (V : Vw P w K mg base k X W) (c : Kls K mg x C fs) (h : f ∈ fs) : NoAttr X.K C f := by rw [V.eK]; exact c.na f h
theorem Vw.glb (V : Vw P w K mg base k X W) (g : Glb K mg x d) : Glb X.K X.mg x d := by rw [V.eK, V.eM]; exact g
theorem Vw.nms {fs : List Str} (V : Vw P w K mg base k X W) (g : Err P w K mg base x C fs) (hg : Gl X x) (hdb : (x == ("__debug__" : Str)) = false := by decide) : Names X x (.ref C) := ⟨hg, hdb, .inl (by rw [V.eM]; exact g.gl)⟩
theorem Vw.xfc {fs : List Str} (V : Vw P w K mg base k X W) (g : Err P w K mg base x C fs) : XfC X.K C := by rw [V.eK]; exact g.xf
theorem Vw.xfn {fs : List Str} {f : Str} (V : Vw P w K mg base k X W) (g : Err P w K mg base x C fs) (h : f ∈ fs) : PySem.W.findIn X.K (.ref C) f = some none := by rw [V.eK]; exact g.nf f h
theorem Bs.su (B : Bs X) {a : Addr} {pn : List (Addr × Obj)} : Bs (X.suite a pn) := ⟨B.hu, B.nd, B.bi⟩
theorem s_tryA {body : List Stmt} {h0 : ExceptHandler} {hds : List ExceptHandler} {ts : List Hd} {mt : Addr → Value → Option Bool} (V : Vw P w K mg base k X W) (hmt : mt = (PySem.W.exmOne K <| .ref ·)) (hn : HN X (h0 :: hds) (ts.map fun t => (t.cls, t.oi)))
    (hb : ∀ (W' : WX) (pn : List (Addr × Obj)) (xe : Value → Shared → Prop), Vw P w K mg base k (X.tr pn xe) W' → PassesOwn (model X.prog X.w) X.A X.env xe → RB (X.tr pn xe) W' body sa) (hh : RHs X (h0 :: hds) ts) (hst : X.stack = X.env :: X.outer := by rfl) (hfr : X.env.frame = some X.env.locals := by rfl) :
    RS X W (.Try body (h0 :: hds) [] [] pos) (try_ mt sa ts) := by rw [hmt]; exact s_try V hn hb hh hst hfr
/-! ### self.f = e, a new field -/
def setNg (C : Addr) (ns : List Str) (g : Str) (d d2 : D) (m : Mem) (Φ : Mem → Prop) : Prop := match d2, m with
  | .ref r, (r', .obj C' ns' l) :: rest => (r' = r ∧ C' = C ∧ ns' = ns) ∧ Φ ((r, .obj C (ns ++ [g]) (l ++ [d])) :: rest)
  | _, _ => False
def setN_ (C : Addr) (ns : List Str) (g : Str) (a o : ME) : MS := fun ds m N Ξ => a ds m (fun d m1 => o ds m1 (fun d2 m2 => setNg C ns g d d2 m2 (N.nx ds)) Ξ) Ξ
theorem s_setN {g : Str} {o : Expr} {p2 : Pos} {ns : List Str} (T : Cls X.K C) (na : NoAttr X.K C g) (ha : RE X W e ta) (ho : RE X W o tb) (hl : ns.length < 1000 := by decide) (hgn : g ∉ ns := by decide)
    (hs : swapsWith e (some (.Attribute o g p2)) pos.line X.env = pure false := by rfl) : RS X W (.Assign [.Attribute o g p2] e pos) (setN_ C ns g ta tb) := ⟨fun {ds m N Ξ} h F H σ s De n x =>
  Ws.of (ps_fld pw_e pw_e hs) (ha.run h F H σ s _ (fun v F2 H2 d m2 s1 r1 q => ho.run q F2 H2 σ (s.go s1) _ (fun u F3 H3 d2 m3 s2 r2 q3 => by
    replace q3 : setNg C ns g d d2 m3 (N.nx ds) := q3
    unfold setNg at q3
    split at q3
    · next r r' C' ns' l rest =>
      obtain ⟨⟨rfl, rfl, rfl⟩, q3⟩ := q3
      cases r2
      obtain ⟨dx, vs, h3, hl3, t⟩ := s2.mem.ce _ List.mem_cons_self
      refine ⟨r', C', dx, _, rfl, h3, T, na, by simp [List.length_zip]; omega, ?_⟩
      rw [put_new _ vs hgn hl3]
      exact n.nx σ F3 _ ds _ ((s1.trans s2).trans (Stp.put (c' := .obj C' (_ ++ [g]) (l ++ [d])) s2.sub s2.mem ⟨dx, _, upd_same, by simp [hl3], t.app (.cons (r1.up s2.fz) .nil)⟩)) (s.sl.up (s1.trans s2).fz) q3
    · exact q3.elim) (x.go s1)) x)⟩
/-- an __init__ of the text keeps its promise -/
theorem mk_of {x qual y : Str} {st : Stmt} {N ps : List Str} {t : MS} {f C : Addr} {fd : FuncData} {n : Nat} (T : BI mg) (Fn : Fun K x qual st f fd) (b : Binds K fd ps []) (M : Mk K C f) (gl : mg y = some (.ref C)) (hn : ps.length = n + 1) (S : FnScope N ps (defScope st))
    (hR : ∀ (f : Addr) (cdv : Value) (A : Around) (outer : List Env) (s : Shared) (H0 : Hp) (E : XK), Vw P w K mg base k (cxOf (L2.CX P w) P w K mg base N qual (defScope st) f cdv A outer s H0 E) (Wo E) →
      PassesOwn (model P w) (cxOf (L2.CX P w) P w K mg base N qual (defScope st) f cdv A outer s H0 E).A (cxOf (L2.CX P w) P w K mg base N qual (defScope st) f cdv A outer s H0 E).env (cxOf (L2.CX P w) P w K mg base N qual (defScope st) f cdv A outer s H0 E).xe →
      RB (cxOf (L2.CX P w) P w K mg base N qual (defScope st) f cdv A outer s H0 E) (Wo E) (defBody st) t)
    (hp : ∀ l m Φ Ψ, sp l m Φ Ψ → l.length = ps.length → t (l.map some ++ List.replicate (N.length - ps.length) none) m { nx := fun _ m => Φ .non m, rt := Φ } fun _ => Ψ) : MkD P w K mg base (k + 1) y C n sp :=
  md_ok Fn S b M gl hn fun cdv A outer s0 H0 E hr tk hpo l m Φ Ψ hl h => (hR f cdv A outer s0 H0 E ⟨⟨hr.units, S.nd, T⟩, hr, tk, rfl, rfl, rfl, rfl, rfl⟩ hpo).run (hp l m Φ Ψ h hl)
end
end G
namespace G
open PySem PySem.Spec PyProof.Rows L2
/-! ### the __init__ of an error class -/
/-- the base class of the errors, as it is read -/
structure BaseE (K : PySem.W.Frag) (mg : Str → Option Value) (x : Str) (B : Addr) : Prop where
  gl : mg x = some (.ref B)
  rd : ClX.CRead K B (.type "type")
  vi : PySem.W.findCls K (.ref B) (.type "type") "__init__" = some (.val (.builtin "ValueError.__init__"))
section
variable {P : Program} {w : World} {K : PySem.W.Frag} {mg : Str → Option Value} {base : Heap} {B C f : Addr} {fd : FuncData} {qual g : Str} {st : Stmt}
theorem init0 {z : Str} {j} {p1 p2 p3 p4 p5 p6 : Pos} (F : Fun K "__init__" qual st f fd) (S : FnScope ["self"] ["self"] (defScope st)) (b : BaseE K mg "DrawerError" B) (oe : OexC K C)
    (hb : defBody st = [.Expr (.Call (.Attribute (.Name "DrawerError" p1) "__init__" p2) [.Name "self" p3, .Constant (.str z) j p4] [] p5) p6])
    (hc : ∀ env : Env, eval (.Call (.Attribute (.Name "DrawerError" p1) "__init__" p2) [.Name "self" p3, .Constant (.str z) j p4] [] p5) env = (do
      let obj ← eval (.Name "DrawerError" p1) env
      standAt p2.atName
      let (fn, self) ← holding [obj] (getMethod obj "__init__" (do return (← importBound (.Name "DrawerError" p1) env).getD true))
      callWith p5 fn self (backTo p5 (starEach [.Name "self" p3, .Constant (.str z) j p4] env)) (backToKw p5 (keywordEach [] env))))
    (hx : (defScope st).names.lookup ("DrawerError" : Str) = some .globalImplicit) (hs : (defScope st).names.lookup ("self" : Str) = some .local) : FnOk P w K mg base CX0 1 f fd ["self"] (spE C []) := by
  refine F.ok S (fun vs H Q E h => ?_) (fun cdv A outer s H vs Q E hr h => ⟨_, by rw [hb]; exact pss_one (ps_expr (pe_binit b.gl b.rd b.vi (pa_cons (pe_var (i := 0) rfl (Or.inl hs)) (pa_cons pe_str pa_nil)) hx (by decide) (hc := hc _))), ?_⟩)
  · obtain ⟨a, ws, rfl, hl, _⟩ := h
    simp at hl
    subst hl
    rfl
  · obtain ⟨a, ws, rfl, hl, ha, h1, _⟩ := h
    simp at hl
    subst hl
    exact ⟨.ref a, rfl, a, C, _, rfl, Nat.le_of_ble_eq_true rfl, oe, ha, h1 rfl⟩
theorem init1 {z : Str} {j} {p1 p2 p3 p4 p5 p6 p7 p8 p9 pa : Pos} (F : Fun K "__init__" qual st f fd) (S : FnScope ["self", g] ["self", g] (defScope st)) (b : BaseE K mg "DrawerError" B) (oe : OexC K C) (nf : PySem.W.findIn K (.ref C) g = some none)
    (hb : defBody st = [.Expr (.Call (.Attribute (.Name "DrawerError" p1) "__init__" p2) [.Name "self" p3, .Constant (.str z) j p4] [] p5) p6, .Assign [.Attribute (.Name "self" p7) g p8] (.Name g p9) pa])
    (hc : ∀ env : Env, eval (.Call (.Attribute (.Name "DrawerError" p1) "__init__" p2) [.Name "self" p3, .Constant (.str z) j p4] [] p5) env = (do
      let obj ← eval (.Name "DrawerError" p1) env
      standAt p2.atName
      let (fn, self) ← holding [obj] (getMethod obj "__init__" (do return (← importBound (.Name "DrawerError" p1) env).getD true))
      callWith p5 fn self (backTo p5 (starEach [.Name "self" p3, .Constant (.str z) j p4] env)) (backToKw p5 (keywordEach [] env))))
    (hx : (defScope st).names.lookup ("DrawerError" : Str) = some .globalImplicit) (hs : (defScope st).names.lookup ("self" : Str) = some .local) (hg : (defScope st).names.lookup g = some .local) (hd1 : (g == ("__debug__" : Str)) = false) (hd2 : (g == ("__classdict__" : Str)) = false) : FnOk P w K mg base CX0 1 f fd ["self", g] (spE C [g]) := by
  refine F.ok S (fun vs H Q E h => ?_) (fun cdv A outer s H vs Q E hr h => ⟨_, by rw [hb]; exact pss_cons (ps_expr (pe_binit b.gl b.rd b.vi (pa_cons (pe_var (i := 0) rfl (Or.inl hs)) (pa_cons pe_str pa_nil)) hx (by decide) (hc := hc _))) (pss_one (ps_ost (pe_var (i := 0) rfl (Or.inl hs)) (pe_var (i := 1) rfl (Or.inl hg) hd1 hd2))), ?_⟩)
  · obtain ⟨a, ws, rfl, hl, _⟩ := h
    show ws.length + 1 = 2
    rw [hl]
    rfl
  · obtain ⟨a, ws, rfl, hl, ha, _, h1⟩ := h
    match ws, hl, h1 with
    | [y], _, h1 =>
      exact ⟨.ref a, rfl, a, C, _, rfl, Nat.le_of_ble_eq_true rfl, oe, ha, y, rfl, .ref a, rfl, a, C, rfl, oe, nf, .inl ⟨ha, fun dx hd ne => h1 (by simp) dx hd ne⟩⟩
/-- a def of the text keeps its promise, by its place -/
theorem fk_of {x qual : Str} {st : Stmt} {N ps : List Str} {t : MS} {k : Nat} {sp : SpD} (T : BI mg) (Fn : Fun K x qual st f fd) (S : FnScope N ps (defScope st))
    (hR : ∀ (f : Addr) (cdv : Value) (A : Around) (outer : List Env) (s : Shared) (H0 : Hp) (E : XK), Vw P w K mg base k (cxOf (L2.CX P w) P w K mg base N qual (defScope st) f cdv A outer s H0 E) (Wo E) →
      PassesOwn (model P w) (cxOf (L2.CX P w) P w K mg base N qual (defScope st) f cdv A outer s H0 E).A (cxOf (L2.CX P w) P w K mg base N qual (defScope st) f cdv A outer s H0 E).env (cxOf (L2.CX P w) P w K mg base N qual (defScope st) f cdv A outer s H0 E).xe →
      RB (cxOf (L2.CX P w) P w K mg base N qual (defScope st) f cdv A outer s H0 E) (Wo E) (defBody st) t)
    (hp : ∀ l m Φ Ψ, sp l m Φ Ψ → l.length = ps.length → t (l.map some ++ List.replicate (N.length - ps.length) none) m { nx := fun _ m => Φ .non m, rt := Φ } fun _ => Ψ) : FnOk P w K mg base (L2.CX P w) (k + 1) f fd ps (lift K ps.length sp) := by
  refine Fn.okX S (fun vs H Q E h => ?_) (fun cdv A outer s H vs Q E hr h => ⟨_, pw_b, ?_⟩)
  · obtain ⟨F, l, m, Φ, Ψ, _, r, hl, _⟩ := h
    rw [r.len, hl]
  · obtain ⟨F, l, m, Φ, Ψ, sb, r, hl, mm, hs, n, x⟩ := h
    have hv : vs.length = ps.length := by rw [r.len, hl]
    refine (hR f cdv A outer s H E ⟨⟨hr.units, S.nd, T⟩, hr, takes_of rfl rfl rfl rfl, rfl, rfl, rfl, rfl, rfl⟩ (passes_of rfl)).run (hp l m Φ Ψ hs hl) F H (L2.start N vs) ⟨sb, ?_, mm⟩ _ ⟨fun σ F2 H2 ds m2 s1 _ q => n .non F2 H2 .non m2 s1 .non q, n, fun _ _ _ _ _ _ _ q => q.elim, fun _ _ _ _ _ _ _ q => q.elim⟩ fun C dd σ F2 H2 ds fs m2 s1 _ xo q => x C dd F2 H2 fs m2 s1 xo q
    unfold L2.start
    rw [hv]
    exact sl_start _ r
end
end G
namespace G
open PySem PySem.Spec PyProof.Rows L2
/-- what a law promises -/
def spAll (K : PySem.W.Frag) : Sp := fun vs H Q _ => ∃ (a : Addr) (ns : List Int), vs = [.ref a] ∧ SqL K H a (ns.map V.int) ∧ ns.length ≤ 63 ∧ ∀ H', Q (.bl true) H'
theorem sp_all {K : PySem.W.Frag} {sp : SpD} (h : ∀ (ns : List Int), ns.length ≤ 63 → ∀ (m : Mem) (Φ : D → Mem → Prop) (Ψ : XF), (∀ m', Φ (.bl true) m') → sp [.scr ns] m Φ Ψ) : ∀ vs H Q E, spAll K vs H Q E → lift K 1 sp vs H Q E := by
  rintro vs H Q E ⟨a, ns, rfl, hs, hl, q⟩
  refine ⟨H, [.scr ns], [], fun d _ => d = .bl true, fun _ _ _ => False, Same.refl _, .cons (.scr hs) .nil, rfl, ⟨List.nodup_nil, fun _ z => (nomatch z), fun _ z => (nomatch z)⟩, h ns hl _ _ _ (fun _ => rfl), fun v F2 H2 d m2 s r e => ?_, fun _ _ _ _ _ _ _ _ z => z.elim⟩
  subst e
  cases r
  exact q H2
theorem law_walk {l : PySem.W.OpenLaw} {k : Nat} {q : Program} {loose : List Str} {XP : (Str → Option Value) → Heap → Prop} {YP : World → Heap → Prop} {d : DefRec} {K : Params → PySem.W.Frag} {x : Str} (hn : l.most = some 63) (hdf : d.params.defaults = []) (hr : Room k callerA)
    (hY : ∀ (w : World) (h : Heap), YP w h → (K w.params).In h)
    (F : ∀ (w : World) (mg : Str → Option Value) (fa : Addr) (h : Heap), (K w.params).In h → h.Ns mainGlobals mg → mg d.name = some (.ref fa) →
      ∃ (sp : SpD) (fd : FuncData), (∀ (s : Shared) (u : Value), BindsTo s fd ⟨[u], []⟩ [(x, u)]) ∧ (∀ base : Heap, (K w.params).In base → base.Ns mainGlobals mg → FnOk l.prog w (K w.params) mg base (L2.CX l.prog w) k fa fd [x] (lift (K w.params) 1 sp)) ∧
        ∀ (ns : List Int), ns.length ≤ 63 → ∀ (m : Mem) (Φ : D → Mem → Prop) (Ψ : XF), (∀ m', Φ (.bl true) m') → sp [.scr ns] m Φ Ψ) :
    PySem.W.WalkO q loose XP YP l.row.toRowW d [] (fun f vs => PySem.call f vs) :=
  L2.walk_of (n := 63) (k := k) (x := x) (CX := fun w => L2.CX l.prog w) (sp := fun w => spAll (K w.params)) hn (by decide) hdf hr hY (fun w mg fa h a b c => by
    obtain ⟨sp, fd, h1, h2, h3⟩ := F w mg fa h a b c
    exact ⟨fd, h1, fun base z1 z2 => (h2 base z1 z2).imp (sp_all h3)⟩) (fun _ _ a ns hl _ hS => ⟨a, ns, rfl, hS, hl, fun _ => rfl⟩) fun _ _ _ _ _ z => by
      simp [L2.CX] at z
end G
namespace G
open PySem PySem.Spec PyProof.Rows L2
/-! ### the facts of the top, in a small number of rows each -/
section
variable {P : Program} {w : World} {K : PySem.W.Frag} {mg : Str → Option Value} {base h : Heap} {B C f : Addr} {x qual g : Str} {st : Stmt}
abbrev BindOk (x qual : Str) (st : Stmt) (ps : List Str) : Prop := ∀ (kV doc pm : Value) (an : Option Addr) (cdv ct : Value) (us : List Value), us.length = ps.length → bindArgs (PySem.W.fnOf x qual (defArgs st) (defBody st) (defScope st) .none kV doc pm an cdv ct) ⟨us, []⟩ = pure (ps.zip us)
theorem def_mk {oc : Value} {od an : Option Addr} {osl : Array (Option Value)} {kV doc pm cdv ct : Value} {ps : List Str} (X : K.In h) (G : h.Ns mainGlobals mg) (b : BindOk x qual st ps)
    (a : PySem.W.nsIn K mainGlobals x = some (some (.ref f))) (l : K.lookup f = some ⟨oc, od, .func (PySem.W.fnOf x qual (defArgs st) (defBody st) (defScope st) .none kV doc pm an cdv ct), osl⟩)
    (c : PySem.W.codeIn K cdv qual = true) (k : PySem.W.keepIn K (.ref f) = true) : Def K mg x qual st ps := ⟨f, _, fun_mk l c k, (fun_mk l c k).binds b, PySem.W.mg_of X G a⟩
/-- an __init__, as the class has it -/
def IniK (K : PySem.W.Frag) (C : Addr) (qual : Str) (st : Stmt) (ps : List Str) : Prop := ∃ f fd, Fun K "__init__" qual st f fd ∧ Binds K fd ps [] ∧ Mk K C f
theorem ini_mk {oc : Value} {od an : Option Addr} {osl : Array (Option Value)} {kV doc pm cdv ct : Value} {ps : List Str} (b : BindOk "__init__" qual st ps)
    (i : PySem.W.findIn K (.ref C) "__init__" = some (some (.ref f))) (l : K.lookup f = some ⟨oc, od, .func (PySem.W.fnOf "__init__" qual (defArgs st) (defBody st) (defScope st) .none kV doc pm an cdv ct), osl⟩)
    (c : PySem.W.codeIn K cdv qual = true) (k : PySem.W.keepIn K (.ref f) = true) (is : PySem.W.isFn K (.ref f) = true) (m : PySem.W.makesIn K C = true) (kc : PySem.W.keepIn K (.ref C) = true) : IniK K C qual st ps := ⟨f, _, fun_mk l c k, (fun_mk l c k).binds b, ⟨m, i, is, kc⟩⟩
/-- an error class, as it stands -/
structure ErrK (K : PySem.W.Frag) (mg : Str → Option Value) (x : Str) (C : Addr) (fs : List Str) (qual : Str) (st : Stmt) (ps : List Str) : Prop where
  cl : OexC K C
  gl : mg x = some (.ref C)
  xf : XfC K C
  nf : ∀ f ∈ fs, PySem.W.findIn K (.ref C) f = some none
  ini : ∃ f fd, PySem.W.findIn K (.ref C) "__init__" = some (some (.ref f)) ∧ PySem.W.typeIn K (.ref f) = some (.type "function") ∧ Fun K "__init__" qual st f fd ∧ Binds K fd ps []
def nfB (K : PySem.W.Frag) (C : Addr) (fs : List Str) : Bool := fs.all fun f => decide (PySem.W.findIn K (.ref C) f = some none)
theorem nfB_ok {fs : List Str} (h : nfB K C fs = true) : ∀ f ∈ fs, PySem.W.findIn K (.ref C) f = some none := fun f hf => of_decide_eq_true (List.all_eq_true.mp h f hf)
theorem err_mk {nm qq : Str} {N : Addr} {bs bm : List Value} {sn : List Str} {sub : List Value} {ab : Bool} {col : Option Bool} {dd : Option Addr} {m0 m1 m2 m3 m5 : Option Value} {fs : List Str}
    {oc : Value} {od an : Option Addr} {osl : Array (Option Value)} {kV doc pm cdv ct : Value} {ps : List Str} (X : K.In h) (G : h.Ns mainGlobals mg) (b : BindOk "__init__" qual st ps)
    (a : PySem.W.nsIn K mainGlobals x = some (some (.ref C))) (xx : K.lookup C = some (excClassObj nm qq C N bs bm true sn sub ab col dd m0 m1 m2 m3 m5 "ValueError.__new__")) (rv : PySem.HandSPX.refsVE bm = true)
    (sa : PySem.W.findIn K (.ref C) "__setattr__" = some (some (.builtin "object.__setattr__"))) (xf : xfB K C = true) (nf : nfB K C fs = true)
    (tC : PySem.W.typeIn K (.ref C) = some (.type "type")) (kC : PySem.W.keepIn K (.ref C) = true)
    (i : PySem.W.findIn K (.ref C) "__init__" = some (some (.ref f))) (l : K.lookup f = some ⟨oc, od, .func (PySem.W.fnOf "__init__" qual (defArgs st) (defBody st) (defScope st) .none kV doc pm an cdv ct), osl⟩)
    (c : PySem.W.codeIn K cdv qual = true) (k : PySem.W.keepIn K (.ref f) = true) (tI : PySem.W.typeIn K (.ref f) = some (.type "function")) : ErrK K mg x C fs qual st ps :=
  ⟨⟨⟨nm, qq, N, bs, bm, sn, sub, ab, col, dd, m0, m1, m2, m3, m5, xx, rv⟩, sa, (xfB_ok xf).exC, tC, kC⟩, PySem.W.mg_of X G a, xfB_ok xf, nfB_ok nf, ⟨f, _, i, tI, fun_mk l c k, (fun_mk l c k).binds b⟩⟩
theorem ErrK.err0 {z : Str} {j} {p1 p2 p3 p4 p5 p6 : Pos} (E : ErrK K mg x C [] qual st ["self"]) (b : BaseE K mg "DrawerError" B) (S : FnScope ["self"] ["self"] (defScope st))
    (hb : defBody st = [.Expr (.Call (.Attribute (.Name "DrawerError" p1) "__init__" p2) [.Name "self" p3, .Constant (.str z) j p4] [] p5) p6])
    (hc : ∀ env : Env, eval (.Call (.Attribute (.Name "DrawerError" p1) "__init__" p2) [.Name "self" p3, .Constant (.str z) j p4] [] p5) env = (do
      let obj ← eval (.Name "DrawerError" p1) env
      standAt p2.atName
      let (fn, self) ← holding [obj] (getMethod obj "__init__" (do return (← importBound (.Name "DrawerError" p1) env).getD true))
      callWith p5 fn self (backTo p5 (starEach [.Name "self" p3, .Constant (.str z) j p4] env)) (backToKw p5 (keywordEach [] env))))
    (hx : (defScope st).names.lookup ("DrawerError" : Str) = some .globalImplicit) (hs : (defScope st).names.lookup ("self" : Str) = some .local) : Err P w K mg base x C [] := by
  obtain ⟨f, fd, i, tI, F, bd⟩ := E.ini
  exact ⟨E.cl, E.gl, E.xf, E.nf, f, fd, _, i, tI, bd, init0 F S b E.cl hb hc hx hs⟩
theorem ErrK.err1 {z : Str} {j} {p1 p2 p3 p4 p5 p6 p7 p8 p9 pa : Pos} (E : ErrK K mg x C [g] qual st ["self", g]) (b : BaseE K mg "DrawerError" B) (S : FnScope ["self", g] ["self", g] (defScope st))
    (hb : defBody st = [.Expr (.Call (.Attribute (.Name "DrawerError" p1) "__init__" p2) [.Name "self" p3, .Constant (.str z) j p4] [] p5) p6, .Assign [.Attribute (.Name "self" p7) g p8] (.Name g p9) pa])
    (hc : ∀ env : Env, eval (.Call (.Attribute (.Name "DrawerError" p1) "__init__" p2) [.Name "self" p3, .Constant (.str z) j p4] [] p5) env = (do
      let obj ← eval (.Name "DrawerError" p1) env
      standAt p2.atName
      let (fn, self) ← holding [obj] (getMethod obj "__init__" (do return (← importBound (.Name "DrawerError" p1) env).getD true))
      callWith p5 fn self (backTo p5 (starEach [.Name "self" p3, .Constant (.str z) j p4] env)) (backToKw p5 (keywordEach [] env))))
    (hx : (defScope st).names.lookup ("DrawerError" : Str) = some .globalImplicit) (hs : (defScope st).names.lookup ("self" : Str) = some .local) (hg : (defScope st).names.lookup g = some .local) (hd1 : (g == ("__debug__" : Str)) = false) (hd2 : (g == ("__classdict__" : Str)) = false) : Err P w K mg base x C [g] := by
  obtain ⟨f, fd, i, tI, F, bd⟩ := E.ini
  exact ⟨E.cl, E.gl, E.xf, E.nf, f, fd, _, i, tI, bd, init1 F S b E.cl (E.nf g (by simp)) hb hc hx hs hg hd1 hd2⟩
/-- a class of the text -/
def noB (K : PySem.W.Frag) (C : Addr) : Bool := (["NoneType", "bool", "int", "str", "tuple", "list", "dict"] : List String).all fun t => decide (PySem.W.kitOne K (.type t) (.ref C) = some false)
def nbB (K : PySem.W.Frag) (C : Addr) : Bool := (["bool", "int", "str", "tuple", "list"] : List String).all fun t => decide (PySem.W.kitOne K (.ref C) (.type t) = some false)
def clB (K : PySem.W.Frag) (C : Addr) : Bool := PySem.W.plainGet K C Str.empty && PySem.W.hasDictIn K C && PySem.W.plainOver K C && decide (PySem.W.findIn K (.ref C) "__setattr__" = some (some (.builtin "object.__setattr__"))) && decide (PySem.W.findIn K (.ref C) "__class__" = some (some (.builtin "object.__class__")))
  && decide (PySem.W.specialIn K (.builtin "object.__class__") "__get__" = some (some (.builtin "getset_descriptor.__get__"))) && decide (PySem.W.takesIn K (.builtin "object.__class__") = some true) && decide (PySem.W.mroIn K C (.type "object") = some true) && noB K C && nbB K C
theorem clB_ok (h : clB K C = true) : ClsI K C := by
  unfold clB at h
  simp only [Bool.and_eq_true, decide_eq_true_eq] at h
  obtain ⟨⟨⟨⟨⟨⟨⟨⟨⟨h1, h2⟩, h3⟩, h4⟩, h5⟩, h6⟩, h7⟩, h8⟩, h9⟩, ha⟩ := h
  exact ⟨⟨h1, h2, h3, h4⟩, h5, h6, h7, h8, fun t ht => of_decide_eq_true (List.all_eq_true.mp h9 t ht), fun t ht => of_decide_eq_true (List.all_eq_true.mp ha t ht)⟩
theorem kls_mk {fs : List Str} (X : K.In h) (G : h.Ns mainGlobals mg) (a : PySem.W.nsIn K mainGlobals x = some (some (.ref C))) (c : clB K C = true) (n : nfB K C fs = true) : Kls K mg x C fs := ⟨clB_ok c, PySem.W.mg_of X G a, nfB_ok n⟩
theorem base_mk (X : K.In h) (G : h.Ns mainGlobals mg) (a : PySem.W.nsIn K mainGlobals x = some (some (.ref B))) (r : PySem.W.readsIn K B (.type "type") = true) (g : PySem.W.specialIn K (.ref B) "__getattribute__" = some (some (.builtin "type.__getattribute__")))
    (v : PySem.W.findCls K (.ref B) (.type "type") "__init__" = some (.val (.builtin "ValueError.__init__"))) : BaseE K mg x B := ⟨PySem.W.mg_of X G a, ⟨r, g⟩, v⟩
theorem glb_int {n : Int} {t : Tok} (X : K.In h) (G : h.Ns mainGlobals mg) (a : PySem.W.nsIn K mainGlobals x = some (some (.int n t))) : Glb K mg x (.int n) := ⟨.int n, .int n t, PySem.W.mg_of X G a, ⟨_, rfl⟩, fun _ => .int _⟩
theorem glb_str {z : Str} {t : Tok} (X : K.In h) (G : h.Ns mainGlobals mg) (a : PySem.W.nsIn K mainGlobals x = some (some (.str z t))) : Glb K mg x (.str z) := ⟨.str z, .str z t, PySem.W.mg_of X G a, ⟨_, rfl⟩, fun _ => .str _⟩
def nonB (K : PySem.W.Frag) (l : List Str) : Bool := l.all fun x => decide (PySem.W.nsIn K mainGlobals x = some none)
def biL : List Str := ["len", "int", "isinstance", "min", "max", "range", "enumerate", "sorted", "tuple", "list", "dict", "set", "any", "all", "sum", "str", "zip", "bool", "reversed", "abs"]
theorem bi_mk (X : K.In h) (G : h.Ns mainGlobals mg) (z : nonB K biL = true) : BI mg := by
  have q : ∀ y ∈ biL, mg y = none := fun y hy => PySem.W.mg_none_of X G (of_decide_eq_true (List.all_eq_true.mp z y hy))
  exact ⟨q _ (by decide), q _ (by decide), q _ (by decide), q _ (by decide), q _ (by decide), q _ (by decide), q _ (by decide), q _ (by decide), q _ (by decide), q _ (by decide), q _ (by decide), q _ (by decide), q _ (by decide), q _ (by decide), q _ (by decide), q _ (by decide), q _ (by decide), q _ (by decide), q _ (by decide), q _ (by decide)⟩
/-- the law itself -/
def LawK (K : PySem.W.Frag) (mg : Str → Option Value) (st : Stmt) (fa : Addr) : Prop := ∃ fd, Fun K "law" "law" st fa fd ∧ ∀ (s : Shared) (v : Value), BindsTo s fd ⟨[v], []⟩ [("_law_script", v)]
theorem law_mk {oc : Value} {od an : Option Addr} {osl : Array (Option Value)} {kV doc pm cdv ct : Value} {fa : Addr} (X : K.In h) (G : h.Ns mainGlobals mg) (hfa : mg "law" = some (.ref fa))
    (b : ∀ (s : Shared) (v : Value) (kV doc pm : Value) (an : Option Addr) (cdv ct : Value), BindsTo s (PySem.W.fnOf "law" "law" (defArgs st) (defBody st) (defScope st) .none kV doc pm an cdv ct) ⟨[v], []⟩ [("_law_script", v)])
    (a : PySem.W.nsIn K mainGlobals "law" = some (some (.ref f))) (l : K.lookup f = some ⟨oc, od, .func (PySem.W.fnOf "law" "law" (defArgs st) (defBody st) (defScope st) .none kV doc pm an cdv ct), osl⟩)
    (c : PySem.W.codeIn K cdv "law" = true) (k : PySem.W.keepIn K (.ref f) = true) : LawK K mg st fa := by
  have e := hfa.symm.trans (PySem.W.mg_of X G a)
  cases e
  exact ⟨_, fun_mk l c k, fun s v => b s v _ _ _ _ _ _⟩
end
end G
namespace G
open PySem PySem.Spec PyProof.Rows L2
/-! ### cells: frozen, dropped, looked at -/
def cel (m : Mem) (p : Addr) (f : Nat → MC → Prop) : Prop := ∃ j c, m[j]? = some (p, c) ∧ f j c
/-- the datum, or what the cell holds now -/
def vw (d : D) (m : Mem) (f : D → Prop) : Prop := match d with
  | .ref p => cel m p fun _ c => f (frz c)
  | d => f d
def fz_ (a : ME) : ME := fun ds m Φ Ξ => a ds m (fun d m1 => match d with
  | .ref p => cel m1 p fun j c => Φ (fzD c) (m1.eraseIdx j)
  | _ => False) Ξ
def fzs_ (i : Nat) : MS := fun ds m N _ => match ds[i]? with
  | some (some (.ref p)) => cel m p fun j c => N.nx (ds.set i (some (fzD c))) (m.eraseIdx j)
  | _ => False
/-- cells may be dropped -/
structure Less (m : Mem) (f : Mem → Prop) : Prop where
  run : ∃ m', m'.Sublist m ∧ f m'
def drp_ : MS := fun ds m N _ => Less m fun m' => N.nx ds m'
def dre_ (a : ME) : ME := fun ds m Φ Ξ => a ds m (fun d m1 => Less m1 fun m' => Φ d m') Ξ
section
variable {X : Cx} {W : WX} {e a b c : Expr} {es : List Expr} {st : Stmt} {sts rest : List Stmt} {ds : DS} {m : Mem} {Φ Ψ : D → Mem → Prop} {Ξ : XP} {N N' : En} {p pos : Pos} {d : D} {x : Str} {i k n : Nat} {f C : Addr} {sp : SpD}
variable {ta tb tc : ME} {ca cb cc : MT} {aa : MA} {sa sb : MS} {ga : MG}
theorem r_fz (ha : RE X W e ta) : RE X W e (fz_ ta) := ⟨fun {ds m Φ Ξ} h F H σ s Q n x pins sh I => by
  -- what is known of the value, ahead of the lock
  let Q' : VK := fun v H2 => ∃ F2 d m2, Stp X.K F H m F2 H2 m2 ∧ Rp X.K F2 v d ∧ (match d with
    | .ref p => cel m2 p fun j c => Φ (fzD c) (m2.eraseIdx j)
    | _ => False)
  refine thn (ha.run h F H σ s Q' (fun v F2 H2 d m2 s1 r q => ⟨F2, d, m2, s1, r, q⟩) x pins sh I) fun u s1 ⟨v, H2, I2, rv, F2, d, m2, st, r, q⟩ => ?_
  cases d with
  | ref p =>
    obtain ⟨j, c, hj, q⟩ := q
    cases r
    cases c with
    | dK l =>
      obtain ⟨kvs, hk, hl⟩ := Stp.lock st.sub st.mem hj
      obtain ⟨od, I3⟩ := I2.lock hk trivial
      obtain ⟨F3, s3, r3⟩ := hl od
      exact ⟨_, _, I3, rv, n _ F3 _ _ _ (st.trans s3) r3 q⟩
    | lst l =>
      obtain ⟨F3, s3, r3⟩ := Stp.freeze st.sub st.mem hj
      exact ⟨_, _, I2, rv, n _ F3 H2 _ _ (st.trans s3) r3 q⟩
    | dT l =>
      obtain ⟨F3, s3, r3⟩ := Stp.freeze st.sub st.mem hj
      exact ⟨_, _, I2, rv, n _ F3 H2 _ _ (st.trans s3) r3 q⟩
    | obj C ns l =>
      obtain ⟨F3, s3, r3⟩ := Stp.freeze st.sub st.mem hj
      exact ⟨_, _, I2, rv, n _ F3 H2 _ _ (st.trans s3) r3 q⟩
  | _ => exact False.elim q⟩
theorem r_dre (ha : RE X W e ta) : RE X W e (dre_ ta) := ⟨fun {ds m Φ Ξ} h F H σ s Q n x => ha.run h F H σ s Q (fun v F2 H2 d m2 s1 r q => by
  obtain ⟨m', h1, h2⟩ := q.run
  exact n _ F2 H2 _ _ (s1.forget h1) r h2) x⟩
theorem Sl.same {K : PySem.W.Frag} {F : Hp} {v : V} {d : D} (r : Rp K F v d) : ∀ {σ : L2.St} {ds : DS} {i : Nat}, SlA K F σ ds → σ[i]? = some (some v) → SlA K F σ (ds.set i (some d))
  | _, _, _, .nil, e => by simp at e
  | _, _, 0, .cons q t, e => by simp at e; subst e; exact .cons (.val r) t
  | _, _, i + 1, .cons q t, e => .cons q (Sl.same r t (by simpa using e))
theorem b_fz (hb : RB X W sts sb) : RB X W sts (seq (fzs_ i) sb) := ⟨fun {ds m N Ξ} h F H σ s De n x pins sh I => by
  have h' : fzs_ i ds m { N with nx := fun ds1 m1 => sb ds1 m1 N Ξ } Ξ := h
  unfold fzs_ at h'
  split at h'
  · next p hd =>
    obtain ⟨j, c, hj, q⟩ := h'
    obtain ⟨v, hv, r⟩ := s.sl.get hd
    cases r
    have go : ∀ {F3 H3 : Hp}, Stp X.K F H m F3 H3 (m.eraseIdx j) → Rp X.K F3 (.ref p) (fzD c) → Wb X sts De σ H3 := fun {F3 H3} s3 r3 => hb.run q F3 H3 σ ⟨s3.sub, Sl.same r3 (s.sl.up s3.fz) hv, s3.mem⟩ De (n.go s3) (x.go s3)
    cases c with
    | dK l =>
      obtain ⟨kvs, hk, hl⟩ := Stp.lock s.sub s.mem hj
      obtain ⟨od, I3⟩ := I.lock hk trivial
      obtain ⟨F3, s3, r3⟩ := hl od
      exact go s3 r3 pins sh I3
    | lst l => obtain ⟨F3, s3, r3⟩ := Stp.freeze s.sub s.mem hj; exact go s3 r3 pins sh I
    | dT l => obtain ⟨F3, s3, r3⟩ := Stp.freeze s.sub s.mem hj; exact go s3 r3 pins sh I
    | obj C ns l => obtain ⟨F3, s3, r3⟩ := Stp.freeze s.sub s.mem hj; exact go s3 r3 pins sh I
  · exact h'.elim⟩
theorem b_drp (hb : RB X W sts sb) : RB X W sts (seq drp_ sb) := ⟨fun {ds m N Ξ} h F H σ s De n x => by
  obtain ⟨m', h1, h2⟩ := (show Less m fun m' => sb ds m' N Ξ from h).run
  have s3 := (Stp.of (K := X.K) s.sub s.mem).forget h1
  exact hb.run h2 F H σ ⟨s3.sub, s.sl, s3.mem⟩ De (n.go s3) (x.go s3)⟩
/-- what a look sees -/
theorem vw_rp {K : PySem.W.Frag} {F H : Hp} {v : V} {f : D → Prop} (sb : Same F H) (mm : MemOk K F H m) (r : Rp K F v d) (h : vw d m f) : ∃ F' d', Same F F' ∧ Same F' H ∧ Rp K F' v d' ∧ f d' := by
  cases d with
  | ref p =>
    obtain ⟨j, c, hj, q⟩ := (show cel m p fun _ c => f (frz c) from h)
    cases r
    obtain ⟨F3, s3, r3⟩ := Stp.freeze sb mm hj
    exact ⟨F3, _, s3.fz, s3.sub, r3, q⟩
  | _ => exact ⟨F, _, Same.refl _, sb, r, h⟩
/-! ### tuple(..), list(..) -/
def fTup : F1 := fun d m Φ => match d with
  | .lst l => Φ (.tup l) m
  | .tup l => Φ (.tup l) m
  | _ => False
theorem r_tupc (B : Bs X) (ha : RE X W a ta) (hg : Gl X "tuple" := by rfl) (he : starEach [a] X.env = [(false, eval a X.env)] := by rfl) : RE X W (.Call (.Name "tuple" p) [a] [] pos) (o1 fTup ta) := ⟨fun {ds m Φ Ξ} h => by
  refine ew_callTy call_tuple_of B.bi.b_tuple boot_tuple (aw_cons ((ha.run h).mono fun d m1 q => aw_nil fun F H vs Q s mm r n => ?_) he) hg (he := he) (hpl := rfl)
  cases r with
  | cons r1 t =>
    cases t
    cases d with
    | lst l =>
      cases r1 with
      | @lst ad xs _ h1 t1 => exact ⟨_, _, rfl, .inl ⟨.inl (.inl (s _ _ h1)), fun o ho => by
          have s2 := Stp.lay (o := .tup xs) s mm ho
          exact n _ _ _ _ _ s2 (.tup upd_same (t1.up s2.fz)) q⟩⟩
    | tup l =>
      cases r1 with
      | tup h1 t1 => exact ⟨_, _, rfl, .inr ⟨sq_t (s _ _ h1), n.now s mm (.tup h1 t1) q⟩⟩
    | _ => exact False.elim q⟩
def fLst : F1 := fun d m Φ => om (srcD d) fun l => Φ (.lst l) m
theorem zip_keys {κ : Type} {ks : List κ} {xs : List V} (hl : ks.length = xs.length) {β : Type} (g : κ → β) : (ks.zip xs).map (fun kv => g kv.1) = ks.map g := by
  have := congrArg (List.map g) (zip_fst hl)
  rw [List.map_map] at this
  exact this
theorem keys_ps {H : Hp} : ∀ {kvs : List (List Key × V)} {bs : List Addr}, IsKeys H kvs bs → ∃ ps : List (List Key × Addr), ps.map (·.1) = kvs.map (·.1) ∧ bs = ps.map (·.2) ∧ ∀ p ∈ ps, H p.2 = some (.tup (p.1.map kV))
  | [], _, .nil => ⟨[], rfl, rfl, fun _ h => by cases h⟩
  | kv :: kvs, b :: bs, .cons h t => by
    obtain ⟨ps, h1, h2, h3⟩ := keys_ps t
    refine ⟨(kv.1, b) :: ps, by rw [List.map_cons, List.map_cons, h1], by rw [List.map_cons, h2], fun p hp => ?_⟩
    rcases List.mem_cons.mp hp with e | e
    · subst e; exact h
    · exact h3 p e
theorem r_listc (B : Bs X) (ha : RE X W a ta) (hc : X.calm = true := by rfl) (hg : Gl X "list" := by rfl) (he : starEach [a] X.env = [(false, eval a X.env)] := by rfl) : RE X W (.Call (.Name "list" p) [a] [] pos) (o1 fLst ta) := ⟨fun {ds m Φ Ξ} h => by
  have cr : CallR X (.type "list") (fun xs H Q => ((∃ p ys, xs = [.ref p] ∧ (SqL X.K H p ys ∨ SqT X.K H p ys) ∧ ∀ l, H l = none → Q (.ref l) (upd H l (.lst ys))) ∨ (∃ (a : Addr) (kvs : List (Key × V)), xs = [.ref a] ∧ Rd H a (.dK kvs) ∧ ∀ p, H p = none → Q (.ref p) (upd H p (.lst (kvs.map fun kv => kV kv.1))))) ∨ (∃ d kvs, xs = [V.ref d] ∧ Rd H d (.dT kvs) ∧ ∀ p bs, H p = none → IsKeys H kvs bs → Q (.ref p) (upd H p (.lst (bs.map V.ref))))) := by
    intro pins s σ H xs us Q I r h
    rcases h with (h | h) | h
    · exact call_list_of pins s σ H xs us Q I r h
    · exact call_listD hc pins s σ H xs us Q I r h
    · exact call_list_dT hc pins s σ H xs us Q I r h
  refine ew_callTy cr B.bi.b_list boot_list (aw_cons ((ha.run h).mono fun d m1 q => aw_nil fun F H vs Q s mm r n => ?_) he) hg (he := he) (hpl := rfl)
  obtain ⟨l, hl, q⟩ := om_some q
  have fin : ∀ {F3 : Hp} {o : Addr} {ys : List V}, Stp X.K F H m1 F3 H m1 → RpA X.K F3 ys l → H o = none → Q (.ref o) (upd H o (.lst ys)) := fun {F3 o ys} s3 t ho => by
    have s4 := Stp.lay (o := .lst ys) s3.sub s3.mem ho
    exact n _ _ _ _ _ (s3.trans s4) (.lst upd_same (t.up s4.fz)) q
  have st := Stp.of (K := X.K) s mm
  cases r with
  | cons r1 t =>
    cases t
    cases r1 with
    | lst h1 t1 => cases hl; exact .inl (.inl ⟨_, _, rfl, .inl (.inl (.inl (s _ _ h1))), fun o ho => fin st t1 ho⟩)
    | tup h1 t1 => cases hl; exact .inl (.inl ⟨_, _, rfl, .inr (sq_t (s _ _ h1)), fun o ho => fin st t1 ho⟩)
    | ktp h1 t1 => cases hl; exact .inl (.inl ⟨_, _, rfl, .inr (same_t s h1.t), fun o ho => fin st t1 ho⟩)
    | emp h1 => cases hl; exact .inl (.inr ⟨_, _, rfl, .inl (s _ _ h1), fun o ho => fin st .nil ho⟩)
    | dK h1 hk t1 => cases hl; exact .inl (.inr ⟨_, _, rfl, .inr ⟨_, s _ _ h1⟩, fun o ho => fin st (by rw [zip_keys hk kV]; exact keys_rpA _) ho⟩)
    | dT h1 hk t1 =>
      cases hl
      refine .inr ⟨_, _, rfl, .inl (s _ _ h1), fun o bs ho hb => ?_⟩
      obtain ⟨ps, e1, rfl, e3⟩ := keys_ps hb
      rw [zip_fst hk] at e1
      subst e1
      obtain ⟨F3, s3, h3⟩ := Stp.adopts s mm e3
      refine fin s3 ?_ ho
      rw [List.map_map]
      exact tupK_rpA h3
    | _ => cases hl⟩
theorem r_sorted (B : Bs X) (ha : RE X W a ta) (hc : X.calm = true := by rfl) (hg : Gl X "sorted" := by rfl) (he : starEach [a] X.env = [(false, eval a X.env)] := by rfl) : RE X W (.Call (.Name "sorted" p) [a] [] pos) (o1 fSorted ta) := ⟨fun h => ew_sorted B.bi.b_sorted (ha.run h) hc hg he⟩
/-! ### in -/
def keyOf : D → Option Key
  | .int i => some (.inl i)
  | .str z => some (.inr z)
  | _ => none
def keysOf : List D → Option (List Key)
  | [] => some []
  | d :: l => match keyOf d, keysOf l with
    | some k, some ks => some (k :: ks)
    | _, _ => none
def tkeyOf : D → Option (List Key)
  | .tup l => keysOf l
  | _ => none
theorem keyOf_is {d : D} {k : Key} (h : keyOf d = some k) : d = keyD k := by
  cases d with
  | int i => cases h; rfl
  | str z => cases h; rfl
  | _ => cases h
theorem keysOf_is : ∀ {l : List D} {ks : List Key}, keysOf l = some ks → l = ks.map keyD
  | [], _, h => by cases h; rfl
  | d :: l, ks, h => by
    unfold keysOf at h
    split at h
    · next k ks' h1 h2 => cases h; rw [keyOf_is h1, keysOf_is h2]; rfl
    · cases h
theorem tkeyOf_is {d : D} {k : List Key} (h : tkeyOf d = some k) : d = tupK k := by
  cases d with
  | tup l => rw [keysOf_is (show keysOf l = some k from h)]; rfl
  | _ => cases h
def one1 (z : Str) : Option Nat := match z.cps.toList with
  | [c] => some c
  | _ => none
theorem one1_is {z : Str} {c : Nat} (h : one1 z = some c) : z = ⟨#[c]⟩ := by
  unfold one1 at h
  split at h
  · next c' e =>
    cases h
    cases z with
    | mk cps => simp only at e; congr 1; exact Array.toList_inj.mp (by rw [e])
  · cases h
def hasK {κ : Type} [DecidableEq κ] (k : κ) (ks : List κ) : Bool := ks.any fun j => decide (j = k)
def plks (x : D) (l : List D) : Bool := pl x && plA l && decide (dep x ≤ 60)
def inD (x : D) : D → Option Bool
  | .lst l => if plks x l then some (l.any fun y => eqD y x) else none
  | .tup l => if plks x l then some (l.any fun y => eqD y x) else none
  | .ktp l => if plks x l then some (l.any fun y => eqD y x) else none
  | .str z => match x with
    | .str w => (one1 w).map fun c => decide (c ∈ z.cps.toList)
    | _ => none
  | .dK ks _ => (keyOf x).map fun (k : Key) => hasK k ks
  | .dV ks _ => (keyOf x).map fun (k : Key) => hasK k ks
  | .dT ks _ => (tkeyOf x).map fun (k : List Key) => hasK k ks
  | .emp => (keyOf x).map fun _ => false
  | _ => none
def rInG (K : PySem.W.Frag) (neg : Bool) : R2 := fun x y H Q =>
  (∃ d l, Dp K H x d ∧ (Dp K H y (.list l) ∨ Dp K H y (.tuple l)) ∧ d.plain = true ∧ PyData.plainAll l = true ∧ d.depth ≤ 60 ∧ Q (.bl (if neg then !(l.any fun z => PyData.eqv z d) else l.any fun z => PyData.eqv z d)) H) ∨
  (∃ (c : Nat) (z : Str), x = .str ⟨#[c]⟩ ∧ y = .str z ∧ Q (.bl (if neg then !decide (c ∈ z.cps.toList) else decide (c ∈ z.cps.toList))) H) ∨
  ∃ (a : Addr) (o : Option V), y = .ref a ∧ DGet H a x o ∧ Q (.bl (if neg then !o.isSome else o.isSome)) H
theorem op_inG (hu : X.A.units + 64 < cLine) : OpR X (compareOp .In) (rInG X.K false) := by
  intro pins s σ H x y v u Q I rx ry h
  rcases h with ⟨d, l, hd, he, pd, pe, hz, q⟩ | ⟨c, z, rfl, rfl, q⟩ | ⟨a, o, rfl, g, q⟩
  · obtain ⟨as, r1⟩ := Dp.reads I d x v hd rx
    rcases he with he | he
    · obtain ⟨bs, r2⟩ := Dp.reads I _ y u he ry
      exact SeqAt.in_list_data r2 r1 pe pd (by omega) ⟨.bl _, H, I, rfl, q⟩
    · obtain ⟨bs, r2⟩ := Dp.reads I _ y u he ry
      exact SeqAt.in_tuple_data r2 r1 pe pd (by omega) ⟨.bl _, H, I, rfl, q⟩
  · exact op_in_sign pins s σ H _ _ v u Q I rx ry ⟨c, z, rfl, rfl, q⟩
  · obtain rfl : u = Value.ref a := ry
    exact d_in (by omega) I g rx fun s3 I3 => ⟨.bl o.isSome, H, I3, rfl, q⟩
theorem op_notInG (hu : X.A.units + 64 < cLine) : OpR X (compareOp .NotIn) (rInG X.K true) := by
  intro pins s σ H x y v u Q I rx ry h
  rcases h with ⟨d, l, hd, he, pd, pe, hz, q⟩ | ⟨c, z, rfl, rfl, q⟩ | ⟨a, o, rfl, g, q⟩
  · obtain ⟨as, r1⟩ := Dp.reads I d x v hd rx
    rcases he with he | he
    · obtain ⟨bs, r2⟩ := Dp.reads I _ y u he ry
      exact SeqAt.notIn_list_data r2 r1 pe pd (by omega) ⟨.bl _, H, I, rfl, q⟩
    · obtain ⟨bs, r2⟩ := Dp.reads I _ y u he ry
      exact SeqAt.notIn_tuple_data r2 r1 pe pd (by omega) ⟨.bl _, H, I, rfl, q⟩
  · exact op_notIn_sign pins s σ H _ _ v u Q I rx ry ⟨c, z, rfl, rfl, q⟩
  · obtain rfl : u = Value.ref a := ry
    exact d_notIn (by omega) I g rx fun s3 I3 => ⟨.bl (!o.isSome), H, I3, rfl, q⟩
theorem any_py {x : D} : ∀ l : List D, (pyA l).any (fun z => PyData.eqv z (py x)) = l.any fun y => eqD y x
  | [] => rfl
  | d :: l => by
    show (PyData.eqv (py d) (py x) || (pyA l).any _) = (eqD d x || l.any _)
    rw [any_py l]; rfl
theorem val_zip {κ : Type} [DecidableEq κ] {k : κ} : ∀ {ks : List κ} {xs : List V}, ks.length = xs.length → (valV (ks.zip xs) k).isSome = hasK k ks
  | [], [], _ => rfl
  | a :: ks, x :: xs, h => by
    rw [List.zip_cons_cons]
    show _ = (decide (a = k) || hasK k ks)
    by_cases e : a = k
    · rw [valV_pos (p := (a, x)) e]; simp [e]
    · rw [valV_neg (p := (a, x)) e, val_zip (by simpa using h)]; simp [e]
  | [], _ :: _, h => by simp at h
  | _ :: _, [], h => by simp at h
theorem in_go {K : PySem.W.Frag} {F H : Hp} {x y : V} {dx dy : D} {neg k : Bool} {Q : VK} (s : Same F H) (r1 : Rp K F x dx) (r2 : Rp K F y dy) (h : inD dx dy = some k) (q : Q (.bl (if neg then !k else k)) H) : rInG K neg x y H Q := by
  have seq : ∀ {l : List D}, (Dp K H y (.list (pyA l)) ∨ Dp K H y (.tuple (pyA l))) ∨ plA l = false → (if plks dx l then some (l.any fun y => eqD y dx) else none) = some k → rInG K neg x y H Q := fun {l} hd h => by
    split at h
    · next hp =>
      cases h
      unfold plks at hp
      simp only [Bool.and_eq_true, decide_eq_true_eq] at hp
      rcases hd with hd | hd
      · exact .inl ⟨py dx, pyA l, dp_of s dx x hp.1.1 r1, hd, plain_py _, plain_pyA _, hp.2, by rw [any_py]; exact q⟩
      · rw [hp.1.2] at hd; cases hd
    · cases h
  have dl : ∀ {l : List D} {xs : List V}, RpA K F xs l → plA l = false ∨ DpAll K H xs (pyA l) := fun {l xs} t => by
    cases e : plA l with
    | false => exact .inl rfl
    | true => exact .inr (dpA_of s l xs e t)
  cases r2 with
  | lst h2 t2 => exact seq ((dl t2).elim .inr fun z => .inl (.inl (.lst (.inl (.inl (s _ _ h2))) z))) h
  | tup h2 t2 => exact seq ((dl t2).elim .inr fun z => .inl (.inr (.tup (sq_t (s _ _ h2)) z))) h
  | ktp h2 t2 => exact seq ((dl t2).elim .inr fun z => .inl (.inr (.tup (same_t s h2.t) z))) h
  | str z =>
    cases dx with
    | str w =>
      obtain ⟨c, hc, e⟩ := Option.map_eq_some_iff.mp (show (one1 w).map (fun c => decide (c ∈ z.cps.toList)) = some k from h)
      subst e
      cases r1
      rw [one1_is hc]
      exact .inr (.inl ⟨c, z, rfl, rfl, q⟩)
    | _ => cases h
  | dK h2 hl t2 =>
    obtain ⟨k', hk, e⟩ := Option.map_eq_some_iff.mp (show (keyOf dx).map _ = some k from h)
    subst e
    rw [keyOf_is hk] at r1
    rw [rp_key r1]
    refine .inr (.inr ⟨_, _, rfl, .inl ⟨_, _, .inr ⟨_, s _ _ h2⟩, rfl, rfl⟩, ?_⟩)
    rw [val_zip hl]; exact q
  | dV h2 hl t2 =>
    obtain ⟨k', hk, e⟩ := Option.map_eq_some_iff.mp (show (keyOf dx).map _ = some k from h)
    subst e
    rw [keyOf_is hk] at r1
    rw [rp_key r1]
    refine .inr (.inr ⟨_, _, rfl, DGet.k (s _ _ h2), ?_⟩)
    rw [val_zip hl]; exact q
  | dT h2 hl t2 =>
    obtain ⟨k', hk, e⟩ := Option.map_eq_some_iff.mp (show (tkeyOf dx).map _ = some k from h)
    subst e
    rw [tkeyOf_is hk] at r1
    obtain ⟨b, rfl, hb⟩ := rp_tupK r1
    refine .inr (.inr ⟨_, _, rfl, DGet.t (s _ _ h2) (s _ _ hb), ?_⟩)
    rw [val_zip hl]; exact q
  | emp h2 =>
    obtain ⟨k', hk, e⟩ := Option.map_eq_some_iff.mp (show (keyOf dx).map _ = some k from h)
    subst e
    rw [keyOf_is hk] at r1
    rw [rp_key r1]
    exact .inr (.inr ⟨_, _, rfl, DGet.k (s _ _ h2), q⟩)
  | _ => cases h
def oIn (neg : Bool) : F2 := fun x y m Φ => vw y m fun y' => om (inD x y') fun k => Φ (.bl (if neg then !k else k)) m
theorem g_in {neg : Bool} {d1 d2 : D} (h : oIn neg d1 d2 m Φ) : RD X (rInG X.K neg) d1 d2 m Φ := fun F H x y Q s mm r1 r2 n => by
  obtain ⟨F', d', f1, f2, r', q⟩ := vw_rp s mm r2 h
  obtain ⟨k, hk, q⟩ := om_some q
  exact in_go f2 (r1.up f1) r' hk (n.now s mm (.bl _) q)
theorem r_in (B : Bs X) (ha : RE X W a ta) (hb : RE X W b tb) (hm : behindInMarks .In b = false := by rfl) : RE X W (.Compare a [.In] [b] pos) (o2 (oIn false) ta tb) := ⟨fun h => ew_cmp (op_inG B.hu) (two g_in ha hb h) hm⟩
theorem t_in (B : Bs X) (ha : RE X W a ta) (hb : RE X W b tb) (hm : behindInMarks .In b = false := by rfl) : RT X W (.Compare a [.In] [b] pos) (tst (o2 (oIn false) ta tb)) := ⟨fun h => tw_cmp (op_inG B.hu) (twoT g_in ha hb h) hm⟩
theorem r_notin (B : Bs X) (ha : RE X W a ta) (hb : RE X W b tb) (hm : behindInMarks .NotIn b = false := by rfl) : RE X W (.Compare a [.NotIn] [b] pos) (o2 (oIn true) ta tb) := ⟨fun h => ew_cmp (op_notInG B.hu) (two g_in ha hb h) hm⟩
theorem t_notin (B : Bs X) (ha : RE X W a ta) (hb : RE X W b tb) (hm : behindInMarks .NotIn b = false := by rfl) : RT X W (.Compare a [.NotIn] [b] pos) (tst (o2 (oIn true) ta tb)) := ⟨fun h => tw_cmp (op_notInG B.hu) (twoT g_in ha hb h) hm⟩
end
end G
namespace G
open PySem PySem.Spec PyProof.Rows L2
/-! ### dicts on data -/
def lkD {κ : Type} [DecidableEq κ] (l : List (κ × D)) (k : κ) : Option D := (l.find? fun kv => decide (kv.1 = k)).map (·.2)
def putD {κ : Type} [DecidableEq κ] (l : List (κ × D)) (k : κ) (v : D) : List (κ × D) := if (l.any fun kv => decide (kv.1 = k)) = true then l.map (fun kv => if kv.1 = k then (kv.1, v) else kv) else l ++ [(k, v)]
section
variable {K : PySem.W.Frag} {F : Hp} {κ : Type} [DecidableEq κ]
theorem kv_any {k : κ} : ∀ {kvs : List (κ × V)} {l : List (κ × D)}, KvA K F kvs l → (kvs.any fun kv => decide (kv.1 = k)) = l.any fun kv => decide (kv.1 = k)
  | _, _, .nil => rfl
  | _, _, .cons (a := a) (b := b) ⟨e, r⟩ t => by rw [List.any_cons, List.any_cons, e, kv_any t]
theorem kv_map {k : κ} {v : V} {d : D} (rv : Rp K F v d) : ∀ {kvs : List (κ × V)} {l : List (κ × D)}, KvA K F kvs l → KvA K F (kvs.map fun kv => if kv.1 = k then (kv.1, v) else kv) (l.map fun kv => if kv.1 = k then (kv.1, d) else kv)
  | _, _, .nil => .nil
  | _, _, .cons (a := a) (b := b) ⟨e, r⟩ t => by
    refine .cons ?_ (kv_map rv t)
    show (if a.1 = k then (a.1, v) else a).1 = (if b.1 = k then (b.1, d) else b).1 ∧ Rp K F (if a.1 = k then (a.1, v) else a).2 (if b.1 = k then (b.1, d) else b).2
    by_cases h : a.1 = k
    · rw [if_pos h, if_pos (e ▸ h)]; exact ⟨e, rv⟩
    · rw [if_neg h, if_neg (e ▸ h)]; exact ⟨e, r⟩
theorem kv_snoc {p : κ × V} {q : κ × D} (h : p.1 = q.1 ∧ Rp K F p.2 q.2) : ∀ {kvs : List (κ × V)} {l : List (κ × D)}, KvA K F kvs l → KvA K F (kvs ++ [p]) (l ++ [q])
  | _, _, .nil => .cons h .nil
  | _, _, .cons a t => .cons a (kv_snoc h t)
theorem kv_put {kvs : List (κ × V)} {l : List (κ × D)} {k : κ} {v : V} {d : D} (h : KvA K F kvs l) (rv : Rp K F v d) : KvA K F (putK kvs k v) (putD l k d) := by
  unfold putK putD
  rw [kv_any h]
  by_cases e : (l.any fun kv => decide (kv.1 = k)) = true
  · rw [if_pos e, if_pos e]; exact kv_map rv h
  · rw [if_neg e, if_neg e]; exact kv_snoc ⟨rfl, rv⟩ h
theorem kv_len {kvs : List (κ × V)} {l : List (κ × D)} (h : KvA K F kvs l) : kvs.length = l.length := Paired.length h
theorem kv_get {k : κ} : ∀ {kvs : List (κ × V)} {l : List (κ × D)}, KvA K F kvs l → (lkD l k = none → valV kvs k = none) ∧ ∀ d, lkD l k = some d → ∃ v, valV kvs k = some v ∧ Rp K F v d
  | _, _, .nil => ⟨fun _ => rfl, fun d h => by cases h⟩
  | _, _, .cons (a := a) (b := b) (l₁ := as) (l₂ := bs) ⟨e, r⟩ t => by
    by_cases h : b.1 = k
    · have e1 : lkD (b :: bs) k = some b.2 := by simp [lkD, List.find?_cons, h]
      rw [e1]
      refine ⟨fun z => (nomatch z), fun d hd => ?_⟩
      cases hd
      exact ⟨a.2, valV_pos (p := a) (e.trans h), r⟩
    · have e1 : lkD (b :: bs) k = lkD bs k := by simp [lkD, List.find?_cons, h]
      rw [e1, valV_neg (p := a) (fun z => h (e ▸ z))]
      exact kv_get t
theorem zip_kv : ∀ {ks : List κ} {xs : List V} {l : List D}, ks.length = xs.length → RpA K F xs l → KvA K F (ks.zip xs) (ks.zip l)
  | [], _, _, _, _ => .nil
  | k :: ks, _, _, h, .nil => by simp at h
  | k :: ks, _, _, h, .cons a b => .cons ⟨rfl, a⟩ (zip_kv (by simpa using h) b)
end
/-- what stands at a key -/
def lkAt {κ : Type} [DecidableEq κ] (ko : Option κ) (l : List (κ × D)) (f : Option D → Prop) : Prop := om ko fun k => f (lkD l k)
def getAt (d : D) (x : D) (m : Mem) (f : Option D → Prop) : Prop := match d with
  | .dK ks l => lkAt (keyOf x) (ks.zip l) f
  | .dT ks l => lkAt (tkeyOf x) (ks.zip l) f
  | .emp => lkAt (keyOf x) [] f
  | .ref p => cel m p fun _ c => match c with
    | .dK l => lkAt (keyOf x) l f
    | .dT l => lkAt (tkeyOf x) l f
    | _ => False
  | _ => False
def oGet : F2 := fun d x m Φ => getAt d x m fun o => om o fun v => Φ v m
def putM (d1 d2 d : D) (m : Mem) (Φ : Mem → Prop) : Prop := match d1 with
  | .ref p => cel m p fun j c => match c with
    | .lst l => match d2 with
      | .int k => om (ixN l.length k) fun i => Φ (m.set j (p, .lst (l.set i d)))
      | _ => False
    | .dK l => om (keyOf d2) fun k => gd (decide (l.length < sizeLine)) (Φ (m.set j (p, .dK (putD l k d))))
    | .dT l => om (tkeyOf d2) fun k => gd (decide (l.length < sizeLine)) (Φ (m.set j (p, .dT (putD l k d))))
    | _ => False
  | _ => False
def gPut (o ix : ME) : MG := fun d ds m Φ Ξ => o ds m (fun d1 m1 => ix ds m1 (fun d2 m2 => putM d1 d2 d m2 (Φ ds)) Ξ) Ξ
def dnK_ : ME := fun _ m Φ _ => ∀ p, p ∉ dom m → Φ (.ref p) ((p, .dK []) :: m)
def dnT_ : ME := fun _ m Φ _ => ∀ p, p ∉ dom m → Φ (.ref p) ((p, .dT []) :: m)
/-- {k: v} -/
def dd1_ (k v : ME) : ME := fun ds m Φ Ξ => ∀ p, p ∉ dom m → k ds ((p, .dK []) :: m) (fun dk m1 => v ds m1 (fun dv m2 => ∃ j, m2[j]? = some (p, .dK []) ∧ om (keyOf dk) fun k => Φ (.ref p) (m2.set j (p, .dK [(k, dv)]))) Ξ) Ξ
section
variable {X : Cx} {W : WX} {e a b c : Expr} {es : List Expr} {st : Stmt} {sts rest : List Stmt} {ds : DS} {m : Mem} {Φ Ψ : D → Mem → Prop} {Ξ : XP} {N N' : En} {p pos : Pos} {d : D} {x : Str} {i k n : Nat} {f C : Addr} {sp : SpD}
variable {ta tb tc : ME} {ca cb cc : MT} {aa : MA} {sa sb : MS} {ga : MG}
theorem get_go {K : PySem.W.Frag} {F H : Hp} {o x : V} {d y : D} {f : Option D → Prop} (s : Same F H) (mm : MemOk K F H m) (r : Rp K F o d) (ry : Rp K F x y) (h : getAt d y m f) : ∃ ad od ov, o = .ref ad ∧ DGet H ad x ov ∧ f od ∧ (od = none → ov = none) ∧ ∀ d, od = some d → ∃ v, ov = some v ∧ Rp K F v d := by
  have kK : ∀ {ad : Addr} {kvs : List (Key × V)} {l : List (Key × D)}, Rd H ad (.dK kvs) → KvA K F kvs l → lkAt (keyOf y) l f → ∃ od ov, DGet H ad x ov ∧ f od ∧ (od = none → ov = none) ∧ ∀ d, od = some d → ∃ v, ov = some v ∧ Rp K F v d := fun {ad kvs l} h1 h2 h3 => by
    obtain ⟨k, hk, q⟩ := om_some h3
    rw [keyOf_is hk] at ry
    rw [rp_key ry]
    exact ⟨_, _, .inl ⟨_, _, h1, rfl, rfl⟩, q, (kv_get h2).1, (kv_get h2).2⟩
  have kT : ∀ {ad : Addr} {kvs : List (List Key × V)} {l : List (List Key × D)}, H ad = some (.dT kvs) → KvA K F kvs l → lkAt (tkeyOf y) l f → ∃ od ov, DGet H ad x ov ∧ f od ∧ (od = none → ov = none) ∧ ∀ d, od = some d → ∃ v, ov = some v ∧ Rp K F v d := fun {ad kvs l} h1 h2 h3 => by
    obtain ⟨k, hk, q⟩ := om_some h3
    rw [tkeyOf_is hk] at ry
    obtain ⟨b, rfl, hb⟩ := rp_tupK ry
    exact ⟨_, _, DGet.t h1 (s _ _ hb), q, (kv_get h2).1, (kv_get h2).2⟩
  cases r with
  | dK h1 hl t => obtain ⟨od, ov, w⟩ := kK (.inr ⟨_, s _ _ h1⟩) (zip_kv hl t) h; exact ⟨_, od, ov, rfl, w⟩
  | dT h1 hl t => obtain ⟨od, ov, w⟩ := kT (s _ _ h1) (zip_kv hl t) h; exact ⟨_, od, ov, rfl, w⟩
  | emp h1 => obtain ⟨od, ov, w⟩ := kK (.inl (s _ _ h1)) .nil h; exact ⟨_, od, ov, rfl, w⟩
  | ref p =>
    obtain ⟨j, c, hj, q⟩ := (show cel m p _ from h)
    have ce := mm.ce _ (List.mem_of_getElem? hj)
    cases c with
    | dK l => obtain ⟨kvs, h1, h2⟩ := ce; obtain ⟨od, ov, w⟩ := kK (.inl h1) h2 q; exact ⟨_, od, ov, rfl, w⟩
    | dT l => obtain ⟨kvs, h1, h2⟩ := ce; obtain ⟨od, ov, w⟩ := kT h1 h2 q; exact ⟨_, od, ov, rfl, w⟩
    | _ => exact False.elim q
  | _ => exact False.elim h
theorem r_get (B : Bs X) (ha : RE X W a ta) (hb : RE X W b tb) (hs : NoSl b := by intro _ _; rfl) : RE X W (.Subscript a b pos) (o2 oGet ta tb) := ⟨fun {ds m Φ Ξ} h F H σ s Q n x =>
  We.of (pe_dget (by have := B.hu; omega) pw_e pw_e hs) (ha.run h F H σ s _ (fun v F2 H2 d1 m2 s1 r1 q => hb.run q F2 H2 σ (s.go s1) _ (fun u F3 H3 d2 m3 s2 r2 q2 => by
    obtain ⟨ad, od, ov, rfl, g, hq, hn, hv⟩ := get_go s2.sub s2.mem (r1.up s2.fz) r2 q2
    obtain ⟨d, rfl, q3⟩ := om_some hq
    obtain ⟨v, rfl, rv⟩ := hv d rfl
    exact ⟨ad, v, rfl, g, (n.go (s1.trans s2)).now s2.sub s2.mem rv q3⟩) (x.go s1)) x)⟩
theorem set_any (hu : X.A.units + 1 < cLine) : PSet X (fun o i v H Q => rSetL o i v H Q ∨ rSetD o i v H Q) := by
  intro pins s σ H o i v ov iv u Q I ro ri rv h
  rcases h with h | h
  · exact set_list pins s σ H o i v ov iv u Q I ro ri rv h
  · exact set_dict hu pins s σ H o i v ov iv u Q I ro ri rv h
theorem gt_put {o ix : Expr} (B : Bs X) (ho : RE X W o ta) (hx : RE X W ix tb)
    (ha : ∀ v, assign (.Subscript o ix pos) X.env v = (do
      let obj ← holding [v] (eval o X.env)
      let sub ← holding [v, obj] (eval ix X.env)
      standAt pos
      holding [v, obj, sub] (setItem obj sub v)
      release [v, obj, sub] []) := by intro _; rfl) : RG X W (.Subscript o ix pos) (gPut ta tb) := ⟨fun {d ds m Φ Ξ} h F H σ v s rv Q n x =>
  Wg.of (pg_sub pw_e pw_e (set_any (by have := B.hu; omega)) ha) (ho.run h F H σ s _ (fun v1 F2 H2 d1 m2 s1 r1 q => hx.run q F2 H2 σ (s.go s1) _ (fun v2 F3 H3 d2 m3 s2 r2 q2 => by
    have sv := rv.up (s1.trans s2).fz
    cases d1 with
    | ref p =>
      obtain ⟨j, c, hj, q3⟩ := (show cel m3 p _ from q2)
      cases r1
      have ce := s2.mem.ce _ (List.mem_of_getElem? hj)
      have fin : ∀ {o : HO} {c' : MC}, Cel X.K F3 (upd H3 p o) p c' → Φ ds (m3.set j (p, c')) → Q σ (upd H3 p o) := fun {o c'} hc hq => n σ F3 _ ds _ ((s1.trans s2).trans (Stp.putAt s2.sub s2.mem hj hc)) (s.sl.up (s1.trans s2).fz) hq
      cases c with
      | lst l =>
        obtain ⟨vs, h1, t⟩ := ce
        cases d2 with
        | int k =>
          obtain ⟨i, hi, q4⟩ := om_some q3
          cases r2
          exact .inl ⟨p, vs, k, i, rfl, rfl, h1, by rw [t.len]; exact hi, fin (c' := .lst (l.set i d)) ⟨_, upd_same, t.set i sv⟩ q4⟩
        | _ => exact False.elim q3
      | dK l =>
        obtain ⟨kvs, h1, t⟩ := ce
        obtain ⟨k, hk, q4⟩ := om_some q3
        obtain ⟨hz, q5⟩ := gdd q4
        rw [keyOf_is hk] at r2
        rw [rp_key r2]
        exact .inr ⟨p, _, rfl, DPut.k h1 (by rw [kv_len t]; exact hz), fin (c' := .dK (putD l k d)) ⟨_, upd_same, kv_put t sv⟩ q5⟩
      | dT l =>
        obtain ⟨kvs, h1, t⟩ := ce
        obtain ⟨k, hk, q4⟩ := om_some q3
        obtain ⟨hz, q5⟩ := gdd q4
        rw [tkeyOf_is hk] at r2
        obtain ⟨b, rfl, hb⟩ := rp_tupK r2
        exact .inr ⟨p, _, rfl, DPut.t h1 (s2.sub _ _ hb) (by rw [kv_len t]; exact hz), fin (c' := .dT (putD l k d)) ⟨_, upd_same, kv_put t sv⟩ q5⟩
      | obj => exact False.elim q3
    | _ => exact False.elim q2) (x.go s1)) x)⟩
theorem not_dom {K : PySem.W.Frag} {F H : Hp} (mm : MemOk K F H m) {p : Addr} (hp : H p = none) : p ∉ dom m := fun z => by
  obtain ⟨c, hc, e⟩ := List.mem_map.mp z
  exact (mm.ce c hc).ne (by rw [e]; exact hp)
theorem r_dnK : RE X W (.Dict [] [] pos) dnK_ := ⟨fun {ds m Φ Ξ} h F H σ s Q n x => We.of pe_dnewK fun p hp => by
  have s2 := Stp.cell (o := .dK []) (c := .dK []) s.sub s.mem hp ⟨[], upd_same, .nil⟩
  exact n _ _ _ _ _ s2 (.ref p) (h p (not_dom s.mem hp))⟩
theorem r_dnT : RE X W (.Dict [] [] pos) dnT_ := ⟨fun {ds m Φ Ξ} h F H σ s Q n x => We.of pe_dnewT fun p hp => by
  have s2 := Stp.cell (o := .dT []) (c := .dT []) s.sub s.mem hp ⟨[], upd_same, .nil⟩
  exact n _ _ _ _ _ s2 (.ref p) (h p (not_dom s.mem hp))⟩
theorem r_dd1 {kx vx : Expr} (hk : RE X W kx ta) (hv : RE X W vx tb) : RE X W (.Dict [some kx] [vx] pos) (dd1_ ta tb) := ⟨fun {ds m Φ Ξ} h F H σ s Q n x =>
  We.of (pe_disp (pps_cons pw_e pw_e pps_nil) rfl rfl (by simp) (by simp)) fun p hp => by
    have s0 := Stp.cell (o := .dK []) (c := .dK []) s.sub s.mem hp ⟨[], upd_same, .nil⟩
    refine hk.run (h p (not_dom s.mem hp)) F _ σ (s.go s0) _ (fun v1 F2 H2 d1 m2 s1 r1 q => hv.run q F2 H2 σ ((s.go s0).go s1) _ (fun v2 F3 H3 d2 m3 s2 r2 q2 => ?_) ((x.go s0).go s1)) (x.go s0)
    obtain ⟨j, hj, q3⟩ := q2
    obtain ⟨k, hkk, q4⟩ := om_some q3
    obtain ⟨kvs, h1, t⟩ := s2.mem.ce _ (List.mem_of_getElem? hj)
    cases t
    rw [keyOf_is hkk] at r1
    refine ⟨h1, [(k, v2)], by rw [rp_key r1]; rfl, by simp, ?_⟩
    exact n _ _ _ _ _ (s0.trans (s1.trans (s2.trans (Stp.putAt (c' := .dK [(k, d2)]) s2.sub s2.mem hj ⟨_, upd_same, .cons ⟨rfl, r2⟩ .nil⟩)))) (.ref p) q4⟩
/-! ### methods -/
inductive Ty where
  | str | list | dict
def Ty.nm : Ty → String
  | .str => "str"
  | .list => "list"
  | .dict => "dict"
def tyC (T : Ty) (d : D) (m : Mem) (A : Prop) : Prop := match T, d with
  | .str, .str _ => A
  | .list, .lst _ => A
  | .list, .ref p => cel m p fun _ c => match c with
    | .lst _ => A
    | _ => False
  | _, _ => False
abbrev FM := D → List D → Mem → (D → Mem → Prop) → Prop
def mth_ (T : Ty) (g : FM) (o : ME) (a : MA) : ME := fun ds m Φ Ξ => o ds m (fun d m1 => tyC T d m1 (a ds m1 (fun l m2 => g d l m2 Φ) Ξ)) Ξ
/-- a method, by data -/
structure MD (X : Cx) (id : String) (g : FM) : Prop where
  run : ∀ {m Φ d l}, g d l m Φ → ∃ r, MtR X id r ∧ ∀ F H x xs Q, Same F H → MemOk X.K F H m → Rp X.K F x d → RpA X.K F xs l → Nm X.K F H m Φ Q → r x xs H Q
theorem ty_go {K : PySem.W.Frag} {F H : Hp} {v : V} {T : Ty} {A : Prop} (s : Same F H) (mm : MemOk K F H m) (r : Rp K F v d) (h : tyC T d m A) : tyV K T.nm v H ∧ A := by
  unfold tyC at h
  split at h
  · cases r; exact ⟨rfl, h⟩
  · cases r with | lst h1 _ => exact ⟨.inl ⟨rfl, _, .inl (.inl (s _ _ h1))⟩, h⟩
  · next p =>
    obtain ⟨j, c, hj, q⟩ := h
    cases r
    have ce := mm.ce _ (List.mem_of_getElem? hj)
    cases c with
    | lst l => obtain ⟨vs, h1, _⟩ := ce; exact ⟨.inl ⟨rfl, _, .inl (.inl h1)⟩, q⟩
    | _ => exact False.elim q
  · exact h.elim
/-- the reading of a method by data -/
def rMD (X : Cx) (id : String) : V → List V → Hp → VK → Prop := fun x xs H Q => ∃ r, MtR X id r ∧ r x xs H Q
theorem mt_md {id : String} : MtR X id (rMD X id) := fun pins s σ H x xs v us Q I rx rs ⟨r, hr, h⟩ => hr pins s σ H x xs v us Q I rx rs h
theorem r_mth {o : Expr} {nm : Str} {apos cpos : Pos} {id : String} {T : Ty} {g : FM} (M : MD X id g) (pa : PlainAttrs T.nm) (slot : Slot T.nm nm id) (hty : typeOf (.builtin id) = pure (.type "method_descriptor")) (ho : RE X W o ta) (ha : RA X W (e :: es) aa)
    (hbase : attributeBase o nm X.env (eval o X.env) = eval o X.env := by rfl)
    (hfew : ((backTo cpos (starEach (e :: es) X.env)).all (fun x => !x.1) && (backToKw cpos (keywordEach [] X.env)).all (fun x => x.1.isSome)
      && decide ((e :: es).length + ([] : List Keyword).length + (if ([] : List Keyword).isEmpty then 0 else 1) < 30)) = true := by rfl)
    (hline : (apos.endLine == cpos.line) = true := by rfl) (hs : starEach (e :: es) X.env = (false, eval e X.env) :: starEach es X.env := by rfl) (hplain : (backTo cpos (starEach es X.env)).any (·.1) = false := by rfl) :
    RE X W (.Call (.Attribute o nm apos) (e :: es) [] cpos) (mth_ T g ta aa) := ⟨fun {ds m Φ Ξ} h F H σ s Q n x =>
  We.of (pe_bm pa slot hty mt_md pw_e pw_a hbase hfew hline hs hplain) (ho.run h F H σ s _ (fun v F2 H2 d1 m2 s1 r1 q => by
    obtain ⟨ty, q⟩ := ty_go s1.sub s1.mem r1 q
    refine ⟨ty, ha.run q F2 H2 σ (s.go s1) _ (fun vs F3 H3 l m3 s2 rs q2 => ?_) (x.go s1)⟩
    obtain ⟨r, hr, hh⟩ := M.run q2
    exact ⟨r, hr, hh F3 H3 v vs Q s2.sub s2.mem (r1.up s2.fz) rs (n.go (s1.trans s2))⟩) x)⟩
theorem r_mth0 {o : Expr} {nm : Str} {apos cpos : Pos} {id : String} {T : Ty} {g : FM} (M : MD X id g) (pa : PlainAttrs T.nm) (slot : Slot T.nm nm id) (hty : typeOf (.builtin id) = pure (.type "method_descriptor")) (ho : RE X W o ta)
    (hbase : attributeBase o nm X.env (eval o X.env) = eval o X.env := by rfl) (hline : (apos.endLine == cpos.line) = true := by rfl) :
    RE X W (.Call (.Attribute o nm apos) [] [] cpos) (mth_ T g ta nil_) := ⟨fun {ds m Φ Ξ} h F H σ s Q n x =>
  We.of (pe_bm0 pa slot hty mt_md pw_e hbase hline) (ho.run h F H σ s _ (fun v F2 H2 d1 m2 s1 r1 q => by
    obtain ⟨ty, q⟩ := ty_go s1.sub s1.mem r1 q
    obtain ⟨r, hr, hh⟩ := M.run (show g d1 [] m2 Φ from q)
    exact ⟨ty, r, hr, hh F2 H2 v [] Q s1.sub s1.mem r1 .nil (n.go s1)⟩) x)⟩
/-- a list cell -/
def lcel (d : D) (m : Mem) (f : Addr → Nat → List D → Prop) : Prop := match d with
  | .ref p => cel m p fun j c => match c with
    | .lst l => f p j l
    | _ => False
  | _ => False
theorem lc_go' {K : PySem.W.Frag} {F H : Hp} {v : V} {f : Addr → Nat → List D → Prop} (mm : MemOk K F H m) (r : Rp K F v d) (h : lcel d m f) : ∃ p j l vs, v = .ref p ∧ m[j]? = some (p, .lst l) ∧ H p = some (.lst vs) ∧ RpA K F vs l ∧ f p j l := by
  cases d with
  | ref p =>
    obtain ⟨j, c, hj, q⟩ := (show cel m p _ from h)
    cases r
    have ce := mm.ce _ (List.mem_of_getElem? hj)
    cases c with
    | lst l => obtain ⟨vs, h1, h2⟩ := ce; exact ⟨p, j, l, vs, rfl, hj, h1, h2, q⟩
    | _ => exact False.elim q
  | _ => exact False.elim h
def gApp : FM := fun d l m Φ => match l with
  | [y] => lcel d m fun p j l => gd (decide (l.length < sizeLine)) (Φ .non (m.set j (p, .lst (l ++ [y]))))
  | _ => False
def gExt : FM := fun d l m Φ => match l with
  | [.lst zs] => lcel d m fun p j l => gd (decide (l.length + zs.length ≤ sizeLine)) (Φ .non (m.set j (p, .lst (l ++ zs))))
  | _ => False
def gPop : FM := fun d l m Φ => match l with
  | [] => lcel d m fun p j l => om l[l.length - 1]? fun y => Φ y (m.set j (p, .lst l.dropLast))
  | [.int i] => lcel d m fun p j l => RgW i (om (ixN l.length i) fun k => om l[k]? fun y => Φ y (m.set j (p, .lst (l.eraseIdx k))))
  | _ => False
def gRev : FM := fun d l m Φ => match l with
  | [] => lcel d m fun p j l => Φ .non (m.set j (p, .lst l.reverse))
  | _ => False
theorem RpA.rev {K : PySem.W.Frag} {F : Hp} : ∀ {l : List D} {vs : List V}, RpA K F vs l → RpA K F vs.reverse l.reverse
  | [], _, .nil => .nil
  | d :: l, _, .cons a b => by rw [List.reverse_cons, List.reverse_cons]; exact (RpA.rev b).app (.cons a .nil)
theorem RpA.erase {K : PySem.W.Frag} {F : Hp} : ∀ {l : List D} {vs : List V} (k : Nat), RpA K F vs l → RpA K F (vs.eraseIdx k) (l.eraseIdx k)
  | [], _, _, .nil => .nil
  | d :: l, _, 0, .cons a b => b
  | d :: l, _, k + 1, .cons a b => .cons a (RpA.erase k b)
theorem RpA.dropL {K : PySem.W.Frag} {F : Hp} {l : List D} {vs : List V} (h : RpA K F vs l) : RpA K F vs.dropLast l.dropLast := by
  rw [List.dropLast_eq_take, List.dropLast_eq_take, h.len]
  exact h.take _
theorem md_app : MD X "list.append" gApp := ⟨fun {m Φ d l} h => ⟨rAppend, mt_append, fun F H x xs Q s mm r rs n => by
  unfold gApp at h
  split at h
  · next y =>
    obtain ⟨p, j, l, vs, rfl, hj, h1, h2, q⟩ := lc_go' mm r h
    obtain ⟨hz, q⟩ := gdd q
    cases rs with
    | @cons v _ _ _ ry t =>
      cases t
      exact ⟨p, vs, v, rfl, rfl, h1, by rw [h2.len]; exact hz, n _ _ _ _ _ (Stp.putAt (c' := .lst (l ++ [y])) s mm hj ⟨_, upd_same, h2.app (.cons ry .nil)⟩) .non q⟩
  · exact h.elim⟩⟩
theorem md_ext : MD X "list.extend" gExt := ⟨fun {m Φ d l} h => ⟨rExtend, mt_extend, fun F H x xs Q s mm r rs n => by
  unfold gExt at h
  split at h
  · next zs =>
    obtain ⟨p, j, l, vs, rfl, hj, h1, h2, q⟩ := lc_go' mm r h
    obtain ⟨hz, q⟩ := gdd q
    cases rs with
    | cons ry t =>
      cases t
      cases ry with
      | @lst b ws _ hb tb => exact ⟨p, b, vs, ws, rfl, rfl, h1, s _ _ hb, by rw [h2.len, tb.len]; exact hz, n _ _ _ _ _ (Stp.putAt (c' := .lst (l ++ zs)) s mm hj ⟨_, upd_same, h2.app tb⟩) .non q⟩
  · exact h.elim⟩⟩
theorem md_rev : MD X "list.reverse" gRev := ⟨fun {m Φ d l} h => ⟨rReverse, mt_reverse, fun F H x xs Q s mm r rs n => by
  unfold gRev at h
  split at h
  · obtain ⟨p, j, l, vs, rfl, hj, h1, h2, q⟩ := lc_go' mm r h
    cases rs
    exact ⟨p, vs, rfl, rfl, h1, n _ _ _ _ _ (Stp.putAt (c' := .lst l.reverse) s mm hj ⟨_, upd_same, h2.rev⟩) .non q⟩
  · exact h.elim⟩⟩
theorem md_pop : MD X "list.pop" gPop := ⟨fun {m Φ d l} h => by
  unfold gPop at h
  split at h
  · refine ⟨rPop, mt_pop, fun F H x xs Q s mm r rs n => ?_⟩
    obtain ⟨p, j, l, vs, rfl, hj, h1, h2, q⟩ := lc_go' mm r h
    obtain ⟨y, hy, q⟩ := om_some q
    cases rs
    obtain ⟨v, hv, rv⟩ := h2.get hy
    exact ⟨p, vs, v, rfl, rfl, h1, by rw [h2.len]; exact hv, n _ _ _ _ _ (Stp.putAt (c' := .lst l.dropLast) s mm hj ⟨_, upd_same, h2.dropL⟩) rv q⟩
  · next i =>
    refine ⟨rPopAt, mt_popAt, fun F H x xs Q s mm r rs n => ?_⟩
    obtain ⟨p, j, l, vs, rfl, hj, h1, h2, q⟩ := lc_go' mm r h
    obtain ⟨w1, w2, q⟩ := q
    obtain ⟨k, hk, q⟩ := om_some q
    obtain ⟨y, hy, q⟩ := om_some q
    cases rs with
    | cons ry t =>
      cases t
      cases ry
      obtain ⟨v, hv, rv⟩ := h2.get hy
      exact ⟨p, vs, i, k, v, rfl, rfl, h1, by omega, by omega, by rw [h2.len]; exact (ixN_seq hk).1, hv, n _ _ _ _ _ (Stp.putAt (c' := .lst (l.eraseIdx k)) s mm hj ⟨_, upd_same, h2.erase k⟩) rv q⟩
  · exact h.elim⟩
end
end G
namespace G
open PySem PySem.Spec PyProof.Rows L2
/-! ### a def's meaning: its own text -/
def cF (t : MS) (k : Nat) : SpD := fun l m Φ Ψ => t (l.map some ++ List.replicate k none) m { nx := fun _ m => Φ .non m, rt := Φ } fun _ => Ψ
section
variable {X : Cx} {W : WX} {e a b c : Expr} {es : List Expr} {st : Stmt} {sts rest : List Stmt} {ds : DS} {m : Mem} {Φ Ψ : D → Mem → Prop} {Ξ : XP} {N N' : En} {p pos : Pos} {d : D} {x : Str} {i k n : Nat} {f C : Addr} {sp : SpD}
variable {ta tb tc : ME} {ca cb cc : MT} {aa : MA} {sa sb : MS} {ga : MG}
/-! ### walks over a list, a tuple or a text -/
def iSeq (K : PySem.W.Frag) (tl : TE) : TI := fun σ H R => tl σ H fun x H1 => (∃ a, x = .ref a ∧ (∃ xs, SqL K H1 a xs) ∧ R (Itl K a) H1) ∨ (∃ a, x = .ref a ∧ (∃ xs, SqT K H1 a xs) ∧ R (Itt K a) H1) ∨ ∃ z, x = .str z ∧ R (Its z) H1
theorem pi_seq {tg l : Expr} {tl : TE} (hl : PE X l tl) : PI X tg l (iSeq X.K tl) := by
  refine ⟨fun pins s σ H R I h => ?_⟩
  refine thn (hl.run pins s σ H _ I h) fun v s1 ⟨x, H1, I1, r1, q1⟩ => ?_
  rcases q1 with ⟨a, e, ⟨xs, hq⟩, q⟩ | ⟨a, e, ⟨xs, hq⟩, q⟩ | ⟨z, e, q⟩
  · subst e
    cases r1
    obtain ⟨its, rv, p, hz⟩ := I1.list hq
    refine wpAny_pyIter_list p.isList ?_
    refine ⟨s1.heap.objs.size, [s1.heap.objs.size], _, _, H1, rfl, I1.kept (t' := s1.toks) fun b o e => Heap.get?_push_of_some _ e, turn_list a _, ⟨_, Heap.get?_push_size _ rfl, rfl, rfl⟩, fun b hb => ?_, q⟩
    have e : b = s1.heap.objs.size := by simpa using hb
    subst e
    exact I1.fpOk (Nat.le_refl _) (I1.hok.fresh (Nat.le_refl _))
  · subst e
    cases r1
    obtain ⟨its, rv, p, hz⟩ := I1.tuple hq
    refine wpAny_pyIter_tuple (show s1.heap.IsTuple a its.toArray from p) ?_
    refine ⟨s1.heap.objs.size, [s1.heap.objs.size], _, _, H1, rfl, I1.kept (t' := s1.toks) fun b o e => Heap.get?_push_of_some _ e, turn_tuple a _, ⟨_, Heap.get?_push_size _ rfl, rfl, rfl⟩, fun b hb => ?_, q⟩
    have e : b = s1.heap.objs.size := by simpa using hb
    subst e
    exact I1.fpOk (Nat.le_refl _) (I1.hok.fresh (Nat.le_refl _))
  · subst e
    obtain ⟨t, rfl⟩ := r1
    cases ha : z.cps.all (· < 128)
    · exact wpAny_pyIter_wide ha (pi_one (tk := s1.toks) I1 _ (turn_str _ z t "str_iterator" (.inr rfl)) ⟨_, Heap.get?_push_size _ rfl, rfl, rfl⟩ q)
    · exact wpAny_pyIter_ascii ha (pi_one (tk := s1.toks) I1 _ (turn_str _ z t "str_ascii_iterator" (.inl rfl)) ⟨_, Heap.get?_push_size _ rfl, rfl, rfl⟩ q)
def seqD : D → Option (List D)
  | .lst l => some l
  | .tup l => some l
  | .ktp l => some l
  | .str z => some (signs z)
  | _ => none
def it_q (a : ME) : MA := fun ds m Φ Ξ => a ds m (fun d m1 => om (seqD d) fun l => Φ l m1) Ξ
theorem i_q {tg : Expr} (ha : RE X W e ta) : RI X W tg e (it_q ta) := ⟨fun {ds m Φ Ξ} h F H σ s R n x =>
  Wi.of (pi_seq pw_e) (ha.run h F H σ s _ (fun v F2 H2 d m2 s1 r q => by
    obtain ⟨l, hl, q⟩ := om_some q
    cases r with
    | lst h1 rr => cases hl; exact .inl ⟨_, rfl, ⟨_, .inl (.inl (s1.sub _ _ h1))⟩, n _ F2 H2 _ m2 s1 (yl_list h1 rr) q⟩
    | tup h1 rr => cases hl; exact .inr (.inl ⟨_, rfl, ⟨_, sq_t (s1.sub _ _ h1)⟩, n _ F2 H2 _ m2 s1 (yl_tup (sq_t h1) rr) q⟩)
    | ktp h1 rr => cases hl; exact .inr (.inl ⟨_, rfl, ⟨_, same_t s1.sub h1.t⟩, n _ F2 H2 _ m2 s1 (yl_tup h1.t rr) q⟩)
    | str z => cases hl; exact .inr (.inr ⟨z, rfl, n _ F2 H2 _ m2 s1 (yl_str z) q⟩)
    | _ => cases hl) x)⟩
/-! ### looks -/
def oEqV (neg : Bool) : F2 := fun a b m Φ => vw a m fun a' => gd (plk a' b) (Φ (.bl (if neg then !eqD a' b else eqD a' b)) m)
theorem g_eqV {neg : Bool} {d1 d2 : D} (h : oEqV neg d1 d2 m Φ) : RD X (rEqG X.K neg) d1 d2 m Φ := fun F H x y Q s mm r1 r2 n => by
  obtain ⟨F', d', f1, f2, r', q⟩ := vw_rp s mm r1 h
  obtain ⟨hp, q⟩ := gd_t q
  obtain ⟨p1, p2, p3⟩ := plk_of hp
  exact ⟨py d', py d2, dp_of f2 d' x p1 r', dp_of s d2 y p2 r2, plain_py _, plain_py _, p3, n.now s mm (.bl _) q⟩
theorem r_eqV (B : Bs X) (ha : RE X W a ta) (hb : RE X W b tb) (hm : behindInMarks .Eq b = false := by first | exact nomark _ | rfl) : RE X W (.Compare a [.Eq] [b] pos) (o2 (oEqV false) ta tb) := ⟨fun h => ew_cmp (op_eqG B.hu) (two g_eqV ha hb h) hm⟩
theorem t_eqV (B : Bs X) (ha : RE X W a ta) (hb : RE X W b tb) (hm : behindInMarks .Eq b = false := by first | exact nomark _ | rfl) : RT X W (.Compare a [.Eq] [b] pos) (tst (o2 (oEqV false) ta tb)) := ⟨fun h => tw_cmp (op_eqG B.hu) (twoT g_eqV ha hb h) hm⟩
theorem r_neV (B : Bs X) (ha : RE X W a ta) (hb : RE X W b tb) (hm : behindInMarks .NotEq b = false := by first | exact nomark _ | rfl) : RE X W (.Compare a [.NotEq] [b] pos) (o2 (oEqV true) ta tb) := ⟨fun h => ew_cmp (op_neG B.hu) (two g_eqV ha hb h) hm⟩
theorem t_neV (B : Bs X) (ha : RE X W a ta) (hb : RE X W b tb) (hm : behindInMarks .NotEq b = false := by first | exact nomark _ | rfl) : RT X W (.Compare a [.NotEq] [b] pos) (tst (o2 (oEqV true) ta tb)) := ⟨fun h => tw_cmp (op_neG B.hu) (twoT g_eqV ha hb h) hm⟩
/-! ### a def as a value -/
end
section
variable {P : Program} {w : World} {K : PySem.W.Frag} {mg : Str → Option Value} {base : Heap}
variable {X : Cx} {W : WX} {e a b c : Expr} {es : List Expr} {ds : DS} {m : Mem} {Φ Ψ : D → Mem → Prop} {Ξ : XP} {N N' : En} {p pos : Pos} {d : D} {x : Str} {i j k n : Nat} {f C : Addr} {sp : SpD}
variable {ta tb tc : ME} {ca cb cc : MT} {aa : MA} {sa sb : MS} {ga : MG}
/-- the defs that are called by value: their addresses, their meanings -/
structure Vf where
  ad : Addr
  n : Nat
  sp : SpD
/-- a def by its name -/
theorem r_fnv (V : Vw P w K mg base k X W) (F : FnD P w K mg base j x f n sp) (hg : Gl X x := by rfl) (hb : (x == ("__debug__" : Str)) = false := by decide) : RE X W (.Name x pos) (k_ (.ref f)) := ⟨fun h => ew_glob (V.eM ▸ F.gl) (v := .ref f) rfl (fun _ => .ref f) h hg hb⟩
/-- [f, g, ..][i](..): the i-th one -/
def pickV (fs : List Vf) (d : D) (f : Vf → Prop) : Prop := ∃ v, v ∈ fs ∧ d = .ref v.ad ∧ f v
def callV_ (fs : List Vf) (g : ME) (a : MA) : ME := fun ds m Φ Ξ => g ds m (fun d m1 => pickV fs d fun v => a ds m1 (fun l m2 => gd (decide (l.length = v.n)) (CallW v.sp l m2 Φ (Ξ ds))) Ξ) Ξ
theorem FnD.up {j2 : Nat} (F : FnD P w K mg base j x f n sp) (h : j ≤ j2) : FnD P w K mg base j2 x f n sp := by
  obtain ⟨fd, ps, h1, h2, h3⟩ := F.ok
  exact ⟨⟨fd, ps, h1, h2.mono h, h3⟩, F.kp, F.gl⟩
theorem r_callV {g : Expr} {fs : List Vf} (V : Vw P w K mg base k X W) (hf : ∀ v ∈ fs, ∃ x, FnD P w K mg base k x v.ad v.n v.sp) (hg : RE X W g ta) (ha : RA X W (e :: es) aa)
    (hc : eval (.Call g (e :: es) [] pos) X.env = (do callWith pos (← eval g X.env) [] (backTo pos (starEach (e :: es) X.env)) (backToKw pos (keywordEach [] X.env))) := by rfl)
    (he : starEach (e :: es) X.env = (false, eval e X.env) :: starEach es X.env := by rfl) (hpl : (backTo pos (starEach es X.env)).any (·.1) = false := by rfl) : RE X W (.Call g (e :: es) [] pos) (callV_ fs ta aa) := ⟨fun {ds m Φ Ξ} h => ew_callV V.room V.tk ((hg.run h).mono fun d m1 ⟨v, hv, e1, q⟩ => by
  obtain ⟨x, F⟩ := hf v hv
  exact ⟨x, v.ad, v.n, v.sp, e1, V.fn F, (ha.run q).mono fun l m2 q2 => ⟨(gdd q2).1, (gdd q2).2.run⟩⟩) hc he hpl⟩
/-- a def's place, by its name -/
def fnAt (mg : Str → Option Value) (x : Str) : Addr := match mg x with
  | some (.ref a) => a
  | _ => 0
theorem FnE.at (F : FnE P w K mg base j x n sp) : FnD P w K mg base j x (fnAt mg x) n sp := by
  obtain ⟨f, F⟩ := F
  have : fnAt mg x = f := by unfold fnAt; rw [F.gl]
  rw [this]
  exact F
end
end G
namespace G
open PySem PySem.Spec PyProof.Rows L2
section
variable {P : Program} {w : World} {K : PySem.W.Frag} {mg : Str → Option Value} {base : Heap}
variable {X : Cx} {W : WX} {pos : Pos} {x : Str} {j k n : Nat} {ad : Addr} {sp : SpD} {fs : List Vf}
theorem fv_nil : ∀ v ∈ ([] : List Vf), ∃ x, FnD P w K mg base k x v.ad v.n v.sp := fun _ h => nomatch h
theorem fv_cons (F : FnE P w K mg base j x n sp) (h : ad = fnAt mg x) (hj : j ≤ k) (r : ∀ v ∈ fs, ∃ x, FnD P w K mg base k x v.ad v.n v.sp) : ∀ v ∈ ((⟨ad, n, sp⟩ : Vf) :: fs), ∃ x, FnD P w K mg base k x v.ad v.n v.sp := fun v hv => by
  rcases List.mem_cons.mp hv with e | e
  · subst e; subst h; exact ⟨x, F.at.up hj⟩
  · exact r v e
theorem r_fnE (V : Vw P w K mg base k X W) (F : FnE P w K mg base j x n sp) (h : ad = fnAt mg x) (hg : Gl X x := by rfl) (hb : (x == ("__debug__" : Str)) = false := by decide) : RE X W (.Name x pos) (k_ (.ref ad)) := by
  subst h; exact r_fnv V F.at hg hb
end
/-- three at once -/
def par3_ (i j l : Nat) (a b c : ME) : MS := fun ds m N Ξ => a ds m (fun d1 m1 => b ds m1 (fun d2 m2 => c ds m2 (fun d3 m3 => N.nx (((ds.set i (some d1)).set j (some d2)).set l (some d3)) m3) Ξ) Ξ) Ξ
theorem s_par3 {X : Cx} {W : WX} {x y z : Str} {a b c : Expr} {ta tb tc : ME} (i j l : Nat) {px py pz pt pos : Pos} {kt k2 pt2} (B : Bs X) (ha : RE X W a ta) (hb : RE X W b tb) (hcc : RE X W c tc) (hi : X.N[i]? = some x := by rfl) (hj : X.N[j]? = some y := by rfl) (hl : X.N[l]? = some z := by rfl) (hij : i ≠ j := by decide) (hil : i ≠ l := by decide) (hjl : j ≠ l := by decide)
    (hx : X.env.scope.names.lookup x = some .local := by rfl) (hy : X.env.scope.names.lookup y = some .local := by rfl) (hz : X.env.scope.names.lookup z = some .local := by rfl) (hc : X.calm = true := by rfl)
    (hw : swappedStores [.Tuple [.Name x px, .Name y py, .Name z pz] kt pt] (.Tuple [a, b, c] k2 pt2) X.env = pure (some [x, y, z]) := by rfl) (hs : swapsWithSole [.Tuple [.Name x px, .Name y py, .Name z pz] kt pt] (.Tuple [a, b, c] k2 pt2) pos.line X.env = pure false := by rfl)
    (h1 : starEach [a, b, c] X.env = (false, eval a X.env) :: starEach [b, c] X.env := by rfl) (h2 : starEach [b, c] X.env = (false, eval b X.env) :: starEach [c] X.env := by rfl) (h3 : starEach [c] X.env = (false, eval c X.env) :: starEach [] X.env := by rfl) :
    RS X W (.Assign [.Tuple [.Name x px, .Name y py, .Name z pz] kt pt] (.Tuple [a, b, c] k2 pt2) pos) (par3_ i j l ta tb tc) := ⟨fun {ds m N Ξ} h F H σ s De n xx => by
  have hA : AW X W [a, b, c] ds m (fun ll m1 => ∃ d1 d2 d3, ll = [d1, d2, d3] ∧ N.nx (((ds.set i (some d1)).set j (some d2)).set l (some d3)) m1) Ξ := aw_cons ((ha.run h).mono fun _ _ q => aw_cons ((hb.run q).mono fun _ _ q2 => aw_cons ((hcc.run q2).mono fun _ _ q3 => aw_nil ⟨_, _, _, rfl, q3⟩) h3) h2) h1
  refine Ws.of (ps_par3 hc B.nd hi hj hl hij hil hjl hx hy hz pw_a hw hs) (hA F H σ s _ (fun vs F2 H2 ll m2 s1 r ⟨d1, d2, d3, e, q⟩ => ?_) xx)
  subst e
  cases r with
  | cons r1 t =>
    cases t with
    | cons r2 t =>
      cases t with
      | cons r3 t =>
        cases t
        exact ⟨_, _, _, rfl, n.nx _ F2 H2 _ m2 s1 ((((s.sl.up s1.fz).set i (.val r1)).set j (.val r2)).set l (.val r3)) q⟩⟩
/-! ### loops, by an invariant over what is left -/
theorem for_rest {α : Type} {g : MG} {b : MS} {enc : α → D} {xs : List α} {ds : DS} {m : Mem} {N : En} {Ξ : XP} (I : List α → DS → Mem → Prop) (h0 : I xs ds m)
    (h1 : ∀ x rest ds m, x ∈ xs → I (x :: rest) ds m → g (enc x) ds m (fun ds3 m3 => b ds3 m3 { nx := I rest, ct := I rest, bk := N.nx, rt := N.rt } Ξ) Ξ) (h2 : ∀ ds m, I [] ds m → N.nx ds m) : ForW g b (xs.map enc) ds m N Ξ := by
  refine ⟨fun i ds m => I (xs.drop i) ds m, h0, fun i d ds2 m2 hd hI => ?_, fun ds2 m2 hI => ?_⟩
  · rw [List.getElem?_map] at hd
    cases e : xs[i]? with
    | none => rw [e] at hd; cases hd
    | some x =>
      rw [e] at hd
      cases hd
      obtain ⟨hi, e2⟩ := List.getElem?_eq_some_iff.mp e
      have hx : xs.drop i = x :: xs.drop (i + 1) := by rw [List.drop_eq_getElem_cons hi, e2]
      refine h1 x (xs.drop (i + 1)) ds2 m2 (List.mem_of_getElem? e) ?_
      rw [← hx]; exact hI
  · rw [List.length_map, List.drop_length] at hI
    exact h2 ds2 m2 hI
theorem rng_map (lo : Int) (n : Nat) : rngD lo n = (List.range n).map fun (i : Nat) => D.int (lo + (i : Int)) := rfl
/-- a for over range(n): the same wish each turn -/
theorem for_same {g : MG} {b : MS} {items : List D} {ds : DS} {m : Mem} {N : En} {Ξ : XP} (I : DS → Mem → Prop) (h0 : I ds m)
    (h1 : ∀ d ds m, d ∈ items → I ds m → g d ds m (fun ds3 m3 => b ds3 m3 { nx := I, ct := I, bk := N.nx, rt := N.rt } Ξ) Ξ) (h2 : ∀ ds m, I ds m → N.nx ds m) : ForW g b items ds m N Ξ :=
  ⟨fun _ => I, h0, fun _ d ds2 m2 hd hI => h1 d ds2 m2 (List.mem_of_getElem? hd) hI, fun ds2 m2 hI => h2 ds2 m2 hI⟩
end G
namespace G
open PySem PySem.Spec PyProof.Rows L2
section
variable {K : PySem.W.Frag} {mg : Str → Option Value} {h : Heap} {x : Str}
/-- a tuple of two texts, of the top -/
theorem glb_ktp {z1 z2 : Str} {t1 t2 : Tok} {f : Addr} {n : Nat} {sl : Array (Option Value)} (X : K.In h) (G : h.Ns mainGlobals mg) (a : PySem.W.nsIn K mainGlobals x = some (some (.ref f))) (l : K.lookup f = some ⟨.type "tuple", none, .seq #[.str z1 t1, .str z2 t2] n, sl⟩) : Glb K mg x (.ktp [.str z1, .str z2]) :=
  ⟨.ref f, .ref f, PySem.W.mg_of X G a, rfl, fun F => .ktp (xs := [.str z1, .str z2]) (Or.inr ⟨_, _, n, l, rfl, rfl, rfl, by show 2 ≤ 16777216; decide, .cons ⟨t1, rfl⟩ (.cons ⟨t2, rfl⟩ .nil)⟩) (.cons (.str _) (.cons (.str _) .nil))⟩
end
end G
namespace G
open PySem PySem.Spec PyProof.Rows L2
/-! ### new lists that will change -/
def newL (l : List D) (m : Mem) (Φ : D → Mem → Prop) : Prop := ∀ p, p ∉ dom m → Φ (.ref p) ((p, .lst l) :: m)
def oAddM : F2 := fun d1 d2 m Φ => match d1, d2 with
  | .lst a, .lst b => gd (decide (a.length + b.length ≤ sizeLine)) (newL (a ++ b) m Φ)
  | _, _ => False
def fLstM : F1 := fun d m Φ => match d with
  | .lst l => newL l m Φ
  | .tup l => newL l m Φ
  | .dK ks _ => newL (ks.map keyD) m Φ
  | _ => False
section
variable {X : Cx} {W : WX} {e a b c : Expr} {es : List Expr} {ds : DS} {m : Mem} {Φ Ψ : D → Mem → Prop} {Ξ : XP} {p pos : Pos} {d : D}
variable {ta tb tc : ME}
theorem newL_go {K : PySem.W.Frag} {F H : Hp} {Q : VK} {l : List D} {vs : List V} (s : Same F H) (mm : MemOk K F H m) (n : Nm K F H m Φ Q) (t : RpA K F vs l) (q : newL l m Φ) : ∀ o, H o = none → Q (.ref o) (upd H o (.lst vs)) := fun o ho =>
  n _ _ _ _ _ (Stp.cell (o := .lst vs) (c := .lst l) s mm ho ⟨vs, upd_same, t⟩) (.ref o) (q o (not_dom mm ho))
theorem g_addM {d1 d2 : D} (h : oAddM d1 d2 m Φ) : RD X (R_add X.K) d1 d2 m Φ := fun F H x y Q s mm r1 r2 n => by
  unfold oAddM at h
  split at h
  · next a b =>
    obtain ⟨hz, q⟩ := gdd h
    cases r1 with
    | lst h1 t1 =>
      cases r2 with
      | lst h2 t2 => exact .inr (.inr (.inl ⟨_, _, _, _, rfl, rfl, s _ _ h1, s _ _ h2, by rw [t1.len, t2.len]; exact hz, newL_go s mm n (t1.app t2) q⟩))
  · exact h.elim
theorem r_addM (ha : RE X W a ta) (hb : RE X W b tb) : RE X W (.BinOp a .Add b pos) (o2 oAddM ta tb) := ⟨fun h => ew_add (two g_addM ha hb h)⟩
theorem r_listM (B : Bs X) (ha : RE X W a ta) (hc : X.calm = true := by rfl) (hg : Gl X "list" := by rfl) (he : starEach [a] X.env = [(false, eval a X.env)] := by rfl) : RE X W (.Call (.Name "list" p) [a] [] pos) (o1 fLstM ta) := ⟨fun {ds m Φ Ξ} h => by
  have cr : CallR X (.type "list") (fun xs H Q => (∃ p ys, xs = [.ref p] ∧ (SqL X.K H p ys ∨ SqT X.K H p ys) ∧ ∀ l, H l = none → Q (.ref l) (upd H l (.lst ys))) ∨ (∃ (a : Addr) (kvs : List (Key × V)), xs = [.ref a] ∧ Rd H a (.dK kvs) ∧ ∀ p, H p = none → Q (.ref p) (upd H p (.lst (kvs.map fun kv => kV kv.1))))) := by
    intro pins s σ H xs us Q I r h
    rcases h with h | h
    · exact call_list_of pins s σ H xs us Q I r h
    · exact call_listD hc pins s σ H xs us Q I r h
  refine ew_callTy cr B.bi.b_list boot_list (aw_cons ((ha.run h).mono fun d m1 q => aw_nil fun F H vs Q s mm r n => ?_) he) hg (he := he) (hpl := rfl)
  cases r with
  | cons r1 t =>
    cases t
    cases d with
    | lst l => cases r1 with | lst h1 t1 => exact .inl ⟨_, _, rfl, .inl (.inl (.inl (s _ _ h1))), newL_go s mm n t1 q⟩
    | tup l => cases r1 with | tup h1 t1 => exact .inl ⟨_, _, rfl, .inr (sq_t (s _ _ h1)), newL_go s mm n t1 q⟩
    | dK ks l => cases r1 with | dK h1 hk t1 => exact .inr ⟨_, _, rfl, .inr ⟨_, s _ _ h1⟩, newL_go s mm n (by rw [zip_keys hk kV]; exact keys_rpA _) q⟩
    | _ => exact False.elim q⟩
def fLenV : F1 := fun d m Φ => vw d m fun d' => om (lenD d') fun j => gd (decide (j ≤ sizeLine)) (Φ (.int j) m)
theorem r_lenV (B : Bs X) (ha : RE X W a ta) (hg : Gl X "len" := by rfl) (he : starEach [a] X.env = [(false, eval a X.env)] := by rfl) : RE X W (.Call (.Name "len" p) [a] [] pos) (o1 fLenV ta) := ⟨fun {ds m Φ Ξ} h =>
  ew_callB call_len B.bi.b_len PySem.boot_len (aw_cons ((ha.run h).mono fun d m1 q => aw_nil fun F H vs Q s mm r n => by
    cases r with
    | cons r1 t =>
      cases t
      obtain ⟨F', d', f1, f2, r', q⟩ := vw_rp s mm r1 q
      obtain ⟨j, hj, q⟩ := om_some q
      obtain ⟨hz, q⟩ := gdd q
      refine ⟨_, j, rfl, ?_, n.now s mm (.int _) q⟩
      cases r' with
      | str z => exact ⟨by cases hj; exact hz, by cases hj; rfl⟩
      | lst h1 t1 => exact .inl ⟨_, Or.inl (Or.inl (f2 _ _ h1)), by cases hj; exact t1.len.symm⟩
      | tup h1 t1 => exact .inr ⟨_, sq_t (f2 _ _ h1), by cases hj; exact t1.len.symm⟩
      | ktp h1 t1 => exact .inr ⟨_, same_t f2 h1.t, by cases hj; exact t1.len.symm⟩
      | scr h1 => exact .inl ⟨_, f2.seq h1, by cases hj; simp⟩
      | _ => cases hj) he) hg (he := he) (hpl := rfl)⟩
end
end G
namespace G
open PySem PySem.Spec PyProof.Rows L2
/-! ### the top's table SIGNS -/
structure Sgn (w : World) (K : PySem.W.Frag) (mg : Str → Option Value) : Prop where
  ex : ∃ (d : Addr) (es : Array DictEntry) (n : Nat) (t1 t2 : Tok), mg "SIGNS" = some (.ref d) ∧ KDict K w d es n ∧ PySem.W.nsIn K d "o" = some (some (.str "open" t1)) ∧ PySem.W.nsIn K d "s" = some (some (.str "shut" t2))
def sgn (z : Str) : Option Str := if z = "o" then some "open" else if z = "s" then some "shut" else none
def fSgn : F1 := fun d m Φ => match d with
  | .str z => om (sgn z) fun w => Φ (.str w) m
  | _ => False
section
variable {P : Program} {w : World} {K : PySem.W.Frag} {mg : Str → Option Value} {base : Heap}
variable {X : Cx} {W : WX} {e a b c : Expr} {es : List Expr} {ds : DS} {m : Mem} {Φ Ψ : D → Mem → Prop} {Ξ : XP} {p pos : Pos} {d : D} {x : Str} {k : Nat}
variable {ta tb tc : ME}
theorem pe_kd {ty : TE} {d : Addr} {es : Array DictEntry} {n : Nat} (hn : PE X a (tC (.ref d))) (D : KDict X.K X.w d es n) (hi : PE X b ty) (hs : NoSl b) : PE X (.Subscript a b pos) (fun σ H Q => ty σ H fun y H1 => ∃ (z : Str) (u0 : Value) (v0 : V), y = .str z ∧ PySem.W.nsIn X.K d z = some (some u0) ∧ RelV v0 u0 ∧ Q v0 H1) := ⟨fun pins s σ H Q I h => by
  refine subD_of PySem.F.slot_dict_getitem.lookup hs (thn (hn.run pins s σ H (fun x H1 => x = .ref d ∧ ty σ H1 fun y H2 => ∃ (z : Str) (u0 : Value) (v0 : V), y = .str z ∧ PySem.W.nsIn X.K d z = some (some u0) ∧ RelV v0 u0 ∧ Q v0 H2) I ⟨rfl, h⟩) fun u s1 ⟨x, H1, I1, rx, ex, q1⟩ => thn (hi.run pins s1 σ H1 _ I1 q1) fun iv s2 ⟨y, H2, I2, ry, z, u0, v0, ey, hz, hr, q2⟩ => ?_)
  subst ex ey
  obtain rfl : u = Value.ref d := rx
  exact ⟨⟨_, I2.kIn d _ D.at_, rfl⟩, op_item_kd D pins s2 σ H2 (.ref d) (.str z) (.ref d) iv Q I2 rfl ry ⟨z, u0, v0, rfl, rfl, hz, hr, q2⟩⟩⟩
theorem r_sgn (V : Vw P w K mg base k X W) (S : Sgn w K mg) (hb : RE X W b tb) (hs : NoSl b := by intro _ _; rfl) (hg : Gl X "SIGNS" := by rfl) : RE X W (.Subscript (.Name "SIGNS" p) b pos) (o1 fSgn tb) := ⟨fun {ds m Φ Ξ} h F H σ s Q n x => by
  obtain ⟨d, es, nn, t1, t2, h1, h2, h3, h4⟩ := S.ex
  rw [← V.eK] at h2 h3 h4
  rw [← V.eW] at h2
  refine We.of (pe_kd (pe_glob (v := .ref d) hg (by rw [V.eM]; exact h1) rfl (by decide)) h2 pw_e hs) (hb.run h F H σ s _ (fun v F2 H2 dd m2 s1 r q => ?_) x)
  cases dd with
  | str z =>
    obtain ⟨w1, hw, q⟩ := om_some q
    cases r
    unfold sgn at hw
    split at hw
    · next e =>
      cases hw
      subst e
      exact ⟨_, _, .str "open", rfl, h3, ⟨t1, rfl⟩, n _ F2 H2 _ m2 s1 (.str _) q⟩
    · split at hw
      · next e =>
        cases hw
        subst e
        exact ⟨_, _, .str "shut", rfl, h4, ⟨t2, rfl⟩, n _ F2 H2 _ m2 s1 (.str _) q⟩
      · cases hw
  | _ => exact False.elim q⟩
theorem sg_mk {h : Heap} {d : Addr} {e1 e2 : DictEntry} {n : Nat} {t1 t2 t3 t4 : Tok} (XX : K.In h) (G : h.Ns mainGlobals mg) (a : PySem.W.nsIn K mainGlobals "SIGNS" = some (some (.ref d))) (l : K.lookup d = some ⟨.type "dict", none, .dict #[e1, e2] n, #[]⟩)
    (k1 : e1.key = .str "o" t3) (h1 : e1.hash = PyData.keyHash w.params "o") (k2 : e2.key = .str "s" t4) (h2 : e2.hash = PyData.keyHash w.params "s") (lo : (d == sysModules) = false) (n1 : PySem.W.nsIn K d "o" = some (some (.str "open" t1))) (n2 : PySem.W.nsIn K d "s" = some (some (.str "shut" t2))) : Sgn w K mg :=
  ⟨d, _, n, t1, t2, PySem.W.mg_of XX G a, ⟨l, ⟨⟨_, _, k1, h1⟩, ⟨_, _, k2, h2⟩, trivial⟩, lo⟩, n1, n2⟩
/-! ### methods of texts -/
def gJoin : FM := fun d l m Φ => match d, l with
  | .str a, [y] => ∃ zs : List Str, (y = .lst (zs.map D.str) ∨ y = .tup (zs.map D.str)) ∧ (zs.map (·.length)).sum + zs.length * a.length ≤ 16777216 ∧ Φ (.str (Txt.join a zs)) m
  | _, _ => False
def gCount : FM := fun d l m Φ => match d, l with
  | .str a, [.str b] => Φ (.int (Txt.count a b)) m
  | _, _ => False
def gIndex : FM := fun d l m Φ => match d, l with
  | .str a, [.str b] => om (Txt.index0 a b) fun k => Φ (.int (k : Nat)) m
  | _, _ => False
theorem md_join : MD X "str.join" gJoin := ⟨fun {m Φ d l} h => ⟨_, mt_join, fun F H x xs Q s mm r rs n => by
  unfold gJoin at h
  split at h
  · next a y =>
    obtain ⟨zs, hy, hz, q⟩ := h
    cases r
    cases rs with
    | cons ry t =>
      cases t
      rcases hy with rfl | rfl
      · cases ry with
        | lst h1 t1 => rw [rpA_str t1] at h1; exact ⟨a, _, zs, rfl, rfl, .inl (.inl (.inl (s _ _ h1))), hz, n.now s mm (.str _) q⟩
      · cases ry with
        | tup h1 t1 => rw [rpA_str t1] at h1; exact ⟨a, _, zs, rfl, rfl, .inr (sq_t (s _ _ h1)), hz, n.now s mm (.str _) q⟩
  · exact h.elim⟩⟩
theorem md_count : MD X "str.count" gCount := ⟨fun {m Φ d l} h => ⟨_, mt_count, fun F H x xs Q s mm r rs n => by
  unfold gCount at h
  split at h
  · next a b =>
    cases r
    cases rs with
    | cons ry t =>
      cases t
      cases ry
      exact ⟨a, b, rfl, rfl, n.now s mm (.int _) h⟩
  · exact h.elim⟩⟩
theorem mt_index0 (hc : X.calm = true) : MtR X "str.index" (fun x xs H Q => ∃ a b k, x = .str a ∧ xs = [.str b] ∧ Txt.index0 a b = some k ∧ Q (.int (k : Nat)) H) := by
  intro pins s σ H x xs v us Q I rx rs h
  obtain ⟨a, b, k, rfl, rfl, hk, q⟩ := h
  refine mt_indexX (W := WF) hc takes_no pins s σ H _ _ v us Q I rx rs ⟨a, b, rfl, rfl, fun k' hk' => ?_, fun hn => ?_⟩
  · rw [hk] at hk'; cases hk'; exact q
  · rw [hk] at hn; cases hn
theorem md_index (hc : X.calm = true) : MD X "str.index" gIndex := ⟨fun {m Φ d l} h => ⟨_, mt_index0 hc, fun F H x xs Q s mm r rs n => by
  unfold gIndex at h
  split at h
  · next a b =>
    obtain ⟨k, hk, q⟩ := om_some h
    cases r
    cases rs with
    | cons ry t =>
      cases t
      cases ry
      exact ⟨a, b, k, rfl, rfl, hk, n.now s mm (.int _) q⟩
  · exact h.elim⟩⟩
end
end G
namespace G
open PySem PySem.Spec PyProof.Rows L2
/-! ### dict walks -/
def itemsD (ks : List Key) (l : List D) : List D := (ks.zip l).map fun p => .tup [keyD p.1, p.2]
section
variable {K : PySem.W.Frag} {F : Hp} {a : Addr} {o : Obj} {ks : List Key} {xs : List V} {l : List D}
theorem zip_len (hl : ks.length = xs.length) : (ks.zip xs).length = ks.length := by rw [List.length_zip]; omega
theorem yl_keys (h : F a = some (.frz o (.dK (ks.zip xs)))) (hl : ks.length = xs.length) : Yl K (Itk a o (ks.zip xs)) F (ks.map keyD) := by
  refine ⟨fun i H s hi => ⟨s _ _ h, by rw [zip_len hl]; simpa using hi⟩, fun H s => ⟨s _ _ h, by rw [zip_len hl]; simp⟩, fun i H x H' F1 m f1 s1 mm hi y => ?_⟩
  obtain ⟨rfl, k, v, h1, rfl⟩ := y
  rw [List.getElem?_zip_eq_some] at h1
  exact ⟨F1, keyD k, by rw [List.getElem?_map, h1.1]; rfl, Stp.of s1 mm, key_rp k⟩
theorem yl_vals (h : F a = some (.frz o (.dK (ks.zip xs)))) (hl : ks.length = xs.length) (r : RpA K F xs l) : Yl K (Itd a o (ks.zip xs)) F l := by
  have e := r.len
  refine ⟨fun i H s hi => ⟨s _ _ h, by rw [zip_len hl]; omega⟩, fun H s => ⟨s _ _ h, by rw [zip_len hl]; omega⟩, fun i H x H' F1 m f1 s1 mm hi y => ?_⟩
  obtain ⟨rfl, k, h1⟩ := y
  rw [List.getElem?_zip_eq_some] at h1
  obtain ⟨d, h2, h3⟩ := r.gtv h1.2
  exact ⟨F1, d, h2, Stp.of s1 mm, h3.up f1⟩
theorem yl_items (h : F a = some (.frz o (.dK (ks.zip xs)))) (hl : ks.length = xs.length) (r : RpA K F xs l) : Yl K (Iti a o (ks.zip xs)) F (itemsD ks l) := by
  have e := r.len
  have el : (itemsD ks l).length = ks.length := by unfold itemsD; rw [List.length_map, List.length_zip]; omega
  refine ⟨fun i H s hi => ⟨s _ _ h, by rw [zip_len hl]; omega⟩, fun H s => ⟨s _ _ h, by rw [zip_len hl]; omega⟩, fun i H x H' F1 m f1 s1 mm hi y => ?_⟩
  obtain ⟨T, k, v, h1, rfl, hT, rfl⟩ := y
  rw [List.getElem?_zip_eq_some] at h1
  obtain ⟨d, h2, h3⟩ := r.gtv h1.2
  have s2 := Stp.lay (K := K) (o := .tup [kV k, v]) s1 mm hT
  refine ⟨_, .tup [keyD k, d], ?_, s2, .tup upd_same (.cons (key_rp k) (.cons ((h3.up f1).up s2.fz) .nil))⟩
  unfold itemsD
  have hz : (ks.zip l)[i]? = some (k, d) := List.getElem?_zip_eq_some.mpr ⟨h1.1, h2⟩
  rw [List.getElem?_map, hz]; rfl
end
def it_k (a : ME) : MA := fun ds m Φ Ξ => a ds m (fun d m1 => match d with
  | .dK ks _ => Φ (ks.map keyD) m1
  | _ => False) Ξ
def it_v (a : ME) : MA := fun ds m Φ Ξ => a ds m (fun d m1 => match d with
  | .dK _ l => Φ l m1
  | _ => False) Ξ
def it_i (a : ME) : MA := fun ds m Φ Ξ => a ds m (fun d m1 => match d with
  | .dK ks l => Φ (itemsD ks l) m1
  | _ => False) Ξ
section
variable {X : Cx} {W : WX} {e a b c : Expr} {es : List Expr} {ds : DS} {m : Mem} {Φ Ψ : D → Mem → Prop} {Ξ : XP} {p pos apos cpos tpos : Pos} {d : D} {elts : List Expr} {kk : Nat}
variable {ta tb tc : ME}
theorem i_k {tg : Expr} (ha : RE X W e ta) : RI X W tg e (it_k ta) := ⟨fun {ds m Φ Ξ} h F H σ s R n x =>
  Wi.of (pi_keys pw_e) (ha.run h F H σ s _ (fun v F2 H2 d m2 s1 r q => by
    cases d with
    | dK ks l =>
      cases r with
      | dK h1 hl rr => exact ⟨_, _, rfl, .inl ⟨_, s1.sub _ _ h1, n _ F2 H2 _ m2 s1 (yl_keys h1 hl) q⟩⟩
    | _ => exact False.elim q) x)⟩
theorem i_v {tg : Expr} (ha : RE X W e ta) (hbase : attributeBase e "values" X.env (eval e X.env) = eval e X.env := by rfl) (hline : (apos.endLine == cpos.line) = true := by rfl) : RI X W tg (.Call (.Attribute e "values" apos) [] [] cpos) (it_v ta) := ⟨fun {ds m Φ Ξ} h F H σ s R n x =>
  Wi.of (pi_values pw_e hbase hline) (ha.run h F H σ s _ (fun v F2 H2 d m2 s1 r q => by
    cases d with
    | dK ks l =>
      cases r with
      | dK h1 hl rr => exact ⟨_, _, _, rfl, s1.sub _ _ h1, n _ F2 H2 _ m2 s1 (yl_vals h1 hl rr) q⟩
    | _ => exact False.elim q) x)⟩
theorem i_i (ha : RE X W e ta) (hbase : attributeBase e "items" X.env (eval e X.env) = eval e X.env := by rfl) (hline : (apos.endLine == cpos.line) = true := by rfl) : RI X W (.Tuple elts kk tpos) (.Call (.Attribute e "items" apos) [] [] cpos) (it_i ta) := ⟨fun {ds m Φ Ξ} h F H σ s R n x =>
  Wi.of (pi_items pw_e hbase hline) (ha.run h F H σ s _ (fun v F2 H2 d m2 s1 r q => by
    cases d with
    | dK ks l =>
      cases r with
      | dK h1 hl rr => exact ⟨_, _, _, rfl, s1.sub _ _ h1, n _ F2 H2 _ m2 s1 (yl_items h1 hl rr) q⟩
    | _ => exact False.elim q) x)⟩
/-! ### d.get(k, x) -/
def isDc (d : D) (m : Mem) (A : Prop) : Prop := match d with
  | .dK _ _ => A
  | .dT _ _ => A
  | .emp => A
  | .ref p => cel m p fun _ c => match c with
    | .dK _ => A
    | .dT _ => A
    | _ => False
  | _ => False
def get2_ (o k x : ME) : ME := fun ds m Φ Ξ => o ds m (fun d m1 => isDc d m1 (k ds m1 (fun dk m2 => x ds m2 (fun dx m3 => getAt d dk m3 fun od => Φ (od.getD dx) m3) Ξ) Ξ)) Ξ
theorem isD_go {K : PySem.W.Frag} {F H : Hp} {v : V} {A : Prop} (s : Same F H) (mm : MemOk K F H m) (r : Rp K F v d) (h : isDc d m A) : ∃ ad, v = .ref ad ∧ IsD H ad ∧ A := by
  cases r with
  | dK h1 hl t => exact ⟨_, rfl, .inl ⟨_, .inr ⟨_, s _ _ h1⟩⟩, h⟩
  | dT h1 hl t => exact ⟨_, rfl, .inr ⟨_, .inl (s _ _ h1)⟩, h⟩
  | emp h1 => exact ⟨_, rfl, .inl ⟨_, .inl (s _ _ h1)⟩, h⟩
  | ref p =>
    obtain ⟨j, c, hj, q⟩ := (show cel m p _ from h)
    have ce := mm.ce _ (List.mem_of_getElem? hj)
    cases c with
    | dK l => obtain ⟨kvs, h1, h2⟩ := ce; exact ⟨_, rfl, .inl ⟨_, .inl h1⟩, q⟩
    | dT l => obtain ⟨kvs, h1, h2⟩ := ce; exact ⟨_, rfl, .inr ⟨_, .inl h1⟩, q⟩
    | _ => exact False.elim q
  | _ => exact False.elim h
theorem r_get2 {o k f : Expr} (B : Bs X) (ho : RE X W o ta) (hk : RE X W k tb) (hf : RE X W f tc)
    (hbase : attributeBase o "get" X.env (eval o X.env) = eval o X.env := by rfl)
    (hfew : ((backTo cpos (starEach [k, f] X.env)).all (fun x => !x.1) && (backToKw cpos (keywordEach [] X.env)).all (fun x => x.1.isSome)
      && decide (([k, f] : List Expr).length + ([] : List Keyword).length + (if ([] : List Keyword).isEmpty then 0 else 1) < 30)) = true := by rfl)
    (hline : (apos.endLine == cpos.line) = true := by rfl) (htr : backTo cpos (starEach [k, f] X.env) = [(false, eval k X.env), (false, eval f X.env)] := by rfl) :
    RE X W (.Call (.Attribute o "get" apos) [k, f] [] cpos) (get2_ ta tb tc) := ⟨fun {ds m Φ Ξ} h F H σ s Q n x =>
  We.of (pe_dget2 (by have := B.hu; omega) pw_e pw_e pw_e ⟨hbase, hfew, hline, htr⟩) (ho.run h F H σ s _ (fun v F2 H2 d1 m2 s1 r1 q => by
    obtain ⟨ad, rfl, hD, q⟩ := isD_go s1.sub s1.mem r1 q
    refine ⟨ad, rfl, hD, hk.run q F2 H2 σ (s.go s1) _ (fun u F3 H3 d2 m3 s2 r2 q2 => hf.run q2 F3 H3 σ ((s.go s1).go s2) _ (fun u2 F4 H4 d3 m4 s3 r3 q3 => ?_) ((x.go s1).go s2)) (x.go s1)⟩
    obtain ⟨ad', od, ov, e, g, hq, hn, hv⟩ := get_go s3.sub s3.mem (r1.up (s2.trans s3).fz) (r2.up s3.fz) q3
    cases e
    refine ⟨ov, g, ((n.go s1).go (s2.trans s3)).now s3.sub s3.mem ?_ hq⟩
    cases od with
    | none => rw [hn rfl]; exact r3
    | some d => obtain ⟨v, rfl, rv⟩ := hv d rfl; exact rv) x)⟩
/-! ### sum -/
def intsD : List D → Option (List Int)
  | [] => some []
  | .int i :: l => (intsD l).map (i :: ·)
  | _ :: _ => none
theorem intsD_go {K : PySem.W.Frag} {F : Hp} : ∀ {l : List D} {ns : List Int} {vs : List V}, intsD l = some ns → RpA K F vs l → vs = ns.map V.int
  | [], _, _, h, .nil => by cases h; rfl
  | d :: l, ns, _, h, .cons a b => by
    cases d with
    | int i =>
      obtain ⟨ms, h1, rfl⟩ := Option.map_eq_some_iff.mp (show (intsD l).map (i :: ·) = some ns from h)
      cases a
      rw [intsD_go h1 b]; rfl
    | _ => cases h
def fSum : F1 := fun d m Φ => match d with
  | .lst l => om (intsD l) fun ns => Φ (.int ns.sum) m
  | _ => False
theorem r_sum (B : Bs X) (ha : RE X W a ta) (hc : X.calm = true := by rfl) (hg : Gl X "sum" := by rfl) (he : starEach [a] X.env = [(false, eval a X.env)] := by rfl) : RE X W (.Call (.Name "sum" p) [a] [] pos) (o1 fSum ta) := ⟨fun {ds m Φ Ξ} h =>
  ew_callB (cr_sum hc) B.bi.b_sum boot_sum (aw_cons ((ha.run h).mono fun d m1 q => aw_nil fun F H vs Q s mm r n => by
    cases r with
    | cons r1 t =>
      cases t
      cases d with
      | lst l =>
        cases r1 with
        | lst h1 t1 =>
          obtain ⟨ns, hn, q⟩ := om_some q
          rw [intsD_go hn t1] at h1
          exact ⟨_, ns, rfl, .inl (.inl (s _ _ h1)), n.now s mm (.int _) q⟩
      | _ => exact False.elim q) he) hg (he := he) (hpl := rfl)⟩
/-! ### min, max of a list of data -/
def alks (l : List D) : Bool := plA l && l.all (fun x => l.all fun y => PySem.W.alike (py x) (py y)) && l.all nn && decide (PyData.depthAll (pyA l) ≤ 60)
structure MinW (l : List D) (m : Mem) (Φ : D → Mem → Prop) : Prop where
  run : ∃ x r, l = x :: r ∧ alks l = true ∧ ∀ y ∈ l, py y = PySem.W.minD (py x) (pyA r) → Φ y m
structure MaxW (l : List D) (m : Mem) (Φ : D → Mem → Prop) : Prop where
  run : ∃ x r, l = x :: r ∧ alks l = true ∧ ∀ y ∈ l, py y = PySem.W.maxD (py x) (pyA r) → Φ y m
def fMin : F1 := fun d m Φ => match d with
  | .lst l => MinW l m Φ
  | _ => False
def fMax : F1 := fun d m Φ => match d with
  | .lst l => MaxW l m Φ
  | _ => False
theorem alks_of {l : List D} (h : alks l = true) : plA l = true ∧ PySem.W.AlikeAll (pyA l) ∧ PyData.depthAll (pyA l) ≤ 60 := by
  unfold alks at h
  simp only [Bool.and_eq_true, List.all_eq_true, decide_eq_true_eq] at h
  obtain ⟨⟨⟨h1, h2⟩, h3⟩, h4⟩ := h
  have mem : ∀ z ∈ pyA l, ∃ d ∈ l, z = py d := by
    clear h1 h2 h3 h4
    induction l with
    | nil => intro z hz; cases hz
    | cons d l ih =>
      intro z hz
      rcases List.mem_cons.mp (show z ∈ py d :: pyA l from hz) with e | e
      · exact ⟨d, List.mem_cons_self, e⟩
      · obtain ⟨d', h, e⟩ := ih z e; exact ⟨d', List.mem_cons_of_mem _ h, e⟩
  refine ⟨h1, ⟨fun x hx y hy => ?_, fun x hx => ?_⟩, h4⟩
  · obtain ⟨a, ha, rfl⟩ := mem x hx
    obtain ⟨b, hb, rfl⟩ := mem y hy
    exact h2 a ha b hb
  · obtain ⟨a, ha, rfl⟩ := mem x hx
    have := h3 a ha
    intro z
    unfold nn at this
    rw [z] at this
    cases this
def rMinD (K : PySem.W.Frag) (mx : Bool) : List V → Hp → VK → Prop := fun vs H Q => ∃ (a : Addr) (xs : List V) (z : PyData) (zs : List PyData), vs = [.ref a] ∧ SqL K H a xs ∧ DpAll K H xs (z :: zs) ∧ PySem.W.AlikeAll (z :: zs) ∧ PyData.depthAll (z :: zs) ≤ 60 ∧
  ∀ (i : Nat) (v : V) (w : PyData), xs[i]? = some v → (z :: zs)[i]? = some w → w = (if mx then PySem.W.maxD z zs else PySem.W.minD z zs) → Q v H
theorem vals_at : ∀ {xs : List V} {us : List Value} {i : Nat} {u : Value}, Vals xs us → us[i]? = some u → ∃ x, xs[i]? = some x ∧ RelV x u
  | _, _, i, u, .nil, h => by simp at h
  | _, _, 0, u, .cons a b, h => by cases h; exact ⟨_, rfl, a⟩
  | _, _, i + 1, u, .cons a b, h => by obtain ⟨x, h1, h2⟩ := vals_at b (by simpa using h); exact ⟨x, by simpa using h1, h2⟩
theorem rds_at {h : Heap} : ∀ {us : List Value} {ds : List PyData} {as : List Addr} {i : Nat} {u : Value}, ReadsAll h us ds as → us[i]? = some u → ∃ d bs, ds[i]? = some d ∧ Reads h u d bs
  | _, _, _, i, u, .nil, e => by simp at e
  | _, _, _, 0, u, .cons r t, e => by cases e; exact ⟨_, _, rfl, r⟩
  | _, _, _, i + 1, u, .cons r t, e => by obtain ⟨d, bs, h1, h2⟩ := rds_at t (by simpa using e); exact ⟨d, bs, by simpa using h1, h2⟩
theorem cr_minD (hu : X.A.units + 64 < cLine) (hc : X.calm = true) : CallR X (.builtin "min") (rMinD X.K false) := by
  intro pins s σ H vs us Q I r h
  obtain ⟨a, xs, z, zs, rfl, hs, hd, ha, h60, q⟩ := h
  obtain ⟨its, rv, hl, _⟩ := I.list hs
  rw [Vals.ref1 r]
  obtain ⟨as, hr⟩ := Dp.readsAll I _ _ _ hd rv
  refine PySem.W.min_list_data (I.ok.hd hc) hl.isList hr ha (by omega) fun i v h' tk bs hi hrd hk => ?_
  have hi' : its[i]? = some v := by simpa using hi
  obtain ⟨x, hx, rx⟩ := vals_at rv hi'
  obtain ⟨d, bs', hd', rd'⟩ := rds_at hr hi'
  have e := (reads_det (fun b o e _ => hk b o e) rd' hrd).1
  exact ⟨x, H, I.kept hk, rx, q i x d hx hd' e.symm⟩
theorem cr_maxD (hu : X.A.units + 64 < cLine) (hc : X.calm = true) : CallR X (.builtin "max") (rMinD X.K true) := by
  intro pins s σ H vs us Q I r h
  obtain ⟨a, xs, z, zs, rfl, hs, hd, ha, h60, q⟩ := h
  obtain ⟨its, rv, hl, _⟩ := I.list hs
  rw [Vals.ref1 r]
  obtain ⟨as, hr⟩ := Dp.readsAll I _ _ _ hd rv
  refine PySem.W.max_list_data (I.ok.hd hc) hl.isList hr ha (by omega) fun i v h' tk bs hi hrd hk => ?_
  have hi' : its[i]? = some v := by simpa using hi
  obtain ⟨x, hx, rx⟩ := vals_at rv hi'
  obtain ⟨d, bs', hd', rd'⟩ := rds_at hr hi'
  have e := (reads_det (fun b o e _ => hk b o e) rd' hrd).1
  exact ⟨x, H, I.kept hk, rx, q i x d hx hd' e.symm⟩
theorem pyA_at : ∀ {l : List D} {i : Nat} {w : PyData}, (pyA l)[i]? = some w → ∃ d, l[i]? = some d ∧ w = py d
  | [], i, w, h => by simp [pyA] at h
  | d :: l, 0, w, h => by cases (show some (py d) = some w from h); exact ⟨d, rfl, rfl⟩
  | d :: l, i + 1, w, h => pyA_at (l := l) (i := i) h
theorem min_go {K : PySem.W.Frag} {F H : Hp} {v : V} {x : D} {r : List D} {mx : Bool} {Q : VK} (s : Same F H) (mm : MemOk K F H m) (r1 : Rp K F v (.lst (x :: r))) (n : Nm K F H m Φ Q) (ha : alks (x :: r) = true) (q : ∀ y ∈ x :: r, py y = (if mx then PySem.W.maxD (py x) (pyA r) else PySem.W.minD (py x) (pyA r)) → Φ y m) : rMinD K mx [v] H Q := by
  obtain ⟨h1, h2, h3⟩ := alks_of ha
  cases r1 with
  | lst hq t =>
    refine ⟨_, _, py x, pyA r, rfl, .inl (.inl (s _ _ hq)), dpA_of s _ _ h1 t, h2, h3, fun i v w hi hw e => ?_⟩
    obtain ⟨d, hd, rd⟩ := t.gtv hi
    obtain ⟨d', hd', rfl⟩ := pyA_at (l := x :: r) hw
    rw [hd] at hd'; cases hd'
    exact n.now s mm rd (q d (List.mem_of_getElem? hd) e)
theorem r_min1 (B : Bs X) (ha : RE X W a ta) (hc : X.calm = true := by rfl) (hg : Gl X "min" := by rfl) (he : starEach [a] X.env = [(false, eval a X.env)] := by rfl) : RE X W (.Call (.Name "min" p) [a] [] pos) (o1 fMin ta) := ⟨fun {ds m Φ Ξ} h =>
  ew_callB (cr_minD B.hu hc) B.bi.b_min boot_min (aw_cons ((ha.run h).mono fun d m1 q => aw_nil fun F H vs Q s mm r n => by
    cases r with
    | cons r1 t =>
      cases t
      cases d with
      | lst l =>
        obtain ⟨x, r, rfl, h1, h2⟩ := (show MinW _ m1 Φ from q).run
        exact min_go (mx := false) s mm r1 n h1 h2
      | _ => exact False.elim q) he) hg (he := he) (hpl := rfl)⟩
theorem r_max1 (B : Bs X) (ha : RE X W a ta) (hc : X.calm = true := by rfl) (hg : Gl X "max" := by rfl) (he : starEach [a] X.env = [(false, eval a X.env)] := by rfl) : RE X W (.Call (.Name "max" p) [a] [] pos) (o1 fMax ta) := ⟨fun {ds m Φ Ξ} h =>
  ew_callB (cr_maxD B.hu hc) B.bi.b_max boot_max (aw_cons ((ha.run h).mono fun d m1 q => aw_nil fun F H vs Q s mm r n => by
    cases r with
    | cons r1 t =>
      cases t
      cases d with
      | lst l =>
        obtain ⟨x, r, rfl, h1, h2⟩ := (show MaxW _ m1 Φ from q).run
        exact min_go (mx := true) s mm r1 n h1 h2
      | _ => exact False.elim q) he) hg (he := he) (hpl := rfl)⟩
end
end G
namespace G
open PySem PySem.Spec PyProof.Rows L2
/-! ### list(d.values()) -/
def rValsL (x : V) (H : Hp) (Q : VK) : Prop := ∃ (d : Addr) (kvs : List (Key × V)), x = .ref d ∧ Rd H d (.dK kvs) ∧ ∀ q, H q = none → Q (.ref q) (upd H q (.lst (kvs.map (·.2))))
def tListVals (te : TE) : TE := fun σ H Q => te σ H fun x H1 => rValsL x H1 Q
section
variable {X : Cx} {W : WX} {e : Expr} {te : TE} {p apos cpos pos : Pos}
theorem vals_snd {kvs : List (Key × V)} {vs : List (Key × Value)} (kv : KV kvs vs) : Vals (kvs.map (·.2)) (vs.map (·.2)) := by
  induction kv with
  | nil => exact .nil
  | cons h _ ih => exact .cons h.2 ih
theorem pe_listVals (hc : X.calm = true) (he : PE X e te) (hg : Gl X "list") (hm : X.mg "list" = none) (hbase : attributeBase e "values" X.env (eval e X.env) = eval e X.env := by rfl) (hline : (apos.endLine == cpos.line) = true := by rfl)
    (hs : starEach [.Call (.Attribute e "values" apos) [] [] cpos] X.env = (false, eval (.Call (.Attribute e "values" apos) [] [] cpos) X.env) :: starEach [] X.env := by rfl) :
    PE X (.Call (.Name "list" p) [.Call (.Attribute e "values" apos) [] [] cpos] [] pos) (tListVals te) := by
  refine ⟨fun pins s σ H Q I hq => ?_⟩
  refine wpAny_Call_Name_kw (ld_blt I hg hm boot_list ?_)
  refine PyProof.Rows.callWith_type1 ?_ hs rfl
  rw [hs]
  show wpAny _ _ (spliced ((false, eval (.Call (.Attribute e "values" apos) [] [] cpos) X.env) :: backTo pos (starEach [] X.env))) _ _ s
  refine Calls.spliced_cons ?_
  refine wpAny_Call_method (T := "dict") (id := "dict.values") hbase rfl hline F.plainAttrs_dict F.slot_dict_values F.type_dict_values (thn (he.run pins s σ H _ I hq) fun u s1 ⟨x, H1, I1, rx, d, kvs, ex, hd, q⟩ => ?_)
  subst ex
  obtain rfl : u = Value.ref d := rx
  obtain ⟨hz, hs0, vs, kv, hdo⟩ := dk_rd I1.hok hd
  obtain ⟨ep, hat⟩ := hdo.dictAt
  have lk : kvs.length = vs.length := Paired.length kv
  have I2 : Inv X pins σ H1 { s1 with heap := s1.heap.push { cls := .type "dict_values", data := .fields #[.ref d] } } := I1.kept (t' := s1.toks) fun b ob q => Heap.get?_push_of_some _ q
  refine ⟨hdo.typeIs, hdo.mapOf.noDict, ?_⟩
  show wpAny _ _ (callWith cpos (.builtin "dict.values") [.ref d] [] []) _ X.xe s1
  refine method_meetsIn F.slot_dict_values F.entry_dict_values rfl (PySem.evalArgs_none ⟨rfl, hdo.typeIs, F.args_dict_values_1 _, _, meets_dict_values (mixKind X.prog X.w) d hs0, ⟨vs, hdo⟩, ?_⟩)
  refine Calls.spliced_nil ?_
  refine PySem.W.kdl_call (PySem.W.kdl_values (knd := mixKind X.prog X.w) (kvs := vs) (ep := ep) (r := s1.heap.objs.size) (d := d)) (I1.ok.hd hc) ⟨⟨_, Heap.get?_push_size _ rfl, rfl, rfl⟩, hat.push _⟩ (by omega) fun h' tk acc c' hk hD hacc => ?_
  have hv : acc.toList = vs.map (·.2) := PySem.W.kdl_vals_eq acc.toList (by rw [Array.length_toList]; exact hacc.1) fun j v e => hacc.2 j v (by rw [← Array.getElem?_toList]; exact e)
  exact ⟨.ref _, upd H1 _ (.lst (kvs.map (·.2))), I2.laid (t' := tk) hk (Nat.le_refl _)
    (show ObjOk X.prog X.w _ _ _ (.lst (kvs.map (·.2))) from ⟨by rw [List.length_map]; exact hz, acc.toList, c', by rw [hv]; exact vals_snd kv, by rw [Array.toArray_toList]; exact hD⟩), rfl, q _ (I2.hok.fresh (Nat.le_refl _))⟩
def fVals : F1 := fun d m Φ => match d with
  | .dK _ l => Φ (.lst l) m
  | _ => False
theorem zip_snd' {κ : Type} : ∀ {ks : List κ} {xs : List V}, ks.length = xs.length → (ks.zip xs).map (·.2) = xs
  | [], [], _ => rfl
  | k :: ks, x :: xs, h => by rw [List.zip_cons_cons, List.map_cons, zip_snd' (by simpa using h)]
  | [], _ :: _, h => by simp at h
  | _ :: _, [], h => by simp at h
theorem r_vals {ta : ME} (B : Bs X) (ha : RE X W e ta) (hc : X.calm = true := by rfl) (hg : Gl X "list" := by rfl) (hbase : attributeBase e "values" X.env (eval e X.env) = eval e X.env := by rfl) (hline : (apos.endLine == cpos.line) = true := by rfl)
    (hs : starEach [.Call (.Attribute e "values" apos) [] [] cpos] X.env = (false, eval (.Call (.Attribute e "values" apos) [] [] cpos) X.env) :: starEach [] X.env := by rfl) : RE X W (.Call (.Name "list" p) [.Call (.Attribute e "values" apos) [] [] cpos] [] pos) (o1 fVals ta) := ⟨fun {ds m Φ Ξ} h F H σ s Q n x =>
  We.of (pe_listVals hc pw_e hg B.bi.b_list hbase hline hs) (ha.run h F H σ s _ (fun v F2 H2 d m2 s1 r q => by
    cases d with
    | dK ks l =>
      cases r with
      | @dK _ _ _ xs _ h1 hl rr =>
        refine ⟨_, _, rfl, .inr ⟨_, s1.sub _ _ h1⟩, fun o ho => ?_⟩
        rw [zip_snd' hl]
        have s4 := Stp.lay (K := X.K) (o := .lst xs) s1.sub s1.mem ho
        exact n _ _ _ _ _ (s1.trans s4) (.lst upd_same (rr.up s4.fz)) q
    | _ => exact False.elim q) x)⟩
end
end G
namespace G
open PySem PySem.Spec PyProof.Rows L2
/-! ### comprehensions, two generators -/
section
variable {X : Cx} {W : WX} {scope : Scope} {e a b c elt tg iter tg1 iter1 : Expr} {ifs ifs1 : List Expr} {ds : DS} {m : Mem} {Φ Ψ : D → Mem → Prop} {Ξ : XP} {p pos : Pos} {d : D}
def wIB (X : Cx) (scope : Scope) (tg iter : Expr) : TI := fun σ H R => ∀ (s0 : Shared) (H0 : Hp) (C : Addr) (cl : List (Str × Addr)) (fp : List Addr), Wi (X.blk s0 H0 scope (compEnvC scope cl C X.env) fp) tg iter σ H R
theorem pb_i (s0 : Shared) (H0 : Hp) (C : Addr) (cl : List (Str × Addr)) (fp : List Addr) : PI (X.blk s0 H0 scope (compEnvC scope cl C X.env) fp) tg iter (wIB X scope tg iter) := ⟨fun pins s _ _ _ I h => h s0 H0 C cl fp pins s I⟩
def IB (X : Cx) (scope : Scope) (tg iter : Expr) (ds : DS) (m : Mem) (Φ : List D → Mem → Prop) : Prop := ∀ (s0 : Shared) (H0 : Hp) (C : Addr) (cl : List (Str × Addr)) (fp : List Addr), IW (X.blk s0 H0 scope (compEnvC scope cl C X.env) fp) WF tg iter ds m Φ X0
theorem ib_run {Φ : List D → Mem → Prop} (h : IB X scope tg iter ds m Φ) {F H : Hp} {σ : L2.St} (s : StOk X.K F H σ ds m) {R : It → Hp → Prop} (n : ∀ J F2 H2 items m2, Stp X.K F H m F2 H2 m2 → Yl X.K J F2 items → Φ items m2 → R J H2) : wIB X scope tg iter σ H R := fun s0 H0 C cl fp => h s0 H0 C cl fp F H σ s R n x0_any
/-- the inner walk -/
def LcJ (X : Cx) (scope : Scope) (elt : Expr) (ifs1 : List Expr) (asg1 : D → DS → Option DS) (items1 : List D) (ds3 : DS) (acc : List D) (m4 : Mem) (N : List D → Mem → Prop) : Prop :=
  ∃ J : Nat → List D → Mem → Prop, J 0 acc m4 ∧
    (∀ j d1 acc1 m5, items1[j]? = some d1 → J j acc1 m5 → ∃ ds4, asg1 d1 ds3 = some ds4 ∧ TBs X scope ifs1 ds4 m5 fun k m6 => if k = true then EB X scope elt ds4 m6 (fun y m7 => acc1.length < sizeLine ∧ J (j + 1) (acc1 ++ [y]) m7) else J (j + 1) acc1 m6) ∧
    ∀ acc1 m5, J items1.length acc1 m5 → N acc1 m5
def LcI2 (X : Cx) (scope : Scope) (elt : Expr) (ifs : List Expr) (tg1 iter1 : Expr) (ifs1 : List Expr) (asg asg1 : D → DS → Option DS) (items : List D) (ds : DS) (m : Mem) (Φ : D → Mem → Prop) : Prop :=
  ∃ I : Nat → List D → Mem → Prop, I 0 [] m ∧
    (∀ i d acc m2, items[i]? = some d → I i acc m2 → ∃ ds3, asg d ds = some ds3 ∧ TBs X scope ifs ds3 m2 fun k m3 => if k = true then IB X scope tg1 iter1 ds3 m3 (fun items1 m4 => LcJ X scope elt ifs1 asg1 items1 ds3 acc m4 (I (i + 1))) else I (i + 1) acc m3) ∧
    ∀ acc m2, I items.length acc m2 → Φ (.lst acc) m2
theorem lc2_go {g g1 : TG} {vs vs1 : List Nat} {asg asg1 : D → DS → Option DS} {J : It} {F H F1 H1 : Hp} {m1 : Mem} {items : List D} {σ : L2.St} {Q : VK} (T : Tgt X g vs asg) (T1 : Tgt X g1 vs1 asg1) (s : StOk X.K F H σ ds m) (n : Nm X.K F H m Φ Q) (s1 : Stp X.K F H m F1 H1 m1) (yl : Yl X.K J F1 items) (h : LcI2 X scope elt ifs tg1 iter1 ifs1 asg asg1 items ds m1 Φ) :
    ∀ Dl, H1 Dl = none → ∃ Wv : Nat → Nat → Hp → Prop, (∃ k, Wv 0 k (upd H1 Dl (.lst []))) ∧ ∀ i k H2, Wv i k H2 → (J.stop i H2 ∧ Q (.ref Dl) H2) ∨ (J.go i H2 ∧ ∃ Nx : Hp → Prop, (∀ H', Nx H' → ∃ k', k' < k ∧ Wv (i + 1) k' H') ∧
      ∀ x H', J.yld i H2 x H' → g x (wipe σ vs) H' fun σ2 H2 => wipe σ2 vs = wipe σ vs ∧ wTB X scope ifs σ2 H2 fun b H3 => if b = true then wIB X scope tg1 iter1 σ2 H3 fun J1 H4 => ∃ W1 : Nat → Nat → Hp → Prop, (∃ m, W1 0 m H4) ∧ ∀ j k H, W1 j k H →
        (J1.stop j H ∧ Nx H) ∨ (J1.go j H ∧ ∃ Nx1 : Hp → Prop, (∀ H', Nx1 H' → ∃ k', k' < k ∧ W1 (j + 1) k' H') ∧ ∀ x H', J1.yld j H x H' → g1 x (wipe σ2 vs1) H' fun σ3 H5 => wipe σ3 vs1 = wipe σ2 vs1 ∧ wTB X scope ifs1 σ3 H5 fun b H6 =>
          if b = true then wEB X scope elt σ3 H6 fun y H7 => ∃ acc, H7 Dl = some (.lst acc) ∧ acc.length < sizeLine ∧ Nx1 (upd H7 Dl (.lst (acc ++ [y]))) else Nx1 H6) else Nx H3) := by
  intro Dl hD
  obtain ⟨I, i0, turn, fin⟩ := h
  let StI (Fx : Hp) (I : List D → Mem → Prop) (H2 : Hp) : Prop := ∃ F2 m2 acc us, H2 Dl = some (.lst us) ∧ F2 Dl = none ∧ Dl ∉ dom m2 ∧ RpA X.K F2 us acc ∧ Stp X.K F H m F2 H2 m2 ∧ Same Fx F2 ∧ I acc m2
  have hDH : H Dl = none := by
    cases e : H Dl with
    | none => rfl
    | some o => exact absurd hD (s1.th Dl (by rw [e]; simp))
  have keepD : ∀ {F2 H2 : Hp} {m2 : Mem} {us : List V}, H2 Dl = some (.lst us) → F2 Dl = none → Dl ∉ dom m2 → ∀ {Fa Ha ma}, Stp X.K F2 H2 m2 Fa Ha ma → Ha Dl = some (.lst us) ∧ Fa Dl = none ∧ Dl ∉ dom ma := fun {F2 H2 m2 us} hl hfd hdm {Fa Ha ma} sa => by
    refine ⟨sa.keep _ _ hl hdm, sa.new _ _ hl trivial hfd fun z => absurd z hdm, fun z => ?_⟩
    rcases sa.dm _ z with z | z
    · exact hdm z
    · rw [hl] at z; cases z
  refine ⟨fun i k H2 => k = items.length - i ∧ i ≤ items.length ∧ StI F1 (I i) H2, ⟨items.length, by simp, Nat.zero_le _, F1, m1, [], [], upd_same, s1.sub.free hD, fun z => ?_, .nil, ?_, Same.refl _, i0⟩, ?_⟩
  · obtain ⟨q, hq, e⟩ := List.mem_map.mp z
    exact (s1.mem.ce q hq).ne (by rw [e]; exact hD)
  · exact s1.trans (Stp.wide s1.sub s1.mem fun a o q => by rw [upd_ne (ne_of_none q hD)]; exact q)
  rintro i k H2 ⟨rfl, hi, F2, m2, acc, us, hl, hfd, hdm, ra, s2, sf, q⟩
  by_cases hlt : i < items.length
  · refine .inr ⟨yl.go i H2 (sf.trans s2.sub) hlt, fun H' => i + 1 ≤ items.length ∧ StI F1 (I (i + 1)) H', fun H' p => ⟨items.length - (i + 1), by omega, rfl, p⟩, fun xv H' hy => ?_⟩
    obtain ⟨F3, d, hd, s3, ry⟩ := yl.yld i H2 xv H' F2 m2 sf s2.sub s2.mem hlt hy
    obtain ⟨ds3, ha, ht⟩ := turn i d acc m2 hd q
    have sl0 : SlA X.K F3 (wipe σ vs) (wipeD ds vs) := wipe_sl (s.sl.up (s2.trans s3).fz) vs
    refine T.st F3 H' _ ds ds3 xv d _ s3.sub sl0 ry ha fun σ2 sl2 w2 => ⟨w2.trans (wipe_wipe fun u hu => hu), ?_⟩
    refine tb_run ht ⟨s3.sub, sl2, s3.mem⟩ fun t F4 H4 m4 s4 q4 => ?_
    cases t with
    | false =>
      obtain ⟨k1, k2, k3⟩ := keepD hl hfd hdm (s3.trans s4)
      exact iteF ⟨hlt, F4, m4, acc, us, k1, k2, k3, ra.up (s3.trans s4).fz, s2.trans (s3.trans s4), sf.trans (s3.trans s4).fz, q4⟩
    | true =>
      refine iteT (ib_run (show IB X scope tg1 iter1 ds3 m4 _ from q4) ⟨s4.sub, sl2.up s4.fz, s4.mem⟩ fun J1 F5 H5 items1 m5 s5 yl1 hq => ?_)
      obtain ⟨Jv, j0, jturn, jfin⟩ := hq
      have s35 := (s3.trans s4).trans s5
      obtain ⟨k1, k2, k3⟩ := keepD hl hfd hdm s35
      have sl5 : SlA X.K F5 σ2 ds3 := (sl2.up s4.fz).up s5.fz
      refine ⟨fun j k H6 => k = items1.length - j ∧ j ≤ items1.length ∧ StI F5 (Jv j) H6, ⟨items1.length, by simp, Nat.zero_le _, F5, m5, acc, us, k1, k2, k3, ra.up s35.fz, s2.trans s35, Same.refl _, j0⟩, ?_⟩
      rintro j k H6 ⟨rfl, hj, F6, m6, acc1, us1, hl1, hfd1, hdm1, ra1, s6, sf1, q6⟩
      by_cases hjt : j < items1.length
      · refine .inr ⟨yl1.go j H6 (sf1.trans s6.sub) hjt, fun H' => j + 1 ≤ items1.length ∧ StI F5 (Jv (j + 1)) H', fun H' p => ⟨items1.length - (j + 1), by omega, rfl, p⟩, fun yv H7 hy1 => ?_⟩
        obtain ⟨F7, d1, hd1, s7, ry1⟩ := yl1.yld j H6 yv H7 F6 m6 sf1 s6.sub s6.mem hjt hy1
        obtain ⟨ds4, ha1, ht1⟩ := jturn j d1 acc1 m6 hd1 q6
        have sl7 : SlA X.K F7 (wipe σ2 vs1) (wipeD ds3 vs1) := wipe_sl (sl5.up (sf1.trans s7.fz)) vs1
        refine T1.st F7 H7 _ ds3 ds4 yv d1 _ s7.sub sl7 ry1 ha1 fun σ3 sl3 w3 => ⟨w3.trans (wipe_wipe fun u hu => hu), ?_⟩
        refine tb_run ht1 ⟨s7.sub, sl3, s7.mem⟩ fun t F8 H8 m8 s8 q8 => ?_
        cases t with
        | false =>
          obtain ⟨l1, l2, l3⟩ := keepD hl1 hfd1 hdm1 (s7.trans s8)
          exact iteF ⟨hjt, F8, m8, acc1, us1, l1, l2, l3, ra1.up (s7.trans s8).fz, s6.trans (s7.trans s8), sf1.trans (s7.trans s8).fz, q8⟩
        | true =>
          refine iteT (eb_run (show EB X scope elt ds4 m8 _ from q8) ⟨s8.sub, sl3.up s8.fz, s8.mem⟩ fun y F9 H9 dy m9 s9 r9 hq9 => ?_)
          obtain ⟨hz, q9⟩ := hq9
          have s79 := (s7.trans s8).trans s9
          obtain ⟨l1, l2, l3⟩ := keepD hl1 hfd1 hdm1 s79
          have rl : us1.length = acc1.length := ra1.len
          refine ⟨us1, l1, by rw [rl]; exact hz, hjt, F9, m9, acc1 ++ [dy], us1 ++ [y], upd_same, l2, l3, (ra1.up s79.fz).app (.cons r9 .nil), ?_, sf1.trans s79.fz, q9⟩
          have sA := s6.trans s79
          refine ⟨sA.fz, fun a o z => ?_, ⟨sA.mem.nd, sA.mem.fr, fun pr hp => ?_⟩, fun a o z hn => ?_, sA.new, fun a z => ?_, sA.dm⟩
          · rw [upd_ne (ne_of_none z l2)]; exact sA.sub a o z
          · have ne : pr.1 ≠ Dl := fun e => l3 (by rw [← e]; exact List.mem_map.mpr ⟨pr, hp, rfl⟩)
            exact (sA.mem.ce pr hp).up (Same.refl _) fun o w => by rw [upd_ne ne]; exact w
          · have ne : a ≠ Dl := fun e => by rw [e, hDH] at z; cases z
            rw [upd_ne ne]; exact sA.keep a o z hn
          · by_cases e : a = Dl
            · subst e; rw [upd_same]; simp
            · rw [upd_ne e]; exact sA.th a z
      · have e : j = items1.length := by omega
        subst e
        refine .inl ⟨yl1.stop H6 (sf1.trans s6.sub), hlt, F6, m6, acc1, us1, hl1, hfd1, hdm1, ra1, s6, sf.trans (s35.fz.trans sf1), jfin acc1 m6 q6⟩
  · have e : i = items.length := by omega
    subst e
    refine .inl ⟨yl.stop H2 (sf.trans s2.sub), ?_⟩
    have hF : Same F2 (upd F2 Dl (.lst us)) := fun a o z => by rw [upd_ne (ne_of_none z hfd)]; exact z
    refine n (.ref Dl) (upd F2 Dl (.lst us)) H2 (.lst acc) m2 ⟨s2.fz.trans hF, fun a o z => ?_, ⟨s2.mem.nd, fun pr hp => ?_, fun pr hp => (s2.mem.ce pr hp).up hF fun o w => w⟩, s2.keep, fun a ob z t w u => ?_, s2.th, s2.dm⟩ (.lst upd_same (ra.up hF)) (fin acc m2 q)
    · by_cases e : a = Dl
      · subst e; rw [upd_same] at z; rw [hl]; exact z
      · rw [upd_ne e] at z; exact s2.sub a o z
    · have ne : pr.1 ≠ Dl := fun e => hdm (by rw [← e]; exact List.mem_map.mpr ⟨pr, hp, rfl⟩)
      rw [upd_ne ne]; exact s2.mem.fr pr hp
    · have ne : a ≠ Dl := fun e => by rw [e, hDH] at z; cases z
      rw [upd_ne ne]; exact s2.new a ob z t w u
end
end G
namespace G
open PySem PySem.Spec PyProof.Rows L2
structure LcJW (asg1 : D → DS → Option DS) (t1 : Option MT) (el : ME) (items1 : List D) (ds3 : DS) (acc : List D) (m4 : Mem) (N : List D → Mem → Prop) : Prop where
  run : ∃ J : Nat → List D → Mem → Prop, J 0 acc m4 ∧
    (∀ j d1 acc1 m5, items1[j]? = some d1 → J j acc1 m5 → om (asg1 d1 ds3) fun ds4 => TBo t1 ds4 m5 fun k m6 => br k (el ds4 m6 (fun y m7 => acc1.length < sizeLine ∧ J (j + 1) (acc1 ++ [y]) m7) X0) (J (j + 1) acc1 m6)) ∧ ∀ acc1 m5, J items1.length acc1 m5 → N acc1 m5
structure Lc2W (asg : D → DS → Option DS) (t : Option MT) (it1 : MA) (asg1 : D → DS → Option DS) (t1 : Option MT) (el : ME) (items : List D) (ds : DS) (m : Mem) (Φ : D → Mem → Prop) : Prop where
  run : ∃ I : Nat → List D → Mem → Prop, I 0 [] m ∧
    (∀ i d acc m2, items[i]? = some d → I i acc m2 → om (asg d ds) fun ds3 => TBo t ds3 m2 fun k m3 => br k (it1 ds3 m3 (fun items1 m4 => LcJW asg1 t1 el items1 ds3 acc m4 (I (i + 1))) X0) (I (i + 1) acc m3)) ∧ ∀ acc m2, I items.length acc m2 → Φ (.lst acc) m2
def lc2_ (it : MA) (asg : D → DS → Option DS) (t : Option MT) (it1 : MA) (asg1 : D → DS → Option DS) (t1 : Option MT) (el : ME) : ME := fun ds m Φ Ξ => it ds m (fun items m1 => Lc2W asg t it1 asg1 t1 el items ds m1 Φ) Ξ
section
variable {X : Cx} {W : WX} {scope : Scope} {elt tg iter tg1 iter1 : Expr} {ifs ifs1 : List Expr} {ds : DS} {m : Mem} {Φ Ψ : D → Mem → Prop} {Ξ : XP} {p pos : Pos} {ta : ME} {it it1 : MA} {i : Nat}
structure RIb (X : Cx) (scope : Scope) (tg e : Expr) (t : MA) : Prop where
  run : ∀ (s0 : Shared) (H0 : Hp) (C : Addr) (cl : List (Str × Addr)) (fp : List Addr), RI (X.blk s0 H0 scope (compEnvC scope cl C X.env) fp) WF tg e t
theorem lc2_of {asg asg1 : D → DS → Option DS} {t t1 : Option MT} {items : List D} (he : REb X scope elt ta) (ht : RTb X scope ifs t) (hi1 : RIb X scope tg1 iter1 it1) (ht1 : RTb X scope ifs1 t1)
    (h : Lc2W asg t it1 asg1 t1 ta items ds m Φ) : LcI2 X scope elt ifs tg1 iter1 ifs1 asg asg1 items ds m Φ := by
  obtain ⟨I, h0, h1, h2⟩ := h.run
  refine ⟨I, h0, fun i d acc m2 hd q => ?_, h2⟩
  obtain ⟨ds3, e, q2⟩ := om_some (h1 i d acc m2 hd q)
  refine ⟨ds3, e, (ht.run q2).mono fun _ _ q3 => if_of q3 (fun q4 s0 H0 C cl fp => ((hi1.run s0 H0 C cl fp).run q4).mono fun items1 m4 q5 => ?_) fun z => z⟩
  obtain ⟨J, j0, j1, j2⟩ := q5.run
  refine ⟨J, j0, fun j d1 acc1 m5 hd1 q6 => ?_, j2⟩
  obtain ⟨ds4, e4, q7⟩ := om_some (j1 j d1 acc1 m5 hd1 q6)
  exact ⟨ds4, e4, (ht1.run q7).mono fun _ _ q8 => if_of q8 (fun q9 s0 H0 C cl fp => (he.run s0 H0 C cl fp).run q9) fun z => z⟩
theorem r_lc2 {own : List (Str × Nat)} {vs1 : List Nat} {g g1 : TG} {asg asg1 : D → DS → Option DS} {t t1 : Option MT} (B : Bs X) (ok : BlkOk X.N X.env.scope scope own) (T : Tgt X g (own.map (·.2)) asg) (T1 : Tgt X g1 vs1 asg1)
    (hg : ∀ (s : Shared) (H : Hp) (C : Addr) (cl : List (Str × Addr)) (fp : List Addr), PG (X.blk s H scope (compEnvC scope cl C X.env) fp) tg g) (hg1 : ∀ (s : Shared) (H : Hp) (C : Addr) (cl : List (Str × Addr)) (fp : List Addr), PG (X.blk s H scope (compEnvC scope cl C X.env) fp) tg1 g1)
    (hi : RI X W tg iter it) (ht : RTb X scope ifs t) (hi1 : RIb X scope tg1 iter1 it1) (ht1 : RTb X scope ifs1 t1) (he : REb X scope elt ta) (hv : ∀ i ∈ vs1, i ∈ own.map (·.2) := by decide)
    (hs : ∀ x, foldedSetIterable iter X.env x = pure x := by intro _; rfl) (hs1 : ∀ env x, foldedSetIterable iter1 env x = pure x := by intro _ _; rfl) (hc : X.calm = true := by rfl) : RE X W (.ListComp elt [⟨tg, iter, ifs, 0⟩, ⟨tg1, iter1, ifs1, 0⟩] scope pos) (lc2_ it asg t it1 asg1 t1 ta) := ⟨fun {ds m Φ Ξ} h F H σ s Q n x =>
  We.of (pe_lc2 hc B.nd pw_i ok hv hg (fun s0 H0 C cl fp => pb_t s0 H0 C cl fp) (fun s0 H0 C cl fp => pb_i s0 H0 C cl fp) hg1 (fun s0 H0 C cl fp => pb_t s0 H0 C cl fp) (fun s0 H0 C cl fp => pb_e s0 H0 C cl fp) hs hs1) (((hi.run h).mono fun _ _ q => lc2_of he ht hi1 ht1 q) F H σ s _ (fun J F2 H2 items m2 s1 yl q => lc2_go T T1 s n s1 yl q) x)⟩
theorem s_setLc2 {own : List (Str × Nat)} {vs1 : List Nat} {g g1 : TG} {asg asg1 : D → DS → Option DS} {t t1 : Option MT} {y : Str} {yp spos : Pos} (B : Bs X) (ok : BlkOk X.N X.env.scope scope own) (T : Tgt X g (own.map (·.2)) asg) (T1 : Tgt X g1 vs1 asg1)
    (hg : ∀ (s : Shared) (H : Hp) (C : Addr) (cl : List (Str × Addr)) (fp : List Addr), PG (X.blk s H scope (compEnvC scope cl C X.env) fp) tg g) (hg1 : ∀ (s : Shared) (H : Hp) (C : Addr) (cl : List (Str × Addr)) (fp : List Addr), PG (X.blk s H scope (compEnvC scope cl C X.env) fp) tg1 g1)
    (hi : RI X W tg iter it) (ht : RTb X scope ifs t) (hi1 : RIb X scope tg1 iter1 it1) (ht1 : RTb X scope ifs1 t1) (he : REb X scope elt ta) (hv : ∀ i ∈ vs1, i ∈ own.map (·.2) := by decide) (hyl : X.env.scope.names.lookup y = some .local := by rfl)
    (hsw : swapsWith (.ListComp elt [⟨tg, iter, ifs, 0⟩, ⟨tg1, iter1, ifs1, 0⟩] scope pos) (some (.Name y yp)) spos.line X.env = pure true := by rfl) (hy : X.N[i]? = some y := by rfl)
    (hs : ∀ x, foldedSetIterable iter X.env x = pure x := by intro _; rfl) (hs1 : ∀ env x, foldedSetIterable iter1 env x = pure x := by intro _ _; rfl) (hc : X.calm = true := by rfl) : RS X W (.Assign [.Name y yp] (.ListComp elt [⟨tg, iter, ifs, 0⟩, ⟨tg1, iter1, ifs1, 0⟩] scope pos) spos) (set_ i (lc2_ it asg t it1 asg1 t1 ta)) := ⟨fun {ds m N Ξ} h F H σ s De n x =>
  Ws.of (ps_setLc2 hc B.nd hy hyl hsw pw_i ok hv hg (fun s0 H0 C cl fp => pb_t s0 H0 C cl fp) (fun s0 H0 C cl fp => pb_i s0 H0 C cl fp) hg1 (fun s0 H0 C cl fp => pb_t s0 H0 C cl fp) (fun s0 H0 C cl fp => pb_e s0 H0 C cl fp) hs hs1) (((hi.run h).mono fun _ _ q => lc2_of he ht hi1 ht1 q) F H σ s _ (fun J F2 H2 items m2 s1 yl q => lc2_go (Q := fun v H' => De.nx (σ.set i (some v)) H') T T1 s (fun v F3 H3 d m3 s3 r q3 => n.nx _ F3 H3 _ m3 s3 ((s.sl.up s3.fz).set i (.val r)) q3) s1 yl q) x)⟩
end
end G
namespace G
open PySem PySem.Spec PyProof.Rows L2
/-! ### tuple * number -/
open AutoSeq1 (wpAny_loadPart') in
theorem tup_once (l : Addr) (its : Array Value) (n : Nat) (dd : Option Addr) (sl : Array (Option Value)) (u : Tok) :
    Meets (Builtin.«tuple.__mul__» ⟨[.ref l, .int 1 u], []⟩) (fun _ R s => s.heap.get? l = some ⟨.type "tuple", dd, .seq its n, sl⟩ ∧ R (.ok (.ret (Value.ref l))) s) :=
  .of_wp fun pr w A R sh hh => by
    obtain ⟨h0, h1, h2, h3, h4⟩ := sh
    obtain ⟨hl, hh⟩ := hh
    have f1 := AutoSeq1.idx_int
    wp_walk using wpAny_loadPart' hl
    all_goals first
      | exact ⟨_, rfl, hh⟩
      | skip
def rRepA (K : PySem.W.Frag) : R2 := fun x y H Q => rRepT K x y H Q ∨ ∃ l xs, x = .ref l ∧ y = .int 1 ∧ SqT K H l xs ∧ Q (.ref l) H
theorem op_repA {X : Cx} : OpR X (binaryOp .Mult) (rRepA X.K) := by
  intro pins s σ H x y v u Q I rx ry h
  rcases h with h | ⟨l, xs, rfl, rfl, hT, q⟩
  · exact op_repT pins s σ H x y v u Q I rx ry h
  cases rx
  obtain ⟨t, rfl⟩ := ry
  obtain ⟨its, r, ⟨⟨cls, dd, data, sl⟩, ho, hc, n, hd⟩, hs⟩ := I.tuple hT
  simp only at hc hd
  subst hc hd
  exact wpAny_binaryOp_repeat_ref (T := "tuple") (U := "int") (by decide) ⟨_, ho, rfl⟩ (fun s' => typeIs_int s' 1 t) noFill_tuple_mul F.fills_int_mul F.slot_int_rmul repeat_tuple F.slot_int_index.lookup
    (call_meets F.slot_int_rmul (typeIs_int s 1 t) F.entry_int_rmul (F.args_int_rmul_2 _ _) (int_rmul_tuple 1 t l its.toArray n dd sl)
      ⟨ho, rfl, ⟨_, ho, rfl⟩, call_meets F.slot_tuple_mul ⟨_, ho, rfl⟩ F.entry_tuple_mul (F.args_tuple_mul_2 _ _) (tup_once l its.toArray n dd sl t) ⟨ho, .ref l, H, I, rfl, q⟩⟩)
def oMulT : F2 := fun d1 d2 m Φ => match d1, d2 with
  | .tup l, .int k => gd (!l.isEmpty && decide (1 ≤ k) && decide (k ≤ 1000) && decide (l.length ≤ 1000)) (Φ (.tup (List.replicate k.toNat l).flatten) m)
  | _, _ => False
section
variable {X : Cx} {W : WX} {e a b c : Expr} {es : List Expr} {ds : DS} {m : Mem} {Φ Ψ : D → Mem → Prop} {Ξ : XP} {p pos : Pos} {d : D}
variable {ta tb tc : ME}
theorem RpA.rep {K : PySem.W.Frag} {F : Hp} {l : List D} {vs : List V} (h : RpA K F vs l) : ∀ k : Nat, RpA K F (List.replicate k vs).flatten (List.replicate k l).flatten
  | 0 => .nil
  | k + 1 => by rw [List.replicate_succ, List.replicate_succ, List.flatten_cons, List.flatten_cons]; exact h.app (RpA.rep h k)
theorem g_mulT {d1 d2 : D} (h : oMulT d1 d2 m Φ) : RD X (rRepA X.K) d1 d2 m Φ := fun F H x y Q s mm r1 r2 n => by
  unfold oMulT at h
  split at h
  · next l k =>
    obtain ⟨hz, q⟩ := gd_t h
    simp only [Bool.and_eq_true, Bool.not_eq_true', decide_eq_true_eq] at hz
    obtain ⟨⟨⟨z1, z2⟩, z3⟩, z4⟩ := hz
    have ne : l ≠ [] := fun e => by rw [e] at z1; cases z1
    cases r2
    cases r1 with
    | @tup ad xs _ h1 t1 =>
      by_cases hk : k = 1
      · subst hk
        have e : (List.replicate (1 : Int).toNat l).flatten = l := by show (l ++ [] : List D) = l; simp
        rw [e] at q
        exact .inr ⟨_, _, rfl, rfl, sq_t (s _ _ h1), n.now s mm (.tup h1 t1) q⟩
      · refine .inl ⟨_, k, _, rfl, rfl, sq_t (s _ _ h1), fun e => ?_, by omega, z3, by rw [t1.len]; exact z4, fun o ho => ?_⟩
        · subst e; cases t1; exact ne rfl
        · have s2 := Stp.lay (o := .tup (List.replicate k.toNat xs).flatten) s mm ho
          exact n _ _ _ _ _ s2 (.tup upd_same ((t1.rep _).up s2.fz)) q
  · exact h.elim
theorem r_mulT (ha : RE X W a ta) (hb : RE X W b tb) : RE X W (.BinOp a .Mult b pos) (o2 oMulT ta tb) := ⟨fun h => ew_bin op_repA (two g_mulT ha hb h)⟩
/-! ### list(range(..)), tuple(range(..)) -/
/-- small bounds -/
structure RgS (i j : Int) (A : Prop) : Prop where
  lo : -1000000 ≤ i ∧ i ≤ 1000000
  hi : -1000000 ≤ j ∧ j ≤ 1000000
  run : A
def rgE (a b : ME) (f : List D → Mem → (D → Mem → Prop) → Prop) : ME := fun ds m Φ Ξ => a ds m (fun d1 m1 => b ds m1 (fun d2 m2 => match d1, d2 with
  | .int i, .int j => RgS i j (f (rngD i (j - i).toNat) m2 Φ)
  | _, _ => False) Ξ) Ξ
def tupN (l : List D) (m : Mem) (Φ : D → Mem → Prop) : Prop := Φ (.tup l) m
def lstN (l : List D) (m : Mem) (Φ : D → Mem → Prop) : Prop := Φ (.lst l) m
theorem rg_rp {K : PySem.W.Frag} {F : Hp} {i j : Int} : RpA K F (rgV i j) (rngD i (j - i).toNat) := by
  unfold rgV rngD
  generalize List.range (j - i).toNat = l
  induction l with
  | nil => exact .nil
  | cons x l ih => exact .cons (.int _) ih
theorem RgS.ok {i j : Int} {A : Prop} (h : RgS i j A) : RgOk i j := by
  have e : (2 : Int) ^ 62 = 4611686018427387904 := by decide
  have e2 : (2 : Nat) ^ 24 = 16777216 := by decide
  obtain ⟨⟨h1, h2⟩, ⟨h3, h4⟩, _⟩ := h
  unfold RgOk
  rw [e, e2]
  omega
theorem rg2 (B : Bs X) (hg : Gl X "range") (hs : starEach [a, b] X.env = [(false, eval a X.env), (false, eval b X.env)]) (hs2 : starEach [b] X.env = [(false, eval b X.env)]) : PRg X (.Call (.Name "range" p) [a, b] [] pos) (tRg2 (We X a) (We X b)) := prg_2 hg B.bi.b_range pw_e pw_e (by rw [hs, hs2]) (by rw [hs2]; rfl) (by rw [hs2]; rfl)
theorem r_tupRg2 {p1 q1 : Pos} (B : Bs X) (ha : RE X W a ta) (hb : RE X W b tb) (hc : X.calm = true := by rfl) (hg : Gl X "tuple" := by rfl) (hgr : Gl X "range" := by rfl) (hs : starEach [a, b] X.env = [(false, eval a X.env), (false, eval b X.env)] := by rfl) (hs2 : starEach [b] X.env = [(false, eval b X.env)] := by rfl)
    (he : starEach [.Call (.Name "range" p1) [a, b] [] q1] X.env = (false, eval (.Call (.Name "range" p1) [a, b] [] q1) X.env) :: starEach [] X.env := by rfl) : RE X W (.Call (.Name "tuple" p) [.Call (.Name "range" p1) [a, b] [] q1] [] pos) (rgE ta tb tupN) := ⟨fun {ds m Φ Ξ} h F H σ s Q n x =>
  We.of (pe_tupRg hc hg B.bi.b_tuple (rg2 B hgr hs hs2) he) (ha.run h F H σ s _ (fun v F2 H2 d1 m2 s1 r1 q => hb.run q F2 H2 σ (s.go s1) _ (fun u F3 H3 d2 m3 s2 r2 q2 => by
    dsimp only at q2
    split at q2
    · next i j =>
      cases r1
      cases r2
      refine ⟨i, j, rfl, rfl, q2.ok, fun o ho => ?_⟩
      have s3 := Stp.lay (o := .tup (rgV i j)) s2.sub s2.mem ho
      exact n _ _ _ _ _ ((s1.trans s2).trans s3) (.tup upd_same rg_rp) q2.run
    · exact q2.elim) (x.go s1)) x)⟩
theorem r_lstRg2 {p1 q1 : Pos} (B : Bs X) (ha : RE X W a ta) (hb : RE X W b tb) (hc : X.calm = true := by rfl) (hg : Gl X "list" := by rfl) (hgr : Gl X "range" := by rfl) (hs : starEach [a, b] X.env = [(false, eval a X.env), (false, eval b X.env)] := by rfl) (hs2 : starEach [b] X.env = [(false, eval b X.env)] := by rfl)
    (he : starEach [.Call (.Name "range" p1) [a, b] [] q1] X.env = (false, eval (.Call (.Name "range" p1) [a, b] [] q1) X.env) :: starEach [] X.env := by rfl) : RE X W (.Call (.Name "list" p) [.Call (.Name "range" p1) [a, b] [] q1] [] pos) (rgE ta tb lstN) := ⟨fun {ds m Φ Ξ} h F H σ s Q n x =>
  We.of (pe_listRg hc hg B.bi.b_list (rg2 B hgr hs hs2) he) (ha.run h F H σ s _ (fun v F2 H2 d1 m2 s1 r1 q => hb.run q F2 H2 σ (s.go s1) _ (fun u F3 H3 d2 m3 s2 r2 q2 => by
    dsimp only at q2
    split at q2
    · next i j =>
      cases r1
      cases r2
      refine ⟨i, j, rfl, rfl, q2.ok, fun o ho => ?_⟩
      have s3 := Stp.lay (o := .lst (rgV i j)) s2.sub s2.mem ho
      exact n _ _ _ _ _ ((s1.trans s2).trans s3) (.lst upd_same rg_rp) q2.run
    · exact q2.elim) (x.go s1)) x)⟩
def rgE1 (a : ME) (f : List D → Mem → (D → Mem → Prop) → Prop) : ME := fun ds m Φ Ξ => a ds m (fun d1 m1 => match d1 with
  | .int j => RgS 0 j (f (rngD 0 j.toNat) m1 Φ)
  | _ => False) Ξ
theorem rg1 (B : Bs X) (hg : Gl X "range") (hs : starEach [a] X.env = [(false, eval a X.env)]) : PRg X (.Call (.Name "range" p) [a] [] pos) (tRg1 (We X a)) := prg_1 hg B.bi.b_range pw_e (by rw [hs]; rfl)
theorem rg_rp0 {K : PySem.W.Frag} {F : Hp} {j : Int} : RpA K F (rgV 0 j) (rngD 0 j.toNat) := by
  have h := rg_rp (K := K) (F := F) (i := 0) (j := j)
  rw [show j - 0 = j by omega] at h
  exact h
theorem r_tupRg1 {p1 q1 : Pos} (B : Bs X) (ha : RE X W a ta) (hc : X.calm = true := by rfl) (hg : Gl X "tuple" := by rfl) (hgr : Gl X "range" := by rfl) (hs : starEach [a] X.env = [(false, eval a X.env)] := by rfl)
    (he : starEach [.Call (.Name "range" p1) [a] [] q1] X.env = (false, eval (.Call (.Name "range" p1) [a] [] q1) X.env) :: starEach [] X.env := by rfl) : RE X W (.Call (.Name "tuple" p) [.Call (.Name "range" p1) [a] [] q1] [] pos) (rgE1 ta tupN) := ⟨fun {ds m Φ Ξ} h F H σ s Q n x =>
  We.of (pe_tupRg hc hg B.bi.b_tuple (rg1 B hgr hs) he) (ha.run h F H σ s _ (fun v F2 H2 d1 m2 s1 r1 q => by
    dsimp only at q
    split at q
    · next j =>
      cases r1
      refine ⟨j, rfl, q.ok, fun o ho => ?_⟩
      have s3 := Stp.lay (o := .tup (rgV 0 j)) s1.sub s1.mem ho
      exact n _ _ _ _ _ (s1.trans s3) (.tup upd_same rg_rp0) q.run
    · exact q.elim) x)⟩
theorem r_lstRg1 {p1 q1 : Pos} (B : Bs X) (ha : RE X W a ta) (hc : X.calm = true := by rfl) (hg : Gl X "list" := by rfl) (hgr : Gl X "range" := by rfl) (hs : starEach [a] X.env = [(false, eval a X.env)] := by rfl)
    (he : starEach [.Call (.Name "range" p1) [a] [] q1] X.env = (false, eval (.Call (.Name "range" p1) [a] [] q1) X.env) :: starEach [] X.env := by rfl) : RE X W (.Call (.Name "list" p) [.Call (.Name "range" p1) [a] [] q1] [] pos) (rgE1 ta lstN) := ⟨fun {ds m Φ Ξ} h F H σ s Q n x =>
  We.of (pe_listRg hc hg B.bi.b_list (rg1 B hgr hs) he) (ha.run h F H σ s _ (fun v F2 H2 d1 m2 s1 r1 q => by
    dsimp only at q
    split at q
    · next j =>
      cases r1
      refine ⟨j, rfl, q.ok, fun o ho => ?_⟩
      have s3 := Stp.lay (o := .lst (rgV 0 j)) s1.sub s1.mem ho
      exact n _ _ _ _ _ (s1.trans s3) (.lst upd_same rg_rp0) q.run
    · exact q.elim) x)⟩
end
/-! ### methods of the text's classes -/
structure MtD (P : Program) (w : World) (K : PySem.W.Frag) (mg : Str → Option Value) (base : Heap) (k : Nat) (C : Addr) (g : Str) (n : Nat) (sp : SpD) : Prop where
  ok : ∃ f fd ps, ps.length = n + 1 ∧ Meth K C g f ∧ FnOk P w K mg base (L2.CX P w) k f fd ps (lift K (n + 1) sp) ∧ Binds K fd ps []
/-- an instance of the class, whose own fields do not hide the name -/
def isO (C : Addr) (g : Str) (d : D) (m : Mem) (A : Prop) : Prop := match d with
  | .ins C' ns _ => (C' = C ∧ g ∉ ns) ∧ A
  | .ref p => cel m p fun _ c => match c with
    | .obj C' ns _ => (C' = C ∧ g ∉ ns) ∧ A
    | _ => False
  | _ => False
def mcall_ (C : Addr) (g : Str) (n : Nat) (sp : SpD) (o : ME) (a : MA) : ME := fun ds m Φ Ξ => o ds m (fun d m1 => isO C g d m1 (a ds m1 (fun l m2 => gd (decide (l.length = n)) (CallW sp (d :: l) m2 Φ (Ξ ds))) Ξ)) Ξ
section
variable {P : Program} {w : World} {K : PySem.W.Frag} {mg : Str → Option Value} {base : Heap}
variable {X : Cx} {W : WX} {e a b c o : Expr} {es : List Expr} {ds : DS} {m : Mem} {Φ Ψ : D → Mem → Prop} {Ξ : XP} {p pos apos : Pos} {d : D} {x g : Str} {i j k n : Nat} {f C : Addr} {sp : SpD}
variable {ta tb tc : ME} {aa : MA}
theorem lk_none {ns : List Str} {vs : List V} {g : Str} (h : g ∉ ns) : (ns.zip vs).lookup g = none := by
  induction ns generalizing vs with
  | nil => rfl
  | cons x ns ih =>
    cases vs with
    | nil => rfl
    | cons v vs =>
      rw [List.zip_cons_cons, List.lookup_cons]
      have ne : (g == x) = false := beq_eq_false_iff_ne.mpr fun z => h (by rw [z]; exact List.mem_cons_self)
      rw [ne]
      exact ih fun z => h (List.mem_cons_of_mem _ z)
theorem isO_go {F H : Hp} {v : V} {A : Prop} (s : Same F H) (mm : MemOk K F H m) (r : Rp K F v d) (h : isO C g d m A) : ∃ ad dx fs, v = .ref ad ∧ H ad = some (.ins C dx fs) ∧ fs.lookup g = none ∧ A := by
  cases d with
  | ins C' ns l =>
    obtain ⟨⟨rfl, hg⟩, q⟩ := h
    cases r with
    | ins h1 hl t => exact ⟨_, _, _, rfl, s _ _ h1, lk_none hg, q⟩
  | ref p =>
    obtain ⟨j, c, hj, q⟩ := (show cel m p _ from h)
    cases r
    have ce := mm.ce _ (List.mem_of_getElem? hj)
    cases c with
    | obj C' ns l =>
      obtain ⟨⟨rfl, hg⟩, q⟩ := q
      obtain ⟨dx, vs, h1, h2, h3⟩ := ce
      exact ⟨_, _, _, rfl, h1, lk_none hg, q⟩
    | _ => exact False.elim q
  | _ => exact False.elim h
theorem Vw.mt (V : Vw P w K mg base k X W) (F : MtD P w K mg base j C g n sp) : MtD X.prog X.w X.K X.mg X.base j C g n sp := by rw [V.eP, V.eW, V.eK, V.eM, V.eB]; exact F
theorem r_meth {pl : Sem Bool} (V : Vw P w K mg base k X W) (T : Cls X.K C) (F : MtD P w K mg base j C g n sp) (ho : RE X W o ta) (ha : RA X W (e :: es) aa) (hj : j ≤ k := by decide)
    (he : starEach (e :: es) X.env = (false, eval e X.env) :: starEach es X.env := by rfl) (hpl : (backTo pos (starEach es X.env)).any (·.1) = false := by rfl)
    (ht : eval (.Call (.Attribute o g apos) (e :: es) [] pos) X.env = (do
      let oo ← eval o X.env
      standAt apos.atName
      let (ff, first) ← holding [oo] (getMethod oo g pl)
      callWith pos ff first (backTo pos (starEach (e :: es) X.env)) (backToKw pos (keywordEach [] X.env))) := by rfl) :
    RE X W (.Call (.Attribute o g apos) (e :: es) [] pos) (mcall_ C g n sp ta aa) := ⟨fun {ds m Φ Ξ} h F0 H σ s Q nn xx pins sh I => by
  obtain ⟨f, fd, ps, hn, M, ok, bd⟩ := (V.mt F).ok
  let Q' : VK := fun v H2 => ∃ F2 d m2, Stp X.K F0 H m F2 H2 m2 ∧ Rp X.K F2 v d ∧ isO C g d m2 (aa ds m2 (fun l m3 => gd (decide (l.length = n)) (CallW sp (d :: l) m3 Φ (Ξ ds))) Ξ)
  refine PySem.W.methodCall_KW (pl := pl) (thn (ho.run h F0 H σ s Q' (fun v F2 H2 d m2 s1 r q => ⟨F2, d, m2, s1, r, q⟩) xx pins sh I) fun u s1 hh => ?_) ht
  obtain ⟨v, H2, I1, ru, F2, d, m2, st, rv, q⟩ := hh
  obtain ⟨ad, dx, fs, rfl, h1, h2, q⟩ := isO_go st.sub st.mem rv q
  obtain rfl : u = Value.ref ad := ru
  refine getmeth_ok I1 h1 T M h2 ?_
  refine PySem.W.callWith_K (first := [.ref ad]) (h₀ := X.base) I1.ok.mod.kin M.kp (thn (ha.run q F2 H2 σ (s.go st) (fun vs H3 => lift X.K (n + 1) sp (.ref ad :: vs) H3 Q (L2.WE W σ)) (fun vs F3 H3 l m3 s3 r q3 => ?_) (xx.go st) pos pins s1 I1) fun us s2 ⟨vs, H3, I3, r3, q3⟩ => ⟨I3.kIn, ?_⟩) he hpl
  · obtain ⟨hl, q3⟩ := gdd q3
    exact lift_call s nn xx (st.trans s3) (.cons (rv.up s3.fz) r) (by rw [List.length_cons, hl]) q3.run
  · exact run_fnS (us := .ref ad :: us) (vs := .ref ad :: vs) ok (V.room.mono hj) bd (passAt V.tk σ) I3 (.cons rfl r3) q3⟩
theorem r_meth0 {pl : Sem Bool} (V : Vw P w K mg base k X W) (T : Cls X.K C) (F : MtD P w K mg base j C g 0 sp) (ho : RE X W o ta) (hj : j ≤ k := by decide)
    (ht : eval (.Call (.Attribute o g apos) [] [] pos) X.env = (do
      let oo ← eval o X.env
      standAt apos.atName
      let (ff, first) ← holding [oo] (getMethod oo g pl)
      callWith pos ff first (backTo pos (starEach [] X.env)) (backToKw pos (keywordEach [] X.env))) := by rfl) :
    RE X W (.Call (.Attribute o g apos) [] [] pos) (mcall_ C g 0 sp ta nil_) := ⟨fun {ds m Φ Ξ} h F0 H σ s Q nn xx pins sh I => by
  obtain ⟨f, fd, ps, hn, M, ok, bd⟩ := (V.mt F).ok
  let Q' : VK := fun v H2 => ∃ F2 d m2, Stp X.K F0 H m F2 H2 m2 ∧ Rp X.K F2 v d ∧ isO C g d m2 (CallW sp [d] m2 Φ (Ξ ds))
  refine PySem.W.methodCall_KW (pl := pl) (thn (ho.run h F0 H σ s Q' (fun v F2 H2 d m2 s1 r q => ⟨F2, d, m2, s1, r, q⟩) xx pins sh I) fun u s1 hh => ?_) ht
  obtain ⟨v, H2, I1, ru, F2, d, m2, st, rv, q⟩ := hh
  obtain ⟨ad, dx, fs, rfl, h1, h2, q⟩ := isO_go st.sub st.mem rv q
  obtain rfl : u = Value.ref ad := ru
  refine getmeth_ok I1 h1 T M h2 ?_
  exact PySem.W.callWith_K0 (first := [.ref ad]) I1.kIn M.kp (run_fnS (us := [.ref ad]) (vs := [.ref ad]) ok (V.room.mono hj) bd (passAt V.tk σ) I1 (.cons rfl .nil) (lift_call s nn xx st (.cons rv .nil) rfl q.run))⟩
/-! ### properties -/
structure PrD (P : Program) (w : World) (K : PySem.W.Frag) (mg : Str → Option Value) (base : Heap) (k : Nat) (C : Addr) (g : Str) (sp : SpD) : Prop where
  ok : ∃ q f fd ps, ps.length = 1 ∧ PropOf K C g q f ∧ FnOk P w K mg base (L2.CX P w) k f fd ps (lift K 1 sp) ∧ Binds K fd ps []
def isO' (C : Addr) (d : D) (m : Mem) (A : Prop) : Prop := match d with
  | .ins C' _ _ => C' = C ∧ A
  | .ref p => cel m p fun _ c => match c with
    | .obj C' _ _ => C' = C ∧ A
    | _ => False
  | _ => False
theorem isO'_go {F H : Hp} {v : V} {A : Prop} (s : Same F H) (mm : MemOk K F H m) (r : Rp K F v d) (h : isO' C d m A) : ∃ ad dx fs, v = .ref ad ∧ H ad = some (.ins C dx fs) ∧ A := by
  cases d with
  | ins C' ns l =>
    obtain ⟨rfl, q⟩ := h
    cases r with
    | ins h1 hl t => exact ⟨_, _, _, rfl, s _ _ h1, q⟩
  | ref p =>
    obtain ⟨j, c, hj, q⟩ := (show cel m p _ from h)
    cases r
    have ce := mm.ce _ (List.mem_of_getElem? hj)
    cases c with
    | obj C' ns l =>
      obtain ⟨rfl, q⟩ := q
      obtain ⟨dx, vs, h1, h2, h3⟩ := ce
      exact ⟨_, _, _, rfl, h1, q⟩
    | _ => exact False.elim q
  | _ => exact False.elim h
def prop_ (C : Addr) (sp : SpD) (o : ME) : ME := fun ds m Φ Ξ => o ds m (fun d m1 => isO' C d m1 (CallW sp [d] m1 Φ fun _ _ _ => False)) Ξ
theorem Vw.pr (V : Vw P w K mg base k X W) (F : PrD P w K mg base j C g sp) : PrD X.prog X.w X.K X.mg X.base j C g sp := by rw [V.eP, V.eW, V.eK, V.eM, V.eB]; exact F
theorem r_prop (V : Vw P w K mg base k X W) (T : Cls X.K C) (F : PrD P w K mg base j C g sp) (ho : RE X W o ta) (hj : j + 1 ≤ k := by decide) (hb : attributeBase o g X.env (eval o X.env) = eval o X.env := by rfl) :
    RE X W (.Attribute o g pos) (prop_ C sp ta) := ⟨fun {ds m Φ Ξ} h F0 H σ s Q nn xx => by
  obtain ⟨q0, f, fd, ps, hn, M, ok, bd⟩ := (V.pr F).ok
  refine We.of (pe_prop (E := fun _ _ _ => False) pw_e T M ok (V.room.mono hj) bd .nil (fun pins σ H s e s' I hq => ?_) hb) (ho.run h F0 H σ s _ (fun v F2 H2 d m2 st rv q => ?_) xx)
  · simp [L2.CX] at hq
  · obtain ⟨ad, dx, fs, rfl, h1, q⟩ := isO'_go st.sub st.mem rv q
    exact ⟨ad, dx, fs, rfl, h1, F2, [d], m2, Φ, fun _ _ _ => False, st.sub, .cons rv .nil, rfl, st.mem, q.run, nn.go st, fun _ _ _ _ _ _ _ _ z => z.elim⟩⟩
end
end G
namespace G
open PySem PySem.Spec PyProof.Rows L2
/-! ### fields of instances that change -/
def fFldC (C : Addr) (ns : List Str) (j : Nat) : F1 := fun d m Φ => match d with
  | .ref p => cel m p fun _ c => match c with
    | .obj C' ns' l => (C' = C ∧ ns' = ns) ∧ om l[j]? fun d => Φ d m
    | _ => False
  | _ => False
def setCg (C : Addr) (ns : List Str) (j : Nat) (d d2 : D) (m : Mem) (Φ : Mem → Prop) : Prop := match d2 with
  | .ref p => cel m p fun i c => match c with
    | .obj C' ns' l => (C' = C ∧ ns' = ns) ∧ Φ (m.set i (p, .obj C ns (l.set j d)))
    | _ => False
  | _ => False
def setC_ (C : Addr) (ns : List Str) (j : Nat) (a o : ME) : MS := fun ds m N Ξ => a ds m (fun d m1 => o ds m1 (fun d2 m2 => setCg C ns j d d2 m2 (N.nx ds)) Ξ) Ξ
section
variable {P : Program} {w : World} {K : PySem.W.Frag} {mg : Str → Option Value} {base : Heap}
variable {X : Cx} {W : WX} {e a b c o : Expr} {es : List Expr} {ds : DS} {m : Mem} {Φ Ψ : D → Mem → Prop} {Ξ : XP} {p pos apos : Pos} {d : D} {x g : Str} {i j k n : Nat} {f C : Addr} {sp : SpD} {N : En}
variable {ta tb tc : ME} {aa : MA}
theorem r_fldC {ns : List Str} (T : Cls X.K C) (na : NoAttr X.K C g) (ha : RE X W e ta) (hn : ns.Nodup := by decide) (hj : ns[j]? = some g := by rfl) (hb : attributeBase e g X.env (eval e X.env) = eval e X.env := by rfl) : RE X W (.Attribute e g pos) (o1 (fFldC C ns j) ta) := ⟨fun {ds m Φ Ξ} h F H σ s Q n x =>
  We.of (pe_fld pw_e hb) (ha.run h F H σ s _ (fun v F2 H2 d m2 s1 r q => by
    cases d with
    | ref p =>
      obtain ⟨i, c, hi, q1⟩ := (show cel m2 p _ from q)
      clear q
      cases r
      have ce := s1.mem.ce _ (List.mem_of_getElem? hi)
      cases c with
      | obj C' ns' l =>
        obtain ⟨⟨rfl, rfl⟩, q2⟩ := q1
        obtain ⟨d', hd, q3⟩ := om_some q2
        obtain ⟨dx, vs, h3, hl, t⟩ := ce
        obtain ⟨v, h4, h5⟩ := t.get hd
        exact ⟨_, _, _, _, v, rfl, h3, T, na, zip_at _ _ j hn hj h4, n _ F2 H2 _ m2 s1 h5 q3⟩
      | _ => exact False.elim q1
    | _ => exact False.elim q) x)⟩
theorem s_setC {ns : List Str} {p2 : Pos} (T : Cls X.K C) (na : NoAttr X.K C g) (ha : RE X W e ta) (ho : RE X W o tb) (hl : ns.length < 1000 := by decide) (hn : ns.Nodup := by decide) (hj : ns[j]? = some g := by rfl)
    (hs : swapsWith e (some (.Attribute o g p2)) pos.line X.env = pure false := by rfl) : RS X W (.Assign [.Attribute o g p2] e pos) (setC_ C ns j ta tb) := ⟨fun {ds m N Ξ} h F H σ s De n x =>
  Ws.of (ps_fld pw_e pw_e hs) (ha.run h F H σ s _ (fun v F2 H2 d m2 s1 r1 q => ho.run q F2 H2 σ (s.go s1) _ (fun u F3 H3 d2 m3 s2 r2 q3 => by
    cases d2 with
    | ref p =>
      obtain ⟨i, c, hi, q⟩ := (show cel m3 p _ from q3)
      cases r2
      have ce := s2.mem.ce _ (List.mem_of_getElem? hi)
      cases c with
      | obj C' ns' l =>
        obtain ⟨⟨rfl, rfl⟩, q⟩ := q
        obtain ⟨dx, vs, h3, hl3, t⟩ := ce
        refine ⟨p, C', dx, _, rfl, h3, T, na, by simp [List.length_zip]; omega, ?_⟩
        rw [put_old _ vs j hn hj hl3]
        exact n.nx σ F3 _ ds _ ((s1.trans s2).trans (Stp.putAt (c' := .obj C' _ (l.set j d)) s2.sub s2.mem hi ⟨dx, _, upd_same, by simp [hl3], t.set j (r1.up s2.fz)⟩)) (s.sl.up (s1.trans s2).fz) q
      | _ => exact False.elim q
    | _ => exact False.elim q3) (x.go s1)) x)⟩
end
/-! ### the top's methods and properties -/
section
variable {K : PySem.W.Frag} {C f : Addr} {x qual : Str} {st : Stmt}
def MetK (K : PySem.W.Frag) (C : Addr) (x qual : Str) (st : Stmt) (ps : List Str) : Prop := ∃ f fd, Fun K x qual st f fd ∧ Binds K fd ps [] ∧ Meth K C x f
theorem met_mk {oc : Value} {od an : Option Addr} {osl : Array (Option Value)} {kV doc pm cdv ct : Value} {ps : List Str} (b : BindOk x qual st ps)
    (i : PySem.W.findIn K (.ref C) x = some (some (.ref f))) (l : K.lookup f = some ⟨oc, od, .func (PySem.W.fnOf x qual (defArgs st) (defBody st) (defScope st) .none kV doc pm an cdv ct), osl⟩)
    (c : PySem.W.codeIn K cdv qual = true) (k : PySem.W.keepIn K (.ref f) = true) (is : PySem.W.isFn K (.ref f) = true) : MetK K C x qual st ps := ⟨f, _, fun_mk l c k, (fun_mk l c k).binds b, ⟨i, is, k⟩⟩
def PrpK (K : PySem.W.Frag) (C : Addr) (x qual : Str) (st : Stmt) (ps : List Str) : Prop := ∃ q f fd, Fun K x qual st f fd ∧ Binds K fd ps [] ∧ PropOf K C x q f
theorem prp_mk {q : Addr} {rest : List Value} {oc : Value} {od an : Option Addr} {osl : Array (Option Value)} {kV doc pm cdv ct : Value} {ps : List Str} (b : BindOk x qual st ps)
    (a : PySem.W.findIn K (.ref C) x = some (some (.ref q))) (r : PySem.W.recIn K q "property" = some (.ref f :: rest)) (g : PySem.W.specialIn K (.ref q) "__get__" = some (some (.builtin "property.__get__"))) (t : PySem.W.takesIn K (.ref q) = some true)
    (l : K.lookup f = some ⟨oc, od, .func (PySem.W.fnOf x qual (defArgs st) (defBody st) (defScope st) .none kV doc pm an cdv ct), osl⟩)
    (c : PySem.W.codeIn K cdv qual = true) (k : PySem.W.keepIn K (.ref f) = true) : PrpK K C x qual st ps := ⟨q, f, _, fun_mk l c k, (fun_mk l c k).binds b, ⟨a, g, t, _, r⟩⟩
end
end G
namespace G
open PySem PySem.Spec PyProof.Rows L2
/-! ### try: clauses without a name take any class that matches -/
def hdW2 (mt : Addr → Value → Option Bool) (N : En) (Ξ : XP) : List Hd → XP
  | [] => Ξ
  | h :: hs => fun ds C fs m => ∃ b, mt C h.cls = some b ∧ (b = true → (h.oi = none ∨ C = h.met) ∧ suiteW h N ds fs m) ∧ (b = false → hdW2 mt N Ξ hs ds C fs m)
def try2_ (mt : Addr → Value → Option Bool) (b : MS) (hs : List Hd) : MS := fun ds m N Ξ => b ds m N (hdW2 mt N Ξ hs)
structure RH2 (X : Cx) (h : ExceptHandler) (t : Hd) : Prop where
  run : ∀ (C : Addr), (t.oi = none ∨ C = t.met) → ∀ (a : Addr) (oe : Obj) (dd : Option Addr) (pn : List (Addr × Obj)), Zc (.ref C) dd oe → (∃ vs, oe.data = .fields vs) → RB (X.suite a ((a, oe) :: pn)) WF (hbody h) (t.suite a dd)
theorem rh2_plain {X : Cx} {h : ExceptHandler} {t : Hd} (r : ∀ (a : Addr) (oe : Obj) (dd : Option Addr) (pn : List (Addr × Obj)), RB (X.suite a ((a, oe) :: pn)) WF (hbody h) (t.suite a dd)) : RH2 X h t := ⟨fun _ _ a oe dd pn _ _ => r a oe dd pn⟩
theorem rh2_named {X : Cx} {h : ExceptHandler} {t : Hd} (r : RH X h t) (hn : t.oi.isSome = true) : RH2 X h t := ⟨fun C hC a oe dd pn hz hf => by
  rcases hC with e | rfl
  · rw [e] at hn; cases hn
  · exact r.run a oe dd pn hz hf⟩
inductive RHs2 (X : Cx) : List ExceptHandler → List Hd → Prop
  | nil : RHs2 X [] []
  | cons {h : ExceptHandler} {hs : List ExceptHandler} {t : Hd} {ts : List Hd} (a : RH2 X h t) (b : RHs2 X hs ts) : RHs2 X (h :: hs) (t :: ts)
theorem hw2_of {X : Cx} {N : En} {Ξ : XP} : ∀ {hs : List ExceptHandler} {ts : List Hd} {ds : DS} {C : Addr} {fs : List (Str × D)} {m : Mem}, RHs2 X hs ts → hdW2 (PySem.W.exmOne X.K <| .ref ·) N Ξ ts ds C fs m → HW X N Ξ hs (ts.map fun t => (t.cls, t.oi)) ds C fs m
  | _, _, _, _, _, _, .nil, h => h
  | _, _, _, _, _, _, .cons (t := t) a b, h => by
    obtain ⟨k, e, yes, no⟩ := h
    refine ⟨k, e, fun hk a1 oe dd pn hz hf hn => ?_, fun hk => hw2_of b (no hk)⟩
    obtain ⟨hC, q⟩ := yes hk
    have q1 := q a1 dd hn
    have r1 := a.run _ hC a1 oe dd pn hz hf
    revert q1
    cases t.oi with
    | none => exact fun q1 => r1.run q1
    | some i => exact fun q1 => r1.run q1
section
variable {P : Program} {w : World} {K : PySem.W.Frag} {mg : Str → Option Value} {base : Heap}
variable {X : Cx} {W : WX} {e a b c o : Expr} {es : List Expr} {ds : DS} {m : Mem} {Φ Ψ : D → Mem → Prop} {Ξ : XP} {p pos apos : Pos} {d : D} {x g : Str} {i j k n : Nat} {f C B : Addr} {sp : SpD} {N : En}
variable {ta tb tc : ME} {aa : MA} {sa : MS}
theorem Vw.nmb (V : Vw P w K mg base k X W) (g : BaseE K mg x B) (hg : Gl X x) (hdb : (x == ("__debug__" : Str)) = false := by decide) : Names X x (.ref B) := ⟨hg, hdb, .inl (by rw [V.eM]; exact g.gl)⟩
theorem s_try2 {body : List Stmt} {h0 : ExceptHandler} {hds : List ExceptHandler} {ts : List Hd} {mt : Addr → Value → Option Bool} (V : Vw P w K mg base k X W) (hmt : mt = (PySem.W.exmOne K <| .ref ·)) (hn : HN X (h0 :: hds) (ts.map fun t => (t.cls, t.oi)))
    (hb : ∀ (W' : WX) (pn : List (Addr × Obj)) (xe : Value → Shared → Prop), Vw P w K mg base k (X.tr pn xe) W' → PassesOwn (model X.prog X.w) X.A X.env xe → RB (X.tr pn xe) W' body sa) (hh : RHs2 X (h0 :: hds) ts) (hst : X.stack = X.env :: X.outer := by rfl) (hfr : X.env.frame = some X.env.locals := by rfl) :
    RS X W (.Try body (h0 :: hds) [] [] pos) (try2_ mt sa ts) := by
  subst hmt
  refine ⟨fun {ds m N Ξ} h => sw_try V.bs.nd V.tk hn (fun W' pn xe tk po => ?_) hst hfr⟩
  have h2 := (hb W' pn xe (V.tr tk) po).run h
  refine fun F H σ s De n x => h2 F H σ s De n fun C dd σ2 F2 H2 ds2 fs m2 s1 sl xo q => x C dd σ2 F2 H2 ds2 fs m2 s1 sl xo (hw2_of hh ?_)
  have : (PySem.W.exmOne K <| .ref ·) = (PySem.W.exmOne X.K <| .ref ·) := by rw [V.eK]
  rw [this] at q
  exact q
/-! ### s.split(t) -/
def gSplit : FM := fun d l m Φ => match d, l with
  | .str a, [.str b] => gd (!(b.length == 0) && decide (a.length + 2 ≤ sizeLine)) (Φ (.lst ((Txt.split a b).map D.str)) m)
  | _, _ => False
theorem strs_rp {F : Hp} : ∀ l : List Str, RpA K F (l.map V.str) (l.map D.str)
  | [] => .nil
  | z :: l => .cons (.str z) (strs_rp l)
theorem md_split : MD X "str.split" gSplit := ⟨fun {m Φ d l} h => ⟨_, mt_split, fun F H x xs Q s mm r rs n => by
  unfold gSplit at h
  split at h
  · next a b =>
    obtain ⟨hz, q⟩ := gd_t h
    simp only [Bool.and_eq_true, Bool.not_eq_true', decide_eq_true_eq] at hz
    cases r
    cases rs with
    | cons ry t =>
      cases t
      cases ry
      refine ⟨a, b, rfl, rfl, hz.1, hz.2, fun o ho => ?_⟩
      have s2 := Stp.lay (o := .lst ((Txt.split a b).map V.str)) s mm ho
      exact n _ _ _ _ _ s2 (.lst upd_same (strs_rp _)) q
  · exact h.elim⟩⟩
end
end G
namespace G
open PySem PySem.Spec PyProof.Rows L2
/-- no error comes out -/
abbrev XN : XK := fun _ _ _ => False
section
variable {P : Program} {w : World} {K : PySem.W.Frag} {mg : Str → Option Value} {base : Heap}
variable {X : Cx} {W : WX} {e a b c o : Expr} {es : List Expr} {ds : DS} {m : Mem} {Φ Ψ : D → Mem → Prop} {Ξ : XP} {p pos apos : Pos} {d : D} {x g : Str} {i j k n : Nat} {f C B : Addr} {sp : SpD} {N : En}
variable {ta tb tc : ME} {aa : MA} {sa : MS}
/-- a def that raises nothing, called one frame below or here -/
theorem run_at {A : Around} {pins : List (Addr × Obj)} {σ : L2.St} {H : Hp} {s : Shared} {Q : VK} {us : List Value} {vs : List V} {fd : FuncData} {ps : List Str} {spv : Sp} {E : Value → Shared → Prop} (F : FnOk X.prog X.w X.K X.mg X.base (L2.CX X.prog X.w) k f fd ps spv) (hr : Room k A)
    (e0 : Env0 X.prog X.w X.K X.mg X.base A X.stack s H) (hb : Binds X.K fd ps []) (I : Inv X pins σ H s) (r : Vals vs us) (h : spv vs H Q XN) : wpAny (model X.prog X.w) A (call (.ref f) us) (EP X pins σ Q) E s := by
  have hl : us.length = ps.length := by rw [← r.length]; exact F.len _ _ _ _ h
  have bd := hb s us I.kIn (by rw [List.append_nil]; exact hl)
  rw [List.append_nil] at bd
  refine wpAny_call (codeAny_mono (F.run A X.stack s H ⟨us, []⟩ us vs Q XN hr e0 bd r h) fun r s' hq => ?_)
  cases r with
  | error er => exact absurd hq (by simp [CR, L2.CX])
  | ok fl =>
    cases fl with
    | ret u => exact I.after hq
    | next => exact False.elim hq
    | brk => exact False.elim hq
    | cont => exact False.elim hq
/-! ### len(o) by the class's own __len__ -/
structure LnD (P : Program) (w : World) (K : PySem.W.Frag) (mg : Str → Option Value) (base : Heap) (k : Nat) (C : Addr) (sp : SpD) : Prop where
  ok : ∃ f fd ps, ps.length = 1 ∧ Meth K C "__len__" f ∧ FnOk P w K mg base (L2.CX P w) k f fd ps (lift K 1 sp) ∧ Binds K fd ps []
def lenO_ (C : Addr) (sp : SpD) (o : ME) : ME := fun ds m Φ Ξ => o ds m (fun d m1 => isO' C d m1 (CallW sp [d] m1 (fun r m2 => ∃ n : Nat, r = .int n ∧ n < 1000000 ∧ Φ r m2) fun _ _ _ => False)) Ξ
theorem Vw.ln (V : Vw P w K mg base k X W) (F : LnD P w K mg base j C sp) : LnD X.prog X.w X.K X.mg X.base j C sp := by rw [V.eP, V.eW, V.eK, V.eM, V.eB]; exact F
def rLenO (X : Cx) (C : Addr) (spv : Sp) : List V → Hp → VK → Prop := fun xs H Q => ∃ a dx fs, xs = [.ref a] ∧ H a = some (.ins C dx fs) ∧ spv [.ref a] H (fun v H' => ∃ n : Nat, v = .int n ∧ n < 1000000 ∧ Q (.int n) H') XN
theorem cr_lenO {fd : FuncData} {ps : List Str} {spv : Sp} (M : Meth X.K C "__len__" f) (F : FnOk X.prog X.w X.K X.mg X.base (L2.CX X.prog X.w) k f fd ps spv) (hb : Binds X.K fd ps []) (hr : Room (k + 1) X.A) : CallR X (.builtin "len") (rLenO X C spv) := by
  intro pins s σ H xs us Q I r h
  obtain ⟨ad, dx, fs, rfl, ea, h⟩ := h
  rw [Vals.ref1 r]
  obtain ⟨mA, O, _⟩ := ins_get I.hok ea
  obtain ⟨od, J, _⟩ := O.look
  obtain ⟨mm, hF⟩ := I.fr
  refine PySem.W.len_K hF I.ok.mod.kin J M.at_ M.fn ?_
  refine wpAny_mono (run_at (A := X.A.in1) F hr.in1 I.env0.in1 hb I (vs := [.ref ad]) (.cons rfl .nil) h) (fun v s' hv => ?_) fun _ _ z => z
  obtain ⟨v', H', I', rv, n, rfl, hn, q⟩ := hv
  obtain ⟨t, rfl⟩ := rv
  have e2 : (2 : Int) ^ 63 = 9223372036854775808 := by decide
  exact ⟨⟨by omega, by omega⟩, .int n, H', I'.tok _, ⟨_, rfl⟩, q⟩
theorem r_lenO (V : Vw P w K mg base k X W) (F : LnD P w K mg base j C sp) (ho : RE X W o ta) (hj : j + 1 ≤ k := by decide) (hg : Gl X "len" := by rfl) (he : starEach [o] X.env = [(false, eval o X.env)] := by rfl) :
    RE X W (.Call (.Name "len" p) [o] [] pos) (lenO_ C sp ta) := by
  obtain ⟨f, fd, ps, hn, M, ok, bd⟩ := (V.ln F).ok
  refine ⟨fun {ds m Φ Ξ} h => ew_callB (cr_lenO M ok bd (V.room.mono hj)) V.bs.bi.b_len PySem.boot_len (aw_cons ((ho.run h).mono fun d m1 q => aw_nil fun F2 H vs Q s mm r n => ?_) he) hg (he := he) (hpl := rfl)⟩
  cases r with
  | cons r1 t =>
    cases t
    obtain ⟨ad, dx, fs, rfl, h1, q⟩ := isO'_go s mm r1 q
    refine ⟨ad, dx, fs, rfl, h1, F2, [d], m1, _, fun _ _ _ => False, s, .cons r1 .nil, rfl, mm, q.run, fun v F3 H3 d3 m3 s3 r3 hq => ?_, fun _ _ _ _ _ _ _ _ z => z.elim⟩
    obtain ⟨k1, rfl, hk, q2⟩ := hq
    cases r3
    exact ⟨k1, rfl, hk, n _ F3 H3 _ m3 s3 (.int _) q2⟩
/-! ### o == x by the class's own __eq__ -/
structure EqD (P : Program) (w : World) (K : PySem.W.Frag) (mg : Str → Option Value) (base : Heap) (k : Nat) (C : Addr) (sp : SpD) : Prop where
  ok : ∃ f fd ps, ps.length = 2 ∧ Meth K C "__eq__" f ∧ PySem.W.notFirst K C (.type "tuple") = true ∧ FnOk P w K mg base (L2.CX P w) k f fd ps (lift K 2 sp) ∧ Binds K fd ps []
/-- an instance of the class, or a tuple -/
def isIT (C : Addr) (d : D) (m : Mem) (A : Prop) : Prop := match d with
  | .tup _ => A
  | d => isO' C d m A
def eqO_ (C : Addr) (sp : SpD) (a b : ME) : ME := fun ds m Φ Ξ => a ds m (fun d1 m1 => b ds m1 (fun d2 m2 => isO' C d1 m2 (isIT C d2 m2 (CallW sp [d1, d2] m2 (fun r m3 => ∃ t : Bool, r = .bl t ∧ Φ r m3) fun _ _ _ => False))) Ξ) Ξ
theorem Vw.eq (V : Vw P w K mg base k X W) (F : EqD P w K mg base j C sp) : EqD X.prog X.w X.K X.mg X.base j C sp := by rw [V.eP, V.eW, V.eK, V.eM, V.eB]; exact F
def rEqO (X : Cx) (C : Addr) (spv : Sp) : R2 := fun x y H Q => ∃ a b dx fs, x = .ref a ∧ y = .ref b ∧ H a = some (.ins C dx fs) ∧ ((∃ dy gs, H b = some (.ins C dy gs)) ∨ ∃ ys, SqT X.K H b ys) ∧ spv [.ref a, .ref b] H (fun v H' => ∃ t : Bool, v = .bl t ∧ Q (.bl t) H') XN
theorem op_eqO {fd : FuncData} {ps : List Str} {spv : Sp} (M : Meth X.K C "__eq__" f) (hT : PySem.W.notFirst X.K C (.type "tuple") = true) (F : FnOk X.prog X.w X.K X.mg X.base (L2.CX X.prog X.w) k f fd ps spv) (hb : Binds X.K fd ps []) (hr : Room k X.A) : OpR X (compareOp .Eq) (rEqO X C spv) := by
  intro pins s σ H x y v u Q I rx ry h
  obtain ⟨ad, bd, dx, fs, rfl, rfl, ea, hy, h⟩ := h
  cases rx
  cases ry
  show wpAny (model X.prog X.w) X.A (richCompare .Eq (.ref ad) (.ref bd)) (EP X pins σ Q) X.xe s
  obtain ⟨mA, O, _⟩ := ins_get I.hok ea
  obtain ⟨od, J, _⟩ := O.look
  obtain ⟨mm, hF⟩ := I.fr
  have fin : wpAny (model X.prog X.w) X.A (call (.ref f) [.ref ad, .ref bd]) (PySem.W.CmpBack (EP X pins σ Q)) X.xe s := by
    refine wpAny_mono (run_at (A := X.A) F hr I.env0 hb I (vs := [.ref ad, .ref bd]) (.cons rfl (.cons rfl .nil)) h) (fun v s' hv => ?_) fun _ _ z => z
    obtain ⟨v', H', I', rv, t, rfl, q⟩ := hv
    cases rv
    exact ⟨.bl t, H', I', rfl, q⟩
  rcases hy with ⟨dy, gs, eb⟩ | ⟨ys, eb⟩
  · obtain ⟨mB, O', _⟩ := ins_get I.hok eb
    obtain ⟨od', J', _⟩ := O'.look
    exact PySem.W.cmp_K (op := .Eq) (tb := .ref C) hr.units0 hF I.ok.mod.kin J J'.type (by simp [PySem.W.notFirst]) M.at_ M.fn fin
  · obtain ⟨its, r, ⟨ob, ho, hc, n, hd⟩, hz⟩ := I.tuple eb
    have T : PySem.W.Looks (model X.prog X.w) s.heap (typeOf (.ref bd)) (.type "tuple") := hc ▸ (PySem.W.Looks.ld ho).andThen .now
    exact PySem.W.cmp_K (op := .Eq) (tb := .type "tuple") hr.units0 hF I.ok.mod.kin J T hT M.at_ M.fn fin
theorem isIT_go {F H : Hp} {v : V} {A : Prop} (s : Same F H) (mm : MemOk K F H m) (r : Rp K F v d) (h : isIT C d m A) : ∃ ad, v = .ref ad ∧ ((∃ dy gs, H ad = some (.ins C dy gs)) ∨ ∃ ys, SqT K H ad ys) ∧ A := by
  cases d with
  | tup l => cases r with | tup h1 t1 => exact ⟨_, rfl, .inr ⟨_, sq_t (s _ _ h1)⟩, h⟩
  | ins => obtain ⟨ad, dx, fs, e, h1, q⟩ := isO'_go s mm r h; exact ⟨ad, e, .inl ⟨_, _, h1⟩, q⟩
  | ref => obtain ⟨ad, dx, fs, e, h1, q⟩ := isO'_go s mm r h; exact ⟨ad, e, .inl ⟨_, _, h1⟩, q⟩
  | _ => exact False.elim h
theorem g_eqO {fd : FuncData} {ps : List Str} {d1 d2 : D} (h : isO' C d1 m (isIT C d2 m (CallW sp [d1, d2] m (fun r m3 => ∃ t : Bool, r = .bl t ∧ Φ r m3) fun _ _ _ => False))) : RD X (rEqO X C (lift X.K 2 sp)) d1 d2 m Φ := fun F H x y Q s mm r1 r2 n => by
  obtain ⟨ad, dx, fs, rfl, h1, h⟩ := isO'_go s mm r1 h
  obtain ⟨bd, rfl, h2, h⟩ := isIT_go s mm r2 h
  refine ⟨ad, bd, dx, fs, rfl, rfl, h1, h2, F, [d1, d2], m, _, fun _ _ _ => False, s, .cons r1 (.cons r2 .nil), rfl, mm, h.run, fun v F3 H3 d3 m3 s3 r3 hq => ?_, fun _ _ _ _ _ _ _ _ z => z.elim⟩
  obtain ⟨t, rfl, q⟩ := hq
  cases r3
  exact ⟨t, rfl, n _ F3 H3 _ m3 s3 (.bl _) q⟩
theorem r_eqO (V : Vw P w K mg base k X W) (F : EqD P w K mg base j C sp) (ha : RE X W a ta) (hb : RE X W b tb) (hj : j ≤ k := by decide) (hm : behindInMarks .Eq b = false := by first | exact nomark _ | rfl) : RE X W (.Compare a [.Eq] [b] pos) (eqO_ C sp ta tb) := by
  obtain ⟨f, fd, ps, hn, M, hT, ok, bd⟩ := (V.eq F).ok
  exact ⟨fun h => ew_cmp (op_eqO M hT ok bd (V.room.mono hj)) ((ha.run h).mono fun _ _ q => (hb.run q).mono fun _ _ q2 => g_eqO (fd := fd) (ps := ps) q2) hm⟩
theorem t_eqO (V : Vw P w K mg base k X W) (F : EqD P w K mg base j C sp) (ha : RE X W a ta) (hb : RE X W b tb) (hj : j ≤ k := by decide) (hm : behindInMarks .Eq b = false := by first | exact nomark _ | rfl) : RT X W (.Compare a [.Eq] [b] pos) (tst (eqO_ C sp ta tb)) := by
  obtain ⟨f, fd, ps, hn, M, hT, ok, bd⟩ := (V.eq F).ok
  exact ⟨fun h => tw_cmp (op_eqO M hT ok bd (V.room.mono hj)) ((ha.run h).mono fun _ _ q => (hb.run q).mono fun _ _ q2 => (g_eqO (fd := fd) (ps := ps) q2).mono fun _ _ z => bB_as z) hm⟩
/-! ### o.f as one of several targets -/
def gFldC (C : Addr) (ns : List Str) (j : Nat) (o : ME) : MG := fun d ds m Φ Ξ => o ds m (fun d2 m2 => setCg C ns j d d2 m2 (Φ ds)) Ξ
theorem gt_fldC {ns : List Str} (T : Cls X.K C) (na : NoAttr X.K C g) (ho : RE X W o tb) (hl : ns.length < 1000 := by decide) (hn : ns.Nodup := by decide) (hj : ns[j]? = some g := by rfl) : RG X W (.Attribute o g pos) (gFldC C ns j tb) := ⟨fun {d ds m Φ Ξ} h F H σ v s rv Q n x pins sh u I ru => by
  rw [assign_Attribute]
  let Q' : VK := fun v2 H2 => ∃ F2 d2 m2, Stp X.K F H m F2 H2 m2 ∧ Rp X.K F2 v2 d2 ∧ setCg C ns j d d2 m2 (Φ ds)
  refine wpAny_bind (wpAny_holding (thn (ho.run h F H σ s Q' (fun v F2 H2 d m2 s1 r q => ⟨F2, d, m2, s1, r, q⟩) x pins sh I) fun ov s1 hh => ?_))
  obtain ⟨v2, H2, I2, rv2, F2, d2, m2, st, r2, q3⟩ := hh
  cases d2 with
  | ref p =>
    obtain ⟨i, c, hi, q⟩ := (show cel m2 p _ from q3)
    clear q3
    cases r2
    obtain rfl : ov = Value.ref p := rv2
    have ce := st.mem.ce _ (List.mem_of_getElem? hi)
    cases c with
    | obj C' ns' l =>
      obtain ⟨⟨rfl, rfl⟩, q1⟩ := q
      obtain ⟨dx, vs, h3, hl3, t⟩ := ce
      refine wpAny_bind (wpAny_standAt (wpAny_bind (wpAny_holding (setattr_ok I2 h3 T na (by simp [List.length_zip]; omega) ru fun s3 I3 => ?_))))
      refine wpAny_release ⟨σ, _, I3, ?_⟩
      rw [put_old _ vs j hn hj hl3]
      exact n σ F2 _ ds _ (st.trans (Stp.putAt (c' := .obj C' _ (l.set j d)) st.sub st.mem hi ⟨dx, _, upd_same, by simp [hl3], t.set j (rv.up st.fz)⟩)) (s.sl.up st.fz) q1
    | _ => exact False.elim q
  | _ => exact False.elim q3⟩
end
/-! ### the top's __len__, __eq__ -/
section
variable {K : PySem.W.Frag} {C f : Addr} {x qual : Str} {st : Stmt}
theorem eq_mk {oc : Value} {od an : Option Addr} {osl : Array (Option Value)} {kV doc pm cdv ct : Value} {ps : List Str} (b : BindOk "__eq__" qual st ps)
    (i : PySem.W.findIn K (.ref C) "__eq__" = some (some (.ref f))) (l : K.lookup f = some ⟨oc, od, .func (PySem.W.fnOf "__eq__" qual (defArgs st) (defBody st) (defScope st) .none kV doc pm an cdv ct), osl⟩)
    (c : PySem.W.codeIn K cdv qual = true) (k : PySem.W.keepIn K (.ref f) = true) (is : PySem.W.isFn K (.ref f) = true) (nf : PySem.W.notFirst K C (.type "tuple") = true) : PySem.W.notFirst K C (.type "tuple") = true ∧ MetK K C "__eq__" qual st ps := ⟨nf, met_mk b i l c k is⟩
def EqK (K : PySem.W.Frag) (C : Addr) (qual : Str) (st : Stmt) (ps : List Str) : Prop := PySem.W.notFirst K C (.type "tuple") = true ∧ MetK K C "__eq__" qual st ps
end
end G
namespace G
open PySem PySem.Spec PyProof.Rows L2
/-! ### an error class with two fields -/
section
variable {P : Program} {w : World} {K : PySem.W.Frag} {mg : Str → Option Value} {base : Heap} {B C f : Addr} {fd : FuncData} {x qual g g2 : Str} {st : Stmt}
theorem upd_tw {H : Hp} {a : Addr} {o o2 : HO} : upd (upd H a o) a o2 = upd H a o2 := by
  funext b
  by_cases e : b = a
  · subst e; rw [upd_same, upd_same]
  · rw [upd_ne e, upd_ne e, upd_ne e]
theorem upd_cm {H : Hp} {a b : Addr} {o o2 : HO} (h : a ≠ b) : upd (upd H a o) b o2 = upd (upd H b o2) a o := by
  funext c
  by_cases e : c = a
  · subst e; rw [upd_ne h, upd_same, upd_same]
  · by_cases e2 : c = b
    · subst e2; rw [upd_same, upd_ne e, upd_same]
    · rw [upd_ne e2, upd_ne e, upd_ne e, upd_ne e2]
theorem exd_perm {dx : Addr} {l l2 : List (Str × V)} (h : ∀ k, l.lookup k = l2.lookup k) : exd dx l = exd dx l2 := by
  unfold exd
  congr 1
  funext hp
  simp only [h]
theorem ErrK.err2 {z : Str} {j} {p1 p2 p3 p4 p5 p6 p7 p8 p9 pa q7 q8 q9 qa : Pos} (E : ErrK K mg x C [g, g2] qual st ["self", g, g2]) (b : BaseE K mg "DrawerError" B) (S : FnScope ["self", g, g2] ["self", g, g2] (defScope st))
    (hb : defBody st = [.Expr (.Call (.Attribute (.Name "DrawerError" p1) "__init__" p2) [.Name "self" p3, .Constant (.str z) j p4] [] p5) p6, .Assign [.Attribute (.Name "self" p7) g p8] (.Name g p9) pa, .Assign [.Attribute (.Name "self" q7) g2 q8] (.Name g2 q9) qa])
    (hc : ∀ env : Env, eval (.Call (.Attribute (.Name "DrawerError" p1) "__init__" p2) [.Name "self" p3, .Constant (.str z) j p4] [] p5) env = (do
      let obj ← eval (.Name "DrawerError" p1) env
      standAt p2.atName
      let (fn, self) ← holding [obj] (getMethod obj "__init__" (do return (← importBound (.Name "DrawerError" p1) env).getD true))
      callWith p5 fn self (backTo p5 (starEach [.Name "self" p3, .Constant (.str z) j p4] env)) (backToKw p5 (keywordEach [] env))))
    (hx : (defScope st).names.lookup ("DrawerError" : Str) = some .globalImplicit) (hs : (defScope st).names.lookup ("self" : Str) = some .local) (hg : (defScope st).names.lookup g = some .local) (hg2 : (defScope st).names.lookup g2 = some .local) (hd1 : (g == ("__debug__" : Str)) = false) (hd2 : (g == ("__classdict__" : Str)) = false) (hd3 : (g2 == ("__debug__" : Str)) = false) (hd4 : (g2 == ("__classdict__" : Str)) = false) (hne : (g == g2) = false := by decide) : Err P w K mg base x C [g, g2] := by
  obtain ⟨f, fd, i, tI, F, bd⟩ := E.ini
  have ng : g ≠ g2 := fun z => by rw [z] at hne; simp at hne
  refine ⟨E.cl, E.gl, E.xf, E.nf, f, fd, _, i, tI, bd, F.ok S (fun vs H Q E h => ?_) (fun cdv A outer s H vs Q X h hh => ⟨_, by rw [hb]; exact pss_cons (ps_expr (pe_binit b.gl b.rd b.vi (pa_cons (pe_var (i := 0) rfl (Or.inl hs)) (pa_cons pe_str pa_nil)) hx (by decide) (hc := hc _))) (pss_cons (ps_ost (pe_var (i := 0) rfl (Or.inl hs)) (pe_var (i := 1) rfl (Or.inl hg) hd1 hd2)) (pss_one (ps_ost (pe_var (i := 0) rfl (Or.inl hs)) (pe_var (i := 2) rfl (Or.inl hg2) hd3 hd4)))), ?_⟩)⟩
  · obtain ⟨a, ws, rfl, hl, _⟩ := h
    show ws.length + 1 = 3
    rw [hl]
    rfl
  · obtain ⟨a, ws, rfl, hl, ha, _, h1⟩ := hh
    match ws, hl, h1 with
    | [y, y2], _, h1 =>
      refine ⟨.ref a, rfl, a, C, _, rfl, Nat.le_of_ble_eq_true rfl, E.cl, ha, y, rfl, .ref a, rfl, a, C, rfl, E.cl, E.nf g (by simp), .inl ⟨ha, fun dx hd ne => ?_⟩⟩
      refine ⟨y2, rfl, .ref a, rfl, a, C, rfl, E.cl, E.nf g2 (by simp), .inr ⟨dx, [(g, y)], upd_same, ?_, by simp, ?_⟩⟩
      · rw [upd_ne ne, upd_same]
      · have fin := h1 (by simp) dx hd ne
        have e1 : exd dx ([g, g2].zip [y, y2]) = exd dx ((g2, y2) :: [(g, y)]) := exd_perm fun k => by
          show ([(g, y), (g2, y2)] : List (Str × V)).lookup k = ([(g2, y2), (g, y)] : List (Str × V)).lookup k
          simp only [List.lookup_cons, List.lookup_nil]
          by_cases k1 : k = g
          · subst k1
            have : (k == g2) = false := beq_eq_false_iff_ne.mpr ng
            simp [this]
          · have : (k == g) = false := beq_eq_false_iff_ne.mpr k1
            simp [this]
        rw [e1] at fin
        rw [upd_cm (Ne.symm ne), upd_tw]
        exact fin
end
end G
namespace G
open PySem PySem.Spec PyProof.Rows L2
/-! ### sets of tuples of numbers and texts -/
section
variable {P : Program} {w : World} {A : Around} {E : Value → Shared → Prop} {s : Shared} {κ : Type} [DecidableEq κ] {kd : PySem.KeyKind P w κ}
def flatv (v : Value) : Prop := (∃ i t, v = Value.int i t) ∨ ∃ z t, v = Value.str z t
/-- numbers and texts alone -/
def Flat (kd : PySem.KeyKind P w κ) : Prop := ∀ k v, kd.is k v = true → flatv v
theorem flat_all (fl : Flat kd) {k : List κ} {vs : List Value} (h : ItemsAre kd k vs) : ∀ v ∈ vs, flatv v := by
  induction h with
  | nil => exact fun v hv => (nomatch hv)
  | cons h1 _ ih => exact fun v hv => (List.mem_cons.mp hv).elim (fun e => e ▸ fl _ _ h1) (ih v)
theorem flat_cls {v : Value} (h : flatv v) (n : Nat) : ofAClassStatement n v = pure false := by
  rcases h with ⟨i, t, rfl⟩ | ⟨z, t, rfl⟩ <;> cases n <;> rfl
theorem flat_hash {v : Value} (h : flatv v) (n : Nat) : ∃ b, hashByValue n v = pure b := by
  rcases h with ⟨i, t, rfl⟩ | ⟨z, t, rfl⟩
  · exact ⟨true, by cases n <;> simp [hashByValue]⟩
  · exact ⟨false, by cases n <;> simp [hashByValue]⟩
theorem tk_cls (fl : Flat kd) {k : List κ} {b : Addr} {Q : Bool → Shared → Prop} (gk : IsTupleKey kd s.heap k b) (q : Q false s) : wpAny (model P w) A (ofAClassStatement 8 (.ref b)) Q E s := by
  have ty := gk.typeIs
  obtain ⟨ob, its, n, gb, _, gd, gi⟩ := gk
  unfold ofAClassStatement
  refine wpAny_bind (wpAny_typeOf ty ?_)
  dsimp only
  have e : (("tuple" : String) == "tuple") = true := by decide
  simp only [e, if_true, Bool.not_true, Bool.false_eq_true, if_false]
  try refine wpAny_bind (wpAny_pure ?_)
  try simp only [Bool.not_true, Bool.false_eq_true, if_false]
  show wpAny _ _ (seqItems? (.ref b) >>= _) _ _ s
  refine wpAny_bind (wpAny_seqItems gb gd ?_)
  dsimp only
  refine wpAny_bind ?_
  show wpAny _ _ (forIn its _ _) _ _ s
  rw [← Array.forIn_toList]
  refine wpAny_forIn_list _ (fun rest r sh => r.1 = none ∧ sh = s ∧ ∀ v ∈ rest, flatv v) _ (fun v rest r sh hI => ?_) (fun r sh hI => ?_) _ _ ⟨rfl, rfl, flat_all fl gi⟩
  · obtain ⟨hr, rfl, all⟩ := hI
    rw [flat_cls (all v List.mem_cons_self)]
    refine wpAny_bind (wpAny_pure ?_)
    simp only [Bool.false_eq_true, if_false]
    exact wpAny_pure ⟨rfl, rfl, fun u hu => all u (List.mem_cons_of_mem _ hu)⟩
  · obtain ⟨r1, r2⟩ := r
    obtain ⟨hr, rfl, _⟩ := hI
    simp only at hr
    subst hr
    exact wpAny_pure q
theorem tk_hash (fl : Flat kd) {k : List κ} {b : Addr} {Q : Bool → Shared → Prop} (gk : IsTupleKey kd s.heap k b) (q : ∀ c, Q c s) : wpAny (model P w) A (hashByValue 8 (.ref b)) Q E s := by
  have ty := gk.typeIs
  obtain ⟨ob, its, n, gb, _, gd, gi⟩ := gk
  unfold hashByValue
  refine wpAny_bind (wpAny_specialOf ty F.slot_tuple_hash.lookup ?_)
  show wpAny _ _ (seqItems? (.ref b) >>= _) _ _ s
  refine wpAny_bind (wpAny_seqItems gb gd ?_)
  refine wpAny_bind ?_
  show wpAny _ _ (forIn its _ _) _ _ s
  rw [← Array.forIn_toList]
  refine wpAny_forIn_list _ (fun rest r sh => r.1 = none ∧ sh = s ∧ ∀ v ∈ rest, flatv v) _ (fun v rest r sh hI => ?_) (fun r sh hI => ?_) _ _ ⟨rfl, rfl, flat_all fl gi⟩
  · obtain ⟨hr, rfl, all⟩ := hI
    obtain ⟨c, hc⟩ := flat_hash (all v List.mem_cons_self) 7
    rw [hc]
    refine wpAny_bind (wpAny_pure ?_)
    cases c with
    | true =>
      simp only [Bool.not_true, Bool.false_eq_true, if_false]
      exact wpAny_pure ⟨rfl, rfl, fun u hu => all u (List.mem_cons_of_mem _ hu)⟩
    | false =>
      simp only [Bool.not_false, if_true]
      exact wpAny_pure (wpAny_pure (q false))
  · obtain ⟨r1, r2⟩ := r
    obtain ⟨hr, rfl, _⟩ := hI
    simp only at hr
    subst hr
    exact wpAny_pure (q true)
/-- such a search shows nothing of the table -/
theorem tk_seen (fl : Flat kd) {k : List κ} {b : Addr} {Q : Bool → Shared → Prop} (gk : IsTupleKey kd s.heap k b) {ys : List Value} (gy : ∀ y ∈ ys, ∃ k' c, y = Value.ref c ∧ IsTupleKey kd s.heap k' c) (q : Q false s) :
    wpAny (model P w) A (searchCouldBeSeen (.ref b) ys) Q E s := by
  unfold searchCouldBeSeen
  refine wpAny_bind ?_
  refine wpAny_forIn_list _ (fun rest r sh => r.1 = none ∧ sh = s ∧ ∀ y ∈ rest, ∃ k' c, y = Value.ref c ∧ IsTupleKey kd s.heap k' c) _ (fun v rest r sh hI => ?_) (fun r sh hI => ?_) _ _ ⟨rfl, rfl, gy⟩
  · obtain ⟨hr, rfl, all⟩ := hI
    obtain ⟨k', c, rfl, gc⟩ := all v List.mem_cons_self
    have all' : ∀ y ∈ rest, ∃ k' c, y = Value.ref c ∧ IsTupleKey kd sh.heap k' c := fun u hu => all u (List.mem_cons_of_mem _ hu)
    dsimp only
    by_cases hv : (b == c || (carriedByValue (.ref b) && carriedByValue (.ref c))) = true
    · exact wp_if_pos hv (wpAny_pure ⟨rfl, rfl, all'⟩)
    · refine wp_if_neg hv (wpAny_bind (wpAny_eqIsQuiet_tuple gk ?_))
      simp only [Bool.not_true, Bool.false_eq_true, if_false]
      refine wpAny_bind (wpAny_eqIsQuiet_tuple gc ?_)
      simp only [Bool.not_true, Bool.false_eq_true, if_false]
      refine wpAny_bind (tk_cls fl gk ?_)
      simp only [Bool.false_eq_true, if_false]
      refine wpAny_bind (tk_cls fl gc ?_)
      simp only [Bool.false_eq_true, if_false]
      exact wpAny_pure ⟨rfl, rfl, all'⟩
  · obtain ⟨r1, r2⟩ := r
    obtain ⟨hr, rfl, _⟩ := hI
    simp only at hr
    subst hr
    exact wpAny_pure q
/-- the entries of a set: where a tuple lies, its keys -/
abbrev Ent (κ : Type) := List (Addr × List κ)
def entRows (kd : PySem.KeyKind P w κ) (l : Ent κ) : List (Int × Value) := l.map fun e => (tupleKeyHash kd e.2, Value.ref e.1)
def entHash (kd : PySem.KeyKind P w κ) (l : Ent κ) : List Int := l.map fun e => tupleKeyHash kd e.2
/-- at a stands a set with these entries -/
structure SetK (kd : PySem.KeyKind P w κ) (h : Heap) (a : Addr) (l : Ent κ) (es : Array (Int × Value)) (ep : Nat) (t : SetTable) : Prop where
  ob : ∃ o, h.get? a = some o ∧ o.ExactSet ∧ o.data = .set es ep t
  rows : es.toList = entRows kd l
  tab : TabOk t (entHash kd l)
  nd : (l.map (·.2)).Nodup
  tup : ∀ e ∈ l, IsTupleKey kd h e.2 e.1
  led : w.params.followText "set-order" = true ∨ t.led = true
  room : l.length * 5 < t.mask * 3
  few : l.length < 64
variable {a : Addr} {l : Ent κ} {es : Array (Int × Value)} {ep : Nat} {t : SetTable}
theorem ent_len (h : es.toList = entRows kd l) : es.size = l.length := by
  have e := congrArg List.length h
  rwa [Array.length_toList, entRows, List.length_map] at e
theorem SetK.sz (R : SetK kd s.heap a l es ep t) : es.size = l.length := ent_len R.rows
theorem SetK.psz (R : SetK kd s.heap a l es ep t) : t.place.size = l.length := by
  have e := R.tab.sz
  rwa [entHash, List.length_map] at e
theorem SetK.fit (R : SetK kd s.heap a l es ep t) : t.fits es.size = true := by
  have e1 := R.psz
  have e2 := R.sz
  have e3 := R.room
  unfold SetTable.fits SetTable.fill
  rw [R.tab.dm, Bool.and_eq_true, beq_iff_eq, decide_eq_true_eq]
  show t.place.size = es.size ∧ t.place.size + 0 ≤ t.mask
  omega
theorem ent_at (h : es.toList = entRows kd l) {i : Nat} {e : Addr × List κ} (g : l[i]? = some e) : es[i]? = some (tupleKeyHash kd e.2, Value.ref e.1) := by
  rw [← Array.getElem?_toList, h, entRows, List.getElem?_map, g]
  rfl
theorem SetK.noway (R : SetK kd s.heap a l es ep t) : ¬ t.gaveWay = true := by
  unfold SetTable.gaveWay
  rw [mask_odd R.tab.mok]
  decide
/-- the first step of a key's way -/
abbrev way0 (m : Nat) (h : Int) : SetTable.Probe := runAt m (SetTable.bits h % (m + 1)) (SetTable.bits h)
theorem nth_dummy (m : Nat) : ∀ (n : Nat) (p : SetTable.Probe), p.dummy = none → (nth m p n).dummy = none
  | 0, _, h => h
  | n + 1, p, h => nth_dummy m n (adv m p) (by unfold adv; split <;> exact h)
/-- the search, from a step of the way on -/
theorem look_on (fl : Flat kd) (R : SetK kd s.heap a l es ep t) {x : Addr} {k : List κ} (gx : IsTupleKey kd s.heap k x) (hu : A.units < cLine) {z : Nat} (z1 : z < 10 * SetTable.turns t.mask)
    (z2 : way t.mask (tupleKeyHash kd k) z ∉ t.place.toList) (z3 : ∀ c, c < z → way t.mask (tupleKeyHash kd k) c ∈ t.place.toList) {Q : SetFound → Shared → Prop}
    (yes : k ∈ l.map (·.2) → Q (.there none) s) (no : k ∉ l.map (·.2) → Q (.free (way t.mask (tupleKeyHash kd k) z) false) s) :
    ∀ (f c : Nat) (st : Option SetTable.Probe), st.getD (t.probeStart (tupleKeyHash kd k)) = nth t.mask (way0 t.mask (tupleKeyHash kd k)) c → c ≤ z → z - c < f →
      (∀ (i : Nat) e, l[i]? = some e → e.2 = k → ∃ c', c ≤ c' ∧ c' < z ∧ t.place.toList[i]? = some (way t.mask (tupleKeyHash kd k) c')) →
      wpAny (model P w) A (setSearchFrom a (.ref x) (tupleKeyHash kd k) true f st) Q E s
  | 0, _, _, _, _, hf, _ => absurd hf (Nat.not_lt_zero _)
  | f + 1, c, st, hst, hc, hf, left => by
    obtain ⟨o, go, gex, gd⟩ := R.ob
    rw [setSearchFrom_succ]
    refine wpAny_bind (wpAny_setState_of go gd R.fit ?_)
    dsimp only
    refine wp_if_neg R.noway ?_
    try refine wpAny_bind (wpAny_pure ?_)
    have on : ∀ j, nth t.mask (nth t.mask (way0 t.mask (tupleKeyHash kd k)) c) j = nth t.mask (way0 t.mask (tupleKeyHash kd k)) (c + j) := fun j => (nth_add t.mask c _ j).symm
    have onj : ∀ j, (nth t.mask (nth t.mask (way0 t.mask (tupleKeyHash kd k)) c) j).j = way t.mask (tupleKeyHash kd k) (c + j) := fun j => congrArg SetTable.Probe.j (on j)
    have hash_at : ∀ (i : Nat) e, l[i]? = some e → (es[i]?.map (·.1)).getD 0 = tupleKeyHash kd e.2 := fun i e g => by
      rw [ent_at R.rows g]
      rfl
    rcases go_spec t R.tab.ris R.tab.dm (fun i => (es[i]?.map (·.1)).getD 0) (tupleKeyHash kd k) (10 * SetTable.turns t.mask) (z - c) _ (nth_dummy t.mask c _ rfl) (by omega)
      (fun j hj => by rw [onj]; exact z3 (c + j) (by omega)) (by rw [onj, show c + (z - c) = z by omega]; exact z2) with ⟨j, i, hj, hi, hh, before, found⟩ | ⟨before, found⟩
    · rw [onj] at hi
      have fd : t.probe (fun i => (es[i]?.map (·.1)).getD 0) (tupleKeyHash kd k) (st.getD (t.probeStart (tupleKeyHash kd k))) = some (.candidate (way t.mask (tupleKeyHash kd k) (c + j)) i (nth t.mask (way0 t.mask (tupleKeyHash kd k)) (c + (j + 1)))) := by
        rw [hst, ← onj, ← on]
        exact found
      rw [fd]
      dsimp only
      have il : i < l.length := by
        have h1 := (List.getElem?_eq_some_iff.mp hi).1
        rw [Array.length_toList, R.psz] at h1
        exact h1
      obtain ⟨e, ge⟩ : ∃ e, l[i]? = some e := ⟨_, List.getElem?_eq_getElem il⟩
      have em : e ∈ l := List.mem_of_getElem? ge
      have sl : t.slot (way t.mask (tupleKeyHash kd k) (c + j)) = .live i := slot_live R.tab.ris hi
      have go_on : wpAny (model P w) A (searchRest a (.ref x) (tupleKeyHash kd k) true f es t (way t.mask (tupleKeyHash kd k) (c + j)) i (nth t.mask (way0 t.mask (tupleKeyHash kd k)) (c + (j + 1)))) Q E s := by
        unfold searchRest
        rw [ent_at R.rows ge]
        dsimp only
        refine wpAny_bind (wpAny_holding (wpAny_eqBool_tuple hu (R.tup e em) gx ?_))
        refine wpAny_bind (wpAny_setState_of go gd R.fit ?_)
        dsimp only
        by_cases ek : e.2 = k
        · refine wp_if_pos (by simp [ek]) (wpAny_pure (yes ?_))
          exact List.mem_map.mpr ⟨e, em, ek⟩
        · refine wp_if_neg (by simp [ek]) ?_
          try refine wpAny_bind (wpAny_pure ?_)
          rw [sameMem]
          dsimp only
          simp only [if_true, sl, ent_at R.rows ge]
          refine wpAny_bind (wpAny_isSame_ref_self (wpAny_bind (wpAny_pure ?_)))
          simp only [if_true]
          refine wp_if_neg (by simp [ek]) ?_
          refine look_on fl R gx hu z1 z2 z3 yes no f (c + (j + 1)) _ rfl (by omega) (by omega) fun i0 e0 g0 k0 => ?_
          obtain ⟨c', b1, b2, b3⟩ := left i0 e0 g0 k0
          refine ⟨c', ?_, b2, b3⟩
          have hne : c' ≠ c + j := fun ec => by
            rw [ec] at b3
            have s0 := slot_live R.tab.ris b3
            rw [sl] at s0
            injection s0 with s0
            rw [← s0, ge] at g0
            exact ek ((congrArg Prod.snd (Option.some.inj g0)).trans k0)
          have hge : ¬ c' < c + j := fun hlt => by
            refine before (c' - c) i0 (by omega) (by rw [onj, show c + (c' - c) = c' by omega]; exact b3) ?_
            exact (hash_at i0 e0 g0).trans (congrArg (tupleKeyHash kd) k0)
          omega
      by_cases hl : t.led = true
      · refine wp_if_neg (by simp [hl]) ?_
        try refine wpAny_bind (wpAny_pure ?_)
        exact go_on
      · refine wp_if_pos (by simp [hl]) (wpAny_bind (tk_seen fl gx (fun y hy => ?_) ?_))
        · obtain ⟨r, hr, er⟩ := List.mem_map.mp hy
          have r1 : r ∈ es ∧ r.1 = tupleKeyHash kd k := by simpa using hr
          have r2 : r ∈ es.toList := by simpa using r1.1
          rw [R.rows] at r2
          obtain ⟨e2, m2, q2⟩ := List.mem_map.mp r2
          exact ⟨e2.2, e2.1, by rw [← er, ← q2], R.tup e2 m2⟩
        · refine wp_if_neg (by decide) ?_
          try refine wpAny_bind (wpAny_pure ?_)
          exact go_on
    · have fd : t.probe (fun i => (es[i]?.map (·.1)).getD 0) (tupleKeyHash kd k) (st.getD (t.probeStart (tupleKeyHash kd k))) = some (.empty (way t.mask (tupleKeyHash kd k) z) none) := by
        have e2 : way t.mask (tupleKeyHash kd k) z = (nth t.mask (nth t.mask (way0 t.mask (tupleKeyHash kd k)) c) (z - c)).j := by
          rw [onj, show c + (z - c) = z by omega]
        rw [hst, e2]
        exact found
      rw [fd]
      dsimp only
      refine wpAny_pure (no fun hm => ?_)
      obtain ⟨e0, h0, k0⟩ := List.mem_map.mp hm
      obtain ⟨i0, hi0, ei⟩ := List.getElem_of_mem h0
      have g0 : l[i0]? = some e0 := by rw [List.getElem?_eq_getElem hi0, ei]
      obtain ⟨c', b1, b2, b3⟩ := left i0 e0 g0 k0
      refine before (c' - c) i0 (by omega) (by rw [onj, show c + (c' - c) = c' by omega]; exact b3) ?_
      exact (hash_at i0 e0 g0).trans (congrArg (tupleKeyHash kd) k0)
theorem look (fl : Flat kd) (R : SetK kd s.heap a l es ep t) {x : Addr} {k : List κ} (gx : IsTupleKey kd s.heap k x) (hu : A.units < cLine) {Q : SetFound → Shared → Prop} (yes : k ∈ l.map (·.2) → Q (.there none) s)
    (no : ∀ z, k ∉ l.map (·.2) → way t.mask (tupleKeyHash kd k) z ∉ t.place.toList → (∀ c, c < z → way t.mask (tupleKeyHash kd k) c ∈ t.place.toList) → Q (.free (way t.mask (tupleKeyHash kd k) z) false) s) :
    wpAny (model P w) A (setSearch a (.ref x) (tupleKeyHash kd k) true) Q E s := by
  have rm := R.room
  obtain ⟨z, z1, z2, z3⟩ := R.tab.first (by rw [entHash, List.length_map]; omega) (tupleKeyHash kd k)
  have zb : z < 100000 := by
    have : 10 * SetTable.turns t.mask ≤ 1420 := by
      unfold SetTable.turns
      rcases R.tab.mok with e | e | e <;> omega
    omega
  unfold setSearch
  refine look_on fl R gx hu z1 z2 z3 yes (fun hn => no z hn z2 z3) 100000 0 none rfl (Nat.zero_le _) (by omega) fun i e ge ek => ?_
  have hi : (entHash kd l)[i]? = some (tupleKeyHash kd k) := by rw [entHash, List.getElem?_map, ge, ← ek]; rfl
  have il : i < t.place.toList.length := by
    have h1 := (List.getElem?_eq_some_iff.mp ge).1
    rw [Array.length_toList, R.psz]
    exact h1
  obtain ⟨c, hc, e⟩ := R.tab.before z2 hi (List.getElem?_eq_getElem il)
  exact ⟨c, Nat.zero_le _, hc, by rw [List.getElem?_eq_getElem il, e]⟩
end
end G
namespace G
open PySem PySem.Spec PyProof.Rows L2
section
variable {P : Program} {w : World} {A : Around} {E : Value → Shared → Prop} {s : Shared} {κ : Type} [DecidableEq κ] {kd : PySem.KeyKind P w κ}
variable {a : Addr} {l : Ent κ} {es : Array (Int × Value)} {ep : Nat} {t : SetTable}
/-- a tuple is not the set: it stays where the set alone changes -/
theorem key_stay {h h' : Heap} {k : List κ} {b : Addr} {o : Obj} (gb : IsTupleKey kd h k b) (go : h.get? a = some o) (gd : o.data = .set es ep t) (sb : Heap.SameBut a h h') : IsTupleKey kd h' k b := by
  obtain ⟨o', its, n, g', gc, gd', gi⟩ := gb
  refine ⟨o', its, n, (sb.2 b fun e => ?_).trans g', gc, gd', gi⟩
  subst e
  rw [Option.some.inj (g'.symm.trans go), gd] at gd'
  exact nomatch gd'
theorem key_more {h h' : Heap} {k : List κ} {b : Addr} (gb : IsTupleKey kd h k b) (hk : ∀ c o, h.get? c = some o → h'.get? c = some o) : IsTupleKey kd h' k b := by
  obtain ⟨o, its, n, g, r⟩ := gb
  exact ⟨o, its, n, hk b o g, r⟩
theorem fm_range {α : Type} : ∀ l : List α, (List.range l.length).filterMap (fun i => l[i]?) = l
  | [] => rfl
  | x :: l => by
    rw [List.length_cons, List.range_succ_eq_map, List.filterMap_cons_some (by rfl), List.filterMap_map]
    congr 1
    exact fm_range l
/-- the entries in another order -/
theorem ent_order (ord : Array Nat) (hr : es.toList = entRows kd l) (hp : ord.toList.Perm (List.range l.length)) :
    ∃ l2, (ord.filterMap (es[·]?)).toList = entRows kd l2 ∧ l2.Perm l ∧ entHash kd l2 = ord.toList.map fun i => (es.map (·.1)).getD i 0 := by
  have all : ∀ is : List Nat, (∀ i ∈ is, i < l.length) → is.filterMap (fun i => es[i]?) = entRows kd (is.filterMap fun i => l[i]?) ∧ entHash kd (is.filterMap fun i => l[i]?) = is.map fun i => (es.map (·.1)).getD i 0 := by
    intro is
    induction is with
    | nil => exact fun _ => ⟨rfl, rfl⟩
    | cons i is ih =>
      intro hi
      have h0 : i < l.length := hi i List.mem_cons_self
      have g0 := List.getElem?_eq_getElem h0
      have ge := ent_at (kd := kd) hr g0
      obtain ⟨e1, e2⟩ := ih fun j hj => hi j (List.mem_cons_of_mem _ hj)
      rw [List.filterMap_cons_some ge, List.filterMap_cons_some g0, e1]
      refine ⟨rfl, ?_⟩
      show tupleKeyHash kd (l[i]).2 :: entHash kd _ = _
      rw [e2, List.map_cons]
      congr 1
      have e5 : (es.map (·.1))[i]? = some (tupleKeyHash kd (l[i]).2) := by rw [Array.getElem?_map, ge]; rfl
      simp [Array.getD_eq_getD_getElem?, e5]
  obtain ⟨e1, e2⟩ := all ord.toList fun i hi => List.mem_range.mp (hp.mem_iff.mp hi)
  refine ⟨_, by first | (rw [Array.toList_filterMap]; exact e1) | simpa using e1, ?_, e2⟩
  have h1 := hp.filterMap fun i => l[i]?
  rw [fm_range] at h1
  exact h1
/-- the table laid anew -/
theorem lay_anew {o : Obj} (go : s.heap.get? a = some o) (gex : o.ExactSet) (gd : o.data = .set es ep t) (hr : es.toList = entRows kd l) (hsz : t.place.size = es.size) (hdm : t.dummies = #[]) (hfl : es.size ≤ t.mask)
    (nd : (l.map (·.2)).Nodup) (tup : ∀ e ∈ l, IsTupleKey kd s.heap e.2 e.1) (ld : w.params.followText "set-order" = true ∨ t.led = true) (few : l.length < 64) {wanted M : Nat}
    (hw : SetTable.sizeAbove wanted - 1 = M) (hM : MaskOk M) (hw2 : SetTable.sizeAbove wanted ≤ 128) (hn : l.length * 5 < M * 3) {Q : Unit → Shared → Prop}
    (q : ∀ h' l' es' ep' t', Heap.SameBut a s.heap h' → SetK kd h' a l' es' ep' t' → l'.Perm l → Q () { s with heap := h' }) : wpAny (model P w) A (setRelay a wanted) Q E s := by
  have sl := ent_len hr
  have fit : t.fits es.size = true := by
    unfold SetTable.fits SetTable.fill
    rw [hdm, Bool.and_eq_true, beq_iff_eq, decide_eq_true_eq]
    show t.place.size = es.size ∧ t.place.size + 0 ≤ t.mask
    omega
  obtain ⟨t', ord, e, hp, T, em, el, _, _⟩ := relaid_ok t (hs := es.map (·.1)) (wanted := wanted) hw hM (by rw [Array.size_map, sl]; omega)
  rw [Array.size_map, sl] at hp
  obtain ⟨l2, r1, r2, r3⟩ := ent_order ord hr hp
  rw [← r3] at T
  have s2 : (ord.filterMap (es[·]?)).size = es.size := (ent_len r1).trans (r2.length_eq.trans sl.symm)
  rw [setRelay_eq]
  refine wpAny_bind (wpAny_setState_of go gd fit ?_)
  dsimp only
  refine wp_if_neg (by rw [sizeLine_eq]; omega) ?_
  try refine wpAny_bind (wpAny_pure ?_)
  rw [e]
  dsimp only
  refine wpAny_bind (wp_if_neg (by rw [s2]; simp) ?_)
  try refine wpAny_bind (wpAny_pure ?_)
  refine wpAny_pure ?_
  dsimp only
  refine wpAny_storeSet_of go gd ?_ (by rw [s2, sl, sizeLine_eq]; omega)
  have sb : Heap.SameBut a s.heap (s.heap.update a (Obj.putSet (ord.filterMap (es[·]?)) t')) := Heap.SameBut.update ..
  exact q _ l2 _ (ep + 1) t' sb ⟨⟨_, store_at go gd, ⟨gex.1, gex.2.1, gex.2.2⟩, rfl⟩, r1, T, (r2.map (·.2)).nodup_iff.mpr nd, fun e he => key_stay (tup e (r2.mem_iff.mp he)) go gd sb, by rw [el]; exact ld, by rw [r2.length_eq, em]; exact hn, by rw [r2.length_eq]; exact few⟩ r2
/-- behind the search, where the key is new -/
theorem add_rest {o : Obj} (go : s.heap.get? a = some o) (gex : o.ExactSet) (gd : o.data = .set es ep t) (R : SetK kd s.heap a l es ep t) {x : Addr} {k : List κ} (gx : IsTupleKey kd s.heap k x) (hm : k ∉ l.map (·.2)) (hfew : l.length + 1 < 64) {p : Nat} {Q : Bool → Shared → Prop}
    (q : ∀ b h' l' es' ep' t', Heap.SameBut a s.heap h' → SetK kd h' a l' es' ep' t' → (k ∈ l.map (·.2) → l' = l) → (k ∉ l.map (·.2) → l'.Perm ((x, k) :: l)) → Q b { s with heap := h' })
    (t2 : SetTable) (T2 : TabOk t2 ((entHash kd l).take p ++ tupleKeyHash kd k :: (entHash kd l).drop p)) (m2 : t2.mask = t.mask) (l2 : t2.led = t.led) (f2 : t2.fill = (entHash kd l).length + 1) : wpAny (model P w) A (do
      storeSet a (SetTable.insertAt es p (tupleKeyHash kd k, Value.ref x)) t2
      if (!false && t2.tooFull) = true then do
        setRelay a (SetTable.grown (es.size + 1))
        pure true
      else pure true) Q E s := by
  have sl := R.sz
  have rm := R.room
  have hin : (SetTable.insertAt es p (tupleKeyHash kd k, Value.ref x)).toList = entRows kd (l.take p ++ (x, k) :: l.drop p) := by
    rw [SetTable.toList_insertAt, R.rows]
    unfold entRows
    rw [List.map_append, List.map_cons, List.map_take, List.map_drop]
  have hha : (entHash kd l).take p ++ tupleKeyHash kd k :: (entHash kd l).drop p = entHash kd (l.take p ++ (x, k) :: l.drop p) := by
    unfold entHash
    rw [List.map_append, List.map_cons, List.map_take, List.map_drop]
  rw [hha] at T2
  have pm : (l.take p ++ (x, k) :: l.drop p).Perm ((x, k) :: l) := by
    have h := List.perm_middle (a := (x, k)) (l₁ := l.take p) (l₂ := l.drop p)
    rwa [List.take_append_drop] at h
  generalize SetTable.insertAt es p (tupleKeyHash kd k, Value.ref x) = es1 at hin ⊢
  generalize l.take p ++ (x, k) :: l.drop p = l1 at pm T2 hin
  have hl1 : l1.length = l.length + 1 := pm.length_eq
  have nd1 : (l1.map (·.2)).Nodup := (pm.map (·.2)).nodup_iff.mpr (List.nodup_cons.mpr ⟨hm, R.nd⟩)
  have sz1 : es1.size = l.length + 1 := (ent_len hin).trans hl1
  refine wpAny_bind (wpAny_storeSet_of go gd ?_ (by rw [sz1, sizeLine_eq]; omega))
  have sb : Heap.SameBut a s.heap (s.heap.update a (Obj.putSet es1 t2)) := Heap.SameBut.update ..
  have g1 := store_at (es' := es1) (t' := t2) go gd
  generalize s.heap.update a (Obj.putSet es1 t2) = h1 at sb g1 ⊢
  have tup1 : ∀ e ∈ l1, IsTupleKey kd h1 e.2 e.1 := fun e he => by
    rcases List.mem_cons.mp (pm.mem_iff.mp he) with z | z
    · rw [z]; exact key_stay gx go gd sb
    · exact key_stay (R.tup e z) go gd sb
  have ld1 : w.params.followText "set-order" = true ∨ t2.led = true := by rw [l2]; exact R.led
  have hlen : (entHash kd l).length = l.length := by unfold entHash; rw [List.length_map]
  by_cases hf : t2.tooFull = true
  · have full : (l.length + 1) * 5 ≥ t2.mask * 3 := by
      have h := hf
      unfold SetTable.tooFull at h
      rw [decide_eq_true_eq, f2, hlen] at h
      exact h
    have ps1 : t2.place.size = es1.size := by
      have h := T2.sz
      unfold entHash at h
      rw [List.length_map, hl1] at h
      rw [h, sz1]
    have two : (t.mask = 7 ∧ l.length = 4) ∨ (t.mask = 31 ∧ l.length = 18) := by
      rw [m2] at full
      rcases R.tab.mok with e | e | e
      · rw [e] at full rm; exact .inl ⟨e, by omega⟩
      · rw [e] at full rm; exact .inr ⟨e, by omega⟩
      · rw [e] at full; omega
    have go2 : ∀ M, SetTable.sizeAbove (SetTable.grown (l.length + 1)) - 1 = M → MaskOk M → SetTable.sizeAbove (SetTable.grown (l.length + 1)) ≤ 128 → (l.length + 1) * 5 < M * 3 →
        wpAny (model P w) A (setRelay a (SetTable.grown (l.length + 1))) (fun _ s' => wpAny (model P w) A (pure true) Q E s') E { s with heap := h1 } := fun M w1 w2 w3 w4 => by
      refine lay_anew (s := { s with heap := h1 }) g1 ⟨gex.1, gex.2.1, gex.2.2⟩ rfl hin ps1 T2.dm (by rw [sz1, m2]; rcases two with ⟨e, e2⟩ | ⟨e, e2⟩ <;> omega) nd1 tup1 ld1 (by rw [hl1]; exact hfew) w1 w2 w3 (by rw [hl1]; exact w4) fun h2 l2' es2 ep2 t2' sb2 R2 pm2 => ?_
      exact wpAny_pure (q true h2 l2' es2 ep2 t2' (sb.trans sb2) R2 (fun z => absurd z hm) fun _ => pm2.trans pm)
    first
      | (refine wpAny_bind (wp_if_pos (by simp [hf]) ?_))
      | (refine wp_if_pos (by simp [hf]) (wpAny_bind ?_))
    rw [sl]
    rcases two with ⟨_, e2⟩ | ⟨_, e2⟩
    · exact go2 31 (by rw [e2, size_20]) (.inr (.inl rfl)) (by rw [e2, size_20]; decide) (by omega)
    · exact go2 127 (by rw [e2, size_76]) (.inr (.inr rfl)) (by rw [e2, size_76]; decide) (by omega)
  · first
      | refine wp_if_neg (by simp [hf]) ?_
      | (refine wpAny_bind (wp_if_neg (by simp [hf]) (wpAny_pure ?_)))
    refine wpAny_pure (q true h1 l1 es1 (ep + 1) t2 sb ⟨⟨_, g1, ⟨gex.1, gex.2.1, gex.2.2⟩, rfl⟩, hin, T2, nd1, tup1, ld1, ?_, by rw [hl1]; exact hfew⟩ (fun z => absurd z hm) fun _ => pm)
    have h := hf
    unfold SetTable.tooFull at h
    rw [decide_eq_true_eq, f2, hlen] at h
    rw [hl1]
    omega
/-- adding one tuple -/
theorem add_one (fl : Flat kd) (R : SetK kd s.heap a l es ep t) {x : Addr} {k : List κ} (gx : IsTupleKey kd s.heap k x) (hu : A.units < cLine) (hfew : k ∉ l.map (·.2) → l.length + 1 < 64) {Q : Bool → Shared → Prop}
    (q : ∀ b h' l' es' ep' t', Heap.SameBut a s.heap h' → SetK kd h' a l' es' ep' t' → (k ∈ l.map (·.2) → l' = l) → (k ∉ l.map (·.2) → l'.Perm ((x, k) :: l)) → Q b { s with heap := h' }) :
    wpAny (model P w) A (setAddHashed a (.ref x) (tupleKeyHash kd k)) Q E s := by
  obtain ⟨o, go, gex, gd⟩ := R.ob
  have sl := R.sz
  have rm := R.room
  unfold setAddHashed
  refine wpAny_holding ?_
  rw [show (100000 : Nat) = 99999 + 1 from rfl, setAddHashedIn_succ]
  refine wpAny_bind (wpAny_setState_of go gd R.fit ?_)
  dsimp only
  refine wp_if_neg (by simp [byScan, Value.scannable]) ?_
  try refine wpAny_bind (wpAny_pure ?_)
  refine wpAny_bind (look fl R gx hu (fun hm => ?_) fun z hm z2 z3 => ?_)
  · dsimp only
    exact wpAny_pure (q false s.heap l es ep t (Heap.SameBut.refl a s.heap) R (fun _ => rfl) fun n => absurd hm n)
  dsimp only
  refine wpAny_bind (wpAny_setState_of go gd R.fit ?_)
  dsimp only
  obtain ⟨p1, p2, p3, p4, p5, _, _, _, p9⟩ := R.tab.put z2 z3
  generalize hpt : t.put (way t.mask (tupleKeyHash kd k) z) = pt at p1 p3 p4 p5 p9 ⊢
  obtain ⟨t1, p⟩ := pt
  dsimp only at p1 p3 p4 p5 p9 ⊢
  subst p1
  generalize hpp : SetTable.below t.place (way t.mask (tupleKeyHash kd k) z) = p at p2 p3 ⊢
  have rest : ∀ t2 : SetTable, TabOk t2 ((entHash kd l).take p ++ tupleKeyHash kd k :: (entHash kd l).drop p) → t2.mask = t.mask → t2.led = t.led → t2.fill = (entHash kd l).length + 1 → _ := fun t2 => add_rest go gex gd R gx hm (hfew hm) q t2 (E := E) (A := A)
  by_cases hp : t1.plain = true
  · refine wp_if_pos hp (wpAny_bind (tk_hash fl gx fun c => ?_))
    cases c with
    | true => exact rest t1 p3 p4 p5 p9
    | false => exact rest { t1 with plain := false } ⟨p3.ris, p3.dm, p3.sz, p3.mok, p3.bd, p3.reach⟩ p4 p5 p9
  · exact wp_if_neg hp (wpAny_bind (wpAny_pure (rest t1 p3 p4 p5 p9)))
/-- what the set has of the first items -/
structure Has (ks : Ent κ) (i : Nat) (l : Ent κ) : Prop where
  sub : ∀ e ∈ l, e ∈ ks.take i
  all : ∀ e ∈ ks.take i, e.2 ∈ l.map (·.2)
  len : l.length ≤ i
theorem Has.next {ks l l' : Ent κ} {i : Nat} {e : Addr × List κ} (g : Has ks i l) (h : ks[i]? = some e) (c1 : e.2 ∈ l.map (·.2) → l' = l) (c2 : e.2 ∉ l.map (·.2) → l'.Perm (e :: l)) : Has ks (i + 1) l' := by
  have tk : ks.take (i + 1) = ks.take i ++ [e] := by rw [List.take_succ, h]; rfl
  by_cases c : e.2 ∈ l.map (·.2)
  · rw [c1 c]
    refine ⟨fun p hp => by rw [tk]; exact List.mem_append_left _ (g.sub p hp), fun p hp => ?_, Nat.le_succ_of_le g.len⟩
    rw [tk] at hp
    rcases List.mem_append.mp hp with z | z
    · exact g.all p z
    · rw [List.mem_singleton.mp z]; exact c
  · have pm := c2 c
    refine ⟨fun p hp => ?_, fun p hp => ?_, by rw [pm.length_eq]; exact Nat.succ_le_succ g.len⟩
    · rw [tk]
      rcases List.mem_cons.mp (pm.mem_iff.mp hp) with z | z
      · exact List.mem_append_right _ (List.mem_singleton.mpr z)
      · exact List.mem_append_left _ (g.sub p z)
    · rw [tk] at hp
      rw [(pm.map (·.2)).mem_iff, List.map_cons]
      rcases List.mem_append.mp hp with z | z
      · exact List.mem_cons_of_mem _ (g.all p z)
      · rw [List.mem_singleton.mp z]; exact List.mem_cons_self
theorem SetK.moved {h h' : Heap} (R : SetK kd h a l es ep t) (ha : ∀ o, h.get? a = some o → h'.get? a = some o) (ht : ∀ e ∈ l, IsTupleKey kd h' e.2 e.1) : SetK kd h' a l es ep t := by
  obtain ⟨o, go, r⟩ := R.ob
  exact ⟨⟨o, ha o go, r⟩, R.rows, R.tab, R.nd, ht, R.led, R.room, R.few⟩
theorem setK_new {h : Heap} {a : Addr} (go : h.get? a = some { cls := .type "set", dict := none, data := .set #[] 0 (.fresh 0 0 (!w.params.followText "set-order")) }) : SetK kd h a [] #[] 0 (.fresh 0 0 (!w.params.followText "set-order")) := by
  refine ⟨⟨_, go, ⟨rfl, rfl, rfl⟩, rfl⟩, rfl, ⟨List.Pairwise.nil, rfl, rfl, .inl rfl, fun x hx => (nomatch hx), fun i h j hi => nomatch hi⟩, List.nodup_nil, fun e he => (nomatch he), ?_, by show 0 * 5 < 7 * 3; decide, by show 0 < 64; decide⟩
  show _ ∨ (!w.params.followText "set-order") = true
  cases w.params.followText "set-order"
  · exact .inr rfl
  · exact .inl rfl
/-- fewer than 64 that differ -/
def FewK {κ : Type} (kk : List (List κ)) : Prop := ∀ l : List (List κ), l.Nodup → (∀ k ∈ l, k ∈ kk) → l.length < 64
/-- the loop that puts all items in -/
theorem put_all (fl : Flat kd) {I : Addr} {fp wr : List Addr} {G : Array GenState → Array GenState → Prop} {n : Nat} {Pv : Nat → Value → Prop} {St : Nat → Shared → Prop} {R : Result → Shared → Prop}
    (W : WalksS P w A.in1 I fp wr G n Pv St) (S : Addr) (hSf : S ∉ fp) (ks : Ent κ) (hn : n = ks.length) (hfew : FewK (ks.map (·.2))) (hval : ∀ i v, Pv i v → ∃ e, ks[i]? = some e ∧ v = .ref e.1)
    (h0 : Heap) (hk : ∀ e ∈ ks, IsTupleKey kd h0 e.2 e.1) (hS0 : h0.get? S = none) (hw0 : ∀ b ∈ wr, h0.get? b = none) (hu : A.in1.units < cLine) :
    ∀ (k i : Nat) (s : Shared), n - i = k → i ≤ n → St i s → (∀ b o, h0.get? b = some o → s.heap.get? b = some o) → (∃ l es ep t, SetK kd s.heap S l es ep t ∧ Has ks i l) →
      (∀ s' l es ep t, Moved (S :: wr) G s s' → SetK kd s'.heap S l es ep t → Has ks n l → (∀ b o, h0.get? b = some o → s'.heap.get? b = some o) → R (.ok (.ret .none)) s') →
      codeAny (model P w) A (.builtin "set.update.loop" ⟨[.ref S, .ref I], []⟩) R s := by
  have nw : S ∉ wr := fun h => hSf (W.sub _ h)
  have up : ∀ b ∈ wr, b ∈ S :: wr := fun b hb => List.mem_cons_of_mem _ hb
  have mk : ∀ {s s' : Shared}, Moved wr G s s' → (∀ b o, h0.get? b = some o → s.heap.get? b = some o) → ∀ b o, h0.get? b = some o → s'.heap.get? b = some o := fun mv kp b o e => mv.heap b o (fun hb => by rw [hw0 b hb] at e; cases e) (kp b o e)
  have inK : ∀ {i : Nat} {l : Ent κ}, Has ks i l → ∀ e ∈ l, e ∈ ks := fun g e he => List.mem_of_mem_take (g.sub e he)
  intro k
  induction k with
  | zero =>
    intro i s hk' hi hst kp ⟨l, es, ep, t, hS, g⟩ hR
    obtain rfl : i = n := by omega
    refine codeAny_builtin F.entry_set_update_loop ?_
    rw [Around.under_plainId F.plain_set_update_loop _]
    show wpAny _ A.in1 (pyNext (.ref I) >>= _) _ _ s
    refine wpAny_bind (W.done s _ _ hst fun s' mv => ?_)
    show wpAny _ A.in1 (ret Value.none) _ _ s'
    exact wpAny_pure (hR s' l es ep t (mv.mono up) (hS.moved (fun o e => mv.heap S o nw e) fun e he => key_more (hk e (inK g e he)) (mk mv kp)) g (mk mv kp))
  | succ k ih =>
    intro i s hk' hi hst kp ⟨l, es, ep, t, hS, g⟩ hR
    have hlt : i < n := by omega
    refine codeAny_builtin F.entry_set_update_loop ?_
    rw [Around.under_plainId F.plain_set_update_loop _]
    show wpAny _ A.in1 (pyNext (.ref I) >>= _) _ _ s
    refine wpAny_bind (W.item i s _ _ hlt hst fun v s' hP hst' mv => ?_)
    obtain ⟨e, ge, rfl⟩ := hval i v hP
    have kp' := mk mv kp
    have hS' : SetK kd s'.heap S l es ep t := hS.moved (fun o z => mv.heap S o nw z) fun z hz => key_more (hk z (inK g z hz)) kp'
    have gx : IsTupleKey kd s'.heap e.2 e.1 := key_more (hk e (List.mem_of_getElem? ge)) kp'
    show wpAny _ A.in1 (holding [Value.ref e.1] (setAdd S (.ref e.1)) >>= _) _ _ s'
    refine wpAny_bind (wpAny_holding ?_)
    unfold setAdd
    refine wpAny_holding (wpAny_bind (wpAny_pyHash_tuple hu gx ?_))
    refine add_one (s := { s' with toks := s'.toks + (e.2.length + 1) }) fl hS' gx hu (fun hnm => by
      have := hfew (e.2 :: l.map (·.2)) (List.nodup_cons.mpr ⟨hnm, hS.nd⟩) (fun k hk => by
        rcases List.mem_cons.mp hk with z | z
        · rw [z]; exact List.mem_map.mpr ⟨e, List.mem_of_getElem? ge, rfl⟩
        · obtain ⟨e', he', rfl⟩ := List.mem_map.mp z
          exact List.mem_map.mpr ⟨e', inK g e' he', rfl⟩)
      rwa [List.length_cons, List.length_map] at this) fun b h' l' es' ep' t' sb R2 c1 c2 => ?_
    have kp2 : ∀ b o, h0.get? b = some o → h'.get? b = some o := fun b o z => (sb.2 b (fun y => by rw [y, hS0] at z; cases z)).trans (kp' b o z)
    refine wpAny_pure ⟨plainId_quiet F.plain_set_update_loop _, ih (i + 1) _ (by omega) hlt (W.frame _ s' _ _ hst' (Nat.le_add_right _ _) fun b hb o z => ?_) kp2 ⟨l', es', ep', t', R2, g.next ge c1 c2⟩ fun s'' l2 es2 ep2 t2 mv2 R3 g3 kp3 => ?_⟩
    · rw [sb.2 b (fun y : b = S => hSf (by rw [← y]; exact hb))]; exact z
    · refine hR s'' l2 es2 ep2 t2 (Moved.trans W.gtrans ((mv.mono up).then_heap (Nat.le_add_right _ _) fun b o hb z => ?_) mv2) R3 g3 kp3
      rw [sb.2 b (fun y : b = S => hb (by rw [y]; exact List.mem_cons_self))]; exact z
end
end G
namespace G
open PySem PySem.Spec PyProof.Rows L2
section
variable {P : Program} {w : World} {A : Around} {E : Value → Shared → Prop} {s : Shared} {κ : Type} [DecidableEq κ] {kd : PySem.KeyKind P w κ}
abbrev newSet (w : World) : Obj := { cls := .type "set", dict := none, data := .set #[] 0 (.fresh 0 0 (!w.params.followText "set-order")) }
set_option maxHeartbeats 8000000 in
theorem set_of_list {la : Addr} {its : Array Value} (ks : Ent κ) {Q : Value → Shared → Prop} (fl : Flat kd) (hh : A.handled = none) (gl : s.heap.IsList la its) (hit : its.toList = ks.map fun e => Value.ref e.1)
    (hk : ∀ e ∈ ks, IsTupleKey kd s.heap e.2 e.1) (hfew : FewK (ks.map (·.2))) (hu : A.units + 3 < cLine)
    (q : ∀ (h' : Heap) (tk : Nat) l es ep t, SetK kd h' s.heap.objs.size l es ep t → Has ks ks.length l → (∀ b o, s.heap.get? b = some o → h'.get? b = some o) → Q (.ref s.heap.objs.size) { s with heap := h', toks := tk }) :
    wpAny (model P w) A (call (.type "set") [.ref la]) Q E s := by
  have isz : its.size = ks.length := by
    have e := congrArg List.length hit
    rwa [Array.length_toList, List.length_map] at e
  obtain ⟨m1, m2, g_mro⟩ := F.called_set.mro
  have g_made := F.called_set.made
  have g_sub := F.called_set.sub
  refine wpAny_call (codeAny_of_tree ?_)
  show wpAny _ _ (callAny (.type "set") _) _ _ _
  refine wpAny_pure ⟨Code.quiet_builtin _ (by decide +kernel), codeAny_builtin F.entry_type_call ?_⟩
  rw [Around.under_plain (weight_type_call_type "set" [.ref la] []) rfl]
  have g_1 := F.called_set.notType
  have g_2 := F.called_set.canCreate
  have g_3 := F.typeCall_set_1 (.ref la)
  repeat (any_goals (first | assumption | wp_step))
  refine codeAny_mono (code_set_led1 (.ref la) (E := E) (Q₁ := fun ov s₁ => ov = .ref s.heap.objs.size ∧ s₁ = { s with heap := s.heap.push (newSet w) }) ⟨rfl, rfl⟩) fun r s₁ hr => ?_
  cases r with
  | error er => exact hr
  | ok fw =>
    cases fw with
    | ret ov =>
      obtain ⟨rfl, rfl⟩ := hr
      have gS : (s.heap.push (newSet w)).get? s.heap.objs.size = some (newSet w) := Heap.get?_push_size _ rfl
      have gT : Shared.TypeIs { s with heap := s.heap.push (newSet w) } (.ref s.heap.objs.size) "set" := ⟨_, gS, rfl⟩
      have g_li := F.called_set.init.lookup
      have g_bi := F.called_set.init.bind (.ref s.heap.objs.size)
      repeat (any_goals (first | assumption | wp_step))
      refine codeAny_mono (codeAny_call_builtin (R := wants (fun r s₂ => r = .none ∧ ∃ h' tk l es ep t, s₂ = { s with heap := h', toks := tk } ∧ SetK kd h' s.heap.objs.size l es ep t ∧ Has ks ks.length l ∧ ∀ b o, s.heap.get? b = some o → h'.get? b = some o) E) F.called_set.init.plain F.entry_set_init (check_set_init_1 gT ?_)) fun r₂ s₂ hr₂ => ?_
      · obtain ⟨ol, hol, hcl, nl, hdl⟩ := gl
        obtain ⟨oc, od, odt, osl⟩ := ol
        simp only at hcl hdl
        subst hcl; subst hdl
        have g_ol : (s.heap.push (newSet w)).get? la = some { cls := .type "list", dict := od, data := .seq its nl, slots := osl } := Heap.get?_push_of_some _ hol
        have g_s1 := F.sub_list_set
        have g_s2 := F.sub_list_frozenset
        have g_ne : (Value.type "list" == Value.type "dict") = false := by decide
        have gl1 : (s.heap.push (newSet w)).IsList la its := ⟨_, g_ol, rfl, nl, rfl⟩
        unfold Builtin.«set.__init__» noKeywords Builtin.Frozenset.updateFrom
        generalize hPI : pyIter = PI
        wp_walk
        subst hPI
        refine wpAny_pyIter_list gl1 ?_
        refine wpAny_bind (wpAny_runValue ?_)
        have lt1 : la < s.heap.objs.size := Heap.lt_size hol
        have no3 : A.in1.in1.in1.handled = none := by simp [hh]
        have neI : la ≠ (s.heap.push (newSet w)).objs.size := by
          rw [Heap.size_push]; exact Nat.ne_of_lt (Nat.lt_succ_of_lt lt1)
        have nf : s.heap.objs.size ∉ [(s.heap.push (newSet w)).objs.size, la] := by
          rw [Heap.size_push]; simp only [List.mem_cons, List.mem_singleton, List.not_mem_nil, or_false, not_or]
          exact ⟨Nat.ne_of_lt (Nat.lt_succ_self _), Nat.ne_of_gt lt1⟩
        have vals : ∀ (i : Nat) (v : Value), its[i]? = some v → ∃ e, ks[i]? = some e ∧ v = .ref e.1 := fun i v hv => by
          have z : its.toList[i]? = some v := by rw [Array.getElem?_toList]; exact hv
          rw [hit, List.getElem?_map] at z
          obtain ⟨e, e1, e2⟩ := Option.map_eq_some_iff.mp z
          exact ⟨e, e1, e2.symm⟩
        have fresh : ∀ b, s.heap.objs.size ≤ b → s.heap.get? b = none := fun b hb => by
          cases z : s.heap.get? b with
          | none => rfl
          | some ob => exact absurd (Nat.lt_of_lt_of_le (Heap.lt_size z) hb) (Nat.lt_irrefl _)
        refine put_all fl ((Walks.list no3 _ la neI its).toS) s.heap.objs.size nf ks isz hfew vals s.heap hk (fresh _ (Nat.le_refl _)) (fun b hb => fresh b (by
            rw [List.mem_singleton.mp hb, Heap.size_push]
            exact Nat.le_succ _)) hu (its.size - 0) 0 _ (by omega) (Nat.zero_le _)
          ⟨⟨_, Heap.get?_push_size _ rfl, rfl, rfl⟩, (gl1.push _)⟩ (fun b ob z => Heap.get?_push_of_some _ (Heap.get?_push_of_some _ z)) ?hS0 ?hR
        case hS0 =>
          have gg : ((s.heap.push (newSet w)).push { cls := .type "list_iterator", data := .fields #[.ref la, .int 0 0] }).get? s.heap.objs.size = some (newSet w) := Heap.get?_push_of_some _ gS
          exact ⟨[], #[], 0, _, setK_new gg, ⟨fun e he => (nomatch he), fun e he => by simp at he, Nat.le_refl _⟩⟩
        case hR =>
          intro s' l es ep t mv R' g' kp
          obtain ⟨h', g2, d', tk', os'⟩ := s'
          have eg : g2 = s.gens := mv.gens
          have ed : d' = s.drawn := mv.drawn
          have eo : os' = s.os := mv.os
          subst eg; subst ed; subst eo
          show wpAny _ _ _ _ _ _
          refine wpAny_pure ?_
          show wpAny _ _ (ret Value.none) _ _ _
          rw [isz] at g'
          exact wpAny_pure ⟨rfl, h', tk', l, es, ep, t, rfl, R', g', kp⟩
      · cases r₂ with
        | error er => exact hr₂
        | ok fw₂ =>
          cases fw₂ with
          | ret r =>
            obtain ⟨rfl, h', tk, l, es, ep, t, rfl, R', g', kp⟩ := hr₂
            repeat (any_goals (first | assumption | wp_step))
            exact q _ _ _ _ _ _ R' g' kp
          | _ => exact hr₂.elim
    | _ => exact hr.elim
set_option maxHeartbeats 8000000 in
theorem set_of_tuple {la : Addr} {its : Array Value} (ks : Ent κ) {Q : Value → Shared → Prop} (fl : Flat kd) (hh : A.handled = none) (gl : s.heap.IsTuple la its) (hit : its.toList = ks.map fun e => Value.ref e.1)
    (hk : ∀ e ∈ ks, IsTupleKey kd s.heap e.2 e.1) (hfew : FewK (ks.map (·.2))) (hu : A.units + 3 < cLine)
    (q : ∀ (h' : Heap) (tk : Nat) l es ep t, SetK kd h' s.heap.objs.size l es ep t → Has ks ks.length l → (∀ b o, s.heap.get? b = some o → h'.get? b = some o) → Q (.ref s.heap.objs.size) { s with heap := h', toks := tk }) :
    wpAny (model P w) A (call (.type "set") [.ref la]) Q E s := by
  have isz : its.size = ks.length := by
    have e := congrArg List.length hit
    rwa [Array.length_toList, List.length_map] at e
  obtain ⟨m1, m2, g_mro⟩ := F.called_set.mro
  have g_made := F.called_set.made
  have g_sub := F.called_set.sub
  refine wpAny_call (codeAny_of_tree ?_)
  show wpAny _ _ (callAny (.type "set") _) _ _ _
  refine wpAny_pure ⟨Code.quiet_builtin _ (by decide +kernel), codeAny_builtin F.entry_type_call ?_⟩
  rw [Around.under_plain (weight_type_call_type "set" [.ref la] []) rfl]
  have g_1 := F.called_set.notType
  have g_2 := F.called_set.canCreate
  have g_3 := F.typeCall_set_1 (.ref la)
  repeat (any_goals (first | assumption | wp_step))
  refine codeAny_mono (code_set_led1 (.ref la) (E := E) (Q₁ := fun ov s₁ => ov = .ref s.heap.objs.size ∧ s₁ = { s with heap := s.heap.push (newSet w) }) ⟨rfl, rfl⟩) fun r s₁ hr => ?_
  cases r with
  | error er => exact hr
  | ok fw =>
    cases fw with
    | ret ov =>
      obtain ⟨rfl, rfl⟩ := hr
      have gS : (s.heap.push (newSet w)).get? s.heap.objs.size = some (newSet w) := Heap.get?_push_size _ rfl
      have gT : Shared.TypeIs { s with heap := s.heap.push (newSet w) } (.ref s.heap.objs.size) "set" := ⟨_, gS, rfl⟩
      have g_li := F.called_set.init.lookup
      have g_bi := F.called_set.init.bind (.ref s.heap.objs.size)
      repeat (any_goals (first | assumption | wp_step))
      refine codeAny_mono (codeAny_call_builtin (R := wants (fun r s₂ => r = .none ∧ ∃ h' tk l es ep t, s₂ = { s with heap := h', toks := tk } ∧ SetK kd h' s.heap.objs.size l es ep t ∧ Has ks ks.length l ∧ ∀ b o, s.heap.get? b = some o → h'.get? b = some o) E) F.called_set.init.plain F.entry_set_init (check_set_init_1 gT ?_)) fun r₂ s₂ hr₂ => ?_
      · obtain ⟨ol, hol, hcl, nl, hdl⟩ := gl
        obtain ⟨oc, od, odt, osl⟩ := ol
        simp only at hcl hdl
        subst hcl; subst hdl
        have g_ol : (s.heap.push (newSet w)).get? la = some { cls := .type "tuple", dict := od, data := .seq its nl, slots := osl } := Heap.get?_push_of_some _ hol
        have g_s1 := F.sub_tuple_set
        have g_s2 := F.sub_tuple_frozenset
        have g_ne : (Value.type "tuple" == Value.type "dict") = false := by decide
        have gl1 : (s.heap.push (newSet w)).IsTuple la its := ⟨_, g_ol, rfl, nl, rfl⟩
        unfold Builtin.«set.__init__» noKeywords Builtin.Frozenset.updateFrom
        generalize hPI : pyIter = PI
        wp_walk
        subst hPI
        refine wpAny_pyIter_tuple gl1 ?_
        refine wpAny_bind (wpAny_runValue ?_)
        have lt1 : la < s.heap.objs.size := Heap.lt_size hol
        have no3 : A.in1.in1.in1.handled = none := by simp [hh]
        have neI : la ≠ (s.heap.push (newSet w)).objs.size := by
          rw [Heap.size_push]; exact Nat.ne_of_lt (Nat.lt_succ_of_lt lt1)
        have nf : s.heap.objs.size ∉ [(s.heap.push (newSet w)).objs.size, la] := by
          rw [Heap.size_push]; simp only [List.mem_cons, List.mem_singleton, List.not_mem_nil, or_false, not_or]
          exact ⟨Nat.ne_of_lt (Nat.lt_succ_self _), Nat.ne_of_gt lt1⟩
        have vals : ∀ (i : Nat) (v : Value), its[i]? = some v → ∃ e, ks[i]? = some e ∧ v = .ref e.1 := fun i v hv => by
          have z : its.toList[i]? = some v := by rw [Array.getElem?_toList]; exact hv
          rw [hit, List.getElem?_map] at z
          obtain ⟨e, e1, e2⟩ := Option.map_eq_some_iff.mp z
          exact ⟨e, e1, e2.symm⟩
        have fresh : ∀ b, s.heap.objs.size ≤ b → s.heap.get? b = none := fun b hb => by
          cases z : s.heap.get? b with
          | none => rfl
          | some ob => exact absurd (Nat.lt_of_lt_of_le (Heap.lt_size z) hb) (Nat.lt_irrefl _)
        refine put_all fl ((Walks.tuple no3 _ la neI its).toS) s.heap.objs.size nf ks isz hfew vals s.heap hk (fresh _ (Nat.le_refl _)) (fun b hb => fresh b (by
            rw [List.mem_singleton.mp hb, Heap.size_push]
            exact Nat.le_succ _)) hu (its.size - 0) 0 _ (by omega) (Nat.zero_le _)
          ⟨⟨_, Heap.get?_push_size _ rfl, rfl, rfl⟩, (gl1.push _)⟩ (fun b ob z => Heap.get?_push_of_some _ (Heap.get?_push_of_some _ z)) ?hS0 ?hR
        case hS0 =>
          have gg : ((s.heap.push (newSet w)).push { cls := .type "tuple_iterator", data := .fields #[.ref la, .int 0 0] }).get? s.heap.objs.size = some (newSet w) := Heap.get?_push_of_some _ gS
          exact ⟨[], #[], 0, _, setK_new gg, ⟨fun e he => (nomatch he), fun e he => by simp at he, Nat.le_refl _⟩⟩
        case hR =>
          intro s' l es ep t mv R' g' kp
          obtain ⟨h', g2, d', tk', os'⟩ := s'
          have eg : g2 = s.gens := mv.gens
          have ed : d' = s.drawn := mv.drawn
          have eo : os' = s.os := mv.os
          subst eg; subst ed; subst eo
          show wpAny _ _ _ _ _ _
          refine wpAny_pure ?_
          show wpAny _ _ (ret Value.none) _ _ _
          rw [isz] at g'
          exact wpAny_pure ⟨rfl, h', tk', l, es, ep, t, rfl, R', g', kp⟩
      · cases r₂ with
        | error er => exact hr₂
        | ok fw₂ =>
          cases fw₂ with
          | ret r =>
            obtain ⟨rfl, h', tk, l, es, ep, t, rfl, R', g', kp⟩ := hr₂
            repeat (any_goals (first | assumption | wp_step))
            exact q _ _ _ _ _ _ R' g' kp
          | _ => exact hr₂.elim
    | _ => exact hr.elim
end
end G
namespace G
open PySem PySem.Spec PyProof.Rows L2

/-- sorted(v), v's items tuples of one kind, in any order -/
theorem sorted_on {X : Cx} {pins : List (Addr × Obj)} {σ : L2.St} {H : Hp} {s : Shared} {v : Value} {ps0 : List (List Key × Addr)} {sh : List Bool} {Q : VK} (I : Inv X pins σ H s)
    (hcol : ∀ {E : Value → Shared → Prop} {R : List Value → Shared → Prop}, (∀ (ps : List (List Key × Addr)) (s1 : Shared), ps.Perm ps0 → Inv X pins σ H s1 → R (ps.map fun p => Value.ref p.2) s1) → wpAny (model X.prog X.w) X.A.in1 (collect v) R E s)
    (hp0 : ∀ p ∈ ps0, H p.2 = some (.tup (p.1.map kV))) (hs0 : ∀ p ∈ ps0, shp p.1 = sh) (hne : sh ≠ []) (hL0 : ps0.length ≤ sizeLine)
    (q : ∀ (ps' : List (List Key × Addr)) p, ps'.Perm ps0 → ps'.Pairwise (fun a b => kLt b.1 a.1 = false) → H p = none → Q (.ref p) (upd H p (.lst (ps'.map fun p => V.ref p.2)))) :
    wpAny (model X.prog X.w) X.A (call (.builtin "sorted") [v]) (EP X pins σ Q) X.xe s := by
  refine Calls.call_function_entry PyProof.Rows.kind_sorted PyProof.Rows.plain_sorted PyProof.Rows.entry_sorted (PyProof.Rows.args_sorted1 _) ?_
  unfold Builtin.«sorted»
  refine wpAny_bind (m := checkCount "sorted" 1 1 _) (wpAny_pure ?_)
  refine wpAny_bind (hcol fun ps s1 hpp I1 => ?_)
  have hp : ∀ p ∈ ps, H p.2 = some (.tup (p.1.map kV)) := fun p h => hp0 p (hpp.mem_iff.mp h)
  have hs : ∀ p ∈ ps, shp p.1 = sh := fun p h => hs0 p (hpp.mem_iff.mp h)
  have hL : ps.length ≤ sizeLine := by rw [hpp.length_eq]; exact hL0
  let us : List Value := ps.map fun p => Value.ref p.2
  have hul : us.length = ps.length := List.length_map _
  refine wpAny_bind (wpAny_newList ?_ (by show us.length ≤ _; rw [hul]; exact hL))
  have hoL : (s1.heap.push (seqObj "list" us.toArray 0)).get? s1.heap.objs.size = some (seqObj "list" us.toArray 0) := Heap.get?_push_size _ rfl
  show wpAny _ _ _ _ _ { s1 with heap := s1.heap.push (seqObj "list" us.toArray 0) }
  let shape : Nat → Bool := fun i => sh.getD i false
  let h2 := s1.heap.push (seqObj "list" us.toArray 0)
  -- each item's object
  have hob : ∀ p ∈ ps, ∃ o its n, h2.get? p.2 = some o ∧ o.cls = .type "tuple" ∧ o.data = .seq its n ∧ Vals (p.1.map kV) its.toList := fun p hm => by
    obtain ⟨_, its, r, o, h1, h2, n, h3⟩ := (show ObjOk X.prog X.w H s1.heap p.2 (.tup (p.1.map kV)) from I1.hok _ _ (hp p hm))
    exact ⟨o, its.toArray, n, Heap.get?_push_of_some _ h1, h2, h3, by simpa using r⟩
  have hkey : ∀ p ∈ ps, tupKey h2 shape (.ref p.2) = some (p.1.map kI) := fun p hm => by
    obtain ⟨o, its, n, h1, h2', h3, r⟩ := hob p hm
    simp only [tupKey, h1, h3]
    refine tup_items r fun j hj => ?_
    rw [hs p hm, Nat.zero_add]
  have hkeyC : ∀ p ∈ ps, PyProof.Rows.G.tupKeyC h2 shape (.ref p.2) = some (p.1.map kI) := fun p hm => by
    obtain ⟨o, its, n, h1, h2', h3, r⟩ := hob p hm
    unfold PyProof.Rows.G.tupKeyC
    rw [if_pos (by simp [PyProof.Rows.G.isTupObj, h1, h2'])]
    exact hkey p hm
  have hk' : ∀ v, v ∈ us → ∃ l, PyProof.Rows.G.tupKeyC h2 shape v = some l := fun v hv => by
    obtain ⟨p, hm, rfl⟩ := List.mem_map.mp hv
    exact ⟨_, hkeyC p hm⟩
  have ht : ∃ fs, TupsOf h2 shape us fs := by
    have all : ∀ l : List (List Key × Addr), (∀ p ∈ l, p ∈ ps) → ∃ fs, TupsOf h2 shape (l.map fun p => Value.ref p.2) fs := by
      intro l
      induction l with
      | nil => exact fun _ => ⟨[], .nil⟩
      | cons p l ih =>
        intro hl
        obtain ⟨fs, hf⟩ := ih fun z hz => hl z (List.mem_cons_of_mem _ hz)
        have hm := hl p List.mem_cons_self
        obtain ⟨o, its, n, h1, h2', h3, r⟩ := hob p hm
        have hsp := hs p hm
        obtain ⟨k, a⟩ := p
        cases k with
        | nil => exact absurd (show sh = [] from hsp.symm) hne
        | cons k0 k =>
          have hcons : ∃ u us', its.toList = u :: us' ∧ RelV (kV k0) u := by
            generalize its.toList = il at r
            cases r with
            | cons ru rr => exact ⟨_, _, rfl, ru⟩
          obtain ⟨u, us', hu, ru⟩ := hcons
          have h0 : its[0]? = some u := by rw [← Array.getElem?_toList, hu]; rfl
          have hsh : shape 0 = isR k0 := by show sh.getD 0 false = _; rw [← hsp]; rfl
          refine ⟨u :: fs, .cons ⟨a, o, its, n, rfl, h1, h2', h3, h0, fun e => ?_, fun e => ?_⟩ hf⟩
          · rw [hsh] at e
            cases k0 with
            | inl i => obtain ⟨t, ht⟩ := (show ∃ t, u = Value.int i t from ru); exact ⟨i, t, ht⟩
            | inr z => cases e
          · rw [hsh] at e
            cases k0 with
            | inl i => cases e
            | inr z => obtain ⟨t, ht⟩ := (show ∃ t, u = Value.str z t from ru); exact ⟨z, t, ht⟩
    exact all ps fun _ h => h
  obtain ⟨fs, ht⟩ := ht
  refine wpAny_bind (wpAny_holding (wpAny_call_entry PyProof.Rows.slot_list_sort ⟨_, hoL, rfl⟩ PyProof.Rows.entry_list_sort
    (PyProof.Rows.G.list_sort_tups (s := { s1 with heap := h2 }) hoL ht hk' (by rw [hul]; exact hL) fun st' hpm hst _ => ⟨_, rfl, ?_⟩) (PyProof.Rows.args_list_sort _)))
  -- what comes out
  have hl : (arrOf st').toList.Perm (us.zip us) := by rw [← pairsOf_toList]; exact Array.perm_iff_toList_perm.mp hpm
  have hz : us.zip us = ps.map fun p => (Value.ref p.2, Value.ref p.2) := by
    show (ps.map _).zip (ps.map _) = _
    rw [List.zip_map']
  rw [hz] at hl
  obtain ⟨ps', hps, he⟩ : ∃ ps' : List (List Key × Addr), ps'.Perm ps ∧ (arrOf st').toList = ps'.map fun p => (Value.ref p.2, Value.ref p.2) := by
    have gen : ∀ (l : List Keyed) (qs : List (List Key × Addr)), l.Perm (qs.map fun p => (Value.ref p.2, Value.ref p.2)) → ∃ ps' : List (List Key × Addr), ps'.Perm qs ∧ l = ps'.map fun p => (Value.ref p.2, Value.ref p.2) := by
      intro l
      induction l with
      | nil =>
        intro qs h
        have : qs.map (fun p : List Key × Addr => (Value.ref p.2, Value.ref p.2)) = [] := h.symm.eq_nil
        have : qs = [] := List.map_eq_nil_iff.mp this
        subst this
        exact ⟨[], .nil, rfl⟩
      | cons a l ih =>
        intro qs h
        have ha : a ∈ qs.map fun p : List Key × Addr => (Value.ref p.2, Value.ref p.2) := h.mem_iff.mp List.mem_cons_self
        obtain ⟨p, hm, rfl⟩ := List.mem_map.mp ha
        obtain ⟨l1, l2, rfl⟩ := List.append_of_mem hm
        have h2 : l.Perm ((l1 ++ l2).map fun p : List Key × Addr => (Value.ref p.2, Value.ref p.2)) := by
          rw [List.map_append, List.map_cons] at h
          rw [List.map_append]
          exact (h.trans List.perm_middle).cons_inv
        obtain ⟨ps', h3, rfl⟩ := ih _ h2
        exact ⟨p :: ps', (h3.cons p).trans List.perm_middle.symm, rfl⟩
    exact gen _ _ hl
  have hsz : (pairsOf us).size = (arrOf st').size := hpm.size_eq.symm
  have hsorted : ps'.Pairwise fun a b => kLt b.1 a.1 = false := by
    have hks : KeysOf (PyProof.Rows.G.tupKindC h2 shape) (arrOf st') := fun p hp => by
      rw [he] at hp
      obtain ⟨q, hq, rfl⟩ := List.mem_map.mp hp
      exact ⟨_, hkeyC q (hps.mem_iff.mp hq)⟩
    have pw := keyLe_of_sorted hks (by rw [← hsz]; exact hst)
    rw [he, List.pairwise_map] at pw
    refine List.Pairwise.imp_of_mem (fun {a b} ha hb hh => ?_) pw
    obtain ⟨x, y, hx, hy, hle⟩ := hh
    have ex := (hkeyC a (hps.mem_iff.mp ha)).symm.trans hx
    have ey := (hkeyC b (hps.mem_iff.mp hb)).symm.trans hy
    have ex' := Option.some.inj ex
    have ey' := Option.some.inj ey
    subst ex' ey'
    exact hle
  obtain ⟨e', he'⟩ := PyProof.Rows.sortedHeap_at (vs := us) (out := (arrOf st').map (·.2)) hoL
  have hout : ((arrOf st').map (·.2)).toList = ps'.map fun p => Value.ref p.2 := by rw [Array.toList_map, he, List.map_map]; rfl
  have hlen : (ps'.map fun p => V.ref p.2).length ≤ sizeLine := by rw [List.length_map, hps.length_eq]; exact hL
  have hvals : Vals (ps'.map fun p => V.ref p.2) ((arrOf st').map (·.2)).toList := by
    rw [hout]
    have := vals_refs (ps'.map (·.2))
    rw [List.map_map, List.map_map] at this
    exact this
  refine wpAny_pure ⟨_, rfl, .ref s1.heap.objs.size, upd H s1.heap.objs.size (.lst (ps'.map fun p => V.ref p.2)), I1.laid (t' := s1.toks) (fun b u e => ?_) (Nat.le_refl _)
    (show ObjOk X.prog X.w _ _ _ (.lst (ps'.map fun p => V.ref p.2)) from ⟨hlen, ((arrOf st').map (·.2)).toList, e', hvals, by rw [Array.toArray_toList]; exact he'⟩), rfl, q ps' _ (hps.trans hpp) hsorted (I1.hok.fresh (Nat.le_refl _))⟩
  have hb : b < s1.heap.objs.size := Heap.lt_size e
  rw [PyProof.Rows.sortedHeap_old (Nat.ne_of_lt hb) (by rw [size_push']; exact Nat.lt_succ_of_lt hb)]
  exact Heap.get?_push_of_some _ e
/-! ### sorted(set(x)) -/
theorem mix_flat {P : Program} {w : World} : Flat (mixKind P w) := fun k v h => by
  rcases keyIs_shape (show keyIs k v = true from h) with ⟨i, t, rfl, rfl⟩ | ⟨z, t, rfl, rfl⟩
  · exact .inl ⟨i, t, rfl⟩
  · exact .inr ⟨z, t, rfl⟩
structure SSetW (l : List D) (m : Mem) (Φ : D → Mem → Prop) : Prop where
  run : ∃ (ks : List (List Key)) (sh : List Bool), l = ks.map tupK ∧ FewK ks ∧ sh ≠ [] ∧ (∀ k ∈ ks, shp k = sh) ∧
    ∀ ys : List (List Key), ys.Nodup → (∀ k, k ∈ ys ↔ k ∈ ks) → ys.Pairwise (fun a b => kLt b a = false) → Φ (.lst (ys.map tupK)) m
def fSSet : F1 := fun d m Φ => vw d m fun d' => match d' with
  | .lst l => SSetW l m Φ
  | .tup l => SSetW l m Φ
  | _ => False
section
variable {X : Cx} {W : WX} {e a b c : Expr} {es : List Expr} {ds : DS} {m : Mem} {Φ Ψ : D → Mem → Prop} {Ξ : XP} {p p2 q2 pos : Pos} {d : D}
variable {ta tb tc : ME}
theorem sset_go {pins : List (Addr × Obj)} {σ : L2.St} {H : Hp} {s : Shared} {Q : VK} {S : Addr} {ks : Ent Key} {l : Ent Key} {es : Array (Int × Value)} {ep : Nat} {t : SetTable} {sh : List Bool} (hc : X.calm = true) (I : Inv X pins σ H s)
    (R : SetK (mixKind X.prog X.w) s.heap S l es ep t) (hl : ∀ e ∈ l, e ∈ ks) (hk : ∀ e ∈ ks, H e.1 = some (.tup (e.2.map kV))) (hsh : ∀ e ∈ ks, shp e.2 = sh) (hne : sh ≠ [])
    (q : ∀ (ps' : List (List Key × Addr)) o, ps'.Perm (l.map fun e => (e.2, e.1)) → ps'.Pairwise (fun a b => kLt b.1 a.1 = false) → H o = none → Q (.ref o) (upd H o (.lst (ps'.map fun p => V.ref p.2)))) :
    wpAny (model X.prog X.w) X.A (call (.builtin "sorted") [.ref S]) (EP X pins σ Q) X.xe s := by
  obtain ⟨o, go, gex, gd⟩ := R.ob
  have few := R.few
  have sz := R.sz
  refine sorted_on (ps0 := l.map fun e => (e.2, e.1)) (sh := sh) I (fun {E R'} k => ?_) (fun p hp => ?_) (fun p hp => ?_) hne (by rw [List.length_map, sizeLine_eq]; omega) q
  · refine collect_set (A := X.A.in1) (I.ok.hd hc) ⟨o, go, gex.1, gd⟩ R.fit (by unfold scanBound; omega) R.tab.ris R.led fun s1 vs k1 hz g1 o1 pm => ?_
    have rows : es.toList.map (·.2) = (l.map fun e => (e.2, e.1)).map fun p => Value.ref p.2 := by
      rw [R.rows, entRows, List.map_map, List.map_map]
      rfl
    rw [rows] at pm
    obtain ⟨ps, h1, rfl⟩ := map_perm pm
    exact k ps s1 h1 (I.call' o1 (Un.kept k1) (I.hok.kept k1) (by rw [g1]; exact I.bare) fun b z => absurd z List.not_mem_nil)
  · obtain ⟨e, he, rfl⟩ := List.mem_map.mp hp
    exact hk e (hl e he)
  · obtain ⟨e, he, rfl⟩ := List.mem_map.mp hp
    exact hsh e (hl e he)
theorem r_sset (B : Bs X) (ha : RE X W a ta) (hc : X.calm = true := by rfl) (hg : Gl X "sorted" := by rfl) (hg2 : Gl X "set" := by rfl) (he : starEach [a] X.env = [(false, eval a X.env)] := by rfl) :
    RE X W (.Call (.Name "sorted" p) [.Call (.Name "set" p2) [a] [] q2] [] pos) (o1 fSSet ta) := ⟨fun {ds m Φ Ξ} h F H σ s Q n x pins sh I => by
  let Q' : VK := fun v H2 => ∃ F2 d m2, Stp X.K F H m F2 H2 m2 ∧ Rp X.K F2 v d ∧ fSSet d m2 Φ
  refine Call_ (ld_blt I hg B.bi.b_sorted PyProof.Rows.boot_sorted ?_)
  refine PyProof.Rows.callWith_builtin1 (PyProof.Rows.args_cons ?_ rfl) rfl rfl
  refine Call_ (ld_blt I hg2 B.bi.b_set PyProof.Rows.boot_set ?_)
  have he' : starEach [a] X.env = (false, eval a X.env) :: starEach [] X.env := he
  refine PyProof.Rows.callWith_type1 (PyProof.Rows.args_cons (thn (ha.run h F H σ s Q' (fun v F2 H2 d m2 s1 r q => ⟨F2, d, m2, s1, r, q⟩) x pins sh I) fun u s1 hh => PyProof.Rows.args_nil ?_) he') he' rfl
  obtain ⟨v, H2, I1, ru, F2, d, m2, st, rv, q⟩ := hh
  obtain ⟨F3, d', f1, f2, r', q⟩ := vw_rp st.sub st.mem rv q
  -- what the list or tuple holds
  have fin : ∀ {la : Addr} {l : List D} {xs : List V} {its : List Value}, RpA X.K F3 xs l → Vals xs its → SSetW l m2 Φ → (∀ {Q2 : Value → Shared → Prop} {E : Value → Shared → Prop} (ks : Ent Key), its = (ks.map fun e => Value.ref e.1) → (∀ e ∈ ks, IsTupleKey (mixKind X.prog X.w) s1.heap e.2 e.1) → FewK (ks.map (·.2)) →
      (∀ (h' : Heap) (tk : Nat) l es ep t, SetK (mixKind X.prog X.w) h' s1.heap.objs.size l es ep t → Has ks ks.length l → (∀ b o, s1.heap.get? b = some o → h'.get? b = some o) → Q2 (.ref s1.heap.objs.size) { s1 with heap := h', toks := tk }) → wpAny (model X.prog X.w) X.A (call (.type "set") [.ref la]) Q2 E s1) →
      wpAny (model X.prog X.w) X.A (call (.type "set") [.ref la]) (fun v s2 => wpAny (model X.prog X.w) X.A (spliced (backTo pos (starEach [] X.env))) (fun vs s3 => wpAny (model X.prog X.w) X.A (call (.builtin "sorted") (v :: vs)) (EP X pins σ Q) X.xe s3) X.xe s2) X.xe s1 := by
    intro la l xs its t rs hq call
    obtain ⟨kks, shh, rfl, h64, hne, hsh, q⟩ := hq.run
    obtain ⟨ps, rfl, rfl, h3⟩ := rpA_tupK t
    have ev : its = (ps.map fun p => (p.2, p.1)).map fun e => Value.ref e.1 := by
      have gen : ∀ {ps : List (List Key × Addr)} {us : List Value}, Vals (ps.map fun p => V.ref p.2) us → us = ps.map fun p => Value.ref p.2 := by
        intro ps
        induction ps with
        | nil => intro us r; cases r; rfl
        | cons p ps ih => intro us r; cases r with | cons a b => rw [ih b, show _ = Value.ref p.2 from a]; rfl
      rw [List.map_map]
      exact gen rs
    refine call (ps.map fun p => (p.2, p.1)) ev (fun e he => ?_) (by rw [List.map_map]; exact h64) fun h' tk l es ep tb R g kp => ?_
    · obtain ⟨p, hp, rfl⟩ := List.mem_map.mp he
      exact key_of I1.hok (f2 _ _ (h3 p hp))
    · have I2 : Inv X pins σ H2 { s1 with heap := h', toks := tk } := I1.kept kp
      refine PyProof.Rows.args_nil ?_
      have inL : ∀ e ∈ l, e ∈ ps.map fun p => (p.2, p.1) := fun e he => List.mem_of_mem_take (g.sub e he)
      have ofE : ∀ e ∈ ps.map (fun p : List Key × Addr => (p.2, p.1)), H2 e.1 = some (.tup (e.2.map kV)) ∧ shp e.2 = shh ∧ F3 e.1 = some (.tup (e.2.map kV)) := fun e he => by
        obtain ⟨p, hp, rfl⟩ := List.mem_map.mp he
        exact ⟨f2 _ _ (h3 p hp), hsh _ (List.mem_map.mpr ⟨p, hp, rfl⟩), h3 p hp⟩
      refine sset_go (ks := ps.map fun p => (p.2, p.1)) hc I2 R inL (fun e he => (ofE e he).1) (fun e he => (ofE e he).2.1) hne fun ps' o hpm hpw ho => ?_
      have ent' : ∀ p ∈ ps', (p.2, p.1) ∈ l := fun p hp => by
        obtain ⟨e, he, e2⟩ := List.mem_map.mp (hpm.mem_iff.mp hp)
        rw [← e2]; exact he
      obtain ⟨F4, s4, h4⟩ := Stp.adopts st.sub st.mem (ps := ps') fun p hp => (ofE _ (inL _ (ent' p hp))).1
      have s5 := Stp.lay (o := .lst (ps'.map fun p => V.ref p.2)) s4.sub s4.mem ho
      refine n _ _ _ _ _ ((st.trans s4).trans s5) (.lst upd_same ((tupK_rpA h4).up s5.fz)) (q (ps'.map (·.1)) ?_ (fun k => ⟨fun hk => ?_, fun hk => ?_⟩) (List.pairwise_map.mpr hpw))
      · have h5 := hpm.map (·.1)
        rw [List.map_map] at h5
        exact h5.nodup_iff.mpr R.nd
      · obtain ⟨p, hp, rfl⟩ := List.mem_map.mp hk
        obtain ⟨p', hp', e2⟩ := List.mem_map.mp (inL _ (ent' p hp))
        rw [Prod.mk.injEq] at e2
        exact List.mem_map.mpr ⟨p', hp', e2.2⟩
      · obtain ⟨p, hp, rfl⟩ := List.mem_map.mp hk
        have h5 := g.all (p.2, p.1) (by rw [List.take_length]; exact List.mem_map.mpr ⟨p, hp, rfl⟩)
        obtain ⟨e, he, e2⟩ := List.mem_map.mp h5
        have h6 : (e.2, e.1) ∈ ps' := hpm.mem_iff.mpr (List.mem_map.mpr ⟨e, he, rfl⟩)
        exact List.mem_map.mpr ⟨_, h6, e2⟩
  have hu : X.A.units + 3 < cLine := by have := B.hu; omega
  cases r' with
  | @lst la xs l h1 t =>
    obtain rfl : u = Value.ref la := ru
    obtain ⟨its, rs, pl, hz⟩ := I1.list (show SqL X.K H2 la xs from .inl (.inl (f2 _ _ h1)))
    exact fin t rs q fun ks e1 e2 e3 k => set_of_list ks mix_flat (I1.ok.hd hc) pl.isList (by simpa using e1) e2 e3 hu k
  | @tup la xs l h1 t =>
    obtain rfl : u = Value.ref la := ru
    obtain ⟨its, rs, pl, hz⟩ := I1.tuple (sq_t (f2 _ _ h1))
    exact fin t rs q fun ks e1 e2 e3 k => set_of_tuple ks mix_flat (I1.ok.hd hc) pl (by simpa using e1) e2 e3 hu k
  | _ => exact False.elim q⟩
end
end G
namespace G
open PySem PySem.Spec PyProof.Rows L2
section
variable {X : Cx} {W : WX} {e a b c : Expr} {es : List Expr} {ds : DS} {m : Mem} {Φ Ψ : D → Mem → Prop} {Ξ : XP} {p p2 q2 pos : Pos} {d : D}
variable {ta tb tc : ME}
/-! ### list(range(n)) that changes -/
theorem r_lstC1 {p1 q1 : Pos} (B : Bs X) (ha : RE X W a ta) (hc : X.calm = true := by rfl) (hg : Gl X "list" := by rfl) (hgr : Gl X "range" := by rfl) (hs : starEach [a] X.env = [(false, eval a X.env)] := by rfl)
    (he : starEach [.Call (.Name "range" p1) [a] [] q1] X.env = (false, eval (.Call (.Name "range" p1) [a] [] q1) X.env) :: starEach [] X.env := by rfl) : RE X W (.Call (.Name "list" p) [.Call (.Name "range" p1) [a] [] q1] [] pos) (rgE1 ta newL) := ⟨fun {ds m Φ Ξ} h F H σ s Q n x =>
  We.of (pe_listRg hc hg B.bi.b_list (rg1 B hgr hs) he) (ha.run h F H σ s _ (fun v F2 H2 d1 m2 s1 r1 q => by
    dsimp only at q
    split at q
    · next j =>
      cases r1
      refine ⟨j, rfl, q.ok, fun o ho => ?_⟩
      have s3 := Stp.cell (o := .lst (rgV 0 j)) (c := .lst (rngD 0 j.toNat)) s1.sub s1.mem ho ⟨_, upd_same, rg_rp0⟩
      exact n _ _ _ _ _ (s1.trans s3) (.ref o) (q.run o (not_dom s1.mem ho))
    · exact q.elim) x)⟩
/-! ### tuple.index of numbers -/
theorem intsAre_vals' : ∀ {ns : List Int} {us : List Value}, Vals (ns.map V.int) us → PyProof.Rows.IntsAre us ns
  | [], _, .nil => .nil
  | n :: ns, _, .cons r t => by
    obtain ⟨k, rfl⟩ := r
    exact .cons n k (intsAre_vals' t)
theorem mt_tix : MtR X "tuple.index" (fun x xs H Q => ∃ p, ∃ ns : List Int, ∃ z, x = .ref p ∧ xs = [.int z] ∧ SqT X.K H p (ns.map V.int) ∧ z ∈ ns ∧ Q (.int (ns.idxOf z : Nat)) H) := by
  intro pins s σ H x xs v us Q I rx rs h
  obtain ⟨p, ns, z, rfl, rfl, hq, hz, q⟩ := h
  cases rx
  obtain ⟨u, rfl, t, rfl⟩ := vals1 rs
  obtain ⟨its, r, pl, hz'⟩ := I.tuple hq
  exact PySem.SeqAt.tuple_index_ints pl (intsAre_vals' r) hz ⟨.int (ns.idxOf z : Nat), H, I.tok _, ⟨_, rfl⟩, q⟩
def gTix : FM := fun d l m Φ => match d, l with
  | .tup ys, [.int z] => ∃ ns : List Int, ys = ns.map D.int ∧ z ∈ ns ∧ Φ (.int (ns.idxOf z : Nat)) m
  | _, _ => False
theorem rpA_ints {K : PySem.W.Frag} {F : Hp} : ∀ {ns : List Int} {vs : List V}, RpA K F vs (ns.map D.int) → vs = ns.map V.int
  | [], _, .nil => rfl
  | n :: ns, _, .cons a b => by cases a; rw [rpA_ints b]; rfl
theorem md_tix : MD X "tuple.index" gTix := ⟨fun {m Φ d l} h => ⟨_, mt_tix, fun F H x xs Q s mm r rs n => by
  unfold gTix at h
  split at h
  · next ys z =>
    obtain ⟨ns, rfl, hz, q⟩ := h
    cases r with
    | tup h1 t1 =>
      cases rs with
      | cons ry t =>
        cases t
        cases ry
        cases rpA_ints t1
        exact ⟨_, ns, z, rfl, rfl, sq_t (s _ _ h1), hz, n.now s mm (.int _) q⟩
  · exact h.elim⟩⟩
/-! ### len(set(t)), t a tuple of numbers -/
def fLenSet : F1 := fun d m Φ => match d with
  | .tup l => ∃ ns : List Int, l = ns.map D.int ∧ ns.length < 64 ∧ ∀ c : Nat, (∃ ks : List Int, ks.length = c ∧ ks.Nodup ∧ ∀ k, k ∈ ks ↔ k ∈ ns) → Φ (.int c) m
  | _ => False
theorem r_lenSet (B : Bs X) (ha : RE X W a ta) (hc : X.calm = true := by rfl) (hg : Gl X "len" := by rfl) (hg2 : Gl X "set" := by rfl) (he : starEach [a] X.env = [(false, eval a X.env)] := by rfl) :
    RE X W (.Call (.Name "len" p) [.Call (.Name "set" p2) [a] [] q2] [] pos) (o1 fLenSet ta) := ⟨fun {ds m Φ Ξ} h F H σ s Q n x pins sh I => by
  let Q' : VK := fun v H2 => ∃ F2 d m2, Stp X.K F H m F2 H2 m2 ∧ Rp X.K F2 v d ∧ fLenSet d m2 Φ
  refine Call_ (ld_blt I hg B.bi.b_len PySem.boot_len ?_)
  refine PyProof.Rows.callWith_builtin1 (PyProof.Rows.args_cons ?_ rfl) rfl rfl
  refine Call_ (ld_blt I hg2 B.bi.b_set PyProof.Rows.boot_set ?_)
  have he' : starEach [a] X.env = (false, eval a X.env) :: starEach [] X.env := he
  refine PyProof.Rows.callWith_type1 (PyProof.Rows.args_cons (thn (ha.run h F H σ s Q' (fun v F2 H2 d m2 s1 r q => ⟨F2, d, m2, s1, r, q⟩) x pins sh I) fun u s1 hh => PyProof.Rows.args_nil ?_) he') he' rfl
  obtain ⟨v, H2, I1, ru, F2, d, m2, st, rv, q⟩ := hh
  cases rv with
  | @tup la xs l h1 t =>
    obtain rfl : u = Value.ref la := ru
    obtain ⟨ns, rfl, h64, q⟩ := (show ∃ ns : List Int, l = ns.map D.int ∧ _ from q)
    cases rpA_ints t
    obtain ⟨its, rs, pl, hz⟩ := I1.tuple (sq_t (st.sub _ _ h1))
    refine call_set_tupI ns (I1.ok.hd hc) pl (by simpa using intsAre_vals' rs) (by unfold scanBound; omega) fun h' tk c R hcn kp => ?_
    refine PyProof.Rows.args_nil ?_
    obtain ⟨o, es, ep, tb, go, gex, gd, _, nd, mem, fw, ft, sz, _, _⟩ := R
    have I2 : Inv X pins σ H2 { s1 with heap := h', toks := tk } := I1.kept kp
    have hlen : (es.toList.map L2.keyOf).length = es.size := by rw [List.length_map, Array.length_toList]
    refine call_len_set go gex gd ft (by omega) ⟨.int (es.size : Nat), H2, I2.tok _, ⟨_, rfl⟩, ?_⟩
    refine n _ _ _ _ _ st (.int _) (q es.size ⟨es.toList.map L2.keyOf, hlen, nd, fun k => ?_⟩)
    rw [← mem k]
    exact decide_eq_true_iff
  | _ => exact False.elim q⟩
end
end G
namespace G
open PySem PySem.Spec PyProof.Rows L2
section
variable {X : Cx} {W : WX} {e a b c : Expr} {es : List Expr} {ds : DS} {m : Mem} {Φ Ψ : D → Mem → Prop} {Ξ : XP} {p p2 q2 pos apos cpos : Pos} {d : D}
variable {ta tb tc : ME}
/-! ### d.setdefault(k, x), d a dict cell with plain keys -/
def sdAt (d dk dx : D) (m : Mem) (Φ : D → Mem → Prop) : Prop := match d with
  | .ref p => cel m p fun j c => match c with
    | .dK l => om (keyOf dk) fun k => gd (decide (l.length < sizeLine)) (match lkD l k with
      | some y => Φ y m
      | none => Φ dx (m.set j (p, .dK (putD l k dx))))
    | _ => False
  | _ => False
def sdf_ (o k x : ME) : ME := fun ds m Φ Ξ => o ds m (fun d m1 => isDc d m1 (k ds m1 (fun dk m2 => x ds m2 (fun dx m3 => sdAt d dk dx m3 Φ) Ξ) Ξ)) Ξ
theorem r_sdf {o k f : Expr} (B : Bs X) (ho : RE X W o ta) (hk : RE X W k tb) (hf : RE X W f tc)
    (hbase : attributeBase o "setdefault" X.env (eval o X.env) = eval o X.env := by rfl)
    (hfew : ((backTo cpos (starEach [k, f] X.env)).all (fun x => !x.1) && (backToKw cpos (keywordEach [] X.env)).all (fun x => x.1.isSome)
      && decide (([k, f] : List Expr).length + ([] : List Keyword).length + (if ([] : List Keyword).isEmpty then 0 else 1) < 30)) = true := by rfl)
    (hline : (apos.endLine == cpos.line) = true := by rfl) (htr : backTo cpos (starEach [k, f] X.env) = [(false, eval k X.env), (false, eval f X.env)] := by rfl) :
    RE X W (.Call (.Attribute o "setdefault" apos) [k, f] [] cpos) (sdf_ ta tb tc) := ⟨fun {ds m Φ Ξ} h F H σ s Q n x =>
  We.of (pe_dsetd pw_e pw_e pw_e ⟨hbase, hfew, hline, htr⟩) (ho.run h F H σ s _ (fun v F2 H2 d1 m2 s1 r1 q => by
    obtain ⟨ad, rfl, hD, q⟩ := isD_go s1.sub s1.mem r1 q
    refine ⟨ad, rfl, hD, hk.run q F2 H2 σ (s.go s1) _ (fun u F3 H3 d2 m3 s2 r2 q2 => hf.run q2 F3 H3 σ ((s.go s1).go s2) _ (fun u2 F4 H4 d3 m4 s3 r3 q3 => ?_) ((x.go s1).go s2)) (x.go s1)⟩
    cases r1 with
    | ref p =>
      obtain ⟨j, c, hj, q3⟩ := (show cel m4 _ _ from q3)
      have ce := s3.mem.ce _ (List.mem_of_getElem? hj)
      cases c with
      | dK l =>
        obtain ⟨kvs, h1, t⟩ := ce
        obtain ⟨k, hk, q4⟩ := om_some q3
        obtain ⟨hz, q5⟩ := gdd q4
        have r2' := r2.up s3.fz
        rw [keyOf_is hk] at r2'
        rw [rp_key r2']
        obtain ⟨g1, g2⟩ := kv_get (k := k) t
        refine ⟨kvs, k, h1, rfl, by rw [kv_len t]; exact hz, fun v hv => ?_, fun hn => ?_⟩
        · cases e : lkD l k with
          | none => rw [g1 e] at hv; cases hv
          | some y =>
            obtain ⟨v', hv', rv⟩ := g2 y e
            rw [hv'] at hv
            cases hv
            rw [e] at q5
            exact n _ _ _ _ _ (s1.trans (s2.trans s3)) rv q5
        · cases e : lkD l k with
          | some y => obtain ⟨v', hv', rv⟩ := g2 y e; rw [hv'] at hn; cases hn
          | none =>
            rw [e] at q5
            exact n _ _ _ _ _ ((s1.trans (s2.trans s3)).trans (Stp.putAt (c' := .dK (putD l k d3)) s3.sub s3.mem hj ⟨_, upd_same, kv_put t r3⟩)) r3 q5
      | _ => exact False.elim q3
    | _ => exact False.elim q3) x)⟩
/-! ### line.extend(x), x data or a cell -/
def gExtC : FM := fun d l m Φ => match l with
  | [.lst zs] => lcel d m fun p j l => gd (decide (l.length + zs.length ≤ sizeLine)) (Φ .non (m.set j (p, .lst (l ++ zs))))
  | [.ref b] => cel m b fun _ c => match c with
    | .lst zs => lcel d m fun p j l => gd (decide (l.length + zs.length ≤ sizeLine)) (Φ .non (m.set j (p, .lst (l ++ zs))))
    | _ => False
  | _ => False
theorem md_extC : MD X "list.extend" gExtC := ⟨fun {m Φ d l} h => ⟨rExtend, mt_extend, fun F H x xs Q s mm r rs n => by
  unfold gExtC at h
  split at h
  · next zs =>
    obtain ⟨p, j, l, vs, rfl, hj, h1, h2, q⟩ := lc_go' mm r h
    obtain ⟨hz, q⟩ := gdd q
    cases rs with
    | cons ry t =>
      cases t
      cases ry with
      | @lst b ws _ hb tb => exact ⟨p, b, vs, ws, rfl, rfl, h1, s _ _ hb, by rw [h2.len, tb.len]; exact hz, n _ _ _ _ _ (Stp.putAt (c' := .lst (l ++ zs)) s mm hj ⟨_, upd_same, h2.app tb⟩) .non q⟩
  · next b =>
    obtain ⟨j2, c, hj2, h⟩ := (show cel m b _ from h)
    have ce := mm.ce _ (List.mem_of_getElem? hj2)
    cases c with
    | lst zs =>
      obtain ⟨ws, hb, tb⟩ := ce
      obtain ⟨p, j, l, vs, rfl, hj, h1, h2, q⟩ := lc_go' mm r h
      obtain ⟨hz, q⟩ := gdd q
      cases rs with
      | cons ry t =>
        cases t
        cases ry
        exact ⟨p, b, vs, ws, rfl, rfl, h1, hb, by rw [h2.len, tb.len]; exact hz, n _ _ _ _ _ (Stp.putAt (c' := .lst (l ++ zs)) s mm hj ⟨_, upd_same, h2.app tb⟩) .non q⟩
    | _ => exact False.elim h
  · exact h.elim⟩⟩
end
end G
namespace G
open PySem PySem.Spec PyProof.Rows L2
/-! ### min(x, y) of two data -/
section
variable {prog : Program} {w : World} {A : Around} {E : Value → Shared → Prop} {s : Shared}
theorem call_min_twoH {a b : Value} {Q : Value → Shared → Prop}
    (h : wpAny (model prog w) A.in1 (pyIter (.ref s.heap.objs.size)) (fun it s₂ => ∃ I fp wr G n P St H bt, it = .ref I ∧ WalksS prog w A.in1 I fp wr G n P St ∧ St 0 s₂ ∧ (∀ b ∈ fp, b < s₂.heap.objs.size) ∧ 0 < n ∧
      (∀ b o, H.get? b = some o → b ∉ wr) ∧ (∀ b o, H.get? b = some o → s₂.heap.get? b = some o) ∧ CmpIn prog w A.in1 .Lt H P bt ∧ ∀ v s', P (argBest bt (n - 1)) v → Moved wr G s₂ s' → Q v s') E
      { s with heap := s.heap.push { cls := .type "tuple", data := .seq #[a, b] } }) :
    wpAny (model prog w) A (call (.builtin "min") [a, b]) Q E s := by
  have hname : (toString "min" ++ toString ".loop" : String) = "min.loop" := by decide
  refine call_function_tree F.kind_min F.plain_min F.entry_min (F.args_min2 _ _) ?_
  show wpAny _ A.in1 (Builtin.Builtins.bindParams "min" ["key", "default"] 0 ⟨[], []⟩ >>= _) _ _ s
  refine wpAny_bind (wpAny_of_eq (show Builtin.Builtins.bindParams "min" ["key", "default"] 0 ⟨[], []⟩ = pure [none, none] from rfl) ?_)
  show wpAny _ A.in1 (newTuple [a, b] >>= _) _ _ s
  refine wpAny_bind (wpAny_newObj_type ?_)
  refine wpAny_bind (wpAny_mono h (fun it s₂ h₂ => ?_) fun _ _ e => e)
  obtain ⟨I, fp, wr, G, n, P, St, H, bt, rfl, W, hst, hfp, hn, hw, hkeep, hcmp, hQ⟩ := h₂
  refine wpAny_bind (wpAny_newObj_type ?_)
  have hSf : s₂.heap.objs.size ∉ fp := fun hm => Nat.lt_irrefl _ (hfp _ hm)
  rw [hname]
  refine wpAny_pure ⟨plainId_quiet F.plain_min_loop _, codeAny_min_loop_firstH W H hw bt hcmp s₂.heap.objs.size hSf (fresh_in hkeep) _ hn (fun b o e => Heap.get?_push_of_some _ (hkeep b o e)) (W.frame 0 s₂ _ s₂.toks hst (Nat.le_refl _) fun b _ o e => Heap.get?_push_of_some _ e) (Heap.get?_push_size _ rfl) fun v s' hP hm => ?_⟩
  exact hQ v s' hP (Moved.drop_new (tk := s₂.toks) hm (Nat.le_refl _))
theorem min2_data {a b : Value} {x y : PyData} {as : List Addr} {Q : Value → Shared → Prop} (hh : A.handled = none) (hr : ReadsAll s.heap [a, b] [x, y] as) (ha : PySem.W.AlikeAll [x, y]) (hu : A.units + 1 + PyData.depthAll [x, y] < cLine)
    (h : ∀ (i : Nat) v h' tk bs, [a, b][i]? = some v → Reads h' v (PySem.W.minD x [y]) bs → (∀ b o, s.heap.get? b = some o → h'.get? b = some o) → Q v { s with heap := h', toks := tk }) :
    wpAny (model prog w) A (call (.builtin "min") [a, b]) Q E s := by
  have k0 : ∀ c o, s.heap.get? c = some o → (s.heap.push { cls := .type "tuple", data := .seq #[a, b] }).get? c = some o := fun c o e => Heap.get?_push_of_some _ e
  have hr' : ReadsAll (s.heap.push { cls := .type "tuple", data := .seq #[a, b] }) (#[a, b] : Array Value).toList [x, y] as := ReadsAll.keeps k0 hr
  have hl : (s.heap.push { cls := .type "tuple", data := .seq #[a, b] }).IsTuple s.heap.objs.size #[a, b] := ⟨_, Heap.get?_push_size _ rfl, rfl, 0, rfl⟩
  refine call_min_twoH (PySem.W.iter_tupleW (s := { s with heap := s.heap.push { cls := .type "tuple", data := .seq #[a, b] } }) (A := A.in1) hh hl fun s₂ e W st hfp hw hk => ?_)
  refine ⟨_, _, _, _, _, _, _, s.heap.push { cls := .type "tuple", data := .seq #[a, b] }, _, rfl, W, st, hfp, Nat.zero_lt_succ _, hw, hk, PySem.W.cmpIn_lt (s := { s with heap := s.heap.push { cls := .type "tuple", data := .seq #[a, b] } }) (vs := #[a, b]) (A := A.in1) hr' ha (by show A.units + 1 + _ < _; exact hu), fun v s' hP m => ?_⟩
  obtain ⟨h', tk, rfl, hk'⟩ := PySem.W.moved_old e rfl m
  obtain ⟨bs, r, _, _, _⟩ := PySem.W.readsAll_atA hr' _ v hP
  have e2 := (PySem.W.argBest_fold PySem.W.dataLt PyData.none x [y] 1 (Nat.le_refl _)).2
  have hP' : [a, b][argBest (fun i j => PySem.W.dataLt ([x, y].getD i PyData.none) ([x, y].getD j PyData.none)) 1]? = some v := by
    rw [← hP, ← Array.getElem?_toList]
    rfl
  exact h _ v h' tk bs hP' (PySem.W.reads_keeps hk' (by unfold PySem.W.minD; rw [show [y] = [y].take 1 from rfl, ← e2]; exact r)) fun b o eb => hk' b o (k0 b o eb)
end
section
variable {X : Cx} {W : WX} {e a b c : Expr} {es : List Expr} {ds : DS} {m : Mem} {Φ Ψ : D → Mem → Prop} {Ξ : XP} {p p2 q2 pos apos cpos : Pos} {d : D}
variable {ta tb tc : ME}
def rMin2D (K : PySem.W.Frag) : List V → Hp → VK → Prop := fun vs H Q => ∃ (x y : V) (z z2 : PyData), vs = [x, y] ∧ DpAll K H [x, y] [z, z2] ∧ PySem.W.AlikeAll [z, z2] ∧ PyData.depthAll [z, z2] ≤ 60 ∧
  ∀ (i : Nat) (v : V) (w : PyData), [x, y][i]? = some v → [z, z2][i]? = some w → w = PySem.W.minD z [z2] → Q v H
theorem cr_min2D (hu : X.A.units + 64 < cLine) (hc : X.calm = true) : CallR X (.builtin "min") (rMin2D X.K) := by
  intro pins s σ H vs us Q I r h
  obtain ⟨x, y, z, z2, rfl, hd, ha, h60, q⟩ := h
  obtain ⟨u, v, rfl, ru, rv⟩ := Vals.two r
  obtain ⟨as, hr⟩ := Dp.readsAll I _ _ _ hd r
  refine min2_data (I.ok.hd hc) hr ha (by omega) fun i w h' tk bs hi hrd hk => ?_
  obtain ⟨x', hx, rx⟩ := vals_at r hi
  obtain ⟨d, bs', hd', rd'⟩ := rds_at hr hi
  have e := (reads_det (fun b o e _ => hk b o e) rd' hrd).1
  exact ⟨x', H, I.kept hk, rx, q i x' d hx hd' e.symm⟩
def oMinD : F2 := fun d1 d2 m Φ => MinW [d1, d2] m Φ
theorem r_minD (B : Bs X) (ha : RE X W a ta) (hb : RE X W b tb) (hg : Gl X "min" := by rfl) (hc : X.calm = true := by rfl) (he : starEach [a, b] X.env = [(false, eval a X.env), (false, eval b X.env)] := by rfl) (he2 : starEach [b] X.env = [(false, eval b X.env)] := by rfl) : RE X W (.Call (.Name "min" p) [a, b] [] pos) (o2 oMinD ta tb) :=
  ⟨fun {ds m Φ Ξ} h => ew_callB (cr_min2D B.hu hc) B.bi.b_min boot_min (aw_cons ((ha.run h).mono fun d1 m1 q => aw_cons ((hb.run q).mono fun d2 m2 q2 => aw_nil fun F H vs Q s mm r n => by
    cases r with
    | cons r1 t =>
      cases t with
      | cons r2 t2 =>
        cases t2
        obtain ⟨x, r, e, h1, h2⟩ := (show MinW _ m2 Φ from q2).run
        obtain ⟨rfl, rfl⟩ := List.cons.inj e
        obtain ⟨g1, g2, g3⟩ := alks_of h1
        have t : RpA X.K F [_, _] [d1, d2] := .cons r1 (.cons r2 .nil)
        refine ⟨_, _, py d1, py d2, rfl, dpA_of s _ _ g1 t, g2, g3, fun i v w hi hw e => ?_⟩
        obtain ⟨d, hd, rd⟩ := t.gtv hi
        obtain ⟨d', hd', rfl⟩ := pyA_at (l := [d1, d2]) hw
        rw [hd] at hd'; cases hd'
        exact n.now s mm rd (h2 d (List.mem_of_getElem? hd) e)) he2) (by rw [he, he2])) hg (he := by rw [he, he2]) (hpl := by rw [he2]; rfl)⟩
/-! ### d != {} -/
def rNeE : R2 := fun x y H Q => ∃ (a b : Addr) (o : Obj) (kvs : List (Key × V)), x = .ref a ∧ y = .ref b ∧ H a = some (.frz o (.dK kvs)) ∧ H b = some (.dK []) ∧ Q (.bl (!kvs.isEmpty)) H
theorem op_neE (hu : X.A.units < cLine) : OpR X (compareOp .NotEq) rNeE := by
  intro pins s σ H x y v u Q I rx ry h
  obtain ⟨a, b, o, kvs, rfl, rfl, ea, eb, q⟩ := h
  obtain rfl : v = Value.ref a := rx
  obtain rfl : u = Value.ref b := ry
  obtain ⟨_, _, ya, va, ra, da⟩ := (show ObjOk X.prog X.w H s.heap a (.frz o (.dK kvs)) from I.hok a _ ea)
  obtain ⟨_, yb, vb, rb, db⟩ := (show ObjOk X.prog X.w H s.heap b (.dK []) from I.hok b _ eb)
  have hb0 : vb = [] := List.eq_nil_of_length_eq_zero (by rw [← rb.length]; rfl)
  subst hb0
  refine PySem.W.keq_ne (knd := mixKind X.prog X.w) (r := true) ya yb da db hu (fun hl => ?_) (fin_bl I q ?_)
  · have : va = [] := List.eq_nil_of_length_eq_zero hl
    subst this
    exact .nil
  · have hl := ra.length
    cases kvs with
    | nil => cases va with
      | nil => rfl
      | cons _ _ => simp at hl
    | cons _ _ => cases va with
      | nil => simp at hl
      | cons _ _ => rfl
def oNeE : F2 := fun d1 d2 m Φ => match d1, d2 with
  | .dK ks _, .emp => Φ (.bl (!ks.isEmpty)) m
  | _, _ => False
theorem g_neE {d1 d2 : D} (h : oNeE d1 d2 m Φ) : RD X rNeE d1 d2 m Φ := fun F H x y Q s mm r1 r2 n => by
  unfold oNeE at h
  split at h
  · next ks l =>
    cases r1 with
    | @dK _ _ _ xs _ h1 hl t =>
      cases r2 with
      | emp h2 =>
        refine ⟨_, _, _, _, rfl, rfl, s _ _ h1, s _ _ h2, n.now s mm (.bl _) ?_⟩
        have e : (ks.zip xs).isEmpty = ks.isEmpty := by
          cases ks with
          | nil => rfl
          | cons _ _ => cases xs with
            | nil => simp at hl
            | cons _ _ => rfl
        rw [e]
        exact h
  · exact h.elim
theorem r_neE (B : Bs X) (ha : RE X W a ta) (hb : RE X W b tb) (hm : behindInMarks .NotEq b = false := by first | exact nomark _ | rfl) : RE X W (.Compare a [.NotEq] [b] pos) (o2 oNeE ta tb) := ⟨fun h => ew_cmp (op_neE (by have := B.hu; omega)) (two g_neE ha hb h) hm⟩
theorem t_neE (B : Bs X) (ha : RE X W a ta) (hb : RE X W b tb) (hm : behindInMarks .NotEq b = false := by first | exact nomark _ | rfl) : RT X W (.Compare a [.NotEq] [b] pos) (tst (o2 oNeE ta tb)) := ⟨fun h => tw_cmp (op_neE (by have := B.hu; omega)) (twoT g_neE ha hb h) hm⟩
/-! ### len of a dict that is locked -/
theorem cr_lenK : CallR X (.builtin "len") (fun xs H Q => ∃ (a : Addr) (o : Obj) (kvs : List (Key × V)), xs = [V.ref a] ∧ H a = some (.frz o (.dK kvs)) ∧ Q (.int kvs.length) H) := by
  intro pins s σ H xs us Q I r h
  obtain ⟨a, o, kvs, rfl, ea, q⟩ := h
  rw [Vals.ref1 r]
  obtain ⟨_, z, ya, va, ra, da⟩ := (show ObjOk X.prog X.w H s.heap a (.frz o (.dK kvs)) from I.hok a _ ea)
  have hl := line63
  have hlen : va.length = kvs.length := ra.length.symm
  refine call_len_dict ya da (by rw [hlen]; omega) ?_
  refine ⟨.int kvs.length, H, I.tok _, ⟨_, by rw [hlen]⟩, q⟩
def fLenK : F1 := fun d m Φ => match d with
  | .dK ks _ => Φ (.int ks.length) m
  | _ => False
theorem r_lenK (B : Bs X) (ha : RE X W a ta) (hg : Gl X "len" := by rfl) (he : starEach [a] X.env = [(false, eval a X.env)] := by rfl) : RE X W (.Call (.Name "len" p) [a] [] pos) (o1 fLenK ta) := ⟨fun {ds m Φ Ξ} h =>
  ew_callB cr_lenK B.bi.b_len PySem.boot_len (aw_cons ((ha.run h).mono fun d m1 q => aw_nil fun F H vs Q s mm r n => by
    cases r with
    | cons r1 t =>
      cases t
      cases r1 with
      | @dK _ _ ks xs _ h1 hl t1 =>
        refine ⟨_, _, _, rfl, s _ _ h1, n.now s mm (.int _) ?_⟩
        rw [List.length_zip, ← hl, Nat.min_self]
        exact q
      | _ => exact False.elim q) he) hg (he := he) (hpl := rfl)⟩
end
end G
namespace G
open PySem PySem.Spec PyProof.Rows L2
/-! ### d.setdefault(k, x), d a dict cell whose keys are tuples -/
section
variable {X : Cx} {pins : List (Addr × Obj)} {σ : L2.St} {H : Hp} {s : Shared} {a b : Addr} {r : Value} {d : V} {k : List Key} {A : Around} {E : Value → Shared → Prop}
theorem d_setdT {kvs : List (List Key × V)} {Q : Value → Shared → Prop} (hu : A.units + 1 < cLine) (I : Inv X pins σ H s) (e : H a = some (.dT kvs)) (eb : H b = some (.tup (k.map kV))) (rd : RelV d r) (hl : kvs.length < sizeLine)
    (h1 : ∀ v, valV kvs k = some v → ∀ (w' : Value) (s' : Shared), Inv X pins σ H s' → RelV v w' → Q w' s') (h2 : valV kvs k = none → ∀ (w' : Value) (s' : Shared), Inv X pins σ (upd H a (.dT (putK kvs k d))) s' → RelV d w' → Q w' s') :
    wpAny (model X.prog X.w) A (call (.builtin "dict.setdefault") [.ref a, .ref b, r]) Q E s := by
  obtain ⟨z, hd, xs, rel, dd⟩ := dt_of I.hok e
  have hz : xs.length ≤ sizeLine := by rw [← Paired.length rel]; exact z
  have hl2 : (putK kvs k d).length ≤ sizeLine := by have := length_putK kvs k d; omega
  have rv := rel.val k
  refine call_setdefault_heap (hsz := hz) (tupleKind_room_in1 hu) (key_of I.hok eb) hd dd (fun p hp => ?_) fun hn h' dd' hs => ?_
  · rw [hp] at rv
    cases q0 : valV kvs k with
    | none => rw [q0] at rv; exact (show False from rv).elim
    | some v0 => rw [q0] at rv; exact h1 v0 q0 _ _ (I.tok _) rv
  · rw [hn] at rv
    cases q0 : valV kvs k with
    | some v0 => rw [q0] at rv; exact (show False from rv).elim
    | none =>
      obtain ⟨q, es, ep, hq, g2, g3, g4, _, g5⟩ := dd'
      refine h2 q0 _ _ (d_write I (by rw [e]; exact True.intro) hs ⟨q, hq⟩ ⟨hl2, hd, _, (rel.put k eb rd).keeps fun c ys ec => ?_, q, es, ep, hq, g2, g3, g4, g5⟩) rd
      rw [upd_ne (ne_of ec e (fun z => nomatch z))]
      exact ec
end
def tDSetdT (td ty tx : TE) : TE := fun σ H Q => td σ H fun x H1 => ∃ a, x = .ref a ∧ IsD H1 a ∧ ty σ H1 fun y H2 => tx σ H2 fun z H3 => ∃ (kvs : List (List Key × V)) (k : List Key) (b : Addr), H3 a = some (.dT kvs) ∧ y = .ref b ∧ H3 b = some (.tup (k.map kV)) ∧ kvs.length < sizeLine ∧
  (∀ v, valV kvs k = some v → Q v H3) ∧ (valV kvs k = none → Q z (upd H3 a (.dT (putK kvs k z))))
section
variable {X : Cx} {o e f : Expr} {td ty tx : TE} {apos cpos : Pos}
theorem pe_dsetdT (hu : X.A.units + 1 < cLine) (ho : PE X o td) (he : PE X e ty) (hf : PE X f tx) (m : M2 X o "setdefault" apos e f cpos) : PE X (.Call (.Attribute o "setdefault" apos) [e, f] [] cpos) (tDSetdT td ty tx) := by
  refine ⟨fun pins s σ H Q I h => ?_⟩
  refine wpAny_Call_method m.base m.few m.line PySem.F.plainAttrs_dict PySem.F.slot_dict_setdefault PySem.F.type_dict_setdefault (thn (ho.run pins s σ H _ I h) fun u s1 ⟨x, H1, I1, rx, a, ex, d, q1⟩ => ?_)
  subst ex
  obtain rfl : u = Value.ref a := rx
  obtain ⟨t1, t2, _⟩ := isD_at I1 d
  refine ⟨t1, t2, ?_⟩
  rw [m.trees]
  refine Calls.callWith_builtin rfl (Calls.evalArgs_plain (Calls.spliced_cons (thn (he.run pins s1 σ H1 _ I1 q1) fun iv s2 ⟨y, H2, I2, ry, q2⟩ =>
    Calls.spliced_cons (thn (hf.run pins s2 σ H2 _ I2 q2) fun fv s3 ⟨z, H3, I3, rz, kvs, k, b, ea, ey, eb, hl, q3, q4⟩ => Calls.spliced_nil ?_))))
  subst ey
  obtain rfl : iv = Value.ref b := ry
  exact d_setdT hu I3 ea eb rz hl (fun v hv w' s4 I4 rw' => ⟨v, _, I4, rw', q3 v hv⟩) fun hn w' s4 I4 rw' => ⟨z, _, I4, rw', q4 hn⟩
end
section
variable {X : Cx} {W : WX} {e a b c : Expr} {es : List Expr} {ds : DS} {m : Mem} {Φ Ψ : D → Mem → Prop} {Ξ : XP} {p p2 q2 pos apos cpos : Pos} {d : D}
variable {ta tb tc : ME}
def sdAtT (d dk dx : D) (m : Mem) (Φ : D → Mem → Prop) : Prop := match d with
  | .ref p => cel m p fun j c => match c with
    | .dT l => om (tkeyOf dk) fun k => gd (decide (l.length < sizeLine)) (match lkD l k with
      | some y => Φ y m
      | none => Φ dx (m.set j (p, .dT (putD l k dx))))
    | _ => False
  | _ => False
def sdfT_ (o k x : ME) : ME := fun ds m Φ Ξ => o ds m (fun d m1 => isDc d m1 (k ds m1 (fun dk m2 => x ds m2 (fun dx m3 => sdAtT d dk dx m3 Φ) Ξ) Ξ)) Ξ
theorem r_sdfT {o k f : Expr} (B : Bs X) (ho : RE X W o ta) (hk : RE X W k tb) (hf : RE X W f tc)
    (hbase : attributeBase o "setdefault" X.env (eval o X.env) = eval o X.env := by rfl)
    (hfew : ((backTo cpos (starEach [k, f] X.env)).all (fun x => !x.1) && (backToKw cpos (keywordEach [] X.env)).all (fun x => x.1.isSome)
      && decide (([k, f] : List Expr).length + ([] : List Keyword).length + (if ([] : List Keyword).isEmpty then 0 else 1) < 30)) = true := by rfl)
    (hline : (apos.endLine == cpos.line) = true := by rfl) (htr : backTo cpos (starEach [k, f] X.env) = [(false, eval k X.env), (false, eval f X.env)] := by rfl) :
    RE X W (.Call (.Attribute o "setdefault" apos) [k, f] [] cpos) (sdfT_ ta tb tc) := ⟨fun {ds m Φ Ξ} h F H σ s Q n x =>
  We.of (pe_dsetdT (by have := B.hu; omega) pw_e pw_e pw_e ⟨hbase, hfew, hline, htr⟩) (ho.run h F H σ s _ (fun v F2 H2 d1 m2 s1 r1 q => by
    obtain ⟨ad, rfl, hD, q⟩ := isD_go s1.sub s1.mem r1 q
    refine ⟨ad, rfl, hD, hk.run q F2 H2 σ (s.go s1) _ (fun u F3 H3 d2 m3 s2 r2 q2 => hf.run q2 F3 H3 σ ((s.go s1).go s2) _ (fun u2 F4 H4 d3 m4 s3 r3 q3 => ?_) ((x.go s1).go s2)) (x.go s1)⟩
    cases r1 with
    | ref p =>
      obtain ⟨j, c, hj, q3⟩ := (show cel m4 _ _ from q3)
      have ce := s3.mem.ce _ (List.mem_of_getElem? hj)
      cases c with
      | dT l =>
        obtain ⟨kvs, h1, t⟩ := ce
        obtain ⟨k, hk, q4⟩ := om_some q3
        obtain ⟨hz, q5⟩ := gdd q4
        have r2' := r2.up s3.fz
        rw [tkeyOf_is hk] at r2'
        obtain ⟨b, rfl, hb⟩ := rp_tupK r2'
        obtain ⟨g1, g2⟩ := kv_get (k := k) t
        refine ⟨kvs, k, b, h1, rfl, s3.sub _ _ hb, by rw [kv_len t]; exact hz, fun v hv => ?_, fun hn => ?_⟩
        · cases e : lkD l k with
          | none => rw [g1 e] at hv; cases hv
          | some y =>
            obtain ⟨v', hv', rv⟩ := g2 y e
            rw [hv'] at hv
            cases hv
            rw [e] at q5
            exact n _ _ _ _ _ (s1.trans (s2.trans s3)) rv q5
        · cases e : lkD l k with
          | some y => obtain ⟨v', hv', rv⟩ := g2 y e; rw [hv'] at hn; cases hn
          | none =>
            rw [e] at q5
            exact n _ _ _ _ _ ((s1.trans (s2.trans s3)).trans (Stp.putAt (c' := .dT (putD l k d3)) s3.sub s3.mem hj ⟨_, upd_same, kv_put t r3⟩)) r3 q5
      | _ => exact False.elim q3
    | _ => exact False.elim q3) x)⟩
end
end G
namespace G
open PySem PySem.Spec PyProof.Rows L2
/-! ### a dict cell is walked, and changes again behind it -/
mutual
def noK : D → Bool
  | .dK _ _ => false
  | .lst l => noKA l
  | .tup l => noKA l
  | .ktp l => noKA l
  | .dV _ l => noKA l
  | .dT _ l => noKA l
  | .ins _ _ l => noKA l
  | .exc _ _ _ l => noKA l
  | _ => true
def noKA : List D → Bool
  | [] => true
  | d :: l => noK d && noKA l
end
def cutH (F : Hp) (p : Addr) : Hp := fun a => if a = p then none else F a
theorem cutH_same {F : Hp} {p : Addr} : cutH F p p = none := if_pos rfl
theorem cutH_ne {F : Hp} {p a : Addr} (h : a ≠ p) : cutH F p a = F a := if_neg h
section
variable {K : PySem.W.Frag} {F : Hp} {p : Addr} {o : Obj} {kvs : List (Key × V)}
mutual
theorem Rp.cut (e : F p = some (.frz o (.dK kvs))) : ∀ (d : D) (v : V), noK d = true → Rp K F v d → Rp K (cutH F p) v d
  | .non, _, _, h => by cases h; exact .non
  | .bl _, _, _, h => by cases h; exact .bl _
  | .int _, _, _, h => by cases h; exact .int _
  | .str _, _, _, h => by cases h; exact .str _
  | .emp, _, _, h => by cases h with | emp q => exact .emp (by rw [cutH_ne (fun z => by rw [z, e] at q; cases q)]; exact q)
  | .scr _, _, _, h => by
    cases h with
    | scr q =>
      rcases q with (q | ⟨o2, q⟩) | q
      · exact .scr (.inl (.inl (by rw [cutH_ne (fun z => by rw [z, e] at q; cases q)]; exact q)))
      · exact .scr (.inl (.inr ⟨o2, by rw [cutH_ne (fun z => by rw [z, e] at q; cases q)]; exact q⟩))
      · exact .scr (.inr q)
  | .ref _, _, _, h => by cases h; exact .ref _
  | .lst ds, _, n, h => by cases h with | lst q r => exact .lst (by rw [cutH_ne (fun z => by rw [z, e] at q; cases q)]; exact q) (RpA.cut e ds _ n r)
  | .tup ds, _, n, h => by cases h with | tup q r => exact .tup (by rw [cutH_ne (fun z => by rw [z, e] at q; cases q)]; exact q) (RpA.cut e ds _ n r)
  | .ktp ds, _, n, h => by
    cases h with
    | ktp q r =>
      rcases q with ⟨o2, h0, q⟩ | q
      · exact .ktp (.inl ⟨o2, h0, by rw [cutH_ne (fun z => by rw [z, e] at q; cases q)]; exact q⟩) (RpA.cut e ds _ n r)
      · exact .ktp (.inr q) (RpA.cut e ds _ n r)
  | .dK _ ds, _, n, h => by cases n
  | .dV _ ds, _, n, h => by cases h with | dV q hl r => exact .dV (by rw [cutH_ne (fun z => by rw [z, e] at q; cases q)]; exact q) hl (RpA.cut e ds _ n r)
  | .dT _ ds, _, n, h => by cases h with | dT q hl r => exact .dT (by rw [cutH_ne (fun z => by rw [z, e] at q; cases q)]; exact q) hl (RpA.cut e ds _ n r)
  | .ins _ _ ds, _, n, h => by cases h with | ins q hl r => exact .ins (by rw [cutH_ne (fun z => by rw [z, e] at q; cases q)]; exact q) hl (RpA.cut e ds _ n r)
  | .exc _ _ _ ds, _, n, h => by cases h with | exc q hl r => exact .exc (by rw [cutH_ne (fun z => by rw [z, e] at q; cases q)]; exact q) hl (RpA.cut e ds _ n r)
theorem RpA.cut (e : F p = some (.frz o (.dK kvs))) : ∀ (ds : List D) (vs : List V), noKA ds = true → RpA K F vs ds → RpA K (cutH F p) vs ds
  | [], _, _, h => by cases h; exact .nil
  | d :: ds, _, n, h => by
    cases h with
    | cons a b =>
      obtain ⟨n1, n2⟩ := Bool.and_eq_true_iff.mp (show (noK d && noKA ds) = true from n)
      exact .cons (Rp.cut e d _ n1 a) (RpA.cut e ds _ n2 b)
end
end
/-- nothing of the cells is seen; behind it the lock is taken off -/
theorem Stp.unlock {K : PySem.W.Frag} {F H F2 F4 H4 : Hp} {m : Mem} {p : Addr} {j : Nat} {l : List (Key × D)} {kvs : List (Key × V)} {od : Obj} (s : Same F H) (h : MemOk K F H m) (hj : m[j]? = some (p, .dK l)) (hk : H p = some (.dK kvs)) (f1 : Same F F2) (f2 : F2 p = some (.frz od (.dK kvs)))
    (n2 : ∀ a, a ≠ p → F2 a = F a) (s4 : Stp K F2 (upd H p (.frz od (.dK kvs))) [] F4 H4 []) : Stp K F H m (cutH F4 p) (upd H4 p (.dK kvs)) m ∧ F4 p = some (.frz od (.dK kvs)) := by
  have f4 : F4 p = some (.frz od (.dK kvs)) := s4.fz _ _ f2
  have hm : (p, MC.dK l) ∈ m := List.mem_of_getElem? hj
  have fp : F p = none := h.fr _ hm
  have e1 : Same F (cutH F4 p) := fun a u q => by
    have ne : a ≠ p := ne_of_none q fp
    rw [cutH_ne ne]; exact s4.fz _ _ (f1 _ _ q)
  have keepH : ∀ a o, a ≠ p → H a = some o → upd H4 p (.dK kvs) a = some o := fun a o ne q => by
    rw [upd_ne ne]
    exact s4.keep a o (by rw [upd_ne ne]; exact q) (fun z => nomatch z)
  have newF : ∀ a o, H a = some o → noT o → F a = none → cutH F4 p a = none := fun a o q t n => by
    by_cases ha : a = p
    · subst ha; exact cutH_same
    · rw [cutH_ne ha]
      exact s4.new a o (by rw [upd_ne ha]; exact q) t (by rw [n2 a ha]; exact n) (fun z => nomatch z)
  refine ⟨⟨e1, fun a u q => ?_, ⟨h.nd, fun q hq => ?_, fun q hq => ?_⟩, fun a o q n => ?_, fun a o q t n _ => newF a o q t n, fun a q => ?_, fun a z => .inl z⟩, f4⟩
  · by_cases ha : a = p
    · subst ha; rw [cutH_same] at q; cases q
    · rw [cutH_ne ha] at q; rw [upd_ne ha]; exact s4.sub _ _ q
  · obtain ⟨o, ho, t⟩ := (h.ce q hq).noT
    exact newF _ o ho t (h.fr q hq)
  · by_cases ha : q.1 = p
    · have hq2 : q = (p, .dK l) := by
        have nd := h.nd
        obtain ⟨i, hi⟩ := List.mem_iff_getElem?.mp hq
        have hij : i = j := by
          have g1 : (dom m)[i]? = some p := by rw [List.getElem?_map, hi, ← ha]; rfl
          have g2 : (dom m)[j]? = some p := by rw [List.getElem?_map, hj]; rfl
          obtain ⟨b1, b2⟩ := List.getElem?_eq_some_iff.mp g1
          obtain ⟨b3, b4⟩ := List.getElem?_eq_some_iff.mp g2
          exact (List.getElem_inj nd).mp (b2.trans b4.symm)
        rw [hij, hj] at hi
        exact (Option.some.inj hi).symm
      rw [hq2]
      obtain ⟨kvs', g1, g2⟩ := h.ce _ hm
      rw [show H p = some (.dK kvs') from g1] at hk
      cases hk
      exact ⟨kvs, upd_same, KvA.up g2 e1⟩
    · exact (h.ce q hq).up e1 fun o w => keepH _ o ha w
  · exact keepH a o (fun z => n (by rw [z]; exact List.mem_map.mpr ⟨_, hm, rfl⟩)) q
  · by_cases ha : a = p
    · subst ha; rw [upd_same]; simp
    · rw [upd_ne ha]
      exact s4.th a (by rw [upd_ne ha]; exact q)
def lk_ (i : Nat) (a : ME) : ME := fun ds m Φ _ => match ds[i]? with
  | some (some (.ref p)) => cel m p fun _ c => match c with
    | .dK l => a (ds.set i (some (.dK (l.map (·.1)) (l.map (·.2))))) [] (fun d m2 => m2 = [] ∧ gd (noK d) (Φ d m)) X0
    | _ => False
  | _ => False
def lkT_ (i : Nat) (a : MT) : MT := fun ds m Φ _ => match ds[i]? with
  | some (some (.ref p)) => cel m p fun _ c => match c with
    | .dK l => a (ds.set i (some (.dK (l.map (·.1)) (l.map (·.2))))) [] (fun k m2 => m2 = [] ∧ Φ k m) X0
    | _ => False
  | _ => False
section
variable {X : Cx} {W : WX} {e a b c : Expr} {es : List Expr} {ds : DS} {m : Mem} {Φ Ψ : D → Mem → Prop} {Ξ : XP} {p p2 q2 pos apos cpos : Pos} {d : D} {i : Nat}
variable {ta tb tc : ME}
theorem lock_go {pins : List (Addr × Obj)} {σ : L2.St} {F H : Hp} {s : Shared} {q : Addr} {j : Nat} {l : List (Key × D)} (st : StOk X.K F H σ ds m) (I : Inv X pins σ H s) (hd : ds[i]? = some (some (.ref q))) (hj : m[j]? = some (q, .dK l)) :
    ∃ kvs od F2, H q = some (.dK kvs) ∧ Inv X pins σ (upd H q (.frz od (.dK kvs))) s ∧ Same F F2 ∧ F2 q = some (.frz od (.dK kvs)) ∧ (∀ a, a ≠ q → F2 a = F a) ∧ StOk X.K F2 (upd H q (.frz od (.dK kvs))) σ (ds.set i (some (.dK (l.map (·.1)) (l.map (·.2))))) [] := by
  have hm : (q, MC.dK l) ∈ m := List.mem_of_getElem? hj
  have hf : F q = none := st.mem.fr _ hm
  obtain ⟨kvs, ho, h2⟩ := st.mem.ce _ hm
  obtain ⟨vs, rfl, h4, h5⟩ := Paired.un h2
  obtain ⟨od, I3⟩ := I.lock ho trivial
  have e1 : Same F (upd F q (.frz od (.dK ((l.map (·.1)).zip vs)))) := fun a u z => by rw [upd_ne (ne_of_none z hf)]; exact z
  obtain ⟨v, hv, r⟩ := st.sl.get hd
  cases r
  refine ⟨_, od, _, ho, I3, e1, upd_same, fun a ha => upd_ne ha, ⟨fun a u z => ?_, Sl.same (.dK upd_same h4 (h5.up e1)) (st.sl.up e1) hv, ⟨List.nodup_nil, (fun _ h => nomatch h), (fun _ h => nomatch h)⟩⟩⟩
  by_cases ha : a = q
  · subst ha; rw [upd_same] at z; rw [upd_same]; exact z
  · rw [upd_ne ha] at z; rw [upd_ne ha]; exact st.sub a u z
theorem r_lk (ha : RE X W e ta) : RE X W e (lk_ i ta) := ⟨fun {ds m Φ Ξ} h F H σ s Q n x pins sh I => by
  unfold lk_ at h
  split at h
  · next q hd =>
    obtain ⟨j, c, hj, h⟩ := h
    split at h
    · next l =>
      obtain ⟨kvs, od, F2, hk, I3, f1, f2, n2, s2⟩ := lock_go s I hd hj
      refine thn (ha.run h F2 _ σ s2 (fun v H4 => H4 q = some (.frz od (.dK kvs)) ∧ Q v (upd H4 q (.dK kvs))) (fun v F4 H4 d m4 s4 r z => ?_) (fun C dd σ5 F5 H5 ds5 fs m5 _ _ _ z => z.elim) pins sh I3) fun u s1 ⟨v, H4, I4, rv, e4, q4⟩ => ?_
      · obtain ⟨rfl, z⟩ := z
        obtain ⟨hn, z⟩ := gd_t z
        obtain ⟨s5, f4⟩ := Stp.unlock s.sub s.mem hj hk f1 f2 n2 s4
        exact ⟨s4.sub _ _ f4, n _ _ _ _ _ s5 (Rp.cut f4 d v hn r) z⟩
      · exact ⟨v, _, I4.unlock e4 (I.nofrz hk trivial), rv, q4⟩
    · exact h.elim
  · exact h.elim⟩
theorem t_lk {ca : MT} (ha : RT X W e ca) : RT X W e (lkT_ i ca) := ⟨fun {ds m Φ Ξ} h F H σ s Q n x pins sh I => by
  unfold lkT_ at h
  split at h
  · next q hd =>
    obtain ⟨j, c, hj, h⟩ := h
    split at h
    · next l =>
      obtain ⟨kvs, od, F2, hk, I3, f1, f2, n2, s2⟩ := lock_go s I hd hj
      refine thn (ha.run h F2 _ σ s2 (fun v H4 => H4 q = some (.frz od (.dK kvs)) ∧ Q v (upd H4 q (.dK kvs))) (fun k F4 H4 m4 s4 z => ?_) (fun C dd σ5 F5 H5 ds5 fs m5 _ _ _ z => z.elim) pins sh I3) fun u s1 hh => ?_
      · obtain ⟨rfl, z⟩ := z
        obtain ⟨s5, f4⟩ := Stp.unlock s.sub s.mem hj hk f1 f2 n2 s4
        exact ⟨s4.sub _ _ f4, n _ _ _ _ s5 z⟩
      · obtain ⟨H4, I4, e4, q4⟩ := hh
        exact ⟨_, I4.unlock e4 (I.nofrz hk trivial), q4⟩
    · exact h.elim
  · exact h.elim⟩
/-! ### d.pop(k) -/
def dropD {κ : Type} [DecidableEq κ] (l : List (κ × D)) (k : κ) : List (κ × D) := l.filter fun kv => decide (kv.1 ≠ k)
theorem kv_drop {K : PySem.W.Frag} {F : Hp} {k : Key} : ∀ {kvs : List (Key × V)} {l : List (Key × D)}, KvA K F kvs l → KvA K F (dropK kvs k) (dropD l k)
  | _, _, .nil => .nil
  | _, _, .cons (a := a) (b := b) ⟨e, r⟩ t => by
    unfold dropK dropD
    rw [List.filter_cons, List.filter_cons, e]
    split
    · exact .cons ⟨e, r⟩ (kv_drop t)
    · exact kv_drop t
def dpAt (d dk : D) (m : Mem) (Φ : D → Mem → Prop) : Prop := match d with
  | .ref p => cel m p fun j c => match c with
    | .dK l => om (keyOf dk) fun k => om (lkD l k) fun y => Φ y (m.set j (p, .dK (dropD l k)))
    | _ => False
  | _ => False
def dpop_ (o k : ME) : ME := fun ds m Φ Ξ => o ds m (fun d m1 => isDc d m1 (k ds m1 (fun dk m2 => dpAt d dk m2 Φ) Ξ)) Ξ
theorem r_dpop {o k : Expr} (B : Bs X) (ho : RE X W o ta) (hk : RE X W k tb)
    (hbase : attributeBase o "pop" X.env (eval o X.env) = eval o X.env := by rfl)
    (hfew : ((backTo cpos (starEach [k] X.env)).all (fun x => !x.1) && (backToKw cpos (keywordEach [] X.env)).all (fun x => x.1.isSome)
      && decide (([k] : List Expr).length + ([] : List Keyword).length + (if ([] : List Keyword).isEmpty then 0 else 1) < 30)) = true := by rfl)
    (hline : (apos.endLine == cpos.line) = true := by rfl) (htr : backTo cpos (starEach [k] X.env) = [(false, eval k X.env)] := by rfl) :
    RE X W (.Call (.Attribute o "pop" apos) [k] [] cpos) (dpop_ ta tb) := ⟨fun {ds m Φ Ξ} h F H σ s Q n x =>
  We.of (pe_dpop1 pw_e pw_e ⟨hbase, hfew, hline, htr⟩) (ho.run h F H σ s _ (fun v F2 H2 d1 m2 s1 r1 q => by
    obtain ⟨ad, rfl, hD, q⟩ := isD_go s1.sub s1.mem r1 q
    refine ⟨ad, rfl, hD, hk.run q F2 H2 σ (s.go s1) _ (fun u F3 H3 d2 m3 s2 r2 q2 => ?_) (x.go s1)⟩
    cases r1 with
    | ref p =>
      obtain ⟨j, c, hj, q3⟩ := (show cel m3 _ _ from q2)
      have ce := s2.mem.ce _ (List.mem_of_getElem? hj)
      cases c with
      | dK l =>
        obtain ⟨kvs, h1, t⟩ := ce
        obtain ⟨k, hk, q4⟩ := om_some q3
        obtain ⟨y, hy, q5⟩ := om_some q4
        rw [keyOf_is hk] at r2
        rw [rp_key r2]
        obtain ⟨g1, g2⟩ := kv_get (k := k) t
        obtain ⟨v', hv', rv⟩ := g2 y hy
        exact ⟨kvs, k, v', h1, rfl, hv', n _ _ _ _ _ ((s1.trans s2).trans (Stp.putAt (c' := .dK (dropD l k)) s2.sub s2.mem hj ⟨_, upd_same, kv_drop t⟩)) rv q5⟩
      | _ => exact False.elim q3
    | _ => exact False.elim q2) x)⟩
end
end G
namespace G
open PySem PySem.Spec PyProof.Rows L2
section
variable {X : Cx} {W : WX} {e a b c : Expr} {es : List Expr} {ds : DS} {m : Mem} {Φ Ψ : D → Mem → Prop} {Ξ : XP} {p p2 q2 pos apos cpos : Pos} {d : D} {i : Nat}
variable {ta tb tc : ME}
/-! ### dict(d), a copy as a cell -/
theorem kv_of {K : PySem.W.Frag} {F : Hp} : ∀ {ks : List Key} {xs : List V} {l : List D}, ks.length = xs.length → RpA K F xs l → KvA K F (ks.zip xs) (ks.zip l)
  | [], _, _, _, _ => by rw [List.zip_nil_left, List.zip_nil_left]; exact .nil
  | _ :: _, [], _, h, _ => by simp at h
  | k :: ks, x :: xs, _, h, .cons (d := d) (ds := l) r t => by
    rw [List.zip_cons_cons, List.zip_cons_cons]
    exact .cons ⟨rfl, r⟩ (kv_of (by simpa using h) t)
def fDict : F1 := fun d m Φ => match d with
  | .dK ks l => ∀ p, p ∉ dom m → Φ (.ref p) ((p, .dK (ks.zip l)) :: m)
  | _ => False
theorem r_dictD (B : Bs X) (ha : RE X W a ta) (hg : Gl X "dict" := by rfl) (he : starEach [a] X.env = [(false, eval a X.env)] := by rfl) : RE X W (.Call (.Name "dict" p) [a] [] pos) (o1 fDict ta) := ⟨fun {ds m Φ Ξ} h => by
  refine ew_callTy call_dictD B.bi.b_dict PyProof.Rows.boot_dict (aw_cons ((ha.run h).mono fun d m1 q => aw_nil fun F H vs Q s mm r n => ?_) he) hg (he := he) (hpl := rfl)
  cases r with
  | cons r1 t =>
    cases t
    cases r1 with
    | @dK a o ks xs l h1 hl t1 =>
      refine ⟨_, _, rfl, .inr ⟨_, s _ _ h1⟩, fun z hz => ?_⟩
      have hz2 : z ∉ dom m1 := fun y => by
        obtain ⟨w, hw, e⟩ := List.mem_map.mp y
        exact (mm.ce w hw).ne (by rw [e]; exact hz)
      exact n _ _ _ _ _ (Stp.cell (c := .dK (ks.zip l)) s mm hz ⟨_, upd_same, kv_of hl t1⟩) (.ref z) (q z hz2)
    | _ => exact False.elim q⟩
/-! ### range(i, j, -1) -/
def rngDn (i : Int) (n : Nat) : List D := (List.range n).map fun (k : Nat) => .int (i - (k : Int))
theorem yl_dn {K : PySem.W.Frag} {F : Hp} (i : Int) (n : Nat) : Yl K (Itc i (-1) n) F (rngDn i n) := by
  have hl : (rngDn i n).length = n := by simp [rngDn]
  refine ⟨fun k H s hk => by rw [hl] at hk; exact hk, fun H s => by rw [hl]; exact Nat.le_refl n, fun k H x H' F1 m f1 s1 mm hk y => ?_⟩
  obtain ⟨rfl, rfl⟩ := y
  rw [hl] at hk
  refine ⟨F1, .int (i - k), by simp [rngDn, hk], Stp.of s1 mm, ?_⟩
  rw [show i + ((k : Nat) : Int) * (-1) = i - k by omega]
  exact .int _
def it_dn (a b c : ME) : MA := fun ds m Φ Ξ => a ds m (fun d1 m1 => b ds m1 (fun d2 m2 => c ds m2 (fun d3 m3 => match d1, d2, d3 with
  | .int i, .int j, .int k => k = -1 ∧ RgW i (RgW j (Φ (rngDn i (i - j).toNat) m3))
  | _, _, _ => False) Ξ) Ξ) Ξ
theorem i_dn {tg : Expr} (B : Bs X) (ha : RE X W a ta) (hb : RE X W b tb) (hc : RE X W c tc) (hg : Gl X "range" := by rfl) (hs : starEach [a, b, c] X.env = [(false, eval a X.env), (false, eval b X.env), (false, eval c X.env)] := by rfl) (hs2 : starEach [b, c] X.env = [(false, eval b X.env), (false, eval c X.env)] := by rfl) (hs3 : starEach [c] X.env = [(false, eval c X.env)] := by rfl) :
    RI X W tg (.Call (.Name "range" p) [a, b, c] [] pos) (it_dn ta tb tc) := ⟨fun {ds m Φ Ξ} h F H σ s R n x =>
  Wi.of (pi_range3 hg B.bi.b_range (pa_cons pw_e (pa_cons pw_e (pa_cons pw_e pa_nil hs3) (by rw [hs2, hs3])) (by rw [hs, hs2])) (by rw [hs, hs2]) (by rw [hs2]; rfl)) (ha.run h F H σ s _ (fun v F2 H2 d1 m2 s1 r1 q => hb.run q F2 H2 σ (s.go s1) _ (fun v2 F3 H3 d2 m3 s2 r2 q2 => hc.run q2 F3 H3 σ ((s.go s1).go s2) _ (fun v3 F4 H4 d3 m4 s3 r3 q3 => by
    dsimp only at q3
    split at q3
    · next i j k =>
      obtain ⟨rfl, q3⟩ := q3
      cases r1
      cases r2
      cases r3
      exact ⟨i, j, -1, (i - j).toNat, rfl, RgC.neg q3.lo q3.hi q3.run.lo q3.run.hi, n _ F4 H4 _ m4 ((s1.trans s2).trans s3) (yl_dn i _) q3.run.run⟩
    · exact q3.elim) ((x.go s1).go s2)) (x.go s1)) x)⟩
end
end G
namespace G
open PySem PySem.Spec PyProof.Rows L2
/-! ### a comprehension whose list changes later: a cell -/
def toC (Φ : D → Mem → Prop) : D → Mem → Prop := fun d m2 => match d with
  | .lst acc => ∀ p, p ∉ dom m2 → Φ (.ref p) ((p, .lst acc) :: m2)
  | _ => False
section
variable {X : Cx} {W : WX} {e a b c : Expr} {es : List Expr} {ds : DS} {m : Mem} {Φ Ψ : D → Mem → Prop} {Ξ : XP} {N : En} {p pos : Pos} {d : D} {x : Str} {i k n : Nat} {f : Addr} {sp : SpD} {scope : Scope}
theorem lc_goM {elt : Expr} {ifs : List Expr} {g : TG} {vs : List Nat} {asg : D → DS → Option DS} {J : It} {F H F1 H1 : Hp} {m1 : Mem} {items : List D} {σ : L2.St} {Q : VK} (T : Tgt X g vs asg) (s : StOk X.K F H σ ds m) (n : Nm X.K F H m Φ Q) (s1 : Stp X.K F H m F1 H1 m1) (yl : Yl X.K J F1 items) (h : LcI X scope elt ifs asg items ds m1 (toC Φ)) :
    ∀ Dl, H1 Dl = none → ∃ Wv : Nat → Nat → Hp → Prop, (∃ k, Wv 0 k (upd H1 Dl (.lst []))) ∧ ∀ i k H2, Wv i k H2 → (J.stop i H2 ∧ Q (.ref Dl) H2) ∨ (J.go i H2 ∧ ∃ Nx : Hp → Prop, (∀ H', Nx H' → ∃ k', k' < k ∧ Wv (i + 1) k' H') ∧
      ∀ x H', J.yld i H2 x H' → g x (wipe σ vs) H' fun σ2 H2 => wipe σ2 vs = wipe σ vs ∧ wTB X scope ifs σ2 H2 fun b H3 => if b = true then wEB X scope elt σ2 H3 fun y H4 => ∃ acc, H4 Dl = some (.lst acc) ∧ acc.length < sizeLine ∧ Nx (upd H4 Dl (.lst (acc ++ [y]))) else Nx H3) := by
  intro Dl hD
  obtain ⟨I, i0, turn, fin⟩ := h
  let St (i : Nat) (H2 : Hp) : Prop := ∃ F2 m2 acc us, H2 Dl = some (.lst us) ∧ F2 Dl = none ∧ Dl ∉ dom m2 ∧ RpA X.K F2 us acc ∧ Stp X.K F H m F2 H2 m2 ∧ Same F1 F2 ∧ I i acc m2
  have hDH : H Dl = none := by
    cases e : H Dl with
    | none => rfl
    | some o => exact absurd hD (s1.th Dl (by rw [e]; simp))
  refine ⟨fun i k H2 => k = items.length - i ∧ i ≤ items.length ∧ St i H2, ⟨items.length, by simp, Nat.zero_le _, F1, m1, [], [], upd_same, s1.sub.free hD, fun z => ?_, .nil, ?_, Same.refl _, i0⟩, ?_⟩
  · obtain ⟨q, hq, e⟩ := List.mem_map.mp z
    exact (s1.mem.ce q hq).ne (by rw [e]; exact hD)
  · exact s1.trans (Stp.wide s1.sub s1.mem fun a o q => by rw [upd_ne (ne_of_none q hD)]; exact q)
  rintro i k H2 ⟨rfl, hi, F2, m2, acc, us, hl, hfd, hdm, ra, s2, sf, q⟩
  by_cases hlt : i < items.length
  · refine .inr ⟨yl.go i H2 (sf.trans s2.sub) hlt, fun H' => i + 1 ≤ items.length ∧ St (i + 1) H', fun H' p => ⟨items.length - (i + 1), by omega, rfl, p⟩, fun xv H' hy => ?_⟩
    obtain ⟨F3, d, hd, s3, ry⟩ := yl.yld i H2 xv H' F2 m2 sf s2.sub s2.mem hlt hy
    obtain ⟨ds3, ha, ht⟩ := turn i d acc m2 hd q
    have sl0 : SlA X.K F3 (wipe σ vs) (wipeD ds vs) := wipe_sl (s.sl.up (s2.trans s3).fz) vs
    refine T.st F3 H' _ ds ds3 xv d _ s3.sub sl0 ry ha fun σ2 sl2 w2 => ⟨w2.trans (wipe_wipe fun u hu => hu), ?_⟩
    have keepD : ∀ {Fa Ha ma}, Stp X.K F2 H2 m2 Fa Ha ma → Ha Dl = some (.lst us) ∧ Fa Dl = none ∧ Dl ∉ dom ma := fun {Fa Ha ma} sa => by
      refine ⟨sa.keep _ _ hl hdm, sa.new _ _ hl trivial hfd fun z => absurd z hdm, fun z => ?_⟩
      rcases sa.dm _ z with z | z
      · exact hdm z
      · rw [hl] at z; cases z
    refine tb_run ht ⟨s3.sub, sl2, s3.mem⟩ fun t F4 H4 m4 s4 q4 => ?_
    cases t with
    | false =>
      obtain ⟨k1, k2, k3⟩ := keepD (s3.trans s4)
      exact iteF ⟨hlt, F4, m4, acc, us, k1, k2, k3, ra.up (s3.trans s4).fz, s2.trans (s3.trans s4), sf.trans (s3.trans s4).fz, q4⟩
    | true =>
      refine iteT (eb_run (show EB X scope elt ds3 m4 _ from q4) ⟨s4.sub, sl2.up s4.fz, s4.mem⟩ fun y F5 H5 dy m5 s5 r5 hq => ?_)
      obtain ⟨hz, q5⟩ := hq
      have s35 := (s3.trans s4).trans s5
      obtain ⟨k1, k2, k3⟩ := keepD s35
      have rl : us.length = acc.length := ra.len
      refine ⟨us, k1, by rw [rl]; exact hz, hlt, F5, m5, acc ++ [dy], us ++ [y], upd_same, k2, k3, (ra.up s35.fz).app (.cons r5 .nil), ?_, sf.trans s35.fz, q5⟩
      have sA := s2.trans s35
      -- the new list is written
      refine ⟨sA.fz, fun a o z => ?_, ⟨sA.mem.nd, sA.mem.fr, fun pr hp => ?_⟩, fun a o z hn => ?_, sA.new, fun a z => ?_, sA.dm⟩
      · rw [upd_ne (ne_of_none z k2)]; exact sA.sub a o z
      · have ne : pr.1 ≠ Dl := fun e => k3 (by rw [← e]; exact List.mem_map.mpr ⟨pr, hp, rfl⟩)
        exact (sA.mem.ce pr hp).up (Same.refl _) fun o w => by rw [upd_ne ne]; exact w
      · have ne : a ≠ Dl := fun e => by rw [e, hDH] at z; cases z
        rw [upd_ne ne]; exact sA.keep a o z hn
      · by_cases e : a = Dl
        · subst e; rw [upd_same]; simp
        · rw [upd_ne e]; exact sA.th a z
  · have e : i = items.length := by omega
    subst e
    refine .inl ⟨yl.stop H2 (sf.trans s2.sub), ?_⟩
    have hpD : Dl ∉ dom m2 := hdm
    refine n (.ref Dl) F2 H2 (.ref Dl) ((Dl, .lst acc) :: m2) ⟨s2.fz, s2.sub, ⟨List.nodup_cons.mpr ⟨hdm, s2.mem.nd⟩, fun pr hp => ?_, fun pr hp => ?_⟩, s2.keep, fun a ob z t w u => ?_, s2.th, fun a z => ?_⟩ (.ref Dl) (fin acc m2 q Dl hpD)
    · rcases List.mem_cons.mp hp with e | e
      · rw [e]; exact hfd
      · exact s2.mem.fr pr e
    · rcases List.mem_cons.mp hp with e | e
      · rw [e]; exact ⟨us, hl, ra⟩
      · exact s2.mem.ce pr e
    · have ne : a ≠ Dl := fun e => by rw [e, hDH] at z; cases z
      exact s2.new a ob z t w fun y => by
        rcases List.mem_cons.mp (u y) with e | e
        · exact absurd e ne
        · exact e
    · rcases List.mem_cons.mp z with e | e
      · exact .inr (by rw [e]; exact hDH)
      · exact s2.dm a e
theorem ew_lcM {elt tg iter : Expr} {ifs : List Expr} {own : List (Str × Nat)} {g : TG} {asg : D → DS → Option DS} (hN : X.N.Nodup) (ok : BlkOk X.N X.env.scope scope own) (T : Tgt X g (own.map (·.2)) asg)
    (hg : ∀ (s : Shared) (H : Hp) (C : Addr) (cl : List (Str × Addr)) (fp : List Addr), PG (X.blk s H scope (compEnvC scope cl C X.env) fp) tg g) (h : IW X W tg iter ds m (fun items m1 => LcI X scope elt ifs asg items ds m1 (toC Φ)) Ξ)
    (hs : ∀ x, foldedSetIterable iter X.env x = pure x := by with_unfolding_all (intro _; rfl)) (hc : X.calm = true := by with_unfolding_all rfl) : EW X W (.ListComp elt [⟨tg, iter, ifs, 0⟩] scope pos) ds m Φ Ξ := fun F H σ s Q n x =>
  We.of (pe_lc hc hN pw_i ok hg (fun s0 H0 C cl fp => pb_t s0 H0 C cl fp) (fun s0 H0 C cl fp => pb_e s0 H0 C cl fp) hs) (h F H σ s _ (fun J F2 H2 items m2 s1 yl q => lc_goM T s n s1 yl q) x)
/-- y = [..] -/
theorem sw_setLcM {elt tg iter : Expr} {ifs : List Expr} {own : List (Str × Nat)} {g : TG} {asg : D → DS → Option DS} (i : Nat) {y : Str} {yp spos : Pos} (hN : X.N.Nodup) (ok : BlkOk X.N X.env.scope scope own) (T : Tgt X g (own.map (·.2)) asg) (hyl : X.env.scope.names.lookup y = some .local)
    (hsw : swapsWith (.ListComp elt [⟨tg, iter, ifs, 0⟩] scope pos) (some (.Name y yp)) spos.line X.env = pure true)
    (hg : ∀ (s : Shared) (H : Hp) (C : Addr) (cl : List (Str × Addr)) (fp : List Addr), PG (X.blk s H scope (compEnvC scope cl C X.env) fp) tg g) (h : IW X W tg iter ds m (fun items m1 => LcI X scope elt ifs asg items ds m1 (toC fun d m2 => N.nx (ds.set i (some d)) m2)) Ξ)
    (hy : X.N[i]? = some y := by with_unfolding_all rfl) (hs : ∀ x, foldedSetIterable iter X.env x = pure x := by with_unfolding_all (intro _; rfl)) (hc : X.calm = true := by with_unfolding_all rfl) : SW X W (.Assign [.Name y yp] (.ListComp elt [⟨tg, iter, ifs, 0⟩] scope pos) spos) ds m N Ξ := fun F H σ s De n x =>
  Ws.of (ps_setLc hc hN hy hyl hsw pw_i ok hg (fun s0 H0 C cl fp => pb_t s0 H0 C cl fp) (fun s0 H0 C cl fp => pb_e s0 H0 C cl fp) hs) (h F H σ s _ (fun J F2 H2 items m2 s1 yl q => lc_goM (Q := fun v H' => De.nx (σ.set i (some v)) H') T s (fun v F3 H3 d m3 s3 r q3 => n.nx _ F3 H3 _ m3 s3 ((s.sl.up s3.fz).set i (.val r)) q3) s1 yl q) x)
end
section
variable {X : Cx} {W : WX} {e a b c : Expr} {es : List Expr} {ds : DS} {m : Mem} {Φ Ψ : D → Mem → Prop} {Ξ : XP} {N : En} {p pos : Pos} {d : D} {x : Str} {i k n : Nat} {scope : Scope} {ta : ME}
def lcM_ (it : MA) (asg : D → DS → Option DS) (t : Option MT) (ta : ME) : ME := fun ds m Φ Ξ => it ds m (fun items m1 => LcW asg t ta items ds m1 (toC Φ)) Ξ
theorem r_lcM {elt tg iter : Expr} {ifs : List Expr} {own : List (Str × Nat)} {g : TG} {asg : D → DS → Option DS} {it : MA} {t : Option MT} (B : Bs X) (ok : BlkOk X.N X.env.scope scope own) (T : Tgt X g (own.map (·.2)) asg)
    (hg : ∀ (s : Shared) (H : Hp) (C : Addr) (cl : List (Str × Addr)) (fp : List Addr), PG (X.blk s H scope (compEnvC scope cl C X.env) fp) tg g) (hi : RI X W tg iter it) (ht : RTb X scope ifs t) (he : REb X scope elt ta)
    (hs : ∀ x, foldedSetIterable iter X.env x = pure x := by intro _; rfl) (hc : X.calm = true := by rfl) : RE X W (.ListComp elt [⟨tg, iter, ifs, 0⟩] scope pos) (lcM_ it asg t ta) := ⟨fun h => ew_lcM B.nd ok T hg ((hi.run h).mono fun _ _ q => lc_of he ht q) hs hc⟩
theorem s_setLcM {elt tg iter : Expr} {ifs : List Expr} {own : List (Str × Nat)} {g : TG} {asg : D → DS → Option DS} {it : MA} {t : Option MT} {y : Str} {yp spos : Pos} (B : Bs X) (ok : BlkOk X.N X.env.scope scope own) (T : Tgt X g (own.map (·.2)) asg)
    (hg : ∀ (s : Shared) (H : Hp) (C : Addr) (cl : List (Str × Addr)) (fp : List Addr), PG (X.blk s H scope (compEnvC scope cl C X.env) fp) tg g) (hi : RI X W tg iter it) (ht : RTb X scope ifs t) (he : REb X scope elt ta) (hyl : X.env.scope.names.lookup y = some .local := by rfl)
    (hsw : swapsWith (.ListComp elt [⟨tg, iter, ifs, 0⟩] scope pos) (some (.Name y yp)) spos.line X.env = pure true := by rfl) (hy : X.N[i]? = some y := by rfl) (hs : ∀ x, foldedSetIterable iter X.env x = pure x := by intro _; rfl) (hc : X.calm = true := by rfl) :
    RS X W (.Assign [.Name y yp] (.ListComp elt [⟨tg, iter, ifs, 0⟩] scope pos) spos) (set_ i (lcM_ it asg t ta)) := ⟨fun h => sw_setLcM i B.nd ok T hyl hsw hg ((hi.run h).mono fun _ _ q => lc_of he ht q) hy hs hc⟩
end
end G
namespace G
open PySem PySem.Spec PyProof.Rows L2
section
variable {X : Cx} {W : WX} {e a b c : Expr} {es : List Expr} {ds : DS} {m : Mem} {Φ Ψ : D → Mem → Prop} {Ξ : XP} {p p2 q2 pos apos cpos : Pos} {d : D} {i : Nat}
variable {ta tb tc : ME}
/-! ### str(int), int(text) -/
def fStr : F1 := fun d m Φ => match d with
  | .int i => gd (decide (i.natAbs.log2 < 1920)) (Φ (.str (toString i)) m)
  | _ => False
theorem r_str1 (B : Bs X) (ha : RE X W a ta) (hg : Gl X "str" := by rfl) (he : starEach [a] X.env = [(false, eval a X.env)] := by rfl) : RE X W (.Call (.Name "str" p) [a] [] pos) (o1 fStr ta) := ⟨fun {ds m Φ Ξ} h => by
  refine ew_callTy call_str_int B.bi.b_str PyProof.Rows.boot_str (aw_cons ((ha.run h).mono fun d m1 q => aw_nil fun F H vs Q s mm r n => ?_) he) hg (he := he) (hpl := rfl)
  cases r with
  | cons r1 t =>
    cases t
    cases r1 with
    | int i =>
      obtain ⟨hz, q⟩ := gdd q
      exact ⟨i, rfl, hz, n.now s mm (.str _) q⟩
    | _ => exact False.elim q⟩
def fIntS : F1 := fun d m Φ => match d with
  | .str a => om (PySem.intText? a) fun n => gd (decide (a.length ≤ 640)) (Φ (.int n) m)
  | _ => False
theorem r_intS (B : Bs X) (ha : RE X W a ta) (hg : Gl X "int" := by rfl) (he : starEach [a] X.env = [(false, eval a X.env)] := by rfl) : RE X W (.Call (.Name "int" p) [a] [] pos) (o1 fIntS ta) := ⟨fun {ds m Φ Ξ} h => by
  refine ew_callTy call_int_str B.bi.b_int PyProof.Rows.boot_int (aw_cons ((ha.run h).mono fun d m1 q => aw_nil fun F H vs Q s mm r n => ?_) he) hg (he := he) (hpl := rfl)
  cases r with
  | cons r1 t =>
    cases t
    cases r1 with
    | str z =>
      obtain ⟨k, hk, q⟩ := om_some q
      obtain ⟨hz, q⟩ := gdd q
      exact ⟨z, k, rfl, hk, hz, n.now s mm (.int _) q⟩
    | _ => exact False.elim q⟩
/-! ### f-strings -/
def fmt_ (ta : ME) : ME := fun ds m Φ Ξ => ta ds m (fun d m1 => match d with
  | .str y => gd (decide (y.length ≤ sizeLine)) (Φ (.str y) m1)
  | .int i => gd (decide (i.natAbs.log2 < 1920)) (Φ (.str (toString i)) m1)
  | _ => False) Ξ
theorem r_fmt (ha : RE X W e ta) : RE X W (.FormattedValue e (-1) none pos) (fmt_ ta) := ⟨fun {ds m Φ Ξ} h F H σ s Q n x =>
  We.of (pe_fmt pw_e) (ha.run h F H σ s _ (fun v F2 H2 d m2 s1 r q => by
    cases r with
    | str y =>
      obtain ⟨hz, q⟩ := gdd q
      exact .inl ⟨y, rfl, hz, n _ F2 H2 _ m2 s1 (.str y) q⟩
    | int i =>
      obtain ⟨hz, q⟩ := gdd q
      exact .inr ⟨i, rfl, hz, n _ F2 H2 _ m2 s1 (.str _) q⟩
    | _ => exact False.elim q) x)⟩
inductive RJ (X : Cx) (W : WX) : List Expr → List ME → Prop
  | nil : RJ X W [] []
  | cons {e : Expr} {es : List Expr} {t : ME} {ts : List ME} (h : RE X W e t) (r : RJ X W es ts) : RJ X W (e :: es) (t :: ts)
def js_ : List ME → Str → ME
  | [], acc => fun _ m Φ _ => Φ (.str acc) m
  | t :: ts, acc => fun ds m Φ Ξ => t ds m (fun d m1 => match d with
    | .str y => gd (decide ((acc ++ y).length ≤ sizeLine)) (js_ ts (acc ++ y) ds m1 Φ Ξ)
    | _ => False) Ξ
theorem pj_we : ∀ es : List Expr, PJ X es (es.map fun e => We X e)
  | [] => .nil
  | _ :: es => .cons pw_e (pj_we es)
theorem js_run {ts : List ME} (r : RJ X W es ts) : ∀ {acc : Str} {ds : DS} {m : Mem} {Φ : D → Mem → Prop} {Ξ : XP}, js_ ts acc ds m Φ Ξ → ∀ F H σ, StOk X.K F H σ ds m → ∀ Q : VK, Nm X.K F H m Φ Q → Xc X.K F H m Ξ W → tJs (es.map fun e => We X e) acc σ H fun out H1 => Q (.str out) H1 := by
  induction r with
  | nil => intro acc ds m Φ Ξ h F H σ s Q n x; exact n _ F H _ m s.stp (.str _) h
  | cons ha r ih =>
    intro acc ds m Φ Ξ h F H σ s Q n x
    refine ha.run h F H σ s _ (fun v F2 H2 d m2 s1 rv q => ?_) x
    cases rv with
    | str y =>
      obtain ⟨hz, q⟩ := gdd q
      exact ⟨y, rfl, hz, ih q F2 H2 σ (s.go s1) Q (n.go s1) (x.go s1)⟩
    | _ => exact False.elim q
theorem r_js {v1 v2 : Expr} {rest : List Expr} {ts : List ME} (r : RJ X W (v1 :: v2 :: rest) ts) : RE X W (.JoinedStr (v1 :: v2 :: rest) pos) (js_ ts Str.empty) := ⟨fun {ds m Φ Ξ} h F H σ s Q n x =>
  We.of (pe_joined (pj_we _)) (js_run r h F H σ s Q n x)⟩
end
end G
namespace G
open PySem PySem.Spec PyProof.Rows L2
section
variable {X : Cx} {W : WX} {e a b c : Expr} {es rs : List Expr} {ds : DS} {m : Mem} {Φ Ψ : D → Mem → Prop} {Ξ : XP} {p p2 q2 pos apos cpos : Pos} {d : D} {i : Nat}
variable {ta tb tc : ME}
/-! ### list or value -/
def orL_ (a b : ME) : ME := fun ds m Φ Ξ => a ds m (fun d m1 => match d with
  | .lst l => br (!l.isEmpty) (Φ (.lst l) m1) (b ds m1 Φ Ξ)
  | _ => False) Ξ
theorem RpA.emp {K : PySem.W.Frag} {F : Hp} {xs : List V} {l : List D} (h : RpA K F xs l) : xs.isEmpty = l.isEmpty := by cases h <;> rfl
theorem r_orL (ha : RE X W a ta) (hb : RE X W (.BoolOp .Or (b :: rs) pos) tb) : RE X W (.BoolOp .Or (a :: b :: rs) pos) (orL_ ta tb) := ⟨fun {ds m Φ Ξ} h F H σ s Q n x =>
  We.of (pe_orT pw_e pw_e) (ha.run h F H σ s _ (fun v F2 H2 d m2 s1 r q => by
    cases r with
    | lst hl rl =>
      rename_i a xs ds'
      refine ⟨!xs.isEmpty, .inl ⟨xs, .inl (.inl (s1.sub _ _ hl)), rfl⟩, ?_⟩
      rw [rl.emp]
      dsimp only at q
      cases hz : ds'.isEmpty with
      | false =>
        rw [hz] at q
        exact iteT (n _ F2 H2 _ m2 s1 (.lst hl rl) q)
      | true =>
        rw [hz] at q
        exact iteF ((hb.run q) F2 H2 σ (s.go s1) Q (n.go s1) (x.go s1))
    | _ => exact False.elim q) x)⟩
end
end G
namespace G
open PySem PySem.Spec PyProof.Rows L2
/-! ### tuples made at run time of which we know that they have no dict of their own -/
section
variable {X : Cx} {W : WX} {e a b c : Expr} {es : List Expr} {ds : DS} {m : Mem} {Φ Ψ : D → Mem → Prop} {Ξ : XP} {p p2 q2 pos : Pos} {d : D}
variable {ta tb tc : ME} {aa : MA} {t : TA}
def tTupN (t : TA) : TE := fun σ H Q => t σ H fun xs H1 => xs.length ≤ sizeLine ∧ ∀ p (o : Obj), H1 p = none → o.dict = none → Q (.ref p) (upd H1 p (.frz o (.tup xs)))
theorem pe_tupN {x1} (h : PA X es t) : PE X (.Tuple es x1 pos) (tTupN t) := ⟨fun pins s σ H Q I hq => by
  refine wpAny_Tuple_spliced (thn (h.run pos pins s σ H _ I hq) fun us s1 ⟨xs, H1, I1, r, z, q⟩ => ⟨by rw [← r.length]; exact z, ?_⟩)
  have go := Heap.get?_push_size (h := s1.heap) (o := { cls := .type "tuple", data := .seq us.toArray }) rfl
  exact ⟨.ref s1.heap.objs.size, upd H1 s1.heap.objs.size (.frz _ (.tup xs)), I1.laid (t' := s1.toks) (fun b u e => Heap.get?_push_of_some _ e) (Nat.le_refl _) (show ObjOk X.prog X.w _ _ _ (.frz _ (.tup xs)) from ⟨go, z, us, r, ⟨_, go, rfl, _, rfl⟩⟩), rfl, q _ _ (I1.hok.fresh (Nat.le_refl _)) rfl⟩⟩
theorem laidN {F H : Hp} {p : Addr} {o : Obj} {vs : List V} {l : List D} {Q : VK} (s : Stp X.K F H m F H m) (hp : H p = none) (ho : o.dict = none) (r : RpA X.K F vs l) (n : Nm X.K F H m Φ Q) (q : Φ (.ktp l) m) : Q (.ref p) (upd H p (.frz o (.tup vs))) := by
  have s2 := Stp.lay (o := .frz o (.tup vs)) s.sub s.mem hp
  exact n _ _ _ _ _ s2 (.ktp (.inl ⟨o, ho, upd_same⟩) (r.up s2.fz)) q
def tupN_ (a : MA) : ME := fun ds m Φ Ξ => a ds m (fun l m1 => gd (decide (l.length ≤ sizeLine)) (Φ (.ktp l) m1)) Ξ
theorem r_tupN {k} (ha : RA X W es aa) : RE X W (.Tuple es k pos) (tupN_ aa) := ⟨fun {ds m Φ Ξ} h F H σ s Q n x =>
  We.of (pe_tupN pw_a) (ha.run h F H σ s _ (fun vs F2 H2 l m2 s1 r q => by
    obtain ⟨hl, q⟩ := gd_t q
    refine ⟨by rw [r.len]; exact of_decide_eq_true hl, fun p o hp ho => ?_⟩
    have s2 := Stp.lay (o := .frz o (.tup vs)) s1.sub s1.mem hp
    exact n _ _ _ _ _ (s1.trans s2) (.ktp (.inl ⟨o, ho, upd_same⟩) (r.up s2.fz)) q) x)⟩
/-! tuple(l) -/
theorem call_tupN : CallR X (.type "tuple") (fun xs H Q => ∃ p ys, xs = [.ref p] ∧ SqL X.K H p ys ∧ ∀ l (o : Obj), H l = none → o.dict = none → Q (.ref l) (upd H l (.frz o (.tup ys)))) := by
  intro pins s σ H xs us Q I r h
  obtain ⟨p, ys, rfl, hq, q⟩ := h
  obtain ⟨u, rfl, rx⟩ := vals1 r
  cases rx
  obtain ⟨its, r', pl, hz⟩ := I.list hq
  have hlen := r'.length
  refine call_tuple_list pl.isList (fun h' kp => ?_) (by simp only [List.size_toArray] <;> omega)
  have I1 : Inv X pins σ H { s with heap := h' } := I.kept (t' := s.toks) kp
  have go := Heap.get?_push_size (h := h') (o := { cls := .type "tuple", data := .seq its.toArray }) rfl
  exact ⟨.ref h'.objs.size, _, I1.laid (t' := s.toks) (fun b o e => Heap.get?_push_of_some _ e) (Nat.le_refl _) (show ObjOk X.prog X.w _ _ _ (.frz _ (.tup ys)) from ⟨go, hz, its, r', ⟨_, go, rfl, _, rfl⟩⟩), rfl, q _ _ (I1.hok.fresh (Nat.le_refl _)) rfl⟩
def fTupN : F1 := fun d m Φ => match d with
  | .lst l => Φ (.ktp l) m
  | _ => False
theorem r_tupcN (B : Bs X) (ha : RE X W a ta) (hg : Gl X "tuple" := by rfl) (he : starEach [a] X.env = [(false, eval a X.env)] := by rfl) : RE X W (.Call (.Name "tuple" p) [a] [] pos) (o1 fTupN ta) := ⟨fun {ds m Φ Ξ} h => by
  refine ew_callTy call_tupN B.bi.b_tuple boot_tuple (aw_cons ((ha.run h).mono fun d m1 q => aw_nil fun F H vs Q s mm r n => ?_) he) hg (he := he) (hpl := rfl)
  cases r with
  | cons r1 t =>
    cases t
    cases d with
    | lst l =>
      cases r1 with
      | @lst ad xs _ h1 t1 => exact ⟨_, _, rfl, .inl (.inl (s _ _ h1)), fun o ob ho hd => laidN (Stp.of s mm) ho hd t1 n q⟩
    | _ => exact False.elim q⟩
/-! t + u -/
def rCatN (K : PySem.W.Frag) : R2 := fun x y H Q => ∃ a b xs ys, x = .ref a ∧ y = .ref b ∧ SqT K H a xs ∧ SqT K H b ys ∧ xs.length + ys.length ≤ sizeLine ∧
  (xs = [] → Q (.ref b) H) ∧ (xs ≠ [] → ys = [] → Q (.ref a) H) ∧ (xs ≠ [] → ys ≠ [] → ∀ p (o : Obj), H p = none → o.dict = none → Q (.ref p) (upd H p (.frz o (.tup (xs ++ ys)))))
theorem op_catN : OpR X (binaryOp .Add) (rCatN X.K) := by
  intro pins s σ H x y v u Q I rx ry h
  obtain ⟨a, b, xs, ys, rfl, rfl, ha, hb, hz, q0, q1, q2⟩ := h
  cases rx
  cases ry
  obtain ⟨its, r1, p1, _⟩ := I.tuple ha
  obtain ⟨its2, r2, p2, _⟩ := I.tuple hb
  by_cases hx : xs = []
  · subst hx
    cases r1
    exact cat_tup0 p1 p2 ⟨.ref b, H, I, rfl, q0 rfl⟩
  · refine HT.cat_tup p1 p2 (fun z => hx (r1.nil_iff.mp z)) (fun z => ⟨.ref a, H, I, rfl, q1 hx (r2.nil_iff.mp z)⟩) (fun z => ?_) (by rw [← r1.length, ← r2.length]; exact hz)
    have go := Heap.get?_push_size (h := s.heap) (o := { cls := .type "tuple", data := .seq (its ++ its2).toArray }) rfl
    exact ⟨.ref s.heap.objs.size, _, I.laid (t' := s.toks) (o := .frz _ (.tup (xs ++ ys))) (fun b ob q => Heap.get?_push_of_some _ q) (Nat.le_refl _) (show ObjOk X.prog X.w _ _ _ (.frz _ (.tup (xs ++ ys))) from ⟨go, by rw [List.length_append]; exact hz, _, r1.append r2, ⟨_, go, rfl, _, rfl⟩⟩), rfl, q2 hx (fun w => z (r2.nil_iff.mpr w)) _ _ (I.hok.fresh (Nat.le_refl _)) rfl⟩
def oAddN : F2 := fun d1 d2 m Φ => match d1, d2 with
  | .ktp a, .ktp b => gd (decide (a.length + b.length ≤ sizeLine)) (Φ (.ktp (a ++ b)) m)
  | _, _ => False
theorem g_addN {d1 d2 : D} (h : oAddN d1 d2 m Φ) : RD X (rCatN X.K) d1 d2 m Φ := fun F H x y Q s mm r1 r2 n => by
  unfold oAddN at h
  split at h
  · next a b =>
    obtain ⟨hz, q⟩ := gd_t h
    have hz := of_decide_eq_true hz
    cases r1 with
    | @ktp p1 xs _ h1 t1 =>
      cases r2 with
      | @ktp p2 ys _ h2 t2 =>
        refine ⟨_, _, xs, ys, rfl, rfl, same_t s h1.t, same_t s h2.t, by rw [t1.len, t2.len]; exact hz, fun e => ?_, fun _ e => ?_, fun _ _ p o hp ho => laidN (Stp.of s mm) hp ho (t1.app t2) n q⟩
        · subst e
          cases t1
          exact n.now s mm (.ktp h2 t2) q
        · subst e
          cases t2
          rw [List.append_nil] at q
          exact n.now s mm (.ktp h1 t1) q
  · exact h.elim
theorem r_addN (ha : RE X W a ta) (hb : RE X W b tb) : RE X W (.BinOp a .Add b pos) (o2 oAddN ta tb) := ⟨fun h => ew_bin op_catN (two g_addN ha hb h)⟩
/-! t.index(i) -/
def tNix (K : PySem.W.Frag) (to : TE) (t : TA) : TE := fun σ H Q => to σ H fun x H1 => (∃ p xs, x = .ref p ∧ SqN K H1 p xs) ∧ t σ H1 fun vs H2 => ∃ p, ∃ ns : List Int, ∃ z, x = .ref p ∧ vs = [.int z] ∧ SqT K H2 p (ns.map V.int) ∧ z ∈ ns ∧ Q (.int (ns.idxOf z : Nat)) H2
theorem pe_nix {o : Expr} {apos cpos : Pos} {to : TE} (ho : PE X o to) (ha : PA X (e :: es) t)
    (hbase : attributeBase o "index" X.env (eval o X.env) = eval o X.env := by rfl)
    (hfew : ((backTo cpos (starEach (e :: es) X.env)).all (fun x => !x.1) && (backToKw cpos (keywordEach [] X.env)).all (fun x => x.1.isSome) && decide ((e :: es).length + ([] : List Keyword).length + (if ([] : List Keyword).isEmpty then 0 else 1) < 30)) = true := by rfl)
    (hline : (apos.endLine == cpos.line) = true := by rfl) (hs : starEach (e :: es) X.env = (false, eval e X.env) :: starEach es X.env := by rfl) (hplain : (backTo cpos (starEach es X.env)).any (·.1) = false := by rfl) :
    PE X (.Call (.Attribute o "index" apos) (e :: es) [] cpos) (tNix X.K to t) := ⟨fun pins s σ H Q I h => by
  refine wpAny_Call_method_late hbase hfew hline rfl (thn (ho.run pins s σ H _ I h) fun v s1 ⟨x, H1, I1, r1, ty, q1⟩ => ?_)
  obtain ⟨p, xs, rfl, hn⟩ := ty
  obtain rfl : v = Value.ref p := r1
  have hh : ∃ ob, s1.heap.get? p = some ob ∧ ob.cls = .type "tuple" ∧ ob.dict = none := by
    rcases hn with ⟨ob, h0, hf⟩ | ⟨ob, its, n, h1, h2, h3, _⟩
    · obtain ⟨g1, _, its, _, ob2, g2, g3, _⟩ := (show ObjOk X.prog X.w H1 s1.heap p (.frz ob (.tup xs)) from I1.hok _ _ hf)
      rw [g1] at g2; cases g2
      exact ⟨ob, g1, g3, h0⟩
    · obtain ⟨g1, g2⟩ := tyV_is (T := "tuple") (x := .ref p) I1 rfl (.inr (.inl ⟨rfl, ob, h1, h2, h3⟩))
      obtain ⟨ob2, g3, g4⟩ := g2 p rfl
      obtain ⟨ob3, g5, g6⟩ := g1
      rw [g3] at g5; cases g5
      exact ⟨ob2, g3, g6, g4⟩
  obtain ⟨ob, hg, hcl, hdn⟩ := hh
  refine ⟨"tuple", "tuple.index", PySem.F.plainAttrs_tuple, PySem.F.slot_tuple_index, PySem.F.type_tuple_index, ⟨ob, hg, hcl⟩, fun a ea => by cases ea; exact ⟨ob, hg, hdn⟩, ?_⟩
  have hA := ha.run cpos pins s1 σ H1 _ I1 q1
  rw [hs] at hA ⊢
  refine Calls.callWith_builtin (by show (false || (backTo cpos (starEach es X.env)).any (·.1)) = false; rw [hplain] <;> rfl) (Calls.evalArgs_plain ?_)
  exact thn hA fun us s2 ⟨vs, H2, I2, r2, q2⟩ => mt_tix pins s2 σ H2 (.ref p) vs (.ref p) us Q I2 rfl r2 q2⟩
def nix_ (o : ME) (a : MA) : ME := fun ds m Φ Ξ => o ds m (fun d m1 => match d with
  | .ktp ys => a ds m1 (fun l m2 => match l with
    | [.int z] => ∃ ns : List Int, ys = ns.map D.int ∧ z ∈ ns ∧ Φ (.int (ns.idxOf z : Nat)) m2
    | _ => False) Ξ
  | _ => False) Ξ
theorem r_nix {o : Expr} {apos cpos : Pos} (ho : RE X W o ta) (ha : RA X W (e :: es) aa) (hbase : attributeBase o "index" X.env (eval o X.env) = eval o X.env := by rfl)
    (hfew : ((backTo cpos (starEach (e :: es) X.env)).all (fun x => !x.1) && (backToKw cpos (keywordEach [] X.env)).all (fun x => x.1.isSome) && decide ((e :: es).length + ([] : List Keyword).length + (if ([] : List Keyword).isEmpty then 0 else 1) < 30)) = true := by rfl)
    (hline : (apos.endLine == cpos.line) = true := by rfl) (hs : starEach (e :: es) X.env = (false, eval e X.env) :: starEach es X.env := by rfl) (hplain : (backTo cpos (starEach es X.env)).any (·.1) = false := by rfl) :
    RE X W (.Call (.Attribute o "index" apos) (e :: es) [] cpos) (nix_ ta aa) := ⟨fun {ds m Φ Ξ} h F H σ s Q n x =>
  We.of (pe_nix pw_e pw_a hbase hfew hline hs hplain) (ho.run h F H σ s _ (fun v F2 H2 d1 m2 s1 r1 q => by
    cases r1 with
    | @ktp p1 xs ys h1 t1 =>
      refine ⟨⟨p1, xs, rfl, h1.mono s1.sub⟩, ha.run q F2 H2 σ (s.go s1) _ (fun vs F3 H3 l m3 s2 rs q2 => ?_) (x.go s1)⟩
      dsimp only at q2
      split at q2
      · next z =>
        obtain ⟨ns, rfl, hz, q3⟩ := q2
        cases rs with
        | cons ry t =>
          cases t
          cases ry
          cases rpA_ints t1
          exact ⟨_, ns, z, rfl, rfl, same_t (fun a o w => s2.sub _ _ (s2.fz _ _ w)) h1.t, hz, n _ _ _ _ _ (s1.trans s2) (.int _) q3⟩
      · exact q2.elim
    | _ => exact False.elim q) x)⟩
/-! len(set(t)) -/
def fLenSetN : F1 := fun d m Φ => match d with
  | .ktp l => ∃ ns : List Int, l = ns.map D.int ∧ ns.length < 64 ∧ ∀ c : Nat, (∃ ks : List Int, ks.length = c ∧ ks.Nodup ∧ ∀ k, k ∈ ks ↔ k ∈ ns) → Φ (.int c) m
  | _ => False
theorem r_lenSetN (B : Bs X) (ha : RE X W a ta) (hc : X.calm = true := by rfl) (hg : Gl X "len" := by rfl) (hg2 : Gl X "set" := by rfl) (he : starEach [a] X.env = [(false, eval a X.env)] := by rfl) :
    RE X W (.Call (.Name "len" p) [.Call (.Name "set" p2) [a] [] q2] [] pos) (o1 fLenSetN ta) := ⟨fun {ds m Φ Ξ} h F H σ s Q n x pins sh I => by
  let Q' : VK := fun v H2 => ∃ F2 d m2, Stp X.K F H m F2 H2 m2 ∧ Rp X.K F2 v d ∧ fLenSetN d m2 Φ
  refine Call_ (ld_blt I hg B.bi.b_len PySem.boot_len ?_)
  refine PyProof.Rows.callWith_builtin1 (PyProof.Rows.args_cons ?_ rfl) rfl rfl
  refine Call_ (ld_blt I hg2 B.bi.b_set PyProof.Rows.boot_set ?_)
  have he' : starEach [a] X.env = (false, eval a X.env) :: starEach [] X.env := he
  refine PyProof.Rows.callWith_type1 (PyProof.Rows.args_cons (thn (ha.run h F H σ s Q' (fun v F2 H2 d m2 s1 r q => ⟨F2, d, m2, s1, r, q⟩) x pins sh I) fun u s1 hh => PyProof.Rows.args_nil ?_) he') he' rfl
  obtain ⟨v, H2, I1, ru, F2, d, m2, st, rv, q⟩ := hh
  cases rv with
  | @ktp la xs l h1 t =>
    obtain rfl : u = Value.ref la := ru
    obtain ⟨ns, rfl, h64, q⟩ := (show ∃ ns : List Int, l = ns.map D.int ∧ _ from q)
    cases rpA_ints t
    obtain ⟨its, rs, pl, hz⟩ := I1.tuple (same_t st.sub h1.t)
    refine call_set_tupI ns (I1.ok.hd hc) pl (by simpa using intsAre_vals' rs) (by unfold scanBound; omega) fun h' tk c R hcn kp => ?_
    refine PyProof.Rows.args_nil ?_
    obtain ⟨o, es, ep, tb, go, gex, gd, _, nd, mem, fw, ft, sz, _, _⟩ := R
    have I2 : Inv X pins σ H2 { s1 with heap := h', toks := tk } := I1.kept kp
    have hlen : (es.toList.map L2.keyOf).length = es.size := by rw [List.length_map, Array.length_toList]
    refine call_len_set go gex gd ft (by omega) ⟨.int (es.size : Nat), H2, I2.tok _, ⟨_, rfl⟩, ?_⟩
    refine n _ _ _ _ _ st (.int _) (q es.size ⟨es.toList.map L2.keyOf, hlen, nd, fun k => ?_⟩)
    rw [← mem k]
    exact decide_eq_true_iff
  | _ => exact False.elim q⟩
end
end G
namespace DL
open PySem PySem.Spec PyProof.Rows L2 G
structure Ad where
  mt : Addr → Value → Option Bool
  fn : Str → Addr
  DrawerError : Addr
  BadDrawers : Addr
  BadBars : Addr
  BadCabinet : Addr
  BadStanding : Addr
  BadPattern : Addr
  BadDrawer : Addr
  BadSet : Addr
  BadPairs : Addr
  BadNumber : Addr
  BadTries : Addr
  Barred : Addr
  TooMany : Addr
  Unlike : Addr
  InvalidText : Addr
  BadCosts : Addr
  BadOrder : Addr
  BadSeen : Addr
  Cabinet : Addr
  Desk : Addr
def d_MOST_DRAWERS : D := .int 7
def d_MOST_GUARDED : D := .int 4
def d_MOST_ADDED : D := .int 2
def d_MOST_TRIES : D := .int 30
def d_MOST_SEEN : D := .int 60
def d_MOST_FEW : D := .int 4
def d_MOST_LENGTH : D := .int 1000000000000000000000000000000
def d_MOST_DIVISOR : D := .int 1000000000
def d_MOST_COST : D := .int 1000000000000000000000000000000
def d_MOST_PULLS : D := .int 60
def d_OPEN : D := .str "open"
def d_SHUT : D := .str "shut"
def d_STANDS : D := .ktp [.str "open", .str "shut"]
local macro_rules | `(tactic| walk_at "w") => `(tactic| conv => whnf)
end DL
namespace DL
open PySem PySem.Spec PyProof.Rows L2 G
def t_is_from (A : Ad) : MS := (seq (ret_ (and_ (o1 (fIs "int") (v_ 0)) (and_ (not_ (o1 (fIs "bool") (v_ 0))) (chLL (v_ 1) (v_ 0) (v_ 2)))))
  nil_s)
def c_is_from (A : Ad) : SpD := cF (t_is_from A) 0
def t_is_stand (A : Ad) : MS := (seq (ret_ (and_ (o1 (fIs "str") (v_ 0)) (o2 (oIn false) (v_ 0) (k_ d_STANDS))))
  nil_s)
def c_is_stand (A : Ad) : SpD := cF (t_is_stand A) 0
def t_is_bar (A : Ad) : MS := (seq (if_ (tor (tnot (tst (o1 (fIs "tuple") (v_ 1)))) (tor (tst (o2 oNe (o1 fLen (v_ 1)) (k_ (.int 4)))) (tor (tnot (tst (call_ 1 (c_is_stand A) (cons_ (o2 oIx (v_ 1) (k_ (.int 1))) nil_)))) (tnot (tst (call_ 1 (c_is_stand A) (cons_ (o2 oIx (v_ 1) (k_ (.int 3))) nil_))))))) (seq (ret_ (k_ (.bl false)))
  nil_s) nil_s)
  (seq (if_ (tor (tnot (tst (call_ 3 (c_is_from A) (cons_ (o2 oIx (v_ 1) (k_ (.int 0))) (cons_ (k_ (.int 0)) (cons_ (o2 oSub (v_ 0) (k_ (.int 1))) nil_)))))) (tnot (tst (call_ 3 (c_is_from A) (cons_ (o2 oIx (v_ 1) (k_ (.int 2))) (cons_ (k_ (.int 0)) (cons_ (o2 oSub (v_ 0) (k_ (.int 1))) nil_))))))) (seq (ret_ (k_ (.bl false)))
  nil_s) nil_s)
  (seq (ret_ (o2 oNe (o2 oIx (v_ 1) (k_ (.int 0))) (o2 oIx (v_ 1) (k_ (.int 2)))))
  nil_s)))
def c_is_bar (A : Ad) : SpD := cF (t_is_bar A) 0
def t_Cabinet_init (A : Ad) : MS := (seq (if_ (tnot (tst (call_ 3 (c_is_from A) (cons_ (v_ 1) (cons_ (k_ (.int 1)) (cons_ (k_ d_MOST_DRAWERS) nil_)))))) (seq (raise0 A.BadDrawers)
  nil_s) nil_s)
  (seq (if_ (tnot (tst (o1 (fIs "tuple") (v_ 2)))) (seq (raise_ A.BadBars ["index"] (cons_ (k_ .non) nil_))
  nil_s) nil_s)
  (seq (for_ (it_e (v_ 2)) (gT 2 (gsC (g_ 3) (gsC (g_ 4) gsN))) (seq (if_ (tor (tnot (tst (call_ 2 (c_is_bar A) (cons_ (v_ 1) (cons_ (v_ 4) nil_))))) (tand (tst (o2 oGt (v_ 3) (k_ (.int 0)))) (tst (o2 oLe (v_ 4) (o2 oIx (v_ 2) (o2 oSub (v_ 3) (k_ (.int 1)))))))) (seq (raise_ A.BadBars ["index"] (cons_ (v_ 3) nil_))
  nil_s) nil_s)
  nil_s))
  (seq (setN_ A.Cabinet [] "many" (v_ 1) (v_ 0))
  (seq (setN_ A.Cabinet ["many"] "locks" (v_ 2) (v_ 0))
  nil_s)))))
def c_Cabinet_init (A : Ad) : SpD := cF (t_Cabinet_init A) 2
def t_need_cabinet (A : Ad) : MS := (seq (if_ (tnot (tst (o1 (fIsC A.Cabinet) (v_ 0)))) (seq (raise0 A.BadCabinet)
  nil_s) nil_s)
  nil_s)
def c_need_cabinet (A : Ad) : SpD := cF (t_need_cabinet A) 0
def t_law_taken (A : Ad) : MS := (seq (if_ (tst (o2 oGt (o2 oIx (v_ 0) (k_ (.int 3))) (k_ (.int 0)))) (seq (set_ 2 (o2 oMod (o1 fInt (o2 oIx (v_ 0) (k_ (.int 3)))) (v_ 1)))
  (seq (asg_ (gPut (v_ 0) (k_ (.int 3))) (o2 oFdv (o2 oIx (v_ 0) (k_ (.int 3))) (v_ 1)))
  (seq (ret_ (v_ 2))
  nil_s))) nil_s)
  (seq (asg_ (gPut (v_ 0) (k_ (.int 1))) (o2 oAdd (o2 oIx (v_ 0) (k_ (.int 1))) (k_ (.int 1))))
  (seq (if_ (tst (o2 oGt (o2 oIx (v_ 0) (k_ (.int 1))) (o1 fLen (o2 oIx (v_ 0) (k_ (.int 0)))))) (seq (asg_ (gPut (v_ 0) (k_ (.int 2))) (o2 oMod (o1 fInt (o2 oAdd (o2 oMul (o2 oIx (v_ 0) (k_ (.int 2))) (k_ (.int 48271))) (k_ (.int 11)))) (k_ (.int 2147483647))))
  (seq (ret_ (o2 oMod (o1 fInt (o2 oFdv (o2 oIx (v_ 0) (k_ (.int 2))) (k_ (.int 7)))) (v_ 1)))
  nil_s)) nil_s)
  (seq (set_ 3 (o2 oIx (o2 oIx (v_ 0) (k_ (.int 0))) (o2 oSub (o2 oIx (v_ 0) (k_ (.int 1))) (k_ (.int 1)))))
  (seq (asg_ (gPut (v_ 0) (k_ (.int 2))) (o2 oMod (o1 fInt (o2 oAdd (o2 oAdd (o2 oMul (o2 oIx (v_ 0) (k_ (.int 2))) (k_ (.int 48271))) (v_ 3)) (k_ (.int 11)))) (k_ (.int 2147483647))))
  (seq (if_ (tst (o2 oGe (v_ 3) (o2 oPow (k_ (.int 10)) (k_ (.int 18))))) (seq (asg_ (gPut (v_ 0) (k_ (.int 3))) (o2 oFdv (v_ 3) (v_ 1)))
  nil_s) nil_s)
  (seq (ret_ (o2 oMod (o1 fInt (v_ 3)) (v_ 1)))
  nil_s)))))))
def c_law_taken (A : Ad) : SpD := cF (t_law_taken A) 2
def t_law_parts (A : Ad) : MS := (seq (par_ 2 3 (o2 oAdd (k_ (.int 1)) (call_ 2 (c_law_taken A) (cons_ (v_ 0) (cons_ (v_ 1) nil_)))) dnT_)
  (seq (for_ (it_r (call_ 2 (c_law_taken A) (cons_ (v_ 0) (cons_ (o2 oIx (lst_ (cons_ (k_ (.int 3)) (cons_ (k_ (.int 6)) (cons_ (k_ (.int 14)) nil_)))) (call_ 2 (c_law_taken A) (cons_ (v_ 0) (cons_ (k_ (.int 3)) nil_)))) nil_)))) (g_ 4) (seq (par_ 5 6 (call_ 2 (c_law_taken A) (cons_ (v_ 0) (cons_ (v_ 2) nil_))) (call_ 2 (c_law_taken A) (cons_ (v_ 0) (cons_ (v_ 2) nil_))))
  (seq (if_ (tst (o2 oNe (v_ 5) (v_ 6))) (seq (par_ 7 8 (o2 oIx (lst_ (cons_ (k_ (.str "open")) (cons_ (k_ (.str "shut")) nil_))) (o2 oFdv (call_ 2 (c_law_taken A) (cons_ (v_ 0) (cons_ (k_ (.int 3)) nil_))) (k_ (.int 2)))) (o2 oIx (lst_ (cons_ (k_ (.str "open")) (cons_ (k_ (.str "shut")) nil_))) (call_ 2 (c_law_taken A) (cons_ (v_ 0) (cons_ (k_ (.int 2)) nil_)))))
  (seq (asg_ (gPut (v_ 3) (tup_ (cons_ (v_ 5) (cons_ (v_ 7) (cons_ (v_ 6) (cons_ (v_ 8) nil_)))))) (k_ (.bl true)))
  nil_s)) nil_s)
  nil_s)))
  (seq (ret_ (lst_ (cons_ (v_ 2) (cons_ (o1 fTup (o1 fSorted (fz_ (v_ 3)))) nil_))))
  nil_s)))
def c_law_parts (A : Ad) : SpD := cF (t_law_parts A) 7
def t_law_made (A : Ad) : MS := (seq (ret_ (make_ A.Cabinet 2 (c_Cabinet_init A) (cons_ (o2 oIx (v_ 0) (k_ (.int 0))) (cons_ (o2 oIx (v_ 0) (k_ (.int 1))) nil_))))
  nil_s)
def c_law_made (A : Ad) : SpD := cF (t_law_made A) 0
end DL
local macro_rules | `(tactic| walk_at "w") => `(tactic| conv => whnf)
namespace DL
open PySem PySem.Spec PyProof.Rows L2 G
/-! ### is_from -/
def isFrom : D → Int → Int → Bool
  | .int i, lo, hi => decide (lo ≤ i) && decide (i ≤ hi)
  | _, _, _ => false
def tyOk (d : D) : Bool := (tyN d).isSome
theorem is_from_s {A : Ad} {d : D} {lo hi : Int} {m : Mem} {Φ : D → Mem → Prop} {Ψ : XF} (h1 : tyOk d = true) (q : Φ (.bl (isFrom d lo hi)) m) : CallW (c_is_from A) [d, .int lo, .int hi] m Φ Ψ := ⟨by
  cases d with
  | int i =>
    walk_at "w"
    refine br_b (fun hc => ?_) (fun hc => ?_)
    · walk_at "w"
      have q' : Φ (.bl (decide (lo ≤ i) && decide (i ≤ hi))) m := q
      rw [hc, Bool.true_and] at q'
      exact q'
    · walk_at "w"
      have q' : Φ (.bl (decide (lo ≤ i) && decide (i ≤ hi))) m := q
      rw [hc, Bool.false_and] at q'
      exact q'
  | scr => cases h1
  | ins => cases h1
  | ref => cases h1
  | exc => cases h1
  | _ => first | exact q | cases h1⟩
/-! ### the draws -/
def rowD (ns : List Int) (i s r : Int) : List D := [.scr ns, .int i, .int s, .int r]
/-- the row of draws stands in cell j -/
def RowAt (m : Mem) (j : Nat) (p : Addr) (ns : List Int) : Prop := ∃ i s r, 0 ≤ i ∧ m[j]? = some (p, .lst (rowD ns i s r))
def RowC (ns : List Int) (c : MC) : Prop := ∃ i s r, 0 ≤ i ∧ c = .lst (rowD ns i s r)
theorem get_set {m : Mem} {j : Nat} {x y : Addr × MC} (h : m[j]? = some x) : (m.set j y)[j]? = some y := by
  have := (List.getElem?_eq_some_iff.mp h).1
  rw [List.getElem?_set_self this]
theorem RowAt.set {m : Mem} {j : Nat} {p : Addr} {ns : List Int} {c : MC} (h : RowAt m j p ns) (hc : RowC ns c) : RowAt (m.set j (p, c)) j p ns := by
  obtain ⟨i, s, r, _, e⟩ := h
  obtain ⟨i2, s2, r2, h2, rfl⟩ := hc
  exact ⟨i2, s2, r2, h2, get_set e⟩
theorem set_set' {m : Mem} {j : Nat} {x y : Addr × MC} : (m.set j x).set j y = m.set j y := List.set_set ..
theorem taken_s {A : Ad} {p : Addr} {ns : List Int} {n : Int} {m : Mem} {j : Nat} {Φ : D → Mem → Prop} {Ψ : XF} (R : RowAt m j p ns) (hns : ns.length ≤ 63) (hn : 0 < n) (hn2 : n < 2 ^ 200)
    (q : ∀ v c, RowC ns c → 0 ≤ v → v < n → Φ (.int v) (m.set j (p, c))) : CallW (c_law_taken A) [.ref p, .int n] m Φ Ψ := ⟨by
  obtain ⟨i, s, r, hi, hj⟩ := R
  have hm : (p, MC.lst (rowD ns i s r)) ∈ m := List.mem_of_getElem? hj
  have hlog : ∀ z : Int, CDivW z n := fun z => ⟨hn, by
    have h1 : n.natAbs < 2 ^ 200 := by omega
    have := PySem.Flt.log2_lt_of (by decide) h1
    omega⟩
  have fin : ∀ (z i' s' r' : Int) (m' : Mem), 0 ≤ i' → m' = m.set j (p, .lst (rowD ns i' s' r')) → Φ (.int (z % n)) m' := fun z i' s' r' m' h e => by
    subst e
    exact q _ _ ⟨i', s', r', h, rfl⟩ (Int.emod_nonneg _ (by omega)) (Int.emod_lt_of_pos _ hn)
  have mem : ∀ {m' : Mem} {c : MC}, m'[j]? = some (p, c) → (p, c) ∈ m' := fun h => List.mem_of_getElem? h
  walk_at "w"
  refine ⟨_, hm, ?_⟩
  walk_at "w"
  refine br_b (fun hc => ?_) (fun hc => ?_)
  · walk_at "w"
    refine ⟨_, hm, ?_⟩
    walk_at "w"
    refine ⟨hn, ?_⟩
    walk_at "w"
    refine ⟨_, hm, ?_⟩
    walk_at "w"
    refine ⟨hlog r, ?_⟩
    walk_at "w"
    refine ⟨j, _, hj, ?_⟩
    walk_at "w"
    exact fin r i s _ _ hi rfl
  · walk_at "w"
    refine ⟨_, hm, ?_⟩
    walk_at "w"
    refine ⟨j, _, hj, ?_⟩
    walk_at "w"
    have hj1 : (m.set j (p, .lst (rowD ns (i + 1) s r)))[j]? = some (p, .lst (rowD ns (i + 1) s r)) := get_set hj
    refine ⟨_, mem hj1, ?_⟩
    walk_at "w"
    refine ⟨_, mem hj1, ?_⟩
    walk_at "w"
    refine gd_of (decide_eq_true (show ns.length ≤ 16777216 by omega)) ?_
    walk_at "w"
    refine br_b (fun hc2 => ?_) (fun hc2 => ?_)
    · walk_at "w"
      refine ⟨_, mem hj1, ?_⟩
      walk_at "w"
      refine ⟨.inr ⟨by decide, by decide⟩, ?_⟩
      walk_at "w"
      refine ⟨by decide, ?_⟩
      walk_at "w"
      refine ⟨j, _, hj1, ?_⟩
      walk_at "w"
      have hj2 : ∀ z, ((m.set j (p, .lst (rowD ns (i + 1) s r))).set j (p, .lst (rowD ns (i + 1) z r)))[j]? = some (p, .lst (rowD ns (i + 1) z r)) := fun z => get_set hj1
      refine ⟨_, mem (hj2 _), ?_⟩
      walk_at "w"
      refine ⟨⟨by decide, by decide⟩, ?_⟩
      walk_at "w"
      refine ⟨hn, ?_⟩
      exact fin _ (i + 1) _ r _ (by omega) set_set'
    · have hlt : i + 1 ≤ (ns.length : Int) := by
        have := of_decide_eq_false hc2
        omega
      have hat : ∃ c, atI ns (i + 1 - 1) = some c := by
        have e : i + 1 - 1 = ((i.toNat : Nat) : Int) := by omega
        have hl : i.toNat < ns.length := by omega
        exact ⟨ns[i.toNat], by rw [e]; exact atI_nat (List.getElem?_eq_getElem hl)⟩
      obtain ⟨c, hat⟩ := hat
      walk_at "w"
      refine ⟨_, mem hj1, ?_⟩
      walk_at "w"
      refine ⟨_, mem hj1, ?_⟩
      walk_at "w"
      refine om_of hat ?_
      walk_at "w"
      refine ⟨_, mem hj1, ?_⟩
      walk_at "w"
      refine ⟨.inr ⟨by decide, by decide⟩, ?_⟩
      walk_at "w"
      refine ⟨by decide, ?_⟩
      walk_at "w"
      refine ⟨j, _, hj1, ?_⟩
      walk_at "w"
      have hj2 : ∀ z, ((m.set j (p, .lst (rowD ns (i + 1) s r))).set j (p, .lst (rowD ns (i + 1) z r)))[j]? = some (p, .lst (rowD ns (i + 1) z r)) := fun z => get_set hj1
      refine ⟨⟨by decide, by decide⟩, ?_⟩
      walk_at "w"
      refine br_b (fun hc3 => ?_) (fun hc3 => ?_)
      · walk_at "w"
        refine ⟨hlog c, ?_⟩
        walk_at "w"
        refine ⟨j, _, hj2 _, ?_⟩
        walk_at "w"
        refine ⟨hn, ?_⟩
        exact fin c (i + 1) _ _ _ (by omega) (by rw [set_set', set_set']; rfl)
      · walk_at "w"
        refine ⟨hn, ?_⟩
        exact fin c (i + 1) _ r _ (by omega) set_set'⟩
end DL
local macro_rules | `(tactic| walk_at "w") => `(tactic| conv => whnf)
namespace DL
open PySem PySem.Spec PyProof.Rows L2 G
/-! ### bars, cabinets -/
structure Bar where
  mv : Nat
  wy : Bool
  ot : Nat
  sd : Bool
  deriving DecidableEq
/-- true: open -/
def stS (b : Bool) : Str := if b then "open" else "shut"
def barK (b : Bar) : List Key := [.inl b.mv, .inr (stS b.wy), .inl b.ot, .inr (stS b.sd)]
def encBar (b : Bar) : D := tupK (barK b)
def bLt (a b : Bar) : Bool := kLt (barK a) (barK b)
structure BarOk (n : Nat) (b : Bar) : Prop where
  h1 : b.mv < n
  h2 : b.ot < n
  h3 : b.mv ≠ b.ot
structure Cab where
  n : Nat
  bars : List Bar
structure CabOk (c : Cab) : Prop where
  h1 : 1 ≤ c.n
  h7 : c.n ≤ 7
  ok : ∀ b ∈ c.bars, BarOk c.n b
  so : c.bars.Pairwise fun a b => bLt a b = true
  few : c.bars.length ≤ 1000
def encBars (l : List Bar) : List D := l.map encBar
def encCab (A : Ad) (c : Cab) : D := .ins A.Cabinet ["many", "locks"] [.int c.n, .tup (encBars c.bars)]
def encD (c : Cab) : D := .lst [.int c.n, .tup (encBars c.bars)]
theorem stS_inj {a b : Bool} (h : stS a = stS b) : a = b := by
  cases a <;> cases b <;> first | rfl | exact absurd h (by decide)
theorem barK_inj {a b : Bar} (h : barK a = barK b) : a = b := by
  cases a with
  | mk m1 w1 o1 s1 =>
    cases b with
    | mk m2 w2 o2 s2 =>
      simp only [barK, List.cons.injEq, Sum.inl.injEq, Sum.inr.injEq, Int.natCast_inj] at h
      obtain ⟨rfl, h2, rfl, h4, _⟩ := h
      rw [stS_inj h2, stS_inj h4]
theorem kLt_irrefl (k : List Key) : kLt k k = false := lex_irrefl _
theorem kI_inj {a b : Key} (h : kI a = kI b) : a = b := by
  cases a with
  | inl i => cases b with
    | inl j => cases h; rfl
    | inr z => cases h
  | inr z => cases b with
    | inl j => cases h
    | inr y =>
      have h' : z.cps.toList = y.cps.toList := Sum.inr.inj h
      rw [PySem.W.str_of_cps h']
theorem kLt_total {a b : List Key} (h1 : kLt a b = false) (h2 : kLt b a = false) : a = b := by
  have := lex_total (O := itemOrd) _ _ h1 h2
  exact List.map_inj_right (fun _ _ => kI_inj) |>.mp this
/-- a row without twins, sorted, is strictly so -/
theorem strict {l : List Bar} (nd : l.Nodup) (h : l.Pairwise fun a b => bLt b a = false) : l.Pairwise fun a b => bLt a b = true := by
  refine (h.and nd).imp fun {a b} z => ?_
  cases e : bLt a b with
  | true => rfl
  | false => exact absurd (barK_inj (kLt_total e z.1)) z.2
/-- what a row of drawn bars is, as a dict -/
structure Found (n : Nat) (l : List (List Key × D)) : Prop where
  ex : ∃ bs : List Bar, l.map (·.1) = bs.map barK ∧ bs.Nodup ∧ ∀ b ∈ bs, BarOk n b
theorem any_key {l : List (List Key × D)} {k : List Key} : (l.any fun kv => decide (kv.1 = k)) = true ↔ k ∈ l.map (·.1) := by
  rw [List.any_eq_true, List.mem_map]
  constructor
  · rintro ⟨x, h1, h2⟩; exact ⟨x, h1, of_decide_eq_true h2⟩
  · rintro ⟨x, h1, h2⟩; exact ⟨x, h1, decide_eq_true h2⟩
theorem keys_put1 {l : List (List Key × D)} {k : List Key} {v : D} (hk : k ∈ l.map (·.1)) : (putD l k v).map (·.1) = l.map (·.1) := by
  unfold putD
  rw [if_pos (any_key.mpr hk), List.map_map]
  refine List.map_congr_left fun x _ => ?_
  show (if x.1 = k then (x.1, v) else x).1 = x.1
  split <;> rfl
theorem keys_put2 {l : List (List Key × D)} {k : List Key} {v : D} (hk : k ∉ l.map (·.1)) : (putD l k v).map (·.1) = l.map (·.1) ++ [k] := by
  unfold putD
  rw [if_neg (fun z => hk (any_key.mp z)), List.map_append]; rfl
theorem Found.put {n : Nat} {l : List (List Key × D)} {b : Bar} {v : D} (h : Found n l) (hb : BarOk n b) : Found n (putD l (barK b) v) := by
  obtain ⟨bs, h1, h2, h3⟩ := h.ex
  by_cases hk : barK b ∈ l.map (·.1)
  · exact ⟨bs, by rw [keys_put1 hk, h1], h2, h3⟩
  · refine ⟨bs ++ [b], by rw [keys_put2 hk, h1, List.map_append]; rfl, ?_, fun x hx => ?_⟩
    · rw [List.nodup_append]
      refine ⟨h2, by simp, fun x hx y hy => ?_⟩
      rw [List.mem_singleton] at hy
      subst hy
      intro e
      subst e
      exact hk (by rw [h1]; exact List.mem_map.mpr ⟨x, hx, rfl⟩)
    · rcases List.mem_append.mp hx with z | z
      · exact h3 x z
      · rw [List.mem_singleton] at z; subst z; exact hb
theorem put_len {l : List (List Key × D)} {k : List Key} {v : D} : (putD l k v).length ≤ l.length + 1 := by
  unfold putD
  split
  · rw [List.length_map]; omega
  · simp
theorem pick {α : Type} {l : List α} {P : α → Prop} {v : Int} (h0 : 0 ≤ v) (h1 : v < l.length) (h : ∀ x ∈ l, P x) : ∃ b, atI l v = some b ∧ P b := by
  obtain ⟨k, rfl⟩ : ∃ k : Nat, v = k := ⟨v.toNat, by omega⟩
  have hl : k < l.length := by omega
  exact ⟨l[k], atI_nat (List.getElem?_eq_getElem hl), h _ (List.getElem_mem hl)⟩
theorem shp_bar (b : Bar) : shp (barK b) = [false, true, false, true] := rfl
/-- _law_parts -/
theorem parts_s {A : Ad} {p : Addr} {ns : List Int} {most : Nat} {m : Mem} {j : Nat} {Φ : D → Mem → Prop} {Ψ : XF} (R : RowAt m j p ns) (hns : ns.length ≤ 63) (h1 : 1 ≤ most) (h7 : most ≤ 7)
    (q : ∀ cb c, CabOk cb → cb.n ≤ most → cb.bars.length ≤ 13 → RowC ns c → Φ (encD cb) (m.set j (p, c))) : CallW (c_law_parts A) [.ref p, .int most] m Φ Ψ := ⟨by
  walk_at "w"
  refine taken_s R hns (by omega) (by omega) fun v c hc hv hv2 => ?_
  obtain ⟨v, rfl⟩ : ∃ k : Nat, v = k := ⟨v.toNat, by omega⟩
  walk_at "w"
  intro f hf
  walk_at "w"
  -- the dict stands in front
  have R1 : RowAt ((f, .dT []) :: m.set j (p, c)) (j + 1) p ns := (R.set hc)
  refine taken_s R1 hns (by decide) (by decide) fun v2 c2 hc2 hv3 hv4 => ?_
  walk_at "w"
  obtain ⟨top, ht, ht2⟩ := pick (P := fun d => ∃ t : Nat, d = D.int t ∧ 0 < t ∧ t ≤ 14) (l := [.int 3, .int 6, .int 14]) hv3 (by simpa using hv4) (by
    intro x hx
    simp only [List.mem_cons, List.not_mem_nil, or_false] at hx
    rcases hx with rfl | rfl | rfl
    · exact ⟨3, rfl, by decide, by decide⟩
    · exact ⟨6, rfl, by decide, by decide⟩
    · exact ⟨14, rfl, by decide, by decide⟩)
  refine om_of ht ?_
  obtain ⟨t, rfl, t1, t2⟩ := ht2
  walk_at "w"
  refine taken_s (R1.set hc2) hns (by omega) (by omega) fun v5 c5 hc5 hv5 hv6 => ?_
  rw [set_set']
  walk_at "w"
  obtain ⟨v5, rfl⟩ : ∃ k : Nat, v5 = k := ⟨v5.toNat, by omega⟩
  refine RgW.nat (by omega) ?_
  rw [Int.toNat_natCast]
  refine for_rest (α := Nat) (xs := List.range v5) (enc := fun i => D.int (0 + (i : Int))) (fun rest ds m2 => ∃ l c x0 x1 x2 x3 x4, RowC ns c ∧ Found (1 + v) l ∧ l.length + rest.length ≤ v5 ∧ m2 = (f, .dT l) :: m.set j (p, c) ∧ ds = [some (.ref p), some (.int most), some (.int (1 + v)), some (.ref f), x0, x1, x2, x3, x4])
    ⟨[], c5, _, _, _, _, _, hc5, ⟨[], rfl, List.nodup_nil, fun _ h => nomatch h⟩, by simp, ?_, rfl⟩ (fun i rest ds m2 hi hI => ?_) (fun ds m2 hI => ?_)
  · show (f, MC.dT []) :: (m.set j (p, c)).set j (p, c5) = _
    rw [set_set']
  · obtain ⟨l, c6, x0, x1, x2, x3, x4, hc6, hF, hlen, rfl, rfl⟩ := hI
    have R6 : RowAt ((f, .dT l) :: m.set j (p, c6)) (j + 1) p ns := (R.set hc6)
    have back : ∀ c' : MC, ((f, MC.dT l) :: m.set j (p, c6)).set (j + 1) (p, c') = (f, .dT l) :: m.set j (p, c') := fun c' => by
      show (f, MC.dT l) :: (m.set j (p, c6)).set j (p, c') = _
      rw [set_set']
    walk_at "w"
    refine taken_s R6 hns (by omega) (by omega) fun d1 c7 hc7 g1 g2 => ?_
    obtain ⟨d1, rfl⟩ : ∃ k : Nat, d1 = k := ⟨d1.toNat, by omega⟩
    walk_at "w"
    refine taken_s (R6.set hc7) hns (by omega) (by omega) fun d2 c8 hc8 g3 g4 => ?_
    obtain ⟨d2, rfl⟩ : ∃ k : Nat, d2 = k := ⟨d2.toNat, by omega⟩
    rw [set_set']
    walk_at "w"
    refine gd_of rfl ?_
    walk_at "w"
    refine br_b (fun hne => ?_) (fun hne => ?_)
    · have hne' : d1 ≠ d2 := by
        intro e
        subst e
        have : (!((d1 : Int) == (d1 : Int))) = true := hne
        simp at this
      walk_at "w"
      refine taken_s (R6.set hc8) hns (by decide) (by decide) fun w1 c9 hc9 g5 g6 => ?_
      rw [set_set']
      walk_at "w"
      refine ⟨⟨by decide, by decide⟩, ?_⟩
      obtain ⟨wd, hw, hwd⟩ := pick (P := fun d => ∃ b, d = D.str (stS b)) (l := [.str "open", .str "shut"]) (v := w1 / 2) (by omega) (by simp; omega) (by
        intro x hx
        simp only [List.mem_cons, List.not_mem_nil, or_false] at hx
        rcases hx with rfl | rfl
        · exact ⟨true, rfl⟩
        · exact ⟨false, rfl⟩)
      walk_at "w"
      refine om_of hw ?_
      obtain ⟨bw, rfl⟩ := hwd
      walk_at "w"
      refine taken_s (R6.set hc9) hns (by decide) (by decide) fun w2 c10 hc10 g7 g8 => ?_
      rw [set_set']
      walk_at "w"
      obtain ⟨sd, hs, hsd⟩ := pick (P := fun d => ∃ b, d = D.str (stS b)) (l := [.str "open", .str "shut"]) (v := w2) (by omega) (by simpa using g8) (by
        intro x hx
        simp only [List.mem_cons, List.not_mem_nil, or_false] at hx
        rcases hx with rfl | rfl
        · exact ⟨true, rfl⟩
        · exact ⟨false, rfl⟩)
      refine om_of hs ?_
      obtain ⟨bs, rfl⟩ := hsd
      walk_at "w"
      rw [back]
      refine ⟨0, _, rfl, ?_⟩
      have hll : l.length < 16777216 := by
        have := List.mem_range.mp hi
        simp at hlen
        omega
      walk_at "w"
      refine gd_of (decide_eq_true hll) ?_
      refine ⟨_, c10, _, _, _, _, _, hc10, hF.put (b := ⟨d1, bw, d2, bs⟩) (v := .bl true) ⟨by show d1 < 1 + v; omega, by show d2 < 1 + v; omega, hne'⟩, ?_, rfl, rfl⟩
      have := put_len (l := l) (k := barK ⟨d1, bw, d2, bs⟩) (v := .bl true)
      simp at hlen
      omega
    · walk_at "w"
      refine ⟨l, c8, _, _, _, _, _, hc8, hF, ?_, back c8, rfl⟩
      simp at hlen
      omega
  · obtain ⟨l, c6, x0, x1, x2, x3, x4, hc6, hF, hlen, rfl, rfl⟩ := hI
    obtain ⟨bs, e1, nd, hb⟩ := hF.ex
    walk_at "w"
    refine ⟨0, _, rfl, ?_⟩
    have hbl : bs.length = l.length := by
      have := congrArg List.length e1
      simpa using this.symm
    refine ⟨(l.map (·.1)).map tupK, rfl, by simp; show l.length ≤ 16777216; simp at hlen; omega, .inr ⟨bs.map barK, [false, true, false, true], by rw [e1], by simp, fun k hk => ?_, fun ys hp hs => ?_⟩⟩
    · obtain ⟨b, _, rfl⟩ := List.mem_map.mp hk; rfl
    · obtain ⟨bs', hp', rfl⟩ := map_perm hp
      have hso : bs'.Pairwise fun a b => bLt b a = false := List.pairwise_map.mp hs
      walk_at "w"
      have e2 : (bs'.map barK).map tupK = encBars bs' := by rw [List.map_map]; rfl
      rw [e2]
      have hlen2 : bs'.length ≤ 13 := by rw [hp'.length_eq, hbl]; simp at hlen; omega
      exact q ⟨1 + v, bs'⟩ c6 ⟨by show 1 ≤ 1 + v; omega, by show 1 + v ≤ 7; omega, fun b hb' => hb b (hp'.mem_iff.mp hb'), strict (hp'.nodup_iff.mpr nd) hso, by show bs'.length ≤ 1000; omega⟩ (by show 1 + v ≤ most; omega) hlen2 hc6⟩
end DL
local macro_rules | `(tactic| walk_at "w") => `(tactic| conv => whnf)
namespace DL
open PySem PySem.Spec PyProof.Rows L2 G
theorem is_stand_s {A : Ad} {b : Bool} {m : Mem} {Φ : D → Mem → Prop} {Ψ : XF} (q : Φ (.bl true) m) : CallW (c_is_stand A) [.str (stS b)] m Φ Ψ := ⟨by
  cases b <;> exact q⟩
theorem isFrom_nat {k n : Nat} (h : k < n) : isFrom (.int k) 0 ((n : Int) - 1) = true := by
  show (decide ((0 : Int) ≤ k) && decide ((k : Int) ≤ (n : Int) - 1)) = true
  rw [Bool.and_eq_true]
  exact ⟨decide_eq_true (by omega), decide_eq_true (by omega)⟩
theorem eqD_ii {i j : Int} : eqD (.int i) (.int j) = (i == j) := rfl
theorem is_bar_s {A : Ad} {n : Nat} {b : Bar} {m : Mem} {Φ : D → Mem → Prop} {Ψ : XF} (h : BarOk n b) (q : Φ (.bl true) m) : CallW (c_is_bar A) [.int n, encBar b] m Φ Ψ := ⟨by
  walk_at "w"
  refine is_stand_s (b := b.wy) ?_
  walk_at "w"
  refine is_stand_s (b := b.sd) ?_
  walk_at "w"
  refine is_from_s (d := .int b.mv) rfl ?_
  rw [isFrom_nat h.h1]
  walk_at "w"
  refine is_from_s (d := .int b.ot) rfl ?_
  rw [isFrom_nat h.h2]
  walk_at "w"
  refine gd_of rfl ?_
  have e : ((b.mv : Int) == (b.ot : Int)) = false := beq_eq_false_iff_ne.mpr (by have := h.h3; omega)
  show Φ (.bl (!((b.mv : Int) == (b.ot : Int)))) m
  rw [e]
  exact q⟩
theorem bar_alk (a b : Bar) : alk (encBar a) (encBar b) = true := by
  cases a with
  | mk m1 w1 o1 s1 =>
    cases b with
    | mk m2 w2 o2 s2 => rfl
theorem bar_lt (a b : Bar) : PySem.W.dataLt (py (encBar a)) (py (encBar b)) = bLt a b := by
  show lexLt itemOrd (.inl 1 :: .inl (a.mv : Int) :: .inl 1 :: .inr (stS a.wy).cps.toList :: .inl 1 :: .inl (a.ot : Int) :: .inl 1 :: .inr (stS a.sd).cps.toList :: [.inl 0]) (.inl 1 :: .inl (b.mv : Int) :: .inl 1 :: .inr (stS b.wy).cps.toList :: .inl 1 :: .inl (b.ot : Int) :: .inl 1 :: .inr (stS b.sd).cps.toList :: [.inl 0])
    = lexLt itemOrd [.inl (a.mv : Int), .inr (stS a.wy).cps.toList, .inl (a.ot : Int), .inr (stS a.sd).cps.toList] [.inl (b.mv : Int), .inr (stS b.wy).cps.toList, .inl (b.ot : Int), .inr (stS b.sd).cps.toList]
  rw [lex_self, lex_cons, lex_self, lex_cons, lex_self, lex_cons, lex_self, lex_cons, lex_self]
  rw [lex_cons, lex_cons, lex_cons, lex_cons]
/-- a cabinet is made -/
theorem cab_s {A : Ad} {c : Cab} {m : Mem} {Φ : D → Mem → Prop} {Ψ : XF} (h : CabOk c) (q : Φ (encCab A c) m) : MakeW A.Cabinet (c_Cabinet_init A) [.int c.n, .tup (encBars c.bars)] m Φ Ψ := ⟨fun x hx => by
  have h1 := h.h1
  have h7 := h.h7
  walk_at "w"
  refine is_from_s (d := .int c.n) rfl ?_
  have e : isFrom (.int c.n) 1 7 = true := by
    show (decide ((1 : Int) ≤ c.n) && decide ((c.n : Int) ≤ 7)) = true
    rw [Bool.and_eq_true]
    exact ⟨decide_eq_true (by omega), decide_eq_true (by omega)⟩
  rw [e]
  walk_at "w"
  refine ⟨fun i ds m2 => m2 = (x, .obj A.Cabinet [] []) :: m ∧ ∃ a b, ds = [some (.ref x), some (.int c.n), some (.tup (encBars c.bars)), a, b], ⟨rfl, _, _, rfl⟩, fun i d ds2 m2 hd hI => ?_, fun ds2 m2 hI => ?_⟩
  · obtain ⟨rfl, a, b, rfl⟩ := hI
    have hi : i < c.bars.length := by
      have := (List.getElem?_eq_some_iff.mp hd).1
      simpa [enumD, encBars] using this
    have hd' : d = .tup [.int (i : Nat), encBar c.bars[i]] := by
      have e2 : (enumD (encBars c.bars))[i]? = some (.tup [.int (i : Nat), encBar c.bars[i]]) := by
        simp [enumD, encBars, hi]
      rw [e2] at hd
      exact (Option.some.inj hd).symm
    subst hd'
    walk_at "w"
    refine is_bar_s (h.ok _ (List.getElem_mem hi)) ?_
    walk_at "w"
    refine br_b (fun hp => ?_) (fun hp => ?_)
    · have hp' := of_decide_eq_true hp
      walk_at "w"
      have hat : atI (encBars c.bars) ((i : Int) - 1) = some (encBar c.bars[i - 1]) := by
        rw [show ((i : Int) - 1) = ((i - 1 : Nat) : Int) by omega]
        refine atI_nat ?_
        simp [encBars, show i - 1 < c.bars.length by omega]
      refine om_of hat ?_
      have hlt : bLt c.bars[i - 1] c.bars[i] = true := by
        have := List.pairwise_iff_getElem.mp h.so (i - 1) i (by omega) hi (by omega)
        exact this
      show gd (alk (encBar c.bars[i]) (encBar c.bars[i - 1])) _
      refine gd_of (bar_alk _ _) ?_
      rw [bar_lt, hlt]
      exact ⟨rfl, _, _, rfl⟩
    · exact ⟨rfl, _, _, rfl⟩
  · obtain ⟨rfl, a, b, rfl⟩ := hI
    walk_at "w"
    refine ⟨⟨rfl, rfl, rfl⟩, ?_⟩
    walk_at "w"
    exact ⟨⟨rfl, rfl, rfl⟩, rfl, _, _, _, rfl, q⟩⟩
theorem made_s {A : Ad} {c : Cab} {m : Mem} {Φ : D → Mem → Prop} {Ψ : XF} (h : CabOk c) (q : Φ (encCab A c) m) : CallW (c_law_made A) [encD c] m Φ Ψ := ⟨by
  walk_at "w"
  exact cab_s h q⟩
/-- a value that is a cabinet -/
theorem need_cab_s {A : Ad} {c : Cab} {m : Mem} {Φ : D → Mem → Prop} {Ψ : XF} (q : Φ .non m) : CallW (c_need_cabinet A) [encCab A c] m Φ Ψ := ⟨by
  walk_at "w"
  refine om_of (j := true) (show (if A.Cabinet = A.Cabinet then some true else none) = some true from if_pos rfl) ?_
  exact q⟩
end DL
namespace DL
open PySem PySem.Spec PyProof.Rows L2 G
theorem bools_map {α : Type} (f : α → Bool) : ∀ l : List α, bools (l.map fun x => D.bl (f x)) = some (l.map f)
  | [] => rfl
  | x :: l => by
    rw [List.map_cons, List.map_cons]
    unfold bools
    rw [bools_map f l]
    rfl
theorem all_id {α : Type} (f : α → Bool) (l : List α) : (l.map f).all id = l.all f := by rw [List.all_map]; rfl
theorem any_id {α : Type} (f : α → Bool) (l : List α) : (l.map f).any id = l.any f := by rw [List.any_map]; rfl
/-- a comprehension without a test whose element changes nothing -/
theorem lc_map {α : Type} {asg : D → DS → Option DS} {ta : ME} {ds : DS} {m : Mem} {Φ : D → Mem → Prop} {enc : α → D} {g : α → D} {xs : List α} (hn : xs.length ≤ 1000000)
    (h : ∀ x ∈ xs, ∃ ds3, asg (enc x) ds = some ds3 ∧ ∀ Ψ : D → Mem → Prop, Ψ (g x) m → ta ds3 m Ψ X0) (hq : Φ (.lst (xs.map g)) m) : LcW asg none ta (xs.map enc) ds m Φ := by
  refine ⟨fun i acc m2 => acc = (xs.take i).map g ∧ m2 = m, ⟨by simp, rfl⟩, fun i d acc m2 hd hi => ?_, fun acc m2 hi => ?_⟩
  · obtain ⟨rfl, rfl⟩ := hi
    rw [List.getElem?_map] at hd
    cases e : xs[i]? with
    | none => rw [e] at hd; cases hd
    | some x =>
      rw [e] at hd
      cases hd
      obtain ⟨hlt, e2⟩ := List.getElem?_eq_some_iff.mp e
      obtain ⟨ds3, e3, h2⟩ := h x (List.mem_of_getElem? e)
      refine om_of e3 ?_
      refine h2 _ ⟨?_, ?_, rfl⟩
      · rw [List.length_map, List.length_take]
        show min i xs.length < 16777216
        omega
      · rw [List.take_succ, e, List.map_append]; rfl
  · obtain ⟨rfl, rfl⟩ := hi
    rw [List.length_map, List.take_length]; exact hq
/-- the same with a test -/
theorem lc_filter {α : Type} {asg : D → DS → Option DS} {t : MT} {ta : ME} {ds : DS} {m : Mem} {Φ : D → Mem → Prop} {enc : α → D} {f : α → Bool} {g : α → D} {xs : List α} (hn : xs.length ≤ 1000000)
    (h : ∀ x ∈ xs, ∃ ds3, asg (enc x) ds = some ds3 ∧ (∀ Ψ : Bool → Mem → Prop, Ψ (f x) m → t ds3 m Ψ X0) ∧ (f x = true → ∀ Ψ : D → Mem → Prop, Ψ (g x) m → ta ds3 m Ψ X0)) (hq : Φ (.lst ((xs.filter f).map g)) m) : LcW asg (some t) ta (xs.map enc) ds m Φ := by
  refine ⟨fun i acc m2 => acc = ((xs.take i).filter f).map g ∧ m2 = m, ⟨by simp, rfl⟩, fun i d acc m2 hd hi => ?_, fun acc m2 hi => ?_⟩
  · obtain ⟨rfl, rfl⟩ := hi
    rw [List.getElem?_map] at hd
    cases e : xs[i]? with
    | none => rw [e] at hd; cases hd
    | some x =>
      rw [e] at hd
      cases hd
      obtain ⟨hlt, e2⟩ := List.getElem?_eq_some_iff.mp e
      obtain ⟨ds3, e3, h1, h2⟩ := h x (List.mem_of_getElem? e)
      have tk : xs.take (i + 1) = xs.take i ++ [x] := by rw [List.take_succ, e]; rfl
      refine om_of e3 (h1 _ (br_b (fun hq => h2 hq _ ⟨?_, ?_, rfl⟩) fun hq => ⟨?_, rfl⟩))
      · have h3 : (((xs.take i).filter f).map g).length ≤ (xs.take i).length := by rw [List.length_map]; exact List.length_filter_le _ _
        rw [List.length_take] at h3
        show (((xs.take i).filter f).map g).length < 16777216
        omega
      · rw [tk, List.filter_append, List.map_append]; simp [hq]
      · rw [tk, List.filter_append, List.map_append]; simp [hq]
  · obtain ⟨rfl, rfl⟩ := hi
    rw [List.length_map, List.take_length]; exact hq
theorem map_id' (l : List D) : l = l.map id := by simp
end DL
local macro_rules | `(tactic| walk_at "w") => `(tactic| conv => whnf)
namespace DL
open PySem PySem.Spec PyProof.Rows L2 G
/-! ### texts by their signs -/
def sOf (l : List Nat) : Str := ⟨l.toArray⟩
theorem sOf_cps (l : List Nat) : (sOf l).cps.toList = l := rfl
theorem sOf_len (l : List Nat) : (sOf l).length = l.length := by show l.toArray.size = _; simp
theorem sOf_inj {a b : List Nat} (h : sOf a = sOf b) : a = b := by
  have := congrArg (fun z : Str => z.cps.toList) h
  exact this
theorem of_sOf (z : Str) : z = sOf z.cps.toList := by
  cases z; rfl
theorem signs_sOf (l : List Nat) : G.signs (sOf l) = l.map fun c => D.str (sOf [c]) := rfl
theorem sOf_app (a b : List Nat) : sOf a ++ sOf b = sOf (a ++ b) := by
  show (⟨a.toArray ++ b.toArray⟩ : Str) = ⟨(a ++ b).toArray⟩
  congr 1
  simp
theorem fold_rep (x : Array Nat) : ∀ (n : Nat) (acc : Array Nat), (List.replicate n x).foldl (· ++ ·) acc = acc ++ (List.replicate n x.toList).flatten.toArray
  | 0, acc => by simp
  | n + 1, acc => by
    rw [List.replicate_succ, List.foldl_cons, fold_rep x n, List.replicate_succ, List.flatten_cons]
    apply Array.toList_inj.mp
    simp
theorem mul_sOf (l : List Nat) (n : Nat) : Txt.mul (sOf l) (n : Int) = sOf (List.replicate n l).flatten := by
  unfold Txt.mul
  by_cases h : (n : Int) < 1
  · have : n = 0 := by omega
    subst this
    rw [if_pos h]; rfl
  · rw [if_neg h]
    split
    · next hc =>
      rw [Bool.or_eq_true] at hc
      rcases hc with hc | hc
      · have : n = 1 := by have := of_decide_eq_true hc; omega
        subst this
        simp
      · have hl : l = [] := by
          have h0 : (sOf l).length = 0 := of_decide_eq_true hc
          rw [sOf_len] at h0
          exact List.eq_nil_of_length_eq_zero h0
        subst hl
        congr 1
        induction n with
        | zero => rfl
        | succ n ih => rw [List.replicate_succ, List.flatten_cons]; simp
    · rw [Int.toNat_natCast, fold_rep]
      congr 1
      simp [sOf]
theorem rep1 (n c : Nat) : (List.replicate n [c]).flatten = List.replicate n c := by
  induction n with
  | zero => rfl
  | succ n ih => rw [List.replicate_succ, List.flatten_cons, ih, List.replicate_succ]; rfl
theorem mul_one1 (c n : Nat) : Txt.mul (sOf [c]) (n : Int) = sOf (List.replicate n c) := by rw [mul_sOf, rep1]
end DL
local macro_rules | `(tactic| walk_at "w") => `(tactic| conv => whnf)
namespace DL
open PySem PySem.Spec PyProof.Rows L2 G
theorem mulOk_s {l : List Nat} {n : Nat} (h1 : l.length ≤ 100) (h2 : n ≤ 1000) : MulOk (sOf l) (n : Int) := by
  have e : (sOf l).length = l.length := sOf_len l
  have hm : l.length * n ≤ 100 * 1000 := Nat.mul_le_mul h1 h2
  refine ⟨?_, fun h _ => ?_, fun h _ => ?_⟩
  · rw [decide_eq_false (by omega), decide_eq_false (by omega)]; rfl
  · rw [e]
    have h0 : (0 : Int) < n := by omega
    have : (l.length : Int) ≤ (2 ^ 63 - 1) / n := by
      rw [Int.le_ediv_iff_mul_le h0]
      have : ((l.length * n : Nat) : Int) ≤ 100 * 1000 := by exact_mod_cast hm
      rw [Int.natCast_mul] at this
      omega
    omega
  · rw [e, Int.toNat_natCast]
    show decide (l.length * n > 16777216) = false
    exact decide_eq_false (by omega)
/-! ### all([sign in ".." for sign in z]) -/
theorem one1_s (c : Nat) : one1 (sOf [c]) = some c := rfl
/-- the comprehension that looks at each sign -/
theorem lc_in {asg : D → DS → Option DS} {ta : ME} {ds : DS} {m : Mem} {Φ : D → Mem → Prop} {l : List Nat} {w : List Nat} (hn : l.length ≤ 1000000)
    (h : ∀ c ∈ l, ∃ ds3, asg (.str (sOf [c])) ds = some ds3 ∧ ∀ Ψ : D → Mem → Prop, Ψ (.bl (decide (c ∈ w))) m → ta ds3 m Ψ X0) (hq : Φ (.lst (l.map fun c => D.bl (decide (c ∈ w)))) m) : LcW asg none ta (G.signs (sOf l)) ds m Φ := by
  rw [signs_sOf]
  exact lc_map (enc := fun c => D.str (sOf [c])) (g := fun c => D.bl (decide (c ∈ w))) hn h hq
theorem str_os : (Str.ofString "os").cps.toList = [111, 115] := by decide
theorem str_osq : (Str.ofString "os?").cps.toList = [111, 115, 63] := by decide
theorem str_s : Str.ofString "s" = sOf [115] := by decide
theorem str_o : Str.ofString "o" = sOf [111] := by decide
theorem str_q : Str.ofString "?" = sOf [63] := by decide
end DL
namespace DL
open PySem PySem.Spec PyProof.Rows L2 G
def t_need_standing (A : Ad) : MS := (seq (if_ (tor (tnot (tst (o1 (fIs "str") (v_ 1)))) (tst (o2 oNe (o1 fLen (v_ 1)) (o1 (fFld A.Cabinet ["many", "locks"] 0) (v_ 0))))) (seq (raise0 A.BadStanding)
  nil_s) nil_s)
  (seq (if_ (tnot (tst (o1 fAll (lc_ (it_q (v_ 1)) (fun d ds => some ((wipeD ds [2]).set 2 (some d))) none (o2 (oIn false) (v_ 2) (k_ (.str "os"))))))) (seq (raise0 A.BadStanding)
  nil_s) nil_s)
  nil_s))
def c_need_standing (A : Ad) : SpD := cF (t_need_standing A) 1
def t_need_drawer (A : Ad) : MS := (seq (if_ (tnot (tst (call_ 3 (c_is_from A) (cons_ (v_ 1) (cons_ (k_ (.int 0)) (cons_ (o2 oSub (o1 (fFld A.Cabinet ["many", "locks"] 0) (v_ 0)) (k_ (.int 1))) nil_)))))) (seq (raise0 A.BadDrawer)
  nil_s) nil_s)
  nil_s)
def c_need_drawer (A : Ad) : SpD := cF (t_need_drawer A) 0
def t_way_of (A : Ad) : MS := (seq (ret_ (ite_ (tst (o2 oEq (o2 oIx (v_ 0) (v_ 1)) (k_ (.str "s")))) (k_ d_OPEN) (k_ d_SHUT)))
  nil_s)
def c_way_of (A : Ad) : SpD := cF (t_way_of A) 0
def t_hold (A : Ad) : MS := (seq (asg_ (gT 4 (gsC (g_ 3) (gsC (g_ 4) (gsC (g_ 5) (gsC (g_ 6) gsN))))) (v_ 0))
  (seq (ret_ (and_ (o2 oEq (v_ 3) (v_ 2)) (and_ (o2 oEq (v_ 4) (call_ 2 (c_way_of A) (cons_ (v_ 1) (cons_ (v_ 2) nil_)))) (o2 oNe (o1 fSgn (o2 oIx (v_ 1) (v_ 5))) (v_ 6)))))
  nil_s))
def c_hold (A : Ad) : SpD := cF (t_hold A) 4
def t_is_free (A : Ad) : MS := (seq (ret_ (not_ (o1 fAny (lc_ (it_q (v_ 0)) (fun d ds => some ((wipeD ds [3]).set 3 (some d))) none (call_ 3 (c_hold A) (cons_ (v_ 3) (cons_ (v_ 1) (cons_ (v_ 2) nil_))))))))
  nil_s)
def c_is_free (A : Ad) : SpD := cF (t_is_free A) 1
def t_moved (A : Ad) : MS := (seq (ret_ (o2 oAdd (o2 oAdd (sl_ (v_ 0) no_ (so_ (v_ 1))) (ite_ (tst (o2 oEq (o2 oIx (v_ 0) (v_ 1)) (k_ (.str "s")))) (k_ (.str "o")) (k_ (.str "s")))) (sl_ (v_ 0) (so_ (o2 oAdd (v_ 1) (k_ (.int 1)))) no_)))
  nil_s)
def c_moved (A : Ad) : SpD := cF (t_moved A) 0
def t_free_of (A : Ad) : MS := (seq (ret_ (lc_ (it_r (o1 (fFld A.Cabinet ["many", "locks"] 0) (v_ 0))) (fun d ds => some ((wipeD ds [2]).set 2 (some d))) (some (tst (call_ 3 (c_is_free A) (cons_ (o1 (fFld A.Cabinet ["many", "locks"] 1) (v_ 0)) (cons_ (v_ 1) (cons_ (v_ 2) nil_)))))) (v_ 2)))
  nil_s)
def c_free_of (A : Ad) : SpD := cF (t_free_of A) 1
def t_can (A : Ad) : MS := (seq (ex_ (call_ 1 (c_need_cabinet A) (cons_ (v_ 0) nil_)))
  (seq (ex_ (call_ 2 (c_need_standing A) (cons_ (v_ 0) (cons_ (v_ 1) nil_))))
  (seq (ret_ (call_ 2 (c_free_of A) (cons_ (v_ 0) (cons_ (v_ 1) nil_))))
  nil_s)))
def c_can (A : Ad) : SpD := cF (t_can A) 0
def t_behind (A : Ad) : MS := (seq (ex_ (call_ 1 (c_need_cabinet A) (cons_ (v_ 0) nil_)))
  (seq (ex_ (call_ 2 (c_need_standing A) (cons_ (v_ 0) (cons_ (v_ 1) nil_))))
  (seq (ex_ (call_ 2 (c_need_drawer A) (cons_ (v_ 0) (cons_ (v_ 2) nil_))))
  (seq (if_ (tnot (tst (call_ 3 (c_is_free A) (cons_ (o1 (fFld A.Cabinet ["many", "locks"] 1) (v_ 0)) (cons_ (v_ 1) (cons_ (v_ 2) nil_)))))) (seq (raise0 A.Barred)
  nil_s) nil_s)
  (seq (ret_ (call_ 2 (c_moved A) (cons_ (v_ 1) (cons_ (v_ 2) nil_))))
  nil_s)))))
def c_behind (A : Ad) : SpD := cF (t_behind A) 0
def t_barring (A : Ad) : MS := (seq (ex_ (call_ 1 (c_need_cabinet A) (cons_ (v_ 0) nil_)))
  (seq (ex_ (call_ 2 (c_need_standing A) (cons_ (v_ 0) (cons_ (v_ 1) nil_))))
  (seq (ex_ (call_ 2 (c_need_drawer A) (cons_ (v_ 0) (cons_ (v_ 2) nil_))))
  (seq (ret_ (lc_ (it_q (o1 (fFld A.Cabinet ["many", "locks"] 1) (v_ 0))) (fun d ds => some ((wipeD ds [3]).set 3 (some d))) (some (tst (call_ 3 (c_hold A) (cons_ (v_ 3) (cons_ (v_ 1) (cons_ (v_ 2) nil_)))))) (v_ 3)))
  nil_s))))
def c_barring (A : Ad) : SpD := cF (t_barring A) 1
def t_law_hold (A : Ad) : MS := (seq (if_ (tor (tst (o2 oNe (o2 oIx (v_ 0) (k_ (.int 0))) (v_ 2))) (tst (o2 oNe (o2 oIx (v_ 0) (k_ (.int 1))) (ite_ (tst (o2 oEq (o2 oIx (v_ 1) (v_ 2)) (k_ (.str "s")))) (k_ (.str "open")) (k_ (.str "shut")))))) (seq (ret_ (k_ (.bl false)))
  nil_s) nil_s)
  (seq (ret_ (o2 oNe (o2 oIx (v_ 0) (k_ (.int 3))) (ite_ (tst (o2 oEq (o2 oIx (v_ 1) (o2 oIx (v_ 0) (k_ (.int 2)))) (k_ (.str "o")))) (k_ (.str "open")) (k_ (.str "shut")))))
  nil_s))
def c_law_hold (A : Ad) : SpD := cF (t_law_hold A) 0
def t_law_free (A : Ad) : MS := (seq (ret_ (lc_ (it_r (o2 oIx (v_ 0) (k_ (.int 0)))) (fun d ds => some ((wipeD ds [2]).set 2 (some d))) (some (tnot (tst (o1 fAny (lc_ (it_q (o2 oIx (v_ 0) (k_ (.int 1)))) (fun d ds => some ((wipeD ds [3]).set 3 (some d))) none (call_ 3 (c_law_hold A) (cons_ (v_ 3) (cons_ (v_ 1) (cons_ (v_ 2) nil_))))))))) (v_ 2)))
  nil_s)
def c_law_free (A : Ad) : SpD := cF (t_law_free A) 2
def t_law_moved (A : Ad) : MS := (seq (ret_ (mth_ .str gJoin (k_ (.str "")) (cons_ (lc_ (it_r (o1 fLen (v_ 0))) (fun d ds => some ((wipeD ds [2]).set 2 (some d))) none (ite_ (tst (o2 oNe (v_ 2) (v_ 1))) (o2 oIx (v_ 0) (v_ 2)) (o2 oIx (k_ (.str "os")) (mth_ .str gIndex (k_ (.str "so")) (cons_ (o2 oIx (v_ 0) (v_ 2)) nil_))))) nil_)))
  nil_s)
def c_law_moved (A : Ad) : SpD := cF (t_law_moved A) 1
def t_law_pattern (A : Ad) : MS := (seq (ret_ (mth_ .str gJoin (k_ (.str "")) (cons_ (lc_ (it_r (v_ 1)) (fun d ds => some ((wipeD ds [3]).set 3 (some d))) none (o2 oIx (v_ 2) (call_ 2 (c_law_taken A) (cons_ (v_ 0) (cons_ (o1 fLen (v_ 2)) nil_))))) nil_)))
  nil_s)
def c_law_pattern (A : Ad) : SpD := cF (t_law_pattern A) 1
end DL
local macro_rules | `(tactic| walk_at "w") => `(tactic| conv => whnf)
namespace DL
open PySem PySem.Spec PyProof.Rows L2 G
/-! ### standings: true is open -/
abbrev St := List Bool
def sgC (b : Bool) : Nat := if b then 111 else 115
def stS2 (s : St) : Str := sOf (s.map sgC)
def encSt (s : St) : D := .str (stS2 s)
def nD (k : Nat) : D := .int k
theorem st_len (s : St) : (stS2 s).length = s.length := by unfold stS2; rw [sOf_len, List.length_map]
theorem st_at {s : St} {d : Nat} (h : d < s.length) : atI (stS2 s).cps.toList (d : Int) = some (sgC s[d]) := by
  refine atI_nat ?_
  show (s.map sgC)[d]? = _
  simp [h]
theorem sg_s (b : Bool) : eqD (.str ⟨#[sgC b]⟩) (.str "s") = !b := by cases b <;> rfl
theorem sg_o (b : Bool) : eqD (.str ⟨#[sgC b]⟩) (.str "o") = b := by cases b <;> rfl
theorem st_eq (a b : Bool) : eqD (.str (stS a)) (.str (stS b)) = (a == b) := by cases a <;> cases b <;> rfl
def hold (b : Bar) (s : St) (d : Nat) : Bool := decide (b.mv = d) && (b.wy == !(s.getD d false)) && (s.getD b.ot false != b.sd)
def freeAt (c : Cab) (s : St) (d : Nat) : Bool := !(c.bars.any fun b => hold b s d)
def freeOf (c : Cab) (s : St) : List Nat := (List.range c.n).filter (freeAt c s)
def moved (s : St) (d : Nat) : St := s.set d (!(s.getD d false))
theorem way_s {A : Ad} {s : St} {d : Nat} {m : Mem} {Φ : D → Mem → Prop} {Ψ : XF} (h : d < s.length) (h7 : s.length ≤ 1000) (q : Φ (.str (stS (!(s.getD d false)))) m) : CallW (c_way_of A) [encSt s, .int d] m Φ Ψ := ⟨by
  have hg : s.getD d false = s[d] := by simp [h]
  rw [hg] at q
  walk_at "w"
  refine gd_of (decide_eq_true (show (stS2 s).length ≤ 16777216 by rw [st_len]; omega)) (om_of (st_at h) ?_)
  walk_at "w"
  refine gd_of rfl ?_
  rw [sg_s]
  cases e : s[d] with
  | true => rw [e] at q; exact q
  | false => rw [e] at q; exact q⟩
theorem hold_s {A : Ad} {b : Bar} {s : St} {d : Nat} {m : Mem} {Φ : D → Mem → Prop} {Ψ : XF} (h7 : s.length ≤ 1000) (hd : d < s.length) (ho : b.ot < s.length) (q : Φ (.bl (hold b s d)) m) : CallW (c_hold A) [encBar b, encSt s, .int d] m Φ Ψ := ⟨by
  unfold hold at q
  walk_at "w"
  refine gd_of rfl ?_
  walk_at "w"
  have e1 : eqD (.int b.mv) (.int d) = decide (b.mv = d) := by
    show ((b.mv : Int) == (d : Int)) = _
    by_cases h : b.mv = d
    · subst h; simp
    · rw [decide_eq_false h]; exact beq_eq_false_iff_ne.mpr (by omega)
  rw [show eqD (keyD (.inl (b.mv : Int))) (.int d) = decide (b.mv = d) from e1]
  cases h1 : decide (b.mv = d) with
  | false => rw [h1] at q; exact q
  | true =>
    rw [h1] at q
    walk_at "w"
    refine way_s hd h7 ?_
    walk_at "w"
    refine gd_of rfl ?_
    rw [show eqD (keyD (.inr (stS b.wy))) (.str (stS (!(s.getD d false)))) = (b.wy == !(s.getD d false)) from st_eq _ _]
    cases h2 : (b.wy == !(s.getD d false)) with
    | false => rw [h2] at q; exact q
    | true =>
      rw [h2] at q
      walk_at "w"
      refine gd_of (decide_eq_true (show (stS2 s).length ≤ 16777216 by rw [st_len]; omega)) (om_of (st_at ho) ?_)
      have hg : s.getD b.ot false = s[b.ot] := by simp [ho]
      rw [hg] at q
      have e3 : sgn ⟨#[sgC s[b.ot]]⟩ = some (stS s[b.ot]) := by cases s[b.ot] <;> rfl
      walk_at "w"
      refine om_of e3 ?_
      walk_at "w"
      refine gd_of rfl ?_
      rw [show eqD (.str (stS s[b.ot])) (keyD (.inr (stS b.sd))) = (s[b.ot] == b.sd) from st_eq _ _]
      exact q⟩
theorem law_hold_s {A : Ad} {b : Bar} {s : St} {d : Nat} {m : Mem} {Φ : D → Mem → Prop} {Ψ : XF} (h7 : s.length ≤ 1000) (hd : d < s.length) (ho : b.ot < s.length) (q : Φ (.bl (hold b s d)) m) : CallW (c_law_hold A) [encBar b, encSt s, .int d] m Φ Ψ := ⟨by
  unfold hold at q
  walk_at "w"
  refine gd_of rfl ?_
  walk_at "w"
  have e1 : eqD (.int b.mv) (.int d) = decide (b.mv = d) := by
    show ((b.mv : Int) == (d : Int)) = _
    by_cases h : b.mv = d
    · subst h; simp
    · rw [decide_eq_false h]; exact beq_eq_false_iff_ne.mpr (by omega)
  rw [show eqD (keyD (.inl (b.mv : Int))) (.int d) = decide (b.mv = d) from e1]
  have hgd : s.getD d false = s[d] := by simp [hd]
  have hgo : s.getD b.ot false = s[b.ot] := by simp [ho]
  rw [hgd, hgo] at q
  cases h1 : decide (b.mv = d) with
  | false => rw [h1] at q; exact q
  | true =>
    rw [h1] at q
    walk_at "w"
    refine gd_of (decide_eq_true (show (stS2 s).length ≤ 16777216 by rw [st_len]; omega)) (om_of (st_at hd) ?_)
    walk_at "w"
    refine gd_of rfl ?_
    rw [sg_s]
    have tail : (b.wy == !s[d]) = true → ∀ ds : DS, ds = [some (encBar b), some (encSt s), some (.int d)] → seq (ret_ (o2 oNe (o2 oIx (v_ 0) (k_ (.int 3))) (ite_ (tst (o2 oEq (o2 oIx (v_ 1) (o2 oIx (v_ 0) (k_ (.int 2)))) (k_ (.str "o")))) (k_ (.str "open")) (k_ (.str "shut"))))) nil_s ds m { nx := fun _ m => Φ .non m, rt := Φ } fun _ => Ψ := fun h2 ds e => by
      subst e
      rw [h2] at q
      walk_at "w"
      refine gd_of (decide_eq_true (show (stS2 s).length ≤ 16777216 by rw [st_len]; omega)) (om_of (st_at ho) ?_)
      walk_at "w"
      refine gd_of rfl ?_
      rw [sg_o]
      cases e3 : s[b.ot] with
      | true =>
        rw [e3] at q
        walk_at "w"
        refine gd_of rfl ?_
        rw [show eqD (keyD (.inr (stS b.sd))) (.str "open") = (b.sd == true) from st_eq b.sd true]
        cases e4 : b.sd <;> rw [e4] at q <;> exact q
      | false =>
        rw [e3] at q
        walk_at "w"
        refine gd_of rfl ?_
        rw [show eqD (keyD (.inr (stS b.sd))) (.str "shut") = (b.sd == false) from st_eq b.sd false]
        cases e4 : b.sd <;> rw [e4] at q <;> exact q
    cases e2 : s[d] with
    | true =>
      walk_at "w"
      refine gd_of rfl ?_
      rw [show eqD (keyD (.inr (stS b.wy))) (.str "shut") = (b.wy == false) from st_eq b.wy false]
      cases e4 : b.wy with
      | true => rw [e2, e4] at q; exact q
      | false => exact tail (by rw [e2, e4]; rfl) _ rfl
    | false =>
      walk_at "w"
      refine gd_of rfl ?_
      rw [show eqD (keyD (.inr (stS b.wy))) (.str "open") = (b.wy == true) from st_eq b.wy true]
      cases e4 : b.wy with
      | false => rw [e2, e4] at q; exact q
      | true => exact tail (by rw [e2, e4]; rfl) _ rfl⟩
theorem is_free_s {A : Ad} {c : Cab} {s : St} {d : Nat} {m : Mem} {Φ : D → Mem → Prop} {Ψ : XF} (hc : CabOk c) (hs : s.length = c.n) (hd : d < c.n) (q : Φ (.bl (freeAt c s d)) m) : CallW (c_is_free A) [.tup (encBars c.bars), encSt s, .int d] m Φ Ψ := ⟨by
  have h7 := hc.h7
  have hf := hc.few
  walk_at "w"
  refine lc_map (enc := encBar) (g := fun b => D.bl (hold b s d)) (xs := c.bars) (by omega) (fun b hb => ⟨_, rfl, fun Ψ' hq => ?_⟩) ?_
  · walk_at "w"
    exact hold_s (by omega) (by omega) (by rw [hs]; exact (hc.ok b hb).h2) hq
  · walk_at "w"
    refine om_of (bools_map _ _) ?_
    rw [any_id]
    exact q⟩
theorem free_of_s {A : Ad} {c : Cab} {s : St} {m : Mem} {Φ : D → Mem → Prop} {Ψ : XF} (hc : CabOk c) (hs : s.length = c.n) (q : Φ (.lst ((freeOf c s).map nD)) m) : CallW (c_free_of A) [encCab A c, encSt s] m Φ Ψ := ⟨by
  have h7 := hc.h7
  walk_at "w"
  refine ⟨⟨rfl, rfl⟩, ?_⟩
  walk_at "w"
  refine RgW.nat (by omega) ?_
  rw [Int.toNat_natCast]
  refine lc_filter (enc := fun (i : Nat) => D.int (0 + (i : Int))) (f := freeAt c s) (g := nD) (xs := List.range c.n) (by simp; omega) (fun i hi => ?_) q
  have hi' := List.mem_range.mp hi
  have e0 : (0 : Int) + (i : Int) = (i : Int) := by omega
  rw [e0]
  refine ⟨_, rfl, fun Ψ' hq => ?_, fun _ Ψ' hq => ?_⟩
  · walk_at "w"
    refine ⟨⟨rfl, rfl⟩, ?_⟩
    walk_at "w"
    refine is_free_s hc hs hi' ?_
    exact hq
  · exact hq⟩
theorem law_free_s {A : Ad} {c : Cab} {s : St} {m : Mem} {Φ : D → Mem → Prop} {Ψ : XF} (hc : CabOk c) (hs : s.length = c.n) (q : Φ (.lst ((freeOf c s).map nD)) m) : CallW (c_law_free A) [encD c, encSt s] m Φ Ψ := ⟨by
  have h7 := hc.h7
  have hfew := hc.few
  walk_at "w"
  refine RgW.nat (by omega) ?_
  rw [Int.toNat_natCast]
  refine lc_filter (enc := fun (i : Nat) => D.int (0 + (i : Int))) (f := freeAt c s) (g := nD) (xs := List.range c.n) (by simp; omega) (fun i hi => ?_) q
  have hi' := List.mem_range.mp hi
  have e0 : (0 : Int) + (i : Int) = (i : Int) := by omega
  rw [e0]
  refine ⟨_, rfl, fun Ψ' hq => ?_, fun _ Ψ' hq => ?_⟩
  · walk_at "w"
    refine lc_map (enc := encBar) (g := fun b => D.bl (hold b s i)) (xs := c.bars) (by omega) (fun b hb => ⟨_, rfl, fun Ψ' hq => ?_⟩) ?_
    · walk_at "w"
      exact law_hold_s (by omega) (by omega) (by rw [hs]; exact (hc.ok b hb).h2) hq
    · walk_at "w"
      refine om_of (bools_map _ _) ?_
      rw [any_id]
      exact hq
  · exact hq⟩
end DL
local macro_rules | `(tactic| walk_at "w") => `(tactic| conv => whnf)
namespace DL
open PySem PySem.Spec PyProof.Rows L2 G
theorem cut_to {l : List Nat} {d : Nat} (h : d ≤ l.length) : cutS (sOf l) none (some (d : Int)) = sOf (l.take d) := by
  unfold cutS
  rw [HT.sIx_none, HT.sIx_nat, sOf_len]
  show (⟨((l.drop 0).take (min d l.length - 0)).toArray⟩ : Str) = _
  rw [List.drop_zero, Nat.sub_zero, Nat.min_eq_left h]; rfl
theorem cut_from {l : List Nat} {d : Nat} (h : d ≤ l.length) : cutS (sOf l) (some (d : Int)) none = sOf (l.drop d) := by
  unfold cutS
  rw [HT.sIx_none, HT.sIx_nat, sOf_len]
  show (⟨((l.drop (min d l.length)).take (l.length - min d l.length)).toArray⟩ : Str) = _
  rw [Nat.min_eq_left h, List.take_of_length_le (by simp)]; rfl
theorem set_cut {α : Type} {l : List α} {d : Nat} {x : α} (h : d < l.length) : l.take d ++ [x] ++ l.drop (d + 1) = l.set d x := by
  rw [List.set_eq_take_append_cons_drop, if_pos h, List.append_assoc]; rfl
theorem moved_len (s : St) (d : Nat) : (moved s d).length = s.length := by simp [moved]
theorem moved_st {s : St} {d : Nat} (h : d < s.length) : sOf ((s.map sgC).take d) ++ sOf [sgC (!s[d])] ++ sOf ((s.map sgC).drop (d + 1)) = stS2 (moved s d) := by
  rw [sOf_app, sOf_app, set_cut (by simpa using h)]
  unfold stS2 moved
  rw [List.map_set]
  simp [h]
theorem moved_s {A : Ad} {s : St} {d : Nat} {m : Mem} {Φ : D → Mem → Prop} {Ψ : XF} (h : d < s.length) (h7 : s.length ≤ 1000) (q : Φ (encSt (moved s d)) m) : CallW (c_moved A) [encSt s, .int d] m Φ Ψ := ⟨by
  have hL : (stS2 s).length ≤ sizeLine := by rw [st_len]; show s.length ≤ 16777216; omega
  have e1 : cutS (stS2 s) none (some (d : Int)) = sOf ((s.map sgC).take d) := cut_to (by simp; omega)
  have e2 : cutS (stS2 s) (some ((d : Int) + 1)) none = sOf ((s.map sgC).drop (d + 1)) := by
    have := cut_from (l := s.map sgC) (d := d + 1) (by simp; omega)
    exact this
  walk_at "w"
  refine gd_of (decide_eq_true hL) ?_
  rw [e1]
  walk_at "w"
  refine gd_of (decide_eq_true hL) (om_of (st_at h) ?_)
  walk_at "w"
  refine gd_of rfl ?_
  rw [sg_s]
  have fin : ∀ (x : Str), x = sOf [sgC (!s[d])] → o2 oAdd (o2 oAdd (k_ (.str (sOf ((s.map sgC).take d)))) (k_ (.str x))) (sl_ (v_ 0) (so_ (o2 oAdd (v_ 1) (k_ (.int 1)))) no_) [some (encSt s), some (.int d)] m Φ (fun _ => Ψ) := fun x e => by
    subst e
    walk_at "w"
    refine gd_of (decide_eq_true (by rw [sOf_len, sOf_len]; simp; show min d s.length + 1 ≤ 16777216; omega)) ?_
    walk_at "w"
    refine gd_of (decide_eq_true hL) ?_
    rw [e2]
    walk_at "w"
    refine gd_of (decide_eq_true ?_) ?_
    · rw [sOf_app, sOf_len, sOf_len]
      simp
      show min d s.length + 1 + (s.length - (d + 1)) ≤ 16777216
      omega
    rw [moved_st h]
    exact q
  cases e : s[d] with
  | true => exact fin _ (by rw [e]; rfl)
  | false => exact fin _ (by rw [e]; rfl)⟩
end DL
local macro_rules | `(tactic| walk_at "w") => `(tactic| conv => whnf)
namespace DL
open PySem PySem.Spec PyProof.Rows L2 G
theorem join_sOf : ∀ l : List Nat, Txt.join (Str.ofString "") (l.map fun c => sOf [c]) = sOf l := by
  intro l
  show PySem.Builtin.Str.glued _ _ = _
  rw [PySem.StrLaws.glued_eq_join]
  have e0 : Str.ofString "" = sOf [] := by decide
  rw [e0]
  induction l with
  | nil => rfl
  | cons c l ih =>
    cases l with
    | nil => rfl
    | cons d l =>
      show sOf [c] ++ sOf [] ++ Str.join (sOf []) (sOf [d] :: l.map fun c => sOf [c]) = _
      rw [show sOf [d] :: l.map (fun c => sOf [c]) = (d :: l).map fun c => sOf [c] from rfl, ih, sOf_app, sOf_app]
      rfl
theorem sum_ones (l : List Nat) : ((l.map fun c => sOf [c]).map (·.length)).sum = l.length := by
  induction l with
  | nil => rfl
  | cons c l ih => rw [List.map_cons, List.map_cons, List.sum_cons, ih, sOf_len]; simp; omega
/-- "".join of single signs -/
theorem join_go {l : List Nat} {m : Mem} {Φ : D → Mem → Prop} (hl : l.length ≤ 1000000) (q : Φ (.str (sOf l)) m) : gJoin (.str "") [.lst (l.map fun c => D.str (sOf [c]))] m Φ := by
  refine ⟨l.map fun c => sOf [c], .inl ?_, ?_, ?_⟩
  · rw [List.map_map]; rfl
  · rw [sum_ones]
    show l.length + (l.map fun c => sOf [c]).length * (Str.ofString "").length ≤ _
    rw [show (Str.ofString "").length = 0 from by decide]
    omega
  · rw [join_sOf]; exact q
theorem ix_so (b : Bool) : Txt.index0 (Str.ofString "so") ⟨#[sgC b]⟩ = some (if b then 1 else 0) := by cases b <;> decide +kernel
theorem at_os (b : Bool) : atI (Str.ofString "os").cps.toList (((if b then 1 else 0 : Nat)) : Int) = some (sgC !b) := by cases b <;> decide +kernel
theorem law_moved_s {A : Ad} {s : St} {d : Nat} {m : Mem} {Φ : D → Mem → Prop} {Ψ : XF} (h : d < s.length) (h7 : s.length ≤ 1000) (q : Φ (encSt (moved s d)) m) : CallW (c_law_moved A) [encSt s, .int d] m Φ Ψ := ⟨by
  have hL : (stS2 s).length ≤ sizeLine := by rw [st_len]; show s.length ≤ 16777216; omega
  walk_at "w"
  refine gd_of (decide_eq_true hL) ?_
  rw [st_len]
  walk_at "w"
  refine RgW.nat (by omega) ?_
  rw [Int.toNat_natCast]
  have e1 : (List.range s.length).map (fun i => D.str (sOf [sgC ((moved s d).getD i false)])) = ((moved s d).map sgC).map fun c => D.str (sOf [c]) := by
    apply List.ext_getElem?
    intro i
    rw [List.getElem?_map, List.getElem?_map, List.getElem?_map]
    by_cases hi : i < s.length
    · have hi2 : i < (moved s d).length := by rw [moved_len]; exact hi
      simp [hi, hi2]
    · rw [List.getElem?_eq_none (by simp; omega), List.getElem?_eq_none (by rw [moved_len]; omega)]; rfl
  refine lc_map (enc := fun (i : Nat) => D.int (0 + (i : Int))) (g := fun i => D.str (sOf [sgC ((moved s d).getD i false)])) (xs := List.range s.length) (by simp; omega) (fun i hi => ?_) ?_
  · have hi' := List.mem_range.mp hi
    have e0 : (0 : Int) + (i : Int) = (i : Int) := by omega
    rw [e0]
    refine ⟨_, rfl, fun Ψ' hq => ?_⟩
    walk_at "w"
    refine gd_of rfl ?_
    have e2 : eqD (.int i) (.int d) = decide (i = d) := by
      show ((i : Int) == (d : Int)) = _
      by_cases e : i = d
      · subst e; simp
      · rw [decide_eq_false e]; exact beq_eq_false_iff_ne.mpr (by omega)
    rw [show eqD (.int (i : Int)) (.int (d : Int)) = decide (i = d) from e2]
    by_cases e : i = d
    · subst e
      rw [decide_eq_true rfl]
      walk_at "w"
      refine gd_of (decide_eq_true hL) (om_of (st_at hi') ?_)
      have e3 : (moved s i).getD i false = !s[i] := by simp [moved, hi']
      rw [e3] at hq
      walk_at "w"
      refine om_of (ix_so _) ?_
      walk_at "w"
      refine om_of (at_os _) ?_
      exact hq
    · rw [decide_eq_false e]
      walk_at "w"
      refine gd_of (decide_eq_true hL) (om_of (st_at hi') ?_)
      have e3 : (moved s d).getD i false = s[i] := by
        unfold moved
        rw [List.getD_eq_getElem?_getD, List.getElem?_set_ne (fun z => e z.symm)]
        simp [hi']
      rw [e3] at hq
      exact hq
  · rw [e1]
    refine join_go (by simp [moved_len]; omega) ?_
    exact q⟩
theorem all_os (s : St) : (s.map sgC).all (fun c => decide (c ∈ [111, 115])) = true := by
  rw [List.all_map, List.all_eq_true]
  intro b _
  cases b <;> rfl
theorem need_standing_s {A : Ad} {c : Cab} {s : St} {m : Mem} {Φ : D → Mem → Prop} {Ψ : XF} (hc : CabOk c) (hs : s.length = c.n) (q : Φ .non m) : CallW (c_need_standing A) [encCab A c, encSt s] m Φ Ψ := ⟨by
  have h7 := hc.h7
  have hL : (stS2 s).length ≤ sizeLine := by rw [st_len]; show s.length ≤ 16777216; omega
  walk_at "w"
  refine gd_of (decide_eq_true hL) ?_
  walk_at "w"
  refine ⟨⟨rfl, rfl⟩, ?_⟩
  walk_at "w"
  refine gd_of rfl ?_
  have e : eqD (.int ((stS2 s).length : Nat)) (.int c.n) = true := by
    show (((stS2 s).length : Int) == (c.n : Int)) = true
    rw [st_len, hs]; simp
  rw [e]
  walk_at "w"
  refine lc_in (l := s.map sgC) (w := [111, 115]) (by simp; omega) (fun c hc => ⟨_, rfl, fun Ψ' hq => hq⟩) ?_
  walk_at "w"
  refine om_of (bools_map _ _) ?_
  rw [all_id, all_os]
  exact q⟩
theorem need_drawer_s {A : Ad} {c : Cab} {d : Nat} {m : Mem} {Φ : D → Mem → Prop} {Ψ : XF} (hd : d < c.n) (q : Φ .non m) : CallW (c_need_drawer A) [encCab A c, .int d] m Φ Ψ := ⟨by
  walk_at "w"
  refine ⟨⟨rfl, rfl⟩, ?_⟩
  walk_at "w"
  refine is_from_s rfl ?_
  rw [isFrom_nat hd]
  exact q⟩
theorem can_s {A : Ad} {c : Cab} {s : St} {m : Mem} {Φ : D → Mem → Prop} {Ψ : XF} (hc : CabOk c) (hs : s.length = c.n) (q : Φ (.lst ((freeOf c s).map nD)) m) : CallW (c_can A) [encCab A c, encSt s] m Φ Ψ := ⟨by
  walk_at "w"
  refine need_cab_s ?_
  walk_at "w"
  refine need_standing_s hc hs ?_
  walk_at "w"
  exact free_of_s hc hs q⟩
theorem behind_s {A : Ad} {c : Cab} {s : St} {d : Nat} {m : Mem} {Φ : D → Mem → Prop} {Ψ : XF} (hc : CabOk c) (hs : s.length = c.n) (hd : d < c.n) (q1 : freeAt c s d = true → Φ (encSt (moved s d)) m) (q2 : freeAt c s d = false → Ψ A.Barred [] m) : CallW (c_behind A) [encCab A c, encSt s, .int d] m Φ Ψ := ⟨by
  have h7 := hc.h7
  walk_at "w"
  refine need_cab_s ?_
  walk_at "w"
  refine need_standing_s hc hs ?_
  walk_at "w"
  refine need_drawer_s hd ?_
  walk_at "w"
  refine ⟨⟨rfl, rfl⟩, ?_⟩
  walk_at "w"
  refine is_free_s hc hs hd ?_
  cases e : freeAt c s d with
  | true =>
    walk_at "w"
    exact moved_s (by omega) (by omega) (q1 e)
  | false => exact q2 e⟩
theorem barring_s {A : Ad} {c : Cab} {s : St} {d : Nat} {m : Mem} {Φ : D → Mem → Prop} {Ψ : XF} (hc : CabOk c) (hs : s.length = c.n) (hd : d < c.n) (q : Φ (.lst ((c.bars.filter fun b => hold b s d).map encBar)) m) : CallW (c_barring A) [encCab A c, encSt s, .int d] m Φ Ψ := ⟨by
  have h7 := hc.h7
  have hf := hc.few
  walk_at "w"
  refine need_cab_s ?_
  walk_at "w"
  refine need_standing_s hc hs ?_
  walk_at "w"
  refine need_drawer_s hd ?_
  walk_at "w"
  refine ⟨⟨rfl, rfl⟩, ?_⟩
  walk_at "w"
  refine lc_filter (enc := encBar) (f := fun b => hold b s d) (g := encBar) (xs := c.bars) (by omega) (fun b hb => ⟨_, rfl, fun Ψ' hq => ?_, fun _ Ψ' hq => hq⟩) q
  walk_at "w"
  exact hold_s (by omega) (by omega) (by rw [hs]; exact (hc.ok b hb).h2) hq⟩
/-- a drawn text of signs -/
theorem pattern_s {A : Ad} {p : Addr} {ns : List Int} {n : Nat} {sg : List Nat} {m : Mem} {j : Nat} {Φ : D → Mem → Prop} {Ψ : XF} (R : RowAt m j p ns) (hns : ns.length ≤ 63) (hn : n ≤ 1000) (hsg : 1 ≤ sg.length) (hsg2 : sg.length ≤ 1000)
    (q : ∀ l c, RowC ns c → l.length = n → (∀ x ∈ l, x ∈ sg) → Φ (.str (sOf l)) (m.set j (p, c))) : CallW (c_law_pattern A) [.ref p, .int n, .str (sOf sg)] m Φ Ψ := ⟨by
  walk_at "w"
  refine RgW.nat (by omega) ?_
  rw [Int.toNat_natCast]
  obtain ⟨c0, hc0, hm0⟩ : ∃ c0, RowC ns c0 ∧ m = m.set j (p, c0) := by
    obtain ⟨i, s, r, h, e⟩ := R
    refine ⟨_, ⟨i, s, r, h, rfl⟩, ?_⟩
    obtain ⟨h1, h2⟩ := List.getElem?_eq_some_iff.mp e
    rw [← h2]; exact (List.set_getElem_self h1).symm
  refine ⟨fun i acc m2 => ∃ l c, RowC ns c ∧ l.length = i ∧ (∀ x ∈ l, x ∈ sg) ∧ acc = l.map (fun x => D.str (sOf [x])) ∧ m2 = m.set j (p, c), ⟨[], c0, hc0, rfl, fun _ h => (nomatch h), rfl, hm0⟩, fun i d acc m2 hd hi => ?_, fun acc m2 hi => ?_⟩
  · obtain ⟨l, c1, hc1, hl, hx, rfl, rfl⟩ := hi
    have hil : i < n := by
      have := (List.getElem?_eq_some_iff.mp hd).1
      simpa [rngD] using this
    refine om_of rfl ?_
    walk_at "w"
    refine gd_of (decide_eq_true (show (sOf sg).length ≤ 16777216 by rw [sOf_len]; omega)) ?_
    rw [sOf_len]
    walk_at "w"
    refine taken_s (R.set hc1) hns (by omega) (by omega) fun v c2 hc2 hv hv2 => ?_
    rw [set_set']
    obtain ⟨x, hx2, hx3⟩ := pick (P := fun x => x ∈ sg) (l := sg) hv hv2 (fun x h => h)
    walk_at "w"
    refine gd_of (decide_eq_true (show (sOf sg).length ≤ 16777216 by rw [sOf_len]; omega)) (om_of (show atI (sOf sg).cps.toList v = some x from hx2) ?_)
    refine ⟨?_, l ++ [x], c2, hc2, by simp [hl], fun y hy => ?_, by rw [List.map_append]; rfl, rfl⟩
    · show (l.map fun x => D.str (sOf [x])).length < 16777216
      rw [List.length_map]; omega
    · rcases List.mem_append.mp hy with z | z
      · exact hx y z
      · rw [List.mem_singleton] at z; rw [z]; exact hx3
  · obtain ⟨l, c1, hc1, hl, hx, rfl, rfl⟩ := hi
    have hln : l.length = n := by rw [hl]; simp [rngD]
    walk_at "w"
    exact join_go (by omega) (q l c1 hc1 hln hx)⟩
/-- signs of a standing -/
theorem st_of {l : List Nat} (h : ∀ x ∈ l, x ∈ [111, 115]) : ∃ s : St, l = s.map sgC := by
  induction l with
  | nil => exact ⟨[], rfl⟩
  | cons x l ih =>
    obtain ⟨s, rfl⟩ := ih fun y hy => h y (List.mem_cons_of_mem _ hy)
    have := h x List.mem_cons_self
    simp only [List.mem_cons, List.not_mem_nil, or_false] at this
    rcases this with rfl | rfl
    · exact ⟨true :: s, rfl⟩
    · exact ⟨false :: s, rfl⟩
theorem eqD_refl (d : D) : eqD d d = true := PySem.SeqAt.eqv_refl_plain _ (plain_py d)
end DL
local macro_rules | `(tactic| walk_at "w") => `(tactic| conv => whnf)
namespace DL
open PySem PySem.Spec PyProof.Rows L2 G
/-! ### data that can be compared -/
/-- plain, and not deeper than k -/
def Cmp (k : Nat) (d : D) : Prop := pl d = true ∧ dep d ≤ k
theorem cmpA {k : Nat} {α : Type} {enc : α → D} : ∀ {l : List α}, (∀ x ∈ l, Cmp k (enc x)) → plA (l.map enc) = true ∧ PyData.depthAll (pyA (l.map enc)) ≤ k
  | [], _ => ⟨rfl, Nat.zero_le _⟩
  | x :: l, h => by
    obtain ⟨h1, h2⟩ := h x List.mem_cons_self
    obtain ⟨h3, h4⟩ := cmpA (l := l) fun y hy => h y (List.mem_cons_of_mem _ hy)
    refine ⟨?_, ?_⟩
    · show (pl (enc x) && plA (l.map enc)) = true
      rw [h1, h3]; rfl
    · show max (dep (enc x)) (PyData.depthAll (pyA (l.map enc))) ≤ k
      omega
theorem cmp_lst {k : Nat} {α : Type} {enc : α → D} {l : List α} (h : ∀ x ∈ l, Cmp k (enc x)) : Cmp (k + 1) (.lst (l.map enc)) := ⟨(cmpA h).1, Nat.succ_le_succ (cmpA h).2⟩
theorem cmp_tup {k : Nat} {α : Type} {enc : α → D} {l : List α} (h : ∀ x ∈ l, Cmp k (enc x)) : Cmp (k + 1) (.tup (l.map enc)) := ⟨(cmpA h).1, Nat.succ_le_succ (cmpA h).2⟩
theorem cmp_int (i : Int) : Cmp 0 (.int i) := ⟨rfl, Nat.le_refl _⟩
theorem cmp_str (z : Str) : Cmp 0 (.str z) := ⟨rfl, Nat.le_refl _⟩
theorem cmp_nD (k : Nat) : Cmp 0 (nD k) := cmp_int _
theorem cmp_bar (b : Bar) : Cmp 1 (encBar b) := ⟨rfl, Nat.le_refl _⟩
theorem plk_cmp {j k : Nat} {a b : D} (ha : Cmp j a) (hb : Cmp k b) (h : j ≤ 60) : plk a b = true := by
  unfold plk
  rw [ha.1, hb.1, decide_eq_true (Nat.le_trans ha.2 h)]; rfl
/-- a row of numbers is no other -/
theorem eqD_lst {α : Type} [DecidableEq α] {enc : α → D} (hi : ∀ x y, eqD (enc x) (enc y) = decide (x = y)) : ∀ l l' : List α, eqD (.lst (l.map enc)) (.lst (l'.map enc)) = decide (l = l')
  | [], [] => rfl
  | [], _ :: _ => by
    rw [decide_eq_false (by simp)]; rfl
  | _ :: _, [] => by
    rw [decide_eq_false (by simp)]; rfl
  | x :: l, y :: l' => by
    show (PyData.eqv (py (enc x)) (py (enc y)) && PyData.eqvAll (pyA (l.map enc)) (pyA (l'.map enc))) = _
    have e1 : PyData.eqv (py (enc x)) (py (enc y)) = decide (x = y) := hi x y
    have e2 : PyData.eqvAll (pyA (l.map enc)) (pyA (l'.map enc)) = decide (l = l') := eqD_lst hi l l'
    rw [e1, e2]
    by_cases h : x = y
    · subst h; by_cases h2 : l = l'
      · subst h2; simp
      · simp [h2]
    · simp [h]
theorem eqD_nD (a b : Nat) : eqD (nD a) (nD b) = decide (a = b) := by
  show ((a : Int) == (b : Int)) = _
  by_cases h : a = b
  · subst h; simp
  · rw [decide_eq_false h]; exact beq_eq_false_iff_ne.mpr (by omega)
theorem any_nD (x : Nat) : ∀ l : List Nat, ((l.map nD).any fun y => eqD y (nD x)) = decide (x ∈ l)
  | [] => rfl
  | y :: l => by
    rw [List.map_cons, List.any_cons, any_nD x l, eqD_nD]
    by_cases h : y = x
    · subst h; simp
    · by_cases h2 : x ∈ l
      · simp [h2]
      · simp [h, h2]; exact fun z => h z.symm
/-- x in [..] of numbers -/
theorem in_nD (x : Nat) (l : List Nat) : inD (nD x) (.lst (l.map nD)) = some (decide (x ∈ l)) := by
  have h : plks (nD x) (l.map nD) = true := by
    unfold plks
    rw [(cmpA (k := 0) (enc := nD) (l := l) fun y _ => cmp_nD y).1]; rfl
  show (if plks (nD x) (l.map nD) = true then some _ else none) = _
  rw [if_pos h, any_nD]
theorem mem_free {c : Cab} {s : St} {d : Nat} (h : d < c.n) : decide (d ∈ freeOf c s) = freeAt c s d := by
  unfold freeOf
  cases e : freeAt c s d with
  | true => exact decide_eq_true (List.mem_filter.mpr ⟨List.mem_range.mpr h, e⟩)
  | false => exact decide_eq_false fun z => by rw [(List.mem_filter.mp z).2] at e; cases e
end DL
namespace DL
open PySem PySem.Spec PyProof.Rows L2 G
def t_need_pattern (A : Ad) : MS := (seq (if_ (tor (tnot (tst (o1 (fIs "str") (v_ 1)))) (tst (o2 oNe (o1 fLen (v_ 1)) (o1 (fFld A.Cabinet ["many", "locks"] 0) (v_ 0))))) (seq (raise0 A.BadPattern)
  nil_s) nil_s)
  (seq (if_ (tnot (tst (o1 fAll (lc_ (it_q (v_ 1)) (fun d ds => some ((wipeD ds [2]).set 2 (some d))) none (o2 (oIn false) (v_ 2) (k_ (.str "os?"))))))) (seq (raise0 A.BadPattern)
  nil_s) nil_s)
  nil_s))
def c_need_pattern (A : Ad) : SpD := cF (t_need_pattern A) 1
def t_all_shut (A : Ad) : MS := (seq (ret_ (o2 oMul (k_ (.str "s")) (o1 (fFld A.Cabinet ["many", "locks"] 0) (v_ 0))))
  nil_s)
def c_all_shut (A : Ad) : SpD := cF (t_all_shut A) 0
def t_fits (A : Ad) : MS := (seq (ret_ (o1 fAll (lc_ (it_e (v_ 0)) (setTup [2, 3] [2, 3]) none (o2 (oIn false) (v_ 3) (tup_ (cons_ (k_ (.str "?")) (cons_ (o2 oIx (v_ 1) (v_ 2)) nil_)))))))
  nil_s)
def c_fits (A : Ad) : SpD := cF (t_fits A) 2
def t_right_row (A : Ad) : MS := (seq (ex_ (call_ 1 (c_need_cabinet A) (cons_ (v_ 0) nil_)))
  (seq (ex_ (call_ 2 (c_need_pattern A) (cons_ (v_ 0) (cons_ (v_ 1) nil_))))
  (seq (if_ (tnot (tst (o1 (fIs "tuple") (v_ 2)))) (seq (ret_ (k_ (.bl false)))
  nil_s) nil_s)
  (seq (set_ 3 (call_ 1 (c_all_shut A) (cons_ (v_ 0) nil_)))
  (seq (for_ (it_q (v_ 2)) (g_ 4) (seq (if_ (tor (tnot (tst (o1 (fIs "int") (v_ 4)))) (tor (tst (o1 (fIs "bool") (v_ 4))) (tst (o2 (oIn true) (v_ 4) (call_ 2 (c_free_of A) (cons_ (v_ 0) (cons_ (v_ 3) nil_))))))) (seq (ret_ (k_ (.bl false)))
  nil_s) nil_s)
  (seq (set_ 3 (call_ 2 (c_moved A) (cons_ (v_ 3) (cons_ (v_ 4) nil_))))
  nil_s)))
  (seq (ret_ (call_ 2 (c_fits A) (cons_ (v_ 1) (cons_ (v_ 3) nil_))))
  nil_s))))))
def c_right_row (A : Ad) : SpD := cF (t_right_row A) 2
def t_law_fits (A : Ad) : MS := (seq (ret_ (o1 fAll (lc_ (it_r (o1 fLen (v_ 0))) (fun d ds => some ((wipeD ds [2]).set 2 (some d))) none (o2 (oIn false) (o2 oIx (v_ 0) (v_ 2)) (lst_ (cons_ (k_ (.str "?")) (cons_ (o2 oIx (v_ 1) (v_ 2)) nil_)))))))
  nil_s)
def c_law_fits (A : Ad) : SpD := cF (t_law_fits A) 1
def t_law_is_row (A : Ad) : MS := (seq (set_ 3 (o2 oMul (k_ (.str "s")) (o2 oIx (v_ 0) (k_ (.int 0)))))
  (seq (for_ (it_q (v_ 2)) (g_ 4) (seq (if_ (tst (o2 (oIn true) (v_ 4) (call_ 2 (c_law_free A) (cons_ (v_ 0) (cons_ (v_ 3) nil_))))) (seq (ret_ (k_ (.bl false)))
  nil_s) nil_s)
  (seq (set_ 3 (call_ 2 (c_law_moved A) (cons_ (v_ 3) (cons_ (v_ 4) nil_))))
  nil_s)))
  (seq (ret_ (call_ 2 (c_law_fits A) (cons_ (v_ 1) (cons_ (v_ 3) nil_))))
  nil_s)))
def c_law_is_row (A : Ad) : SpD := cF (t_law_is_row A) 2
end DL
local macro_rules | `(tactic| walk_at "w") => `(tactic| conv => whnf)
namespace DL
open PySem PySem.Spec PyProof.Rows L2 G
/-! ### patterns -/
structure PatOk (n : Nat) (p : List Nat) : Prop where
  len : p.length = n
  sg : ∀ x ∈ p, x ∈ [111, 115, 63]
def shut (n : Nat) : St := List.replicate n false
theorem shut_len (n : Nat) : (shut n).length = n := List.length_replicate
theorem shut_st (n : Nat) : stS2 (shut n) = sOf (List.replicate n 115) := by
  unfold stS2 shut
  rw [List.map_replicate]; rfl
theorem shut_mul (n : Nat) : Txt.mul (Str.ofString "s") (n : Int) = stS2 (shut n) := by rw [shut_st, str_s, mul_one1]
theorem shut_ok {n : Nat} (h : n ≤ 1000) : MulOk (Str.ofString "s") (n : Int) := by rw [str_s]; exact mulOk_s (by simp) h
theorem all_shut_s {A : Ad} {c : Cab} {m : Mem} {Φ : D → Mem → Prop} {Ψ : XF} (hc : CabOk c) (q : Φ (encSt (shut c.n)) m) : CallW (c_all_shut A) [encCab A c] m Φ Ψ := ⟨by
  have h7 := hc.h7
  walk_at "w"
  refine ⟨⟨rfl, rfl⟩, ?_⟩
  walk_at "w"
  refine ⟨shut_ok (by omega), ?_⟩
  rw [shut_mul]
  exact q⟩
theorem pat_all {n : Nat} {p : List Nat} (h : PatOk n p) : p.all (fun c => decide (c ∈ [111, 115, 63])) = true := by
  rw [List.all_eq_true]
  exact fun x hx => decide_eq_true (h.sg x hx)
theorem need_pattern_s {A : Ad} {c : Cab} {p : List Nat} {m : Mem} {Φ : D → Mem → Prop} {Ψ : XF} (hc : CabOk c) (hp : PatOk c.n p) (q : Φ .non m) : CallW (c_need_pattern A) [encCab A c, .str (sOf p)] m Φ Ψ := ⟨by
  have h7 := hc.h7
  have hl := hp.len
  walk_at "w"
  refine gd_of (decide_eq_true (show (sOf p).length ≤ 16777216 by rw [sOf_len]; omega)) ?_
  walk_at "w"
  refine ⟨⟨rfl, rfl⟩, ?_⟩
  walk_at "w"
  refine gd_of rfl ?_
  have e : eqD (.int ((sOf p).length : Nat)) (.int c.n) = true := by
    show (((sOf p).length : Int) == (c.n : Int)) = true
    rw [sOf_len, hl]; simp
  rw [e]
  walk_at "w"
  refine lc_in (l := p) (w := [111, 115, 63]) (by omega) (fun c hc => ⟨_, rfl, fun Ψ' hq => hq⟩) ?_
  walk_at "w"
  refine om_of (bools_map _ _) ?_
  rw [all_id, pat_all hp]
  exact q⟩
def fitAt (p : List Nat) (s : St) (i : Nat) : Bool := decide (p.getD i 0 = 63) || decide (p.getD i 0 = sgC (s.getD i false))
def fitsB (p : List Nat) (s : St) : Bool := (List.range p.length).all (fitAt p s)
theorem eqD_sg (a b : Nat) : eqD (.str (sOf [a])) (.str (sOf [b])) = decide (a = b) := by
  show ((sOf [a]) == (sOf [b])) = _
  by_cases h : a = b
  · subst h; simp
  · rw [decide_eq_false h]
    exact beq_eq_false_iff_ne.mpr fun z => h (by have := sOf_inj z; simpa using this)
theorem any2 (a x y : Nat) : ([D.str (sOf [x]), .str (sOf [y])].any fun z => eqD z (.str (sOf [a]))) = (decide (a = x) || decide (a = y)) := by
  show (eqD (.str (sOf [x])) (.str (sOf [a])) || (eqD (.str (sOf [y])) (.str (sOf [a])) || false)) = _
  rw [eqD_sg, eqD_sg, Bool.or_false]
  congr 1 <;> exact decide_eq_decide.mpr ⟨Eq.symm, Eq.symm⟩
theorem enum_sOf (l : List Nat) : enumD (G.signs (sOf l)) = (List.range l.length).map fun i => D.tup [.int (i : Nat), .str (sOf [l.getD i 0])] := by
  rw [signs_sOf]
  apply List.ext_getElem?
  intro i
  by_cases h : i < l.length
  · simp [enumD, h]
  · rw [List.getElem?_eq_none (by simp [enumD]; omega), List.getElem?_eq_none (by simp; omega)]
theorem fits_s {A : Ad} {p : List Nat} {s : St} {m : Mem} {Φ : D → Mem → Prop} {Ψ : XF} (hl : p.length = s.length) (h7 : s.length ≤ 1000) (q : Φ (.bl (fitsB p s)) m) : CallW (c_fits A) [.str (sOf p), encSt s] m Φ Ψ := ⟨by
  have hL : (stS2 s).length ≤ sizeLine := by rw [st_len]; show s.length ≤ 16777216; omega
  walk_at "w"
  rw [enum_sOf]
  refine lc_map (enc := fun i => D.tup [.int (i : Nat), .str (sOf [p.getD i 0])]) (g := fun i => .bl (fitAt p s i)) (xs := List.range p.length) (by simp; omega) (fun i hi => ⟨_, rfl, fun Ψ' hq => ?_⟩) ?_
  · have hi' := List.mem_range.mp hi
    walk_at "w"
    refine gd_of (decide_eq_true hL) (om_of (st_at (by omega)) ?_)
    walk_at "w"
    show Ψ' (.bl ([D.str (sOf [63]), .str (sOf [sgC s[i]])].any fun z => eqD z (.str (sOf [p.getD i 0])))) m
    rw [any2]
    have e : fitAt p s i = (decide (p.getD i 0 = 63) || decide (p.getD i 0 = sgC s[i])) := by
      unfold fitAt
      rw [show s.getD i false = s[i] from by simp [show i < s.length by omega]]
    rw [e] at hq
    exact hq
  · walk_at "w"
    refine om_of (bools_map _ _) ?_
    rw [all_id]
    exact q⟩
theorem law_fits_s {A : Ad} {p : List Nat} {s : St} {m : Mem} {Φ : D → Mem → Prop} {Ψ : XF} (hl : p.length = s.length) (h7 : s.length ≤ 1000) (q : Φ (.bl (fitsB p s)) m) : CallW (c_law_fits A) [.str (sOf p), encSt s] m Φ Ψ := ⟨by
  have hL : (stS2 s).length ≤ sizeLine := by rw [st_len]; show s.length ≤ 16777216; omega
  have hP : (sOf p).length ≤ sizeLine := by rw [sOf_len]; show p.length ≤ 16777216; omega
  walk_at "w"
  refine gd_of (decide_eq_true hP) ?_
  rw [sOf_len]
  walk_at "w"
  refine RgW.nat (by omega) ?_
  rw [Int.toNat_natCast]
  refine lc_map (enc := fun (i : Nat) => D.int (0 + (i : Int))) (g := fun i => .bl (fitAt p s i)) (xs := List.range p.length) (by simp; omega) (fun i hi => ?_) ?_
  · have hi' := List.mem_range.mp hi
    have e0 : (0 : Int) + (i : Int) = (i : Int) := by omega
    rw [e0]
    refine ⟨_, rfl, fun Ψ' hq => ?_⟩
    walk_at "w"
    refine gd_of (decide_eq_true hP) (om_of (show atI (sOf p).cps.toList (i : Int) = some p[i] from atI_nat (by show p[i]? = _; simp [hi'])) ?_)
    walk_at "w"
    refine gd_of (decide_eq_true hL) (om_of (st_at (by omega)) ?_)
    walk_at "w"
    show Ψ' (.bl ([D.str (sOf [63]), .str (sOf [sgC s[i]])].any fun z => eqD z (.str (sOf [p[i]])))) m
    rw [any2]
    have e : fitAt p s i = (decide (p[i] = 63) || decide (p[i] = sgC s[i])) := by
      unfold fitAt
      rw [show s.getD i false = s[i] from by simp [show i < s.length by omega], show p.getD i 0 = p[i] from by simp [hi']]
    rw [e] at hq
    exact hq
  · walk_at "w"
    refine om_of (bools_map _ _) ?_
    rw [all_id]
    exact q⟩
/-! ### rows -/
def isRow (c : Cab) (p : List Nat) : St → List Nat → Bool
  | s, [] => fitsB p s
  | s, d :: l => if decide (d ∈ freeOf c s) then isRow c p (moved s d) l else false
theorem free_lt {c : Cab} {s : St} {d : Nat} (h : d ∈ freeOf c s) : d < c.n := List.mem_range.mp (List.mem_filter.mp h).1
theorem right_row_s {A : Ad} {c : Cab} {p l : List Nat} {m : Mem} {Φ : D → Mem → Prop} {Ψ : XF} (hc : CabOk c) (hp : PatOk c.n p) (q : Φ (.bl (isRow c p (shut c.n) l)) m) : CallW (c_right_row A) [encCab A c, .str (sOf p), .tup (l.map nD)] m Φ Ψ := ⟨by
  have h7 := hc.h7
  walk_at "w"
  refine need_cab_s ?_
  walk_at "w"
  refine need_pattern_s hc hp ?_
  walk_at "w"
  refine all_shut_s hc ?_
  walk_at "w"
  refine for_rest (xs := l) (enc := nD) (fun rest ds m2 => m2 = m ∧ ∃ s x, s.length = c.n ∧ isRow c p s rest = isRow c p (shut c.n) l ∧ ds = [some (encCab A c), some (.str (sOf p)), some (.tup (l.map nD)), some (encSt s), x]) ⟨rfl, shut c.n, _, shut_len _, rfl, rfl⟩ (fun d rest ds m2 hd hI => ?_) (fun ds m2 hI => ?_)
  · obtain ⟨rfl, s, x, hs, hr, rfl⟩ := hI
    walk_at "w"
    refine free_of_s hc hs ?_
    walk_at "w"
    refine om_of (show inD (nD d) (.lst ((freeOf c s).map nD)) = _ from in_nD d _) ?_
    rw [show isRow c p s (d :: rest) = (if decide (d ∈ freeOf c s) = true then isRow c p (moved s d) rest else false) from rfl] at hr
    cases e : decide (d ∈ freeOf c s) with
    | false =>
      rw [e] at hr
      rw [← hr] at q
      exact q
    | true =>
      rw [e] at hr
      have hlt := free_lt (of_decide_eq_true e)
      walk_at "w"
      refine moved_s (by omega) (by omega) ?_
      exact ⟨rfl, moved s d, _, by rw [moved_len]; exact hs, hr, rfl⟩
  · obtain ⟨rfl, s, x, hs, hr, rfl⟩ := hI
    walk_at "w"
    refine fits_s (by rw [hp.len, hs]) (by omega) ?_
    rw [show fitsB p s = isRow c p (shut c.n) l from hr]
    exact q⟩
theorem law_row_s {A : Ad} {c : Cab} {p l : List Nat} {m : Mem} {Φ : D → Mem → Prop} {Ψ : XF} (hc : CabOk c) (hp : PatOk c.n p) (q : Φ (.bl (isRow c p (shut c.n) l)) m) : CallW (c_law_is_row A) [encD c, .str (sOf p), .tup (l.map nD)] m Φ Ψ := ⟨by
  have h7 := hc.h7
  walk_at "w"
  refine ⟨shut_ok (by omega), ?_⟩
  rw [shut_mul]
  walk_at "w"
  refine for_rest (xs := l) (enc := nD) (fun rest ds m2 => m2 = m ∧ ∃ s x, s.length = c.n ∧ isRow c p s rest = isRow c p (shut c.n) l ∧ ds = [some (encD c), some (.str (sOf p)), some (.tup (l.map nD)), some (encSt s), x]) ⟨rfl, shut c.n, _, shut_len _, rfl, rfl⟩ (fun d rest ds m2 hd hI => ?_) (fun ds m2 hI => ?_)
  · obtain ⟨rfl, s, x, hs, hr, rfl⟩ := hI
    walk_at "w"
    refine law_free_s hc hs ?_
    walk_at "w"
    refine om_of (show inD (nD d) (.lst ((freeOf c s).map nD)) = _ from in_nD d _) ?_
    rw [show isRow c p s (d :: rest) = (if decide (d ∈ freeOf c s) = true then isRow c p (moved s d) rest else false) from rfl] at hr
    cases e : decide (d ∈ freeOf c s) with
    | false =>
      rw [e] at hr
      rw [← hr] at q
      exact q
    | true =>
      rw [e] at hr
      have hlt := free_lt (of_decide_eq_true e)
      walk_at "w"
      refine law_moved_s (by omega) (by omega) ?_
      exact ⟨rfl, moved s d, _, by rw [moved_len]; exact hs, hr, rfl⟩
  · obtain ⟨rfl, s, x, hs, hr, rfl⟩ := hI
    walk_at "w"
    refine law_fits_s (by rw [hp.len, hs]) (by omega) ?_
    rw [show fitsB p s = isRow c p (shut c.n) l from hr]
    exact q⟩
end DL
namespace DL
open PySem PySem.Spec PyProof.Rows L2 G
def t_rows_from (A : Ad) : MS := (seq (par_ 2 3 (dd1_ (v_ 1) (tup_ nil_)) (lstM_ (cons_ (v_ 1) nil_)))
  (seq (while_ (tst (o2 (oEqV true) (v_ 3) (lst_ nil_))) (seq (set_ 4 (mth_ .list gPop (v_ 3) (cons_ (k_ (.int 0)) nil_)))
  (seq (for_ (it_q (call_ 2 (c_free_of A) (cons_ (v_ 0) (cons_ (v_ 4) nil_)))) (g_ 5) (seq (set_ 6 (call_ 2 (c_moved A) (cons_ (v_ 4) (cons_ (v_ 5) nil_))))
  (seq (if_ (tst (o2 (oIn true) (v_ 6) (v_ 2))) (seq (asg_ (gPut (v_ 2) (v_ 6)) (o2 oAdd (o2 oGet (v_ 2) (v_ 4)) (tup_ (cons_ (v_ 5) nil_))))
  (seq (ex_ (mth_ .list gApp (v_ 3) (cons_ (v_ 6) nil_)))
  nil_s)) nil_s)
  nil_s)))
  nil_s)))
  (seq (ret_ (dre_ (fz_ (v_ 2))))
  nil_s)))
def c_rows_from (A : Ad) : SpD := cF (t_rows_from A) 5
def t_best_row (A : Ad) : MS := (seq (set_ 2 (lc_ (it_i (v_ 0)) (setTup [3, 4] [3, 4]) (some (tst (call_ 2 (c_fits A) (cons_ (v_ 1) (cons_ (v_ 3) nil_))))) (tup_ (cons_ (o1 fLen (v_ 4)) (cons_ (v_ 4) nil_)))))
  (seq (ret_ (ite_ (tst (o2 oNe (v_ 2) (lst_ nil_))) (o2 oIx (o1 fMin (v_ 2)) (k_ (.int 1))) (k_ .non)))
  nil_s))
def c_best_row (A : Ad) : SpD := cF (t_best_row A) 3
def t_law_rows (A : Ad) : MS := (seq (par_ 2 3 (dd1_ (v_ 1) (tup_ nil_)) (lst_ (cons_ (v_ 1) nil_)))
  (seq (while_ (tst (o2 oNe (v_ 3) (lst_ nil_))) (seq (set_ 4 (lstM_ nil_))
  (seq (for_ (it_q (v_ 3)) (g_ 5) (seq (for_ (it_q (call_ 2 (c_law_free A) (cons_ (v_ 0) (cons_ (v_ 5) nil_)))) (g_ 6) (seq (set_ 7 (call_ 2 (c_law_moved A) (cons_ (v_ 5) (cons_ (v_ 6) nil_))))
  (seq (if_ (tst (o2 (oIn true) (v_ 7) (v_ 2))) (seq (asg_ (gPut (v_ 2) (v_ 7)) (o2 oAdd (o2 oGet (v_ 2) (v_ 5)) (tup_ (cons_ (v_ 6) nil_))))
  (seq (ex_ (mth_ .list gApp (v_ 4) (cons_ (v_ 7) nil_)))
  nil_s)) nil_s)
  nil_s)))
  nil_s))
  (seq (set_ 3 (fz_ (v_ 4)))
  nil_s))))
  (seq (ret_ (fz_ (v_ 2)))
  nil_s)))
def c_law_rows (A : Ad) : SpD := cF (t_law_rows A) 6
def t_law_best (A : Ad) : MS := (seq (set_ 1 (k_ .non))
  (seq (for_ (it_q (v_ 0)) (g_ 2) (seq (if_ (tor (tst (o2 oIs (v_ 1) (k_ .non))) (tst (o2 oLt (tup_ (cons_ (o1 fLen (v_ 2)) (cons_ (v_ 2) nil_))) (tup_ (cons_ (o1 fLen (v_ 1)) (cons_ (v_ 1) nil_)))))) (seq (set_ 1 (v_ 2))
  nil_s) nil_s)
  nil_s))
  (seq (ret_ (v_ 1))
  nil_s)))
def c_law_best (A : Ad) : SpD := cF (t_law_best A) 2
end DL
namespace DL
open PySem PySem.Spec PyProof.Rows L2 G
/-! ### going through the standings, breadth first -/
abbrev Fnd := List (St × List Nat)
def keysF (f : Fnd) : List St := f.map (·.1)
def hasF (f : Fnd) (s : St) : Bool := decide (s ∈ keysF f)
def rowF (f : Fnd) (s : St) : List Nat := ((f.find? fun p => decide (p.1 = s)).map (·.2)).getD []
def exp1 (h : St) (fl : Fnd × List St) (d : Nat) : Fnd × List St :=
  if hasF fl.1 (moved h d) = true then fl else (fl.1 ++ [(moved h d, rowF fl.1 h ++ [d])], fl.2 ++ [moved h d])
def expand (c : Cab) (f : Fnd) (q : List St) (h : St) : Fnd × List St := (freeOf c h).foldl (exp1 h) (f, q)
inductive Run (c : Cab) : Nat → Fnd → List St → Fnd → Prop
  | nil {k : Nat} {f : Fnd} : Run c k f [] f
  | cons {k : Nat} {f : Fnd} {h : St} {q : List St} {r : Fnd} (t : Run c k (expand c f q h).1 (expand c f q h).2 r) : Run c (k + 1) f (h :: q) r
structure BOk (n : Nat) (f : Fnd) (q : List St) : Prop where
  len : ∀ p ∈ f, p.1.length = n
  nd : (keysF f).Nodup
  inq : ∀ s ∈ q, s ∈ keysF f
  row : ∀ p ∈ f, p.2.length < f.length
  ql : q.length ≤ f.length
  rd : ∀ p ∈ f, ∀ x ∈ p.2, x < n
def allSt : Nat → List St
  | 0 => [[]]
  | n + 1 => (allSt n).map (true :: ·) ++ (allSt n).map (false :: ·)
theorem allSt_len : ∀ n, (allSt n).length = 2 ^ n
  | 0 => rfl
  | n + 1 => by
    show ((allSt n).map (true :: ·) ++ (allSt n).map (false :: ·)).length = 2 ^ (n + 1)
    rw [List.length_append, List.length_map, List.length_map, allSt_len n, Nat.pow_succ]; omega
theorem mem_allSt : ∀ {n : Nat} {s : St}, s.length = n → s ∈ allSt n
  | 0, s, h => by cases s with | nil => exact List.mem_cons_self | cons _ _ => simp at h
  | n + 1, s, h => by
    cases s with
    | nil => simp at h
    | cons b s =>
      have := mem_allSt (n := n) (s := s) (by simpa using h)
      show _ ∈ (allSt n).map (true :: ·) ++ (allSt n).map (false :: ·)
      cases b
      · exact List.mem_append_right _ (List.mem_map.mpr ⟨s, this, rfl⟩)
      · exact List.mem_append_left _ (List.mem_map.mpr ⟨s, this, rfl⟩)
theorem BOk.le {n : Nat} {f : Fnd} {q : List St} (h : BOk n f q) : f.length ≤ 2 ^ n := by
  have h1 : (keysF f).length ≤ (allSt n).length := List.Nodup.length_le_of_subset h.nd fun s hs => by
    obtain ⟨p, hp, rfl⟩ := List.mem_map.mp hs
    exact mem_allSt (h.len p hp)
  rw [allSt_len] at h1
  unfold keysF at h1
  rw [List.length_map] at h1
  exact h1
theorem BOk.small {n : Nat} {f : Fnd} {q : List St} (h : BOk n f q) (hn : n ≤ 7) : f.length ≤ 128 := by
  have h1 := h.le
  have h2 : 2 ^ n ≤ 2 ^ 7 := Nat.pow_le_pow_right (by decide) hn
  omega
theorem BOk.tail {n : Nat} {f : Fnd} {q : List St} {h : St} (B : BOk n f (h :: q)) : BOk n f q := ⟨B.len, B.nd, fun s hs => B.inq s (List.mem_cons_of_mem _ hs), B.row, by have := B.ql; simp at this; omega, B.rd⟩
theorem keysF_app (f g : Fnd) : keysF (f ++ g) = keysF f ++ keysF g := List.map_append
theorem rowF_mem {f : Fnd} {s : St} (h : s ∈ keysF f) : (s, rowF f s) ∈ f := by
  obtain ⟨p, hp, rfl⟩ := List.mem_map.mp h
  cases e : f.find? (fun x => decide (x.1 = p.1)) with
  | none => have := List.find?_eq_none.mp e p hp; simp at this
  | some x =>
    have h1 : x.1 = p.1 := by simpa using List.find?_some e
    have h2 := List.mem_of_find?_eq_some e
    unfold rowF
    rw [e]
    show (p.1, x.2) ∈ f
    rw [← h1]; exact h2
theorem exp1_ok {n : Nat} {f : Fnd} {q : List St} {h : St} {d : Nat} (B : BOk n f q) (hh : h ∈ keysF f) (hd : d < n) : BOk n (exp1 h (f, q) d).1 (exp1 h (f, q) d).2 ∧ h ∈ keysF (exp1 h (f, q) d).1 ∧ (exp1 h (f, q) d).1.length + q.length = f.length + (exp1 h (f, q) d).2.length := by
  by_cases e : hasF f (moved h d) = true
  · rw [show exp1 h (f, q) d = (f, q) from if_pos e]; exact ⟨B, hh, rfl⟩
  · rw [show exp1 h (f, q) d = (f ++ [(moved h d, rowF f h ++ [d])], q ++ [moved h d]) from if_neg e]
    show BOk n (f ++ [(moved h d, rowF f h ++ [d])]) (q ++ [moved h d]) ∧ h ∈ keysF (f ++ [(moved h d, rowF f h ++ [d])]) ∧ (f ++ [(moved h d, rowF f h ++ [d])]).length + q.length = f.length + (q ++ [moved h d]).length
    have hr := rowF_mem hh
    have hl := B.len _ hr
    have hrl := B.row _ hr
    refine ⟨⟨fun p hp => ?_, ?_, fun s hs => ?_, fun p hp => ?_, ?_, fun p hp x hx => ?_⟩, ?_, ?_⟩
    · rcases List.mem_append.mp hp with hp | hp
      · exact B.len p hp
      · rw [List.mem_singleton.mp hp]; show (moved h d).length = n; rw [moved_len]; exact hl
    · rw [keysF_app, List.nodup_append]
      refine ⟨B.nd, by simp [keysF], fun a ha b hb => ?_⟩
      have : b = moved h d := by simpa [keysF] using hb
      subst this
      intro z
      subst z
      exact e (decide_eq_true ha)
    · rw [keysF_app]
      rcases List.mem_append.mp hs with hs | hs
      · exact List.mem_append_left _ (B.inq s hs)
      · exact List.mem_append_right _ (by rw [List.mem_singleton.mp hs]; exact List.mem_cons_self)
    · rw [List.length_append, List.length_singleton]
      rcases List.mem_append.mp hp with hp | hp
      · have := B.row p hp; omega
      · rw [List.mem_singleton.mp hp]; show (rowF f h ++ [d]).length < _
        rw [List.length_append, List.length_singleton]
        have : (rowF f h).length < f.length := hrl
        omega
    · have := B.ql
      rw [List.length_append, List.length_append, List.length_singleton, List.length_singleton]; omega
    · rcases List.mem_append.mp hp with hp | hp
      · exact B.rd p hp x hx
      · rw [List.mem_singleton.mp hp] at hx
        rcases List.mem_append.mp hx with hx | hx
        · exact B.rd _ hr x hx
        · rw [List.mem_singleton.mp hx]; exact hd
    · rw [keysF_app]; exact List.mem_append_left _ hh
    · rw [List.length_append, List.length_append, List.length_singleton, List.length_singleton]; omega
theorem fold_ok {n : Nat} {h : St} : ∀ (l : List Nat) {f : Fnd} {q : List St}, (∀ d ∈ l, d < n) → BOk n f q → h ∈ keysF f → BOk n (l.foldl (exp1 h) (f, q)).1 (l.foldl (exp1 h) (f, q)).2 ∧ (l.foldl (exp1 h) (f, q)).1.length + q.length = f.length + (l.foldl (exp1 h) (f, q)).2.length
  | [], _, _, _, B, _ => ⟨B, rfl⟩
  | d :: l, f, q, hl, B, hh => by
    obtain ⟨b1, b2, b3⟩ := exp1_ok B hh (hl d List.mem_cons_self)
    obtain ⟨c1, c2⟩ := fold_ok l (fun x hx => hl x (List.mem_cons_of_mem _ hx)) b1 b2
    rw [List.foldl_cons]
    have c2' : (l.foldl (exp1 h) (exp1 h (f, q) d)).1.length + (exp1 h (f, q) d).2.length = (exp1 h (f, q) d).1.length + (l.foldl (exp1 h) (exp1 h (f, q) d)).2.length := c2
    exact ⟨c1, by omega⟩
theorem expand_ok {c : Cab} {f : Fnd} {q : List St} {h : St} (B : BOk c.n f q) (hh : h ∈ keysF f) : BOk c.n (expand c f q h).1 (expand c f q h).2 ∧ (expand c f q h).1.length + q.length = f.length + (expand c f q h).2.length :=
  fold_ok _ (fun d hd => free_lt hd) B hh
theorem run_ex {c : Cab} : ∀ (k : Nat) {f : Fnd} {q : List St}, BOk c.n f q → 2 ^ c.n + q.length = f.length + k → ∃ r, Run c k f q r ∧ BOk c.n r []
  | 0, f, q, B, e => by
    have := B.le
    have hq : q = [] := List.eq_nil_of_length_eq_zero (by omega)
    subst hq
    exact ⟨f, .nil, B⟩
  | k + 1, f, [], B, e => ⟨f, .nil, B⟩
  | k + 1, f, h :: q, B, e => by
    obtain ⟨b1, b2⟩ := expand_ok B.tail (B.inq h List.mem_cons_self)
    obtain ⟨r, h1, h2⟩ := run_ex k b1 (by simp at e; omega)
    exact ⟨r, .cons h1, h2⟩
open Classical in
/-- all that is reached from b, with its rows -/
noncomputable def bfs (c : Cab) (b : St) : Fnd := if h : ∃ r, Run c (2 ^ c.n) [(b, [])] [b] r ∧ BOk c.n r [] then h.choose else []
theorem init_ok {n : Nat} {b : St} (h : b.length = n) : BOk n [(b, [])] [b] := ⟨fun p hp => by rw [List.mem_singleton.mp hp]; exact h, by simp [keysF], fun s hs => by simpa [keysF] using hs, fun p hp => by rw [List.mem_singleton.mp hp]; simp, by simp, fun p hp => by rw [List.mem_singleton.mp hp]; simp⟩
theorem bfs_ok {c : Cab} {b : St} (h : b.length = c.n) : Run c (2 ^ c.n) [(b, [])] [b] (bfs c b) ∧ BOk c.n (bfs c b) [] := by
  have ex := run_ex (c := c) (2 ^ c.n) (init_ok h) (by simp; omega)
  unfold bfs
  rw [dif_pos ex]
  exact ex.choose_spec
theorem run_mem {c : Cab} {k : Nat} {f : Fnd} {q : List St} {r : Fnd} (h : Run c k f q r) : ∀ p ∈ f, p ∈ r := by
  induction h with
  | nil => exact fun _ h => h
  | @cons k f h q r t ih =>
    intro p hp
    apply ih
    have : ∀ (l : List Nat) (f : Fnd) (q : List St), p ∈ f → p ∈ (l.foldl (exp1 h) (f, q)).1 := by
      intro l
      induction l with
      | nil => intro f q hp; exact hp
      | cons d l ihl =>
        intro f q hp
        rw [List.foldl_cons]
        unfold exp1
        split
        · exact ihl _ _ hp
        · exact ihl _ _ (List.mem_append_left _ hp)
    exact this _ _ _ hp
theorem bfs_begin {c : Cab} {b : St} (h : b.length = c.n) : (b, []) ∈ bfs c b := run_mem (bfs_ok h).1 _ List.mem_cons_self
/-! ### as data -/
def stK (s : St) : Key := .inr (stS2 s)
def encRow (l : List Nat) : D := .tup (l.map nD)
def fK (f : Fnd) : List (Key × D) := f.map fun p => (stK p.1, encRow p.2)
def encF (f : Fnd) : D := .dK (f.map fun p => stK p.1) (f.map fun p => encRow p.2)
theorem sgC_inj {a b : Bool} (h : sgC a = sgC b) : a = b := by cases a <;> cases b <;> simp [sgC] at h <;> rfl
theorem stS2_inj {a b : St} (h : stS2 a = stS2 b) : a = b := List.map_inj_right (fun _ _ => sgC_inj) |>.mp (sOf_inj h)
theorem stK_inj {a b : St} (h : stK a = stK b) : a = b := stS2_inj (Sum.inr.inj h)
theorem stK_eq (a b : St) : (stK a = stK b) = (a = b) := propext ⟨stK_inj, fun h => by rw [h]⟩
theorem has_fK (f : Fnd) (t : St) : hasK (stK t) ((fK f).map (·.1)) = hasF f t := by
  unfold hasK fK hasF keysF
  rw [List.map_map, List.any_map]
  induction f with
  | nil => rfl
  | cons p f ih =>
    rw [List.any_cons, ih, List.map_cons]
    show (decide (stK p.1 = stK t) || _) = _
    rw [Bool.eq_iff_iff]
    simp only [Bool.or_eq_true, decide_eq_true_eq, List.mem_cons, stK_eq]
    constructor
    · rintro (h | h)
      · exact .inl h.symm
      · exact .inr h
    · rintro (h | h)
      · exact .inl h.symm
      · exact .inr h
theorem lk_fK {f : Fnd} {s : St} (h : s ∈ keysF f) : lkD (fK f) (stK s) = some (encRow (rowF f s)) := by
  unfold lkD rowF
  induction f with
  | nil => simp [keysF] at h
  | cons p f ih =>
    by_cases e : p.1 = s
    · simp [fK, List.find?_cons, e]
    · have e' : ¬ stK p.1 = stK s := fun z => e (stK_inj z)
      have hs : s ∈ keysF f := by
        rcases List.mem_cons.mp (show s ∈ p.1 :: keysF f from h) with z | z
        · exact absurd z.symm e
        · exact z
      simp only [fK, List.map_cons, List.find?_cons, e, e', decide_false]
      exact ih hs
theorem put_fK {f : Fnd} {t : St} {v : List Nat} (h : hasF f t = false) : putD (fK f) (stK t) (encRow v) = fK (f ++ [(t, v)]) := by
  have h2 := has_fK f t
  rw [h] at h2
  unfold hasK at h2
  rw [List.any_map] at h2
  unfold putD
  rw [if_neg (by rw [show ((fK f).any fun kv => decide (kv.1 = stK t)) = false from h2]; simp)]
  unfold fK
  rw [List.map_append]; rfl
theorem fK_len (f : Fnd) : (fK f).length = f.length := List.length_map ..
end DL
local macro_rules | `(tactic| walk_at "w") => `(tactic| conv => whnf)
namespace DL
open PySem PySem.Spec PyProof.Rows L2 G
theorem emp_ne (q : List St) : eqD (.lst (q.map encSt)) (.lst []) = decide (q = []) := by cases q <;> rfl
theorem cmp_st (s : St) : Cmp 0 (encSt s) := cmp_str _
theorem fz_fK (f : Fnd) : fzD (.dK (fK f)) = encF f := by
  show D.dK ((fK f).map (·.1)) ((fK f).map (·.2)) = D.dK (f.map fun p => stK p.1) (f.map fun p => encRow p.2)
  unfold fK
  rw [List.map_map, List.map_map]; rfl
theorem rows_from_s {A : Ad} {c : Cab} {b : St} {m : Mem} {Φ : D → Mem → Prop} {Ψ : XF} (hc : CabOk c) (hb : b.length = c.n) (q : Φ (encF (bfs c b)) m) : CallW (c_rows_from A) [encCab A c, encSt b] m Φ Ψ := ⟨by
  have h7 := hc.h7
  obtain ⟨hrun, hbok⟩ := bfs_ok hb
  walk_at "w"
  intro p hp
  walk_at "w"
  refine ⟨0, rfl, ?_⟩
  walk_at "w"
  intro p2 hp2
  walk_at "w"
  refine ⟨fun k ds m2 => ∃ (f : Fnd) (l : List St) (x4 x5 x6 : Option D), BOk c.n f l ∧ Run c k f l (bfs c b) ∧ m2 = (p2, .lst (l.map encSt)) :: (p, .dK (fK f)) :: m ∧ ds = [some (encCab A c), some (encSt b), some (.ref p), some (.ref p2), x4, x5, x6], 2 ^ c.n, ⟨[(b, [])], [b], none, none, none, init_ok hb, hrun, rfl, rfl⟩, ?_⟩
  rintro k ds m2 ⟨f, l, x4, x5, x6, B, hr, rfl, rfl⟩
  have hf := B.small h7
  walk_at "w"
  refine ⟨0, _, rfl, ?_⟩
  walk_at "w"
  refine gd_of (plk_cmp (cmp_lst (l := l) fun x _ => cmp_st x) (cmp_lst (l := ([] : List Nat)) (enc := nD) fun x _ => cmp_nD x) (by decide)) ?_
  cases hr with
  | nil =>
    walk_at "w"
    refine ⟨1, _, rfl, ?_⟩
    walk_at "w"
    refine ⟨m, List.sublist_cons_self _ _, ?_⟩
    rw [fz_fK]
    exact q
  | @cons k _ h l _ hr =>
    obtain ⟨b1, b2⟩ := expand_ok B.tail (B.inq h List.mem_cons_self)
    have hl : h.length = c.n := by
      obtain ⟨x, hx, rfl⟩ := List.mem_map.mp (B.inq h List.mem_cons_self)
      exact B.len x hx
    walk_at "w"
    refine ⟨0, _, rfl, ?_⟩
    walk_at "w"
    refine ⟨0, _, rfl, ?_⟩
    walk_at "w"
    refine RgW.sm (by decide) (by decide) ?_
    refine om_of (j := 0) (by simp [ixN]) ?_
    walk_at "w"
    refine free_of_s hc hl ?_
    walk_at "w"
    refine for_rest (α := Nat) (xs := freeOf c h) (enc := nD) (fun rest ds m2 => ∃ (fl : Fnd × List St) (x5 x6 : Option D), BOk c.n fl.1 fl.2 ∧ h ∈ keysF fl.1 ∧ rest.foldl (exp1 h) fl = expand c f l h ∧ m2 = (p2, .lst (fl.2.map encSt)) :: (p, .dK (fK fl.1)) :: m ∧ ds = [some (encCab A c), some (encSt b), some (.ref p), some (.ref p2), some (encSt h), x5, x6])
      ⟨(f, l), _, _, B.tail, B.inq h List.mem_cons_self, rfl, rfl, rfl⟩ (fun d rest ds m2 hd hI => ?_) (fun ds m2 hI => ?_)
    · obtain ⟨⟨f1, l1⟩, x5, x6, B1, hh1, he, rfl, rfl⟩ := hI
      have hf1 := B1.small h7
      have hl1 := B1.ql
      have hd' := free_lt hd
      have B2 := exp1_ok B1 hh1 hd'
      walk_at "w"
      refine moved_s (by omega) (by omega) ?_
      walk_at "w"
      refine ⟨1, _, rfl, ?_⟩
      walk_at "w"
      have e := has_fK f1 (moved h d)
      cases hx : hasF f1 (moved h d) with
      | false =>
        refine br_t (by show (!hasK (stK (moved h d)) ((fK f1).map (·.1))) = true; rw [e, hx]; rfl) ?_
        walk_at "w"
        refine ⟨1, _, rfl, ?_⟩
        walk_at "w"
        refine om_of (lk_fK hh1) ?_
        walk_at "w"
        have hrl := B1.row _ (rowF_mem hh1)
        refine gd_of (decide_eq_true (by simp only [List.length_map, List.length_singleton]; show (rowF f1 h).length + 1 ≤ 16777216; simp only at hrl hf1; omega)) ?_
        walk_at "w"
        refine ⟨1, _, rfl, ?_⟩
        walk_at "w"
        refine gd_of (decide_eq_true (by rw [fK_len]; show f1.length < 16777216; simp only at hf1; omega)) ?_
        walk_at "w"
        refine ⟨0, _, rfl, ?_⟩
        walk_at "w"
        refine ⟨0, _, rfl, ?_⟩
        walk_at "w"
        refine gd_of (decide_eq_true (by rw [List.length_map]; show l1.length < 16777216; simp only at hf1 hl1; omega)) ?_
        have e3 : exp1 h (f1, l1) d = (f1 ++ [(moved h d, rowF f1 h ++ [d])], l1 ++ [moved h d]) := if_neg (by rw [hx]; simp)
        rw [e3] at B2
        refine ⟨(f1 ++ [(moved h d, rowF f1 h ++ [d])], l1 ++ [moved h d]), _, _, B2.1, B2.2.1, ?_, ?_, rfl⟩
        · rw [← he, List.foldl_cons, e3]
        · have e4 := put_fK (v := rowF f1 h ++ [d]) hx
          show [(p2, MC.lst (l1.map encSt ++ [encSt (moved h d)])), (p, MC.dK (putD (fK f1) (stK (moved h d)) (.tup ((rowF f1 h).map nD ++ [nD d]))))] ++ m = _
          have e5 : D.tup ((rowF f1 h).map nD ++ [nD d]) = encRow (rowF f1 h ++ [d]) := by unfold encRow; rw [List.map_append]; rfl
          rw [e5, e4, List.map_append]; rfl
      | true =>
        refine br_f (by show (!hasK (stK (moved h d)) ((fK f1).map (·.1))) = false; rw [e, hx]; rfl) ?_
        refine ⟨(f1, l1), _, _, B1, hh1, ?_, rfl, rfl⟩
        rw [← he, List.foldl_cons, show exp1 h (f1, l1) d = (f1, l1) from if_pos hx]
    · obtain ⟨fl, x5, x6, B1, hh1, he, rfl, rfl⟩ := hI
      simp only [List.foldl_nil] at he
      subst he
      exact ⟨k, Nat.lt_succ_self _, _, _, _, _, _, B1, hr, rfl, rfl⟩⟩
theorem law_rows_s {A : Ad} {c : Cab} {b : St} {m : Mem} {Φ : D → Mem → Prop} {Ψ : XF} (hc : CabOk c) (hb : b.length = c.n) (q : Φ (encF (bfs c b)) m) : CallW (c_law_rows A) [encD c, encSt b] m Φ Ψ := ⟨by
  have h7 := hc.h7
  obtain ⟨hrun, hbok⟩ := bfs_ok hb
  walk_at "w"
  intro p hp
  walk_at "w"
  refine ⟨0, rfl, ?_⟩
  walk_at "w"
  refine ⟨fun k ds m2 => ∃ (f : Fnd) (l : List St) (x4 x5 x6 x7 : Option D), BOk c.n f l ∧ Run c k f l (bfs c b) ∧ m2 = (p, .dK (fK f)) :: m ∧ ds = [some (encD c), some (encSt b), some (.ref p), some (.lst (l.map encSt)), x4, x5, x6, x7], 2 ^ c.n, ⟨[(b, [])], [b], none, none, none, none, init_ok hb, hrun, rfl, rfl⟩, ?_⟩
  rintro k ds m2 ⟨f, l, x4, x5, x6, x7, B, hr, rfl, rfl⟩
  walk_at "w"
  refine gd_of (plk_cmp (cmp_lst (l := l) fun x _ => cmp_st x) (cmp_lst (l := ([] : List Nat)) (enc := nD) fun x _ => cmp_nD x) (by decide)) ?_
  by_cases hne : l = []
  · subst hne
    cases hr
    walk_at "w"
    refine ⟨0, _, rfl, ?_⟩
    show Φ (fzD (.dK (fK (bfs c b)))) m
    rw [fz_fK]
    exact q
  · refine br_t (by show (!eqD (.lst (l.map encSt)) (.lst [])) = true; rw [emp_ne, decide_eq_false hne]; rfl) ?_
    walk_at "w"
    intro p2 hp2
    walk_at "w"
    refine for_rest (α := St) (xs := l) (enc := encSt) (fun rest ds m2 => ∃ (k' : Nat) (f : Fnd) (l2 : List St) (x5 x6 x7 : Option D), BOk c.n f (rest ++ l2) ∧ Run c k' f (rest ++ l2) (bfs c b) ∧ k' + l.length = k + rest.length ∧ m2 = (p2, .lst (l2.map encSt)) :: (p, .dK (fK f)) :: m ∧ ds = [some (encD c), some (encSt b), some (.ref p), some (.lst (l.map encSt)), some (.ref p2), x5, x6, x7])
      ⟨k, f, [], _, _, _, by rw [List.append_nil]; exact B, by rw [List.append_nil]; exact hr, rfl, rfl, rfl⟩ (fun h rest ds m2 hh hI => ?_) (fun ds m2 hI => ?_)
    · obtain ⟨k', f, l2, x5, x6, x7, B, hr, hk, rfl, rfl⟩ := hI
      rw [List.cons_append] at B hr
      cases hr with
      | @cons k'' _ _ _ _ hr =>
      have hl : h.length = c.n := by
        obtain ⟨x, hx, rfl⟩ := List.mem_map.mp (B.inq h List.mem_cons_self)
        exact B.len x hx
      walk_at "w"
      refine law_free_s hc hl ?_
      walk_at "w"
      refine for_rest (α := Nat) (xs := freeOf c h) (enc := nD) (fun rs ds m2 => ∃ (f1 : Fnd) (l1 : List St) (x6 x7 : Option D), BOk c.n f1 (rest ++ l1) ∧ h ∈ keysF f1 ∧ rs.foldl (exp1 h) (f1, rest ++ l1) = expand c f (rest ++ l2) h ∧ m2 = (p2, .lst (l1.map encSt)) :: (p, .dK (fK f1)) :: m ∧ ds = [some (encD c), some (encSt b), some (.ref p), some (.lst (l.map encSt)), some (.ref p2), some (encSt h), x6, x7])
        ⟨f, l2, _, _, B.tail, B.inq h List.mem_cons_self, rfl, rfl, rfl⟩ (fun d rs ds m2 hd hI => ?_) (fun ds m2 hI => ?_)
      · obtain ⟨f1, l1, x6, x7, B1, hh1, he, rfl, rfl⟩ := hI
        have hf1 := B1.small h7
        have hl1 := B1.ql
        rw [List.length_append] at hl1
        have hd' := free_lt hd
        have B2 := exp1_ok B1 hh1 hd'
        walk_at "w"
        refine law_moved_s (by omega) (by omega) ?_
        walk_at "w"
        refine ⟨1, _, rfl, ?_⟩
        walk_at "w"
        have e := has_fK f1 (moved h d)
        cases hx : hasF f1 (moved h d) with
        | false =>
          refine br_t (by show (!hasK (stK (moved h d)) ((fK f1).map (·.1))) = true; rw [e, hx]; rfl) ?_
          walk_at "w"
          refine ⟨1, _, rfl, ?_⟩
          walk_at "w"
          refine om_of (lk_fK hh1) ?_
          walk_at "w"
          have hrl := B1.row _ (rowF_mem hh1)
          refine gd_of (decide_eq_true (by simp only [List.length_map, List.length_singleton]; show (rowF f1 h).length + 1 ≤ 16777216; have : (rowF f1 h).length < f1.length := hrl; omega)) ?_
          walk_at "w"
          refine ⟨1, _, rfl, ?_⟩
          walk_at "w"
          refine gd_of (decide_eq_true (by rw [fK_len]; show f1.length < 16777216; omega)) ?_
          walk_at "w"
          refine ⟨0, _, rfl, ?_⟩
          walk_at "w"
          refine ⟨0, _, rfl, ?_⟩
          walk_at "w"
          refine gd_of (decide_eq_true (by rw [List.length_map]; show l1.length < 16777216; omega)) ?_
          have e3 : exp1 h (f1, rest ++ l1) d = (f1 ++ [(moved h d, rowF f1 h ++ [d])], rest ++ (l1 ++ [moved h d])) := by rw [← List.append_assoc]; exact if_neg (by rw [hx]; simp)
          rw [e3] at B2
          refine ⟨f1 ++ [(moved h d, rowF f1 h ++ [d])], l1 ++ [moved h d], _, _, B2.1, B2.2.1, ?_, ?_, rfl⟩
          · rw [← he, List.foldl_cons, e3]
          · have e4 := put_fK (v := rowF f1 h ++ [d]) hx
            show [(p2, MC.lst (l1.map encSt ++ [encSt (moved h d)])), (p, MC.dK (putD (fK f1) (stK (moved h d)) (.tup ((rowF f1 h).map nD ++ [nD d]))))] ++ m = _
            have e5 : D.tup ((rowF f1 h).map nD ++ [nD d]) = encRow (rowF f1 h ++ [d]) := by unfold encRow; rw [List.map_append]; rfl
            rw [e5, e4, List.map_append]; rfl
        | true =>
          refine br_f (by show (!hasK (stK (moved h d)) ((fK f1).map (·.1))) = false; rw [e, hx]; rfl) ?_
          refine ⟨f1, l1, _, _, B1, hh1, ?_, rfl, rfl⟩
          rw [← he, List.foldl_cons, show exp1 h (f1, rest ++ l1) d = (f1, rest ++ l1) from if_pos hx]
      · obtain ⟨f1, l1, x6, x7, B1, hh1, he, rfl, rfl⟩ := hI
        simp only [List.foldl_nil] at he
        rw [← he] at hr
        exact ⟨k'', f1, l1, _, _, _, B1, hr, by simp at hk; omega, rfl, rfl⟩
    · obtain ⟨k', f, l2, x5, x6, x7, B, hr, hk, rfl, rfl⟩ := hI
      have hlp : 0 < l.length := List.length_pos_iff.mpr hne
      walk_at "w"
      refine ⟨0, _, rfl, ?_⟩
      exact ⟨k', by simp at hk; omega, f, l2, _, _, _, _, B, hr, rfl, rfl⟩⟩
end DL
local macro_rules | `(tactic| walk_at "w") => `(tactic| conv => whnf)
namespace DL
open PySem PySem.Spec PyProof.Rows L2 G
/-! ### min, max on typed data -/
theorem pyA_map {α : Type} {enc : α → D} : ∀ l : List α, pyA (l.map enc) = l.map fun x => py (enc x)
  | [] => rfl
  | x :: l => by show py (enc x) :: pyA (l.map enc) = _; rw [pyA_map l]; rfl
def lD (a b : D) : Bool := PySem.W.dataLt (py a) (py b)
def minT {α : Type} (enc : α → D) (x : α) (xs : List α) : α := xs.foldl (fun a y => if lD (enc y) (enc a) = true then y else a) x
def maxT {α : Type} (enc : α → D) (x : α) (xs : List α) : α := xs.foldl (fun a y => if lD (enc a) (enc y) = true then y else a) x
theorem min_map {α : Type} {enc : α → D} : ∀ (xs : List α) (x : α), PySem.W.minD (py (enc x)) (xs.map fun x => py (enc x)) = py (enc (minT enc x xs))
  | [], _ => rfl
  | y :: xs, x => by
    show PySem.W.minD (if lD (enc y) (enc x) = true then py (enc y) else py (enc x)) (xs.map fun x => py (enc x)) = py (enc (minT enc (if lD (enc y) (enc x) = true then y else x) xs))
    rw [← min_map xs]
    congr 1
    split <;> rfl
theorem max_map {α : Type} {enc : α → D} : ∀ (xs : List α) (x : α), PySem.W.maxD (py (enc x)) (xs.map fun x => py (enc x)) = py (enc (maxT enc x xs))
  | [], _ => rfl
  | y :: xs, x => by
    show PySem.W.maxD (if lD (enc x) (enc y) = true then py (enc y) else py (enc x)) (xs.map fun x => py (enc x)) = py (enc (maxT enc (if lD (enc x) (enc y) = true then y else x) xs))
    rw [← max_map xs]
    congr 1
    split <;> rfl
theorem minT_mem {α : Type} {enc : α → D} : ∀ (xs : List α) (x : α), minT enc x xs ∈ x :: xs
  | [], x => List.mem_cons_self
  | y :: xs, x => by
    show minT enc (if lD (enc y) (enc x) = true then y else x) xs ∈ _
    rcases List.mem_cons.mp (minT_mem xs (if lD (enc y) (enc x) = true then y else x)) with e | e
    · rw [e]; split
      · exact List.mem_cons_of_mem _ List.mem_cons_self
      · exact List.mem_cons_self
    · exact List.mem_cons_of_mem _ (List.mem_cons_of_mem _ e)
theorem maxT_mem {α : Type} {enc : α → D} : ∀ (xs : List α) (x : α), maxT enc x xs ∈ x :: xs
  | [], x => List.mem_cons_self
  | y :: xs, x => by
    show maxT enc (if lD (enc x) (enc y) = true then y else x) xs ∈ _
    rcases List.mem_cons.mp (maxT_mem xs (if lD (enc x) (enc y) = true then y else x)) with e | e
    · rw [e]; split
      · exact List.mem_cons_of_mem _ List.mem_cons_self
      · exact List.mem_cons_self
    · exact List.mem_cons_of_mem _ (List.mem_cons_of_mem _ e)
/-- data that can be compared, told apart -/
structure Ord {α : Type} (enc : α → D) : Prop where
  cmp : ∀ a, Cmp 50 (enc a)
  al : ∀ a b, PySem.W.alike (py (enc a)) (py (enc b)) = true
  nn : ∀ a, nn (enc a) = true
  inj : ∀ a b, py (enc a) = py (enc b) → a = b
theorem Ord.alks {α : Type} {enc : α → D} (O : Ord enc) (l : List α) : alks (l.map enc) = true := by
  unfold G.alks
  have h := cmpA (l := l) fun x _ => O.cmp x
  rw [h.1]
  simp only [Bool.true_and, Bool.and_eq_true, List.all_eq_true, decide_eq_true_eq]
  refine ⟨⟨fun x hx y hy => ?_, fun x hx => ?_⟩, by omega⟩
  · obtain ⟨a, _, rfl⟩ := List.mem_map.mp hx
    obtain ⟨b, _, rfl⟩ := List.mem_map.mp hy
    exact O.al a b
  · obtain ⟨a, _, rfl⟩ := List.mem_map.mp hx
    exact O.nn a
theorem Ord.alk {α : Type} {enc : α → D} (O : Ord enc) (a b : α) : alk (enc a) (enc b) = true := by
  unfold G.alk
  rw [plk_cmp (O.cmp a) (O.cmp b) (by decide), O.al a b, O.nn a]; rfl
theorem min_s {α : Type} {enc : α → D} {x : α} {xs : List α} {m : Mem} {Φ : D → Mem → Prop} (O : Ord enc) (q : Φ (enc (minT enc x xs)) m) : MinW ((x :: xs).map enc) m Φ := by
  refine ⟨enc x, xs.map enc, rfl, O.alks (x :: xs), fun y hy e => ?_⟩
  obtain ⟨a, ha, rfl⟩ := List.mem_map.mp hy
  rw [pyA_map, min_map] at e
  rw [O.inj _ _ e]; exact q
theorem max_s {α : Type} {enc : α → D} {x : α} {xs : List α} {m : Mem} {Φ : D → Mem → Prop} (O : Ord enc) (q : Φ (enc (maxT enc x xs)) m) : MaxW ((x :: xs).map enc) m Φ := by
  refine ⟨enc x, xs.map enc, rfl, O.alks (x :: xs), fun y hy e => ?_⟩
  obtain ⟨a, ha, rfl⟩ := List.mem_map.mp hy
  rw [pyA_map, max_map] at e
  rw [O.inj _ _ e]; exact q
theorem ord_nD : Ord nD := ⟨fun a => ⟨rfl, Nat.zero_le _⟩, fun _ _ => rfl, fun _ => rfl, fun a b h => by
  have : (a : Int) = b := PyData.int.inj h
  omega⟩
theorem ord_st : Ord encSt := ⟨fun a => ⟨rfl, Nat.zero_le _⟩, fun _ _ => rfl, fun _ => rfl, fun a b h => stS2_inj (PyData.str.inj h)⟩
theorem al_ints : ∀ a b : List Nat, PySem.W.alikeAll (a.map fun x => py (nD x)) (b.map fun x => py (nD x)) = true
  | [], b => by cases b <;> rfl
  | x :: a, [] => rfl
  | x :: a, y :: b => al_ints a b
theorem py_row (r : List Nat) : py (encRow r) = .tuple (r.map fun x => py (nD x)) := by show PyData.tuple (pyA (r.map nD)) = _; rw [pyA_map]
theorem py_row_inj {a b : List Nat} (h : py (encRow a) = py (encRow b)) : a = b := by
  rw [py_row, py_row] at h
  exact List.map_inj_right (fun x y e => ord_nD.inj x y e) |>.mp (PyData.tuple.inj h)
def encP (r : List Nat) : D := .tup [.int r.length, encRow r]
theorem cmp_row (r : List Nat) : Cmp 1 (encRow r) := cmp_tup (l := r) fun x _ => cmp_nD x
theorem al_row (a b : List Nat) : PySem.W.alike (py (encRow a)) (py (encRow b)) = true := by rw [py_row, py_row]; exact al_ints a b
theorem ord_P : Ord encP := ⟨fun a => by
    have h := cmp_row a
    refine ⟨?_, ?_⟩
    · show (true && (pl (encRow a) && true)) = true
      rw [h.1]; rfl
    · show max 0 (max (dep (encRow a)) 0) + 1 ≤ 50
      have := h.2
      omega, fun a b => by
    show (PySem.W.alike (.int a.length) (.int b.length) && (PySem.W.alike (py (encRow a)) (py (encRow b)) && true)) = true
    rw [al_row]; rfl, fun _ => rfl, fun a b h => by
    have h1 := PyData.tuple.inj h
    have h2 : py (encRow a) = py (encRow b) := by
      have := congrArg (fun l => l.getD 1 .none) h1
      exact this
    exact py_row_inj h2⟩
/-! ### the best row -/
def bestC : Option (List Nat) → List (List Nat) → Option (List Nat)
  | o, [] => o
  | none, x :: xs => bestC (some x) xs
  | some a, x :: xs => bestC (some (if lD (encP x) (encP a) = true then x else a)) xs
def encO : Option (List Nat) → D
  | none => .non
  | some r => encRow r
theorem bestC_some : ∀ (xs : List (List Nat)) (a : List Nat), bestC (some a) xs = some (minT encP a xs)
  | [], _ => rfl
  | x :: xs, a => bestC_some xs _
theorem law_best_s {A : Ad} {rows : List (List Nat)} {m : Mem} {Φ : D → Mem → Prop} {Ψ : XF} (h : ∀ r ∈ rows, r.length ≤ 1000) (q : Φ (encO (bestC none rows)) m) : CallW (c_law_best A) [.lst (rows.map encRow)] m Φ Ψ := ⟨by
  walk_at "w"
  refine for_rest (α := List Nat) (xs := rows) (enc := encRow) (fun rest ds m2 => ∃ (o : Option (List Nat)) (x2 : Option D), bestC o rest = bestC none rows ∧ (∀ r, o = some r → r.length ≤ 1000) ∧ m2 = m ∧ ds = [some (.lst (rows.map encRow)), some (encO o), x2]) ⟨none, none, rfl, (fun _ z => by cases z), rfl, rfl⟩ (fun r rest ds m2 hr hI => ?_) (fun ds m2 hI => ?_)
  · obtain ⟨o, x2, he, ho, rfl, rfl⟩ := hI
    have hr' := h r hr
    cases o with
    | none =>
      walk_at "w"
      exact ⟨some r, _, he, fun _ z => by cases z; exact hr', rfl, rfl⟩
    | some a =>
      have ha := ho a rfl
      walk_at "w"
      refine gd_of (decide_eq_true (by rw [List.length_map]; show r.length ≤ 16777216; omega)) ?_
      walk_at "w"
      refine gd_of (decide_eq_true (by rw [List.length_map]; show a.length ≤ 16777216; omega)) ?_
      rw [List.length_map, List.length_map]
      refine gd_of (ord_P.alk r a) ?_
      refine br_b (fun hc => ?_) (fun hc => ?_)
      · refine ⟨some r, _, ?_, fun _ z => by cases z; exact hr', rfl, rfl⟩
        rw [← he]
        show _ = bestC (some (if lD (encP r) (encP a) = true then r else a)) rest
        rw [if_pos (show lD (encP r) (encP a) = true from hc)]
      · refine ⟨some a, _, ?_, fun _ z => by cases z; exact ha, rfl, rfl⟩
        rw [← he]
        show _ = bestC (some (if lD (encP r) (encP a) = true then r else a)) rest
        rw [if_neg (by rw [show lD (encP r) (encP a) = false from hc]; simp)]
  · obtain ⟨o, x2, he, ho, rfl, rfl⟩ := hI
    simp only [bestC] at he
    subst he
    exact q⟩
theorem items_F (f : Fnd) : itemsD (f.map fun p => stK p.1) (f.map fun p => encRow p.2) = f.map fun p => D.tup [encSt p.1, encRow p.2] := by
  unfold itemsD
  induction f with
  | nil => rfl
  | cons p f ih => rw [List.map_cons, List.map_cons, List.zip_cons_cons, List.map_cons, ih]; rfl
/-- of standings with rows, that fit: the best row -/
def bestFit (f : Fnd) (pt : List Nat) : Option (List Nat) := bestC none ((f.filter fun p => fitsB pt p.1).map (·.2))
theorem best_row_s {A : Ad} {n : Nat} {f : Fnd} {pt : List Nat} {m : Mem} {Φ : D → Mem → Prop} {Ψ : XF} (hn : n ≤ 7) (B : BOk n f []) (hp : pt.length = n) (q : Φ (encO (bestFit f pt)) m) : CallW (c_best_row A) [encF f, .str (sOf pt)] m Φ Ψ := ⟨by
  have hf := B.small hn
  walk_at "w"
  rw [items_F]
  refine lc_filter (α := St × List Nat) (xs := f) (enc := fun p => D.tup [encSt p.1, encRow p.2]) (f := fun p => fitsB pt p.1) (g := fun p => encP p.2) (by omega) (fun x hx => ⟨_, rfl, fun Ψ' h => ?_, fun _ Ψ' h => ?_⟩) ?_
  · have hl := B.len x hx
    walk_at "w"
    refine fits_s (by omega) (by omega) ?_
    exact h
  · have hl := B.row x hx
    walk_at "w"
    refine gd_of (decide_eq_true (by rw [List.length_map]; show x.2.length ≤ 16777216; omega)) ?_
    rw [List.length_map]
    exact h
  · have e : (f.filter fun p => fitsB pt p.1).map (fun p => encP p.2) = ((f.filter fun p => fitsB pt p.1).map (·.2)).map encP := by rw [List.map_map]; rfl
    rw [e]
    unfold bestFit at q
    generalize (f.filter fun p => fitsB pt p.1).map (·.2) = rs at q
    walk_at "w"
    refine gd_of (plk_cmp (cmp_lst (l := rs) fun x _ => ord_P.cmp x) (cmp_lst (l := ([] : List Nat)) (enc := nD) fun x _ => cmp_nD x) (by decide)) ?_
    cases rs with
    | nil => exact q
    | cons r rs =>
      walk_at "w"
      refine min_s ord_P ?_
      walk_at "w"
      rw [show bestC none (r :: rs) = some (minT encP r rs) from bestC_some rs r] at q
      exact q⟩
theorem rowF_eq {n : Nat} {f : Fnd} {q : List St} (B : BOk n f q) {p : St × List Nat} (hp : p ∈ f) : rowF f p.1 = p.2 := by
  have hm := rowF_mem (List.mem_map.mpr ⟨p, hp, rfl⟩ : p.1 ∈ keysF f)
  have nd := B.nd
  unfold keysF at nd
  clear B
  induction f with
  | nil => cases hp
  | cons y f ih =>
    rw [List.map_cons, List.nodup_cons] at nd
    unfold rowF
    by_cases e : y.1 = p.1
    · rcases List.mem_cons.mp hp with z | z
      · simp [List.find?_cons, z]
      · exact absurd (List.mem_map.mpr ⟨p, z, e.symm⟩) nd.1
    · have hp' : p ∈ f := by
        rcases List.mem_cons.mp hp with z | z
        · exact absurd (by rw [z]) e
        · exact z
      have h2 := ih hp' (rowF_mem (List.mem_map.mpr ⟨p, hp', rfl⟩)) nd.2
      simp only [List.find?_cons, e, decide_false]
      exact h2
theorem lk_F {n : Nat} {f : Fnd} {q : List St} (B : BOk n f q) {p : St × List Nat} (hp : p ∈ f) : lkD ((f.map fun p => stK p.1).zip (f.map fun p => encRow p.2)) (stK p.1) = some (encRow p.2) := by
  have e : (f.map fun p => stK p.1).zip (f.map fun p => encRow p.2) = fK f := by
    unfold fK
    clear B hp
    induction f with
    | nil => rfl
    | cons y f ih => rw [List.map_cons, List.map_cons, List.zip_cons_cons, ih]; rfl
  rw [e, lk_fK (List.mem_map.mpr ⟨p, hp, rfl⟩), rowF_eq B hp]
end DL
local macro_rules | `(tactic| walk_at "w") => `(tactic| conv => whnf)
namespace DL
open PySem PySem.Spec PyProof.Rows L2 G
/-! ### sorted texts -/
def sLe (a b : Str) : Prop := a.cps.toList ≤ b.cps.toList
theorem sLe_of {a b : Str} (h : ltCps b.cps.toList a.cps.toList = false) : sLe a b := by
  rw [ltCps_eq] at h
  exact List.not_lt.mp (by simpa using h)
theorem sLe_anti {a b : Str} (h1 : sLe a b) (h2 : sLe b a) : a = b := by
  have : a.cps.toList = b.cps.toList := List.le_antisymm h1 h2
  rw [of_sOf a, of_sOf b, this]
theorem rise_pw : ∀ (l : List Str) (p : Str), risingS p l = true → (p :: l).Pairwise sLe
  | [], p, _ => List.pairwise_singleton _ _
  | x :: r, p, h => by
    have h' : (!ltCps x.cps.toList p.cps.toList && risingS x r) = true := h
    rw [Bool.and_eq_true] at h'
    have hx : sLe p x := sLe_of (by simpa using h'.1)
    have hr := rise_pw r x h'.2
    refine List.pairwise_cons.mpr ⟨fun y hy => ?_, hr⟩
    rcases List.mem_cons.mp hy with e | e
    · rw [e]; exact hx
    · exact List.le_trans hx ((List.pairwise_cons.mp hr).1 y e)
theorem srt_pw : ∀ {l : List Str}, sortedS l = true → l.Pairwise sLe
  | [], _ => .nil
  | p :: l, h => rise_pw l p h
theorem srt_one {a b : List Str} (h : a.Perm b) (ha : sortedS a = true) (hb : sortedS b = true) : a = b :=
  List.Perm.eq_of_pairwise (fun _ _ _ _ h1 h2 => sLe_anti h1 h2) (srt_pw ha) (srt_pw hb) h
theorem cmp_O (o : Option (List Nat)) : Cmp 1 (encO o) := by
  cases o with
  | none => exact ⟨rfl, Nat.zero_le _⟩
  | some r => exact cmp_row r
end DL
namespace DL
open PySem PySem.Spec PyProof.Rows L2 G
def t_counts_of (A : Ad) : MS := (seq (set_ 2 (dd1_ (call_ 1 (c_all_shut A) (cons_ (v_ 0) nil_)) (k_ (.int 1))))
  (seq (fzs_ 2) (seq (for_ (it_r (v_ 1)) (g_ 3) (seq (set_ 4 dnK_)
  (seq (for_ (it_i (v_ 2)) (gT 2 (gsC (g_ 5) (gsC (g_ 6) gsN))) (seq (for_ (it_q (call_ 2 (c_free_of A) (cons_ (v_ 0) (cons_ (v_ 5) nil_)))) (g_ 7) (seq (set_ 8 (call_ 2 (c_moved A) (cons_ (v_ 5) (cons_ (v_ 7) nil_))))
  (seq (asg_ (gPut (v_ 4) (v_ 8)) (o2 oAdd (get2_ (v_ 4) (v_ 8) (k_ (.int 0))) (v_ 6)))
  nil_s)))
  nil_s))
  (seq (set_ 2 (fz_ (v_ 4)))
  nil_s))))
  (seq (ret_ (v_ 2))
  nil_s))))
def c_counts_of (A : Ad) : SpD := cF (t_counts_of A) 7
def t_need_length (A : Ad) : MS := (seq (if_ (tnot (tst (call_ 3 (c_is_from A) (cons_ (v_ 0) (cons_ (k_ (.int 0)) (cons_ (k_ d_MOST_PULLS) nil_)))))) (seq (raise_ A.BadNumber ["n"] (cons_ (v_ 0) nil_))
  nil_s) nil_s)
  nil_s)
def c_need_length (A : Ad) : SpD := cF (t_need_length A) 0
def t_count_rows (A : Ad) : MS := (seq (ex_ (call_ 1 (c_need_cabinet A) (cons_ (v_ 0) nil_)))
  (seq (ex_ (call_ 1 (c_need_length A) (cons_ (v_ 1) nil_)))
  (seq (ret_ (o1 fSum (o1 fVals (call_ 2 (c_counts_of A) (cons_ (v_ 0) (cons_ (v_ 1) nil_))))))
  nil_s)))
def c_count_rows (A : Ad) : SpD := cF (t_count_rows A) 0
def t_count_to (A : Ad) : MS := (seq (ex_ (call_ 1 (c_need_cabinet A) (cons_ (v_ 0) nil_)))
  (seq (ex_ (call_ 1 (c_need_length A) (cons_ (v_ 1) nil_)))
  (seq (ex_ (call_ 2 (c_need_pattern A) (cons_ (v_ 0) (cons_ (v_ 2) nil_))))
  (seq (ret_ (o1 fSum (lc_ (it_i (call_ 2 (c_counts_of A) (cons_ (v_ 0) (cons_ (v_ 1) nil_)))) (setTup [3, 4] [3, 4]) (some (tst (call_ 2 (c_fits A) (cons_ (v_ 2) (cons_ (v_ 3) nil_))))) (v_ 4))))
  nil_s))))
def c_count_to (A : Ad) : SpD := cF (t_count_to A) 2
end DL
namespace DL
open PySem PySem.Spec PyProof.Rows L2 G
/-! ### numbers of rows -/
abbrev Cnt := List (St × Nat)
def sm (f : Cnt) (g : St → Nat) : Nat := (f.map fun p => p.2 * g p.1).sum
def nxt (c : Cab) (g : St → Nat) (s : St) : Nat := ((freeOf c s).map fun d => g (moved s d)).sum
def ways (c : Cab) : Nat → (St → Nat) → Nat
  | 0, g => g (shut c.n)
  | k + 1, g => ways c k (nxt c g)
def getC (f : Cnt) (s : St) : Nat := ((f.find? fun p => decide (p.1 = s)).map (·.2)).getD 0
def putC (f : Cnt) (t : St) (v : Nat) : Cnt := if (f.any fun p => decide (p.1 = t)) = true then f.map (fun p => if p.1 = t then (p.1, v) else p) else f ++ [(t, v)]
def addC (f : Cnt) (t : St) (v : Nat) : Cnt := putC f t (getC f t + v)
structure COk (n : Nat) (f : Cnt) : Prop where
  len : ∀ p ∈ f, p.1.length = n
  nd : (f.map (·.1)).Nodup
theorem any_keys (f : Cnt) (t : St) : (f.any fun p => decide (p.1 = t)) = decide (t ∈ f.map (·.1)) := by
  rw [Bool.eq_iff_iff, decide_eq_true_eq, List.any_eq_true, List.mem_map]
  constructor
  · rintro ⟨p, h, e⟩; exact ⟨p, h, by simpa using e⟩
  · rintro ⟨p, h, e⟩; exact ⟨p, h, by simpa using e⟩
theorem put_ne {f : Cnt} {p : St × Nat} {t : St} {v : Nat} (h : p.1 ≠ t) : putC (p :: f) t v = p :: putC f t v := by
  unfold putC
  rw [List.any_cons, decide_eq_false h, Bool.false_or]
  split
  · rw [List.map_cons, if_neg h]
  · rfl
theorem put_eq {f : Cnt} {p : St × Nat} {t : St} {v : Nat} (h : p.1 = t) (hn : t ∉ f.map (·.1)) : putC (p :: f) t v = (t, v) :: f := by
  unfold putC
  rw [List.any_cons, decide_eq_true h, Bool.true_or, if_pos rfl, List.map_cons, if_pos h, h]
  congr 1
  refine (List.map_congr_left fun x hx => ?_).trans (List.map_id _)
  rw [if_neg (fun z => hn (List.mem_map.mpr ⟨x, hx, z⟩))]; rfl
theorem keys_putC {f : Cnt} {t : St} {v : Nat} : (putC f t v).map (·.1) = if t ∈ f.map (·.1) then f.map (·.1) else f.map (·.1) ++ [t] := by
  unfold putC
  rw [any_keys]
  by_cases h : t ∈ f.map (·.1)
  · rw [decide_eq_true h, if_pos rfl, if_pos h, List.map_map]
    refine List.map_congr_left fun x hx => ?_
    show (if x.1 = t then (x.1, v) else x).1 = x.1
    split <;> rfl
  · rw [decide_eq_false h, if_neg (by simp), if_neg h, List.map_append]; rfl
theorem COk.put {n : Nat} {f : Cnt} {t : St} {v : Nat} (h : COk n f) (ht : t.length = n) : COk n (putC f t v) := by
  have hk := keys_putC (f := f) (t := t) (v := v)
  have key : ∀ s ∈ (putC f t v).map (·.1), s.length = n := by
    intro s hs
    rw [hk] at hs
    split at hs
    · obtain ⟨p, hp, rfl⟩ := List.mem_map.mp hs; exact h.len p hp
    · rcases List.mem_append.mp hs with hs | hs
      · obtain ⟨p, hp, rfl⟩ := List.mem_map.mp hs; exact h.len p hp
      · rw [List.mem_singleton.mp hs]; exact ht
  refine ⟨fun p hp => key _ (List.mem_map.mpr ⟨p, hp, rfl⟩), ?_⟩
  rw [hk]
  split
  · exact h.nd
  · next hn =>
    rw [List.nodup_append]
    exact ⟨h.nd, by simp, fun a ha b hb z => hn (by rw [← List.mem_singleton.mp hb, ← z]; exact ha)⟩
theorem COk.small {n : Nat} {f : Cnt} (h : COk n f) (hn : n ≤ 7) : f.length ≤ 128 := by
  have h1 : (f.map (·.1)).length ≤ (allSt n).length := List.Nodup.length_le_of_subset h.nd fun s hs => by
    obtain ⟨p, hp, rfl⟩ := List.mem_map.mp hs
    exact mem_allSt (h.len p hp)
  rw [allSt_len, List.length_map] at h1
  have h2 : 2 ^ n ≤ 2 ^ 7 := Nat.pow_le_pow_right (by decide) hn
  omega
theorem sm_cons (p : St × Nat) (f : Cnt) (g : St → Nat) : sm (p :: f) g = p.2 * g p.1 + sm f g := by unfold sm; rw [List.map_cons, List.sum_cons]
theorem sm_add {n : Nat} {f : Cnt} {t : St} {v : Nat} (g : St → Nat) (h : (f.map (·.1)).Nodup) : sm (addC f t v) g = sm f g + v * g t := by
  unfold addC
  induction f with
  | nil => show (0 + v) * g t + 0 = 0 + v * g t; rw [Nat.zero_add, Nat.zero_add, Nat.add_zero]
  | cons p f ih =>
    rw [List.map_cons, List.nodup_cons] at h
    by_cases e : p.1 = t
    · have hg : getC (p :: f) t = p.2 := by unfold getC; rw [List.find?_cons, decide_eq_true e]; rfl
      rw [hg, put_eq e (e ▸ h.1), sm_cons, sm_cons, e]
      show (p.2 + v) * g t + _ = _
      rw [Nat.add_mul]; omega
    · have hg : getC (p :: f) t = getC f t := by unfold getC; rw [List.find?_cons, decide_eq_false e]
      rw [hg, put_ne e, sm_cons, sm_cons, ih h.2]; omega
/-- a standing's rows, drawn one pull further -/
def spread (c : Cab) (f : Cnt) (p : St × Nat) : Cnt := (freeOf c p.1).foldl (fun f d => addC f (moved p.1 d) p.2) f
theorem fold_add {n : Nat} {s : St} {v : Nat} : ∀ (l : List Nat) {f : Cnt}, COk n f → s.length = n → COk n (l.foldl (fun f d => addC f (moved s d) v) f) ∧ ∀ g, sm (l.foldl (fun f d => addC f (moved s d) v) f) g = sm f g + v * (l.map fun d => g (moved s d)).sum
  | [], f, h, _ => ⟨h, fun g => by simp⟩
  | d :: l, f, h, hs => by
    have h1 : COk n (addC f (moved s d) v) := h.put (by rw [moved_len]; exact hs)
    obtain ⟨h2, h3⟩ := fold_add l h1 hs
    refine ⟨h2, fun g => ?_⟩
    rw [List.foldl_cons, h3 g, sm_add (n := n) g h.nd, List.map_cons, List.sum_cons, Nat.mul_add]; omega
theorem spread_ok {c : Cab} {f : Cnt} {p : St × Nat} (h : COk c.n f) (hp : p.1.length = c.n) : COk c.n (spread c f p) ∧ ∀ g, sm (spread c f p) g = sm f g + p.2 * nxt c g p.1 := fold_add _ h hp
theorem spread_all {c : Cab} : ∀ (l : List (St × Nat)) {f : Cnt}, COk c.n f → (∀ p ∈ l, p.1.length = c.n) → COk c.n (l.foldl (spread c) f) ∧ ∀ g, sm (l.foldl (spread c) f) g = sm f g + sm l (nxt c g)
  | [], f, h, _ => ⟨h, fun g => rfl⟩
  | p :: l, f, h, hl => by
    obtain ⟨h1, h2⟩ := spread_ok h (hl p List.mem_cons_self)
    obtain ⟨h3, h4⟩ := spread_all l h1 fun x hx => hl x (List.mem_cons_of_mem _ hx)
    refine ⟨h3, fun g => ?_⟩
    rw [List.foldl_cons, h4 g, h2 g, sm_cons]; omega
/-! ### as data -/
def cK (f : Cnt) : List (Key × D) := f.map fun p => (stK p.1, nD p.2)
def encC (f : Cnt) : D := .dK (f.map fun p => stK p.1) (f.map fun p => nD p.2)
theorem fz_cK (f : Cnt) : fzD (.dK (cK f)) = encC f := by
  show D.dK ((cK f).map (·.1)) ((cK f).map (·.2)) = D.dK (f.map fun p => stK p.1) (f.map fun p => nD p.2)
  unfold cK
  rw [List.map_map, List.map_map]; rfl
theorem cK_len (f : Cnt) : (cK f).length = f.length := List.length_map ..
theorem lk_cK (f : Cnt) (t : St) : (lkD (cK f) (stK t)).getD (.int 0) = nD (getC f t) := by
  unfold lkD getC
  induction f with
  | nil => rfl
  | cons p f ih =>
    by_cases e : p.1 = t
    · simp [cK, List.find?_cons, e]
    · have e' : ¬ stK p.1 = stK t := fun z => e (stK_inj z)
      simp only [cK, List.map_cons, List.find?_cons, e, e', decide_false]
      exact ih
theorem put_cK (f : Cnt) (t : St) (v : Nat) : putD (cK f) (stK t) (nD v) = cK (putC f t v) := by
  have e : ((cK f).any fun kv => decide (kv.1 = stK t)) = f.any fun p => decide (p.1 = t) := by
    unfold cK
    rw [List.any_map]
    congr 1
    funext p
    show decide (stK p.1 = stK t) = decide (p.1 = t)
    simp only [stK_eq]
  unfold putD putC
  rw [e]
  split
  · unfold cK
    rw [List.map_map, List.map_map]
    refine List.map_congr_left fun p _ => ?_
    show (if stK p.1 = stK t then (stK p.1, nD v) else (stK p.1, nD p.2)) = _
    by_cases h : p.1 = t
    · rw [if_pos (by rw [h])]; show _ = (stK (if p.1 = t then (p.1, v) else p).1, nD (if p.1 = t then (p.1, v) else p).2); rw [if_pos h]
    · rw [if_neg (fun z => h (stK_inj z))]; show _ = (stK (if p.1 = t then (p.1, v) else p).1, nD (if p.1 = t then (p.1, v) else p).2); rw [if_neg h]
  · unfold cK
    rw [List.map_append]; rfl
theorem items_C (f : Cnt) : itemsD (f.map fun p => stK p.1) (f.map fun p => nD p.2) = f.map fun p => D.tup [encSt p.1, nD p.2] := by
  unfold itemsD
  induction f with
  | nil => rfl
  | cons p f ih => rw [List.map_cons, List.map_cons, List.zip_cons_cons, List.map_cons, ih]; rfl
theorem ints_nD : ∀ l : List Nat, intsD (l.map nD) = some (l.map fun (x : Nat) => (x : Int))
  | [] => rfl
  | x :: l => by show (intsD (l.map nD)).map _ = _; rw [ints_nD l]; rfl
theorem sum_cast : ∀ l : List Nat, (l.map fun (x : Nat) => (x : Int)).sum = (l.sum : Nat)
  | [] => rfl
  | x :: l => by rw [List.map_cons, List.sum_cons, List.sum_cons, sum_cast l]; omega
theorem sum_s {l : List Nat} {m : Mem} {Φ : D → Mem → Prop} (q : Φ (nD l.sum) m) : om (intsD (l.map nD)) fun ns => Φ (.int ns.sum) m := by
  refine om_of (ints_nD l) ?_
  rw [sum_cast]; exact q
theorem sm_one (f : Cnt) : (f.map fun p => p.2).sum = sm f fun _ => 1 := by unfold sm; congr 1; refine List.map_congr_left fun p _ => ?_; rw [Nat.mul_one]
theorem sm_filter (f : Cnt) (P : St → Bool) : ((f.filter fun p => P p.1).map fun p => p.2).sum = sm f fun s => if P s = true then 1 else 0 := by
  induction f with
  | nil => rfl
  | cons p f ih =>
    rw [sm_cons, ← ih, List.filter_cons]
    by_cases h : P p.1 = true
    · rw [if_pos h, List.map_cons, List.sum_cons, if_pos h, Nat.mul_one]
    · rw [if_neg h, if_neg h, Nat.mul_zero, Nat.zero_add]
end DL
local macro_rules | `(tactic| walk_at "w") => `(tactic| conv => whnf)
namespace DL
open PySem PySem.Spec PyProof.Rows L2 G
theorem ways_one (c : Cab) (g : St → Nat) : sm [(shut c.n, 1)] g = ways c 0 g := by show 1 * g (shut c.n) + 0 = g (shut c.n); omega
theorem counts_of_s {A : Ad} {c : Cab} {k : Nat} {m : Mem} {Φ : D → Mem → Prop} {Ψ : XF} (hc : CabOk c) (hk : k ≤ 1000) (q : ∀ f, COk c.n f → (∀ g, sm f g = ways c k g) → Φ (encC f) m) : CallW (c_counts_of A) [encCab A c, .int k] m Φ Ψ := ⟨by
  have h7 := hc.h7
  walk_at "w"
  intro p hp
  walk_at "w"
  refine all_shut_s hc ?_
  walk_at "w"
  refine ⟨0, rfl, ?_⟩
  walk_at "w"
  refine ⟨0, _, rfl, ?_⟩
  walk_at "w"
  refine RgW.nat (by omega) ?_
  rw [Int.toNat_natCast]
  refine for_rest (α := Nat) (xs := List.range k) (enc := fun i => D.int (0 + (i : Int))) (fun rest ds m2 => ∃ (j : Nat) (f : Cnt) (x3 x4 x5 x6 x7 x8 : Option D), COk c.n f ∧ (∀ g, sm f g = ways c j g) ∧ j + rest.length = k ∧ m = m2 ∧ ds = [some (encCab A c), some (.int k), some (encC f), x3, x4, x5, x6, x7, x8])
    ⟨0, [(shut c.n, 1)], none, none, none, none, none, none, ⟨fun p hp => by rw [List.mem_singleton.mp hp]; exact shut_len _, by simp⟩, ways_one c, by simp, rfl, rfl⟩ (fun i rest ds m2 hi hI => ?_) (fun ds m2 hI => ?_)
  · obtain ⟨j, f, x3, x4, x5, x6, x7, x8, hf, hg, hj, rfl, rfl⟩ := hI
    walk_at "w"
    intro p4 hp4
    walk_at "w"
    rw [items_C]
    refine for_rest (α := St × Nat) (xs := f) (enc := fun p => D.tup [encSt p.1, nD p.2]) (fun rs ds m2 => ∃ (f2 : Cnt) (x5 x6 x7 x8 : Option D), COk c.n f2 ∧ rs.foldl (spread c) f2 = f.foldl (spread c) [] ∧ m2 = (p4, .dK (cK f2)) :: m ∧ ds = [some (encCab A c), some (.int k), some (encC f), some (.int (0 + (i : Int))), some (.ref p4), x5, x6, x7, x8])
      ⟨[], _, _, _, _, ⟨(fun _ h => by cases h), List.Pairwise.nil⟩, rfl, rfl, rfl⟩ (fun x rs ds m2 hx hI => ?_) (fun ds m2 hI => ?_)
    · obtain ⟨f2, x5, x6, x7, x8, hf2, he, rfl, rfl⟩ := hI
      have hxl := hf.len x hx
      walk_at "w"
      refine free_of_s hc hxl ?_
      walk_at "w"
      refine for_rest (α := Nat) (xs := freeOf c x.1) (enc := nD) (fun r2 ds m2 => ∃ (f3 : Cnt) (x7 x8 : Option D), COk c.n f3 ∧ r2.foldl (fun f d => addC f (moved x.1 d) x.2) f3 = spread c f2 x ∧ m2 = (p4, .dK (cK f3)) :: m ∧ ds = [some (encCab A c), some (.int k), some (encC f), some (.int (0 + (i : Int))), some (.ref p4), some (encSt x.1), some (nD x.2), x7, x8])
        ⟨f2, _, _, hf2, rfl, rfl, rfl⟩ (fun d r2 ds m2 hd hI => ?_) (fun ds m2 hI => ?_)
      · obtain ⟨f3, x7, x8, hf3, he3, rfl, rfl⟩ := hI
        have hs3 := hf3.small h7
        have hd' := free_lt hd
        walk_at "w"
        refine moved_s (by omega) (by omega) ?_
        walk_at "w"
        refine ⟨0, _, rfl, ?_⟩
        walk_at "w"
        refine ⟨0, _, rfl, ?_⟩
        walk_at "w"
        have e1 := lk_cK f3 (moved x.1 d)
        rw [show (lkD (cK f3) (Sum.inr (stS2 (moved x.1 d)))).getD (.int 0) = nD (getC f3 (moved x.1 d)) from e1]
        walk_at "w"
        refine ⟨0, _, rfl, ?_⟩
        walk_at "w"
        refine gd_of (decide_eq_true (by rw [cK_len]; show f3.length < 16777216; omega)) ?_
        refine ⟨addC f3 (moved x.1 d) x.2, some (nD d), some (encSt (moved x.1 d)), hf3.put (by rw [moved_len]; exact hxl), he3, ?_, rfl⟩
        have e2 := put_cK f3 (moved x.1 d) (getC f3 (moved x.1 d) + x.2)
        show (p4, MC.dK (putD (cK f3) (stK (moved x.1 d)) (nD (getC f3 (moved x.1 d) + x.2)))) :: m = _
        rw [e2]; rfl
      · obtain ⟨f3, x7, x8, hf3, he3, rfl, rfl⟩ := hI
        simp only [List.foldl_nil] at he3
        subst he3
        exact ⟨_, _, _, _, _, hf3, he, rfl, rfl⟩
    · obtain ⟨f2, x5, x6, x7, x8, hf2, he, rfl, rfl⟩ := hI
      simp only [List.foldl_nil] at he
      walk_at "w"
      refine ⟨0, _, rfl, ?_⟩
      obtain ⟨h1, h2⟩ := spread_all f (f := []) ⟨(fun _ h => by cases h), List.Pairwise.nil⟩ hf.len
      rw [← he] at h1 h2
      refine ⟨j + 1, f2, some (.int (0 + (i : Int))), some (.ref p4), x5, x6, x7, x8, h1, fun g => ?_, by simp at hj; omega, rfl, ?_⟩
      · rw [h2 g, hg]; exact Nat.zero_add _
      · rw [← fz_cK f2]; rfl
  · obtain ⟨j, f, x3, x4, x5, x6, x7, x8, hf, hg, hj, rfl, rfl⟩ := hI
    have : j = k := by simpa using hj
    subst this
    exact q f hf hg⟩
theorem need_length_s {A : Ad} {k : Nat} {m : Mem} {Φ : D → Mem → Prop} {Ψ : XF} (hk : k ≤ 60) (q : Φ .non m) : CallW (c_need_length A) [.int k] m Φ Ψ := ⟨by
  walk_at "w"
  refine is_from_s rfl ?_
  rw [show isFrom (.int k) 0 60 = true from by simp [isFrom]; omega]
  exact q⟩
theorem count_rows_s {A : Ad} {c : Cab} {k : Nat} {m : Mem} {Φ : D → Mem → Prop} {Ψ : XF} (hc : CabOk c) (hk : k ≤ 60) (q : Φ (nD (ways c k fun _ => 1)) m) : CallW (c_count_rows A) [encCab A c, .int k] m Φ Ψ := ⟨by
  walk_at "w"
  refine need_cab_s ?_
  walk_at "w"
  refine need_length_s hk ?_
  walk_at "w"
  refine counts_of_s hc (by omega) fun f hf hg => ?_
  walk_at "w"
  rw [show (f.map fun p => nD p.2) = (f.map fun p => p.2).map nD from by rw [List.map_map]; rfl]
  refine sum_s ?_
  rw [sm_one, hg]
  exact q⟩
theorem count_to_s {A : Ad} {c : Cab} {k : Nat} {pt : List Nat} {m : Mem} {Φ : D → Mem → Prop} {Ψ : XF} (hc : CabOk c) (hk : k ≤ 60) (hp : PatOk c.n pt) (q : Φ (nD (ways c k fun s => if fitsB pt s = true then 1 else 0)) m) : CallW (c_count_to A) [encCab A c, .int k, .str (sOf pt)] m Φ Ψ := ⟨by
  have h7 := hc.h7
  walk_at "w"
  refine need_cab_s ?_
  walk_at "w"
  refine need_length_s hk ?_
  walk_at "w"
  refine need_pattern_s hc hp ?_
  walk_at "w"
  refine counts_of_s hc (by omega) fun f hf hg => ?_
  have hs := hf.small h7
  walk_at "w"
  rw [items_C]
  refine lc_filter (α := St × Nat) (xs := f) (enc := fun p => D.tup [encSt p.1, nD p.2]) (f := fun p => fitsB pt p.1) (g := fun p => nD p.2) (by omega) (fun x hx => ⟨_, rfl, fun Ψ' h => ?_, fun _ Ψ' h => ?_⟩) ?_
  · have hl := hf.len x hx
    have := hp.len
    walk_at "w"
    refine fits_s (by omega) (by omega) ?_
    exact h
  · exact h
  · rw [show ((f.filter fun p => fitsB pt p.1).map fun p => nD p.2) = ((f.filter fun p => fitsB pt p.1).map fun p => p.2).map nD from by rw [List.map_map]; rfl]
    walk_at "w"
    refine sum_s ?_
    rw [sm_filter, hg]
    exact q⟩
end DL
namespace DL
open PySem PySem.Spec PyProof.Rows L2 G
def t_parting (A : Ad) : MS := (seq (par_ 2 3 (dd1_ (call_ 1 (c_all_shut A) (cons_ (v_ 0) nil_)) (tup_ nil_)) (lstM_ (cons_ (call_ 1 (c_all_shut A) (cons_ (v_ 0) nil_)) nil_)))
  (seq (while_ (tst (o2 (oEqV true) (v_ 3) (lst_ nil_))) (seq (set_ 4 (mth_ .list gPop (v_ 3) (cons_ (k_ (.int 0)) nil_)))
  (seq (par_ 5 6 (call_ 2 (c_free_of A) (cons_ (v_ 0) (cons_ (v_ 4) nil_))) (call_ 2 (c_free_of A) (cons_ (v_ 1) (cons_ (v_ 4) nil_))))
  (seq (for_ (it_r (o1 (fFld A.Cabinet ["many", "locks"] 0) (v_ 0))) (g_ 7) (seq (if_ (tst (o2 oNe (o2 (oIn false) (v_ 7) (v_ 5)) (o2 (oIn false) (v_ 7) (v_ 6)))) (seq (ret_ (dre_ (o2 oAdd (o2 oGet (v_ 2) (v_ 4)) (tup_ (cons_ (v_ 7) nil_)))))
  nil_s) nil_s)
  (seq (set_ 8 (call_ 2 (c_moved A) (cons_ (v_ 4) (cons_ (v_ 7) nil_))))
  (seq (if_ (tand (tst (o2 (oIn false) (v_ 7) (v_ 5))) (tst (o2 (oIn true) (v_ 8) (v_ 2)))) (seq (asg_ (gPut (v_ 2) (v_ 8)) (o2 oAdd (o2 oGet (v_ 2) (v_ 4)) (tup_ (cons_ (v_ 7) nil_))))
  (seq (ex_ (mth_ .list gApp (v_ 3) (cons_ (v_ 8) nil_)))
  nil_s)) nil_s)
  nil_s))))
  nil_s))))
  (seq (ret_ (dre_ (k_ .non)))
  nil_s)))
def c_parting (A : Ad) : SpD := cF (t_parting A) 7
def t_less (A : Ad) : MS := (seq (ret_ (make_ A.Cabinet 2 (c_Cabinet_init A) (cons_ (o1 (fFld A.Cabinet ["many", "locks"] 0) (v_ 0)) (cons_ (o1 fTup (lc_ (it_q (o1 (fFld A.Cabinet ["many", "locks"] 1) (v_ 0))) (fun d ds => some ((wipeD ds [2]).set 2 (some d))) (some (tst (o2 oNe (v_ 2) (v_ 1)))) (v_ 2))) nil_))))
  nil_s)
def c_less (A : Ad) : SpD := cF (t_less A) 1
def t_needless (A : Ad) : MS := (seq (ex_ (call_ 1 (c_need_cabinet A) (cons_ (v_ 0) nil_)))
  (seq (ret_ (lc_ (it_q (o1 (fFld A.Cabinet ["many", "locks"] 1) (v_ 0))) (fun d ds => some ((wipeD ds [1]).set 1 (some d))) (some (tst (o2 oIs (call_ 2 (c_parting A) (cons_ (v_ 0) (cons_ (call_ 2 (c_less A) (cons_ (v_ 0) (cons_ (v_ 1) nil_))) nil_))) (k_ .non)))) (v_ 1)))
  nil_s))
def c_needless (A : Ad) : SpD := cF (t_needless A) 1
def t_need_two (A : Ad) : MS := (seq (ex_ (call_ 1 (c_need_cabinet A) (cons_ (v_ 0) nil_)))
  (seq (ex_ (call_ 1 (c_need_cabinet A) (cons_ (v_ 1) nil_)))
  (seq (if_ (tst (o2 oNe (o1 (fFld A.Cabinet ["many", "locks"] 0) (v_ 0)) (o1 (fFld A.Cabinet ["many", "locks"] 0) (v_ 1)))) (seq (raise0 A.Unlike)
  nil_s) nil_s)
  nil_s)))
def c_need_two (A : Ad) : SpD := cF (t_need_two A) 0
def t_alike (A : Ad) : MS := (seq (ex_ (call_ 2 (c_need_two A) (cons_ (v_ 0) (cons_ (v_ 1) nil_))))
  (seq (ret_ (o2 oIs (call_ 2 (c_parting A) (cons_ (v_ 0) (cons_ (v_ 1) nil_))) (k_ .non)))
  nil_s))
def c_alike (A : Ad) : SpD := cF (t_alike A) 0
end DL
local macro_rules | `(tactic| walk_at "w") => `(tactic| conv => whnf)
namespace DL
open PySem PySem.Spec PyProof.Rows L2 G
/-! ### where two cabinets part -/
def pstep (c c' : Cab) (h : St) : List Nat → Fnd × List St → Option (List Nat) × (Fnd × List St)
  | [], fl => (none, fl)
  | d :: ds, fl => if freeAt c h d = freeAt c' h d then pstep c c' h ds (if freeAt c h d = true then exp1 h fl d else fl) else (some (rowF fl.1 h ++ [d]), fl)
inductive PRun (c c' : Cab) : Nat → Fnd → List St → Option (List Nat) → Prop
  | nil {k : Nat} {f : Fnd} : PRun c c' k f [] none
  | stop {k : Nat} {f : Fnd} {h : St} {q : List St} {row : List Nat} (e : (pstep c c' h (List.range c.n) (f, q)).1 = some row) : PRun c c' (k + 1) f (h :: q) (some row)
  | cons {k : Nat} {f : Fnd} {h : St} {q : List St} {r : Option (List Nat)} (e : (pstep c c' h (List.range c.n) (f, q)).1 = none) (t : PRun c c' k (pstep c c' h (List.range c.n) (f, q)).2.1 (pstep c c' h (List.range c.n) (f, q)).2.2 r) : PRun c c' (k + 1) f (h :: q) r
def sameAt (c c' : Cab) (h : St) : Prop := ∀ d, d < c.n → freeAt c h d = freeAt c' h d
theorem pstep_same {c c' : Cab} {h : St} : ∀ (l : List Nat) (fl : Fnd × List St), (∀ d ∈ l, freeAt c h d = freeAt c' h d) → pstep c c' h l fl = (none, (l.filter (freeAt c h)).foldl (exp1 h) fl)
  | [], _, _ => rfl
  | d :: l, fl, hs => by
    unfold pstep
    rw [if_pos (hs d List.mem_cons_self), pstep_same l _ fun x hx => hs x (List.mem_cons_of_mem _ hx), List.filter_cons]
    by_cases e : freeAt c h d = true
    · rw [if_pos e, if_pos e, List.foldl_cons]
    · rw [if_neg e, if_neg e]
theorem pstep_diff {c c' : Cab} {h : St} : ∀ (l : List Nat) (fl : Fnd × List St), (∃ d ∈ l, freeAt c h d ≠ freeAt c' h d) → ∃ row, (pstep c c' h l fl).1 = some row
  | [], _, ⟨_, hd, _⟩ => by cases hd
  | d :: l, fl, ⟨x, hx, hn⟩ => by
    unfold pstep
    by_cases e : freeAt c h d = freeAt c' h d
    · rw [if_pos e]
      refine pstep_diff l _ ⟨x, ?_, hn⟩
      rcases List.mem_cons.mp hx with z | z
      · subst z; exact absurd e hn
      · exact z
    · rw [if_neg e]; exact ⟨_, rfl⟩
theorem exp_new {h : St} : ∀ (l : List Nat) (f : Fnd) (q : List St), ∃ new : List St, keysF (l.foldl (exp1 h) (f, q)).1 = keysF f ++ new ∧ (l.foldl (exp1 h) (f, q)).2 = q ++ new
  | [], f, q => ⟨[], by simp, by simp⟩
  | d :: l, f, q => by
    rw [List.foldl_cons]
    by_cases e : hasF f (moved h d) = true
    · rw [show exp1 h (f, q) d = (f, q) from if_pos e]; exact exp_new l f q
    · rw [show exp1 h (f, q) d = (f ++ [(moved h d, rowF f h ++ [d])], q ++ [moved h d]) from if_neg e]
      obtain ⟨new, h1, h2⟩ := exp_new (h := h) l (f ++ [(moved h d, rowF f h ++ [d])]) (q ++ [moved h d])
      refine ⟨moved h d :: new, ?_, ?_⟩
      · rw [h1, keysF_app, List.append_assoc]; rfl
      · rw [h2, List.append_assoc]; rfl
theorem run_part {c c' : Cab} {k : Nat} {f : Fnd} {q : List St} {r : Fnd} (t : Run c k f q r) : BOk c.n f q → ∃ res, PRun c c' k f q res ∧ (res = none ↔ ∀ s ∈ keysF r, (s ∈ q ∨ s ∉ keysF f) → sameAt c c' s) := by
  induction t with
  | nil => intro _; exact ⟨none, .nil, ⟨fun _ s hs h => by rcases h with h | h; exact absurd h (by simp); exact absurd hs h, fun _ => rfl⟩⟩
  | @cons k f h q r t ih =>
    intro B
    have hhf := B.inq h List.mem_cons_self
    obtain ⟨b1, b2⟩ := expand_ok (c := c) B.tail hhf
    have hr : h ∈ keysF r := by
      obtain ⟨x, hx, e⟩ := List.mem_map.mp hhf
      exact List.mem_map.mpr ⟨x, run_mem (.cons t) x hx, e⟩
    by_cases hs : sameAt c c' h
    · have e := pstep_same (c := c) (c' := c') (h := h) (List.range c.n) (f, q) fun d hd => hs d (List.mem_range.mp hd)
      obtain ⟨res, h1, h2⟩ := ih b1
      have e2 : pstep c c' h (List.range c.n) (f, q) = (none, expand c f q h) := e
      refine ⟨res, .cons (by rw [e2]) (by rw [e2]; exact h1), ?_⟩
      rw [h2]
      obtain ⟨new, n1, n2⟩ := exp_new (h := h) (freeOf c h) f q
      have n1' : keysF (expand c f q h).1 = keysF f ++ new := n1
      have n2' : (expand c f q h).2 = q ++ new := n2
      have nd := b1.nd
      rw [n1', List.nodup_append] at nd
      rw [n1', n2']
      constructor
      · intro hh s hsr hor
        rcases hor with z | z
        · rcases List.mem_cons.mp z with z | z
          · subst z; exact hs
          · exact hh s hsr (.inl (List.mem_append_left _ z))
        · by_cases hn : s ∈ new
          · exact hh s hsr (.inl (List.mem_append_right _ hn))
          · exact hh s hsr (.inr fun y => (List.mem_append.mp y).elim z hn)
      · intro hh s hsr hor
        rcases hor with z | z
        · rcases List.mem_append.mp z with z | z
          · exact hh s hsr (.inl (List.mem_cons_of_mem _ z))
          · exact hh s hsr (.inr fun y => nd.2.2 s y s z rfl)
        · exact hh s hsr (.inr fun y => z (List.mem_append_left _ y))
    · have hd : ∃ d ∈ List.range c.n, freeAt c h d ≠ freeAt c' h d := by
        refine Classical.byContradiction fun z => hs fun d hd => Classical.byContradiction fun y => z ⟨d, List.mem_range.mpr hd, y⟩
      obtain ⟨row, hrow⟩ := pstep_diff (List.range c.n) (f, q) hd
      refine ⟨some row, .stop hrow, ⟨fun z => (by cases z), fun z => absurd (z h hr (.inl List.mem_cons_self)) hs⟩⟩
open Classical in
/-- the first row that parts two cabinets -/
noncomputable def parts2 (c c' : Cab) : Option (List Nat) := if h : ∃ res, PRun c c' (2 ^ c.n) [(shut c.n, [])] [shut c.n] res ∧ (res = none ↔ ∀ s ∈ keysF (bfs c (shut c.n)), sameAt c c' s) then h.choose else none
theorem parts2_ok (c c' : Cab) : PRun c c' (2 ^ c.n) [(shut c.n, [])] [shut c.n] (parts2 c c') ∧ (parts2 c c' = none ↔ ∀ s ∈ keysF (bfs c (shut c.n)), sameAt c c' s) := by
  obtain ⟨res, h1, h2⟩ := run_part (c' := c') (bfs_ok (c := c) (shut_len c.n)).1 (init_ok (shut_len c.n))
  have ex : ∃ res, PRun c c' (2 ^ c.n) [(shut c.n, [])] [shut c.n] res ∧ (res = none ↔ ∀ s ∈ keysF (bfs c (shut c.n)), sameAt c c' s) := by
    refine ⟨res, h1, h2.trans ⟨fun h s hs => h s hs ?_, fun h s hs _ => h s hs⟩⟩
    by_cases e : s = shut c.n
    · exact .inl (by rw [e]; exact List.mem_cons_self)
    · exact .inr (by simp [keysF]; exact e)
  unfold parts2
  rw [dif_pos ex]
  exact ex.choose_spec
end DL
local macro_rules | `(tactic| walk_at "w") => `(tactic| conv => whnf)
set_option pp.maxSteps 400
namespace DL
open PySem PySem.Spec PyProof.Rows L2 G
theorem parting_s {A : Ad} {c c' : Cab} {m : Mem} {Φ : D → Mem → Prop} {Ψ : XF} (hc : CabOk c) (hc' : CabOk c') (hn : c'.n = c.n) (q : Φ (encO (parts2 c c')) m) : CallW (c_parting A) [encCab A c, encCab A c'] m Φ Ψ := ⟨by
  have h7 := hc.h7
  obtain ⟨hrun, _⟩ := parts2_ok c c'
  walk_at "w"
  intro p hp
  walk_at "w"
  refine all_shut_s hc ?_
  walk_at "w"
  refine ⟨0, rfl, ?_⟩
  walk_at "w"
  refine all_shut_s hc ?_
  walk_at "w"
  intro p2 hp2
  walk_at "w"
  refine ⟨fun k ds m2 => ∃ (f : Fnd) (l : List St) (x4 x5 x6 x7 x8 : Option D), BOk c.n f l ∧ PRun c c' k f l (parts2 c c') ∧ m2 = (p2, .lst (l.map encSt)) :: (p, .dK (fK f)) :: m ∧ ds = [some (encCab A c), some (encCab A c'), some (.ref p), some (.ref p2), x4, x5, x6, x7, x8], 2 ^ c.n, ⟨[(shut c.n, [])], [shut c.n], none, none, none, none, none, init_ok (shut_len _), hrun, rfl, rfl⟩, ?_⟩
  rintro k ds m2 ⟨f, l, x4, x5, x6, x7, x8, B, hr, rfl, rfl⟩
  have hf := B.small h7
  walk_at "w"
  refine ⟨0, _, rfl, ?_⟩
  walk_at "w"
  refine gd_of (plk_cmp (cmp_lst (l := l) fun x _ => cmp_st x) (cmp_lst (l := ([] : List Nat)) (enc := nD) fun x _ => cmp_nD x) (by decide)) ?_
  by_cases hne : l = []
  · subst hne
    have e : parts2 c c' = none := by
      generalize parts2 c c' = r at hr
      cases hr; rfl
    rw [e] at q
    walk_at "w"
    exact ⟨m, .cons _ (.cons _ (.refl _)), q⟩
  · cases l with
    | nil => exact absurd rfl hne
    | cons h l =>
    obtain ⟨b1, b2⟩ := expand_ok B.tail (B.inq h List.mem_cons_self)
    have hl : h.length = c.n := by
      obtain ⟨x, hx, rfl⟩ := List.mem_map.mp (B.inq h List.mem_cons_self)
      exact B.len x hx
    walk_at "w"
    refine ⟨0, _, rfl, ?_⟩
    walk_at "w"
    refine ⟨0, _, rfl, ?_⟩
    walk_at "w"
    refine RgW.sm (by decide) (by decide) ?_
    refine om_of (j := 0) (by simp [ixN]) ?_
    walk_at "w"
    refine free_of_s hc hl ?_
    walk_at "w"
    refine free_of_s hc' (by omega) ?_
    walk_at "w"
    refine ⟨⟨rfl, rfl⟩, ?_⟩
    walk_at "w"
    refine RgW.nat (by omega) ?_
    rw [Int.toNat_natCast]
    refine for_rest (α := Nat) (xs := List.range c.n) (enc := fun i => D.int (0 + (i : Int))) (fun rest ds m2 => ∃ (fl : Fnd × List St) (x7 x8 : Option D), (∀ d ∈ rest, d < c.n) ∧ BOk c.n fl.1 fl.2 ∧ h ∈ keysF fl.1 ∧ pstep c c' h rest fl = pstep c c' h (List.range c.n) (f, l) ∧ m2 = (p2, .lst (fl.2.map encSt)) :: (p, .dK (fK fl.1)) :: m ∧ ds = [some (encCab A c), some (encCab A c'), some (.ref p), some (.ref p2), some (encSt h), some (.lst ((freeOf c h).map nD)), some (.lst ((freeOf c' h).map nD)), x7, x8])
      ⟨(f, l), _, _, fun d hd => List.mem_range.mp hd, B.tail, B.inq h List.mem_cons_self, rfl, rfl, rfl⟩ (fun d rest ds m2 hd hI => ?_) (fun ds m2 hI => ?_)
    · obtain ⟨⟨f1, l1⟩, x7, x8, hrest, B1, hh1, he, rfl, rfl⟩ := hI
      have hd' := hrest d List.mem_cons_self
      have hrest' : ∀ x ∈ rest, x < c.n := fun x hx => hrest x (List.mem_cons_of_mem _ hx)
      have hf1 : f1.length ≤ 128 := B1.small h7
      have hl1 : l1.length ≤ f1.length := B1.ql
      have B2 := exp1_ok B1 hh1 hd'
      have hrl : (rowF f1 h).length < f1.length := B1.row _ (rowF_mem hh1)
      have hz : (0 : Int) + (d : Int) = (d : Nat) := by omega
      rw [hz]
      walk_at "w"
      refine om_of (in_nD d (freeOf c h)) ?_
      rw [mem_free hd']
      walk_at "w"
      refine om_of (in_nD d (freeOf c' h)) ?_
      rw [mem_free (by omega)]
      walk_at "w"
      have eB : eqD (.bl (freeAt c h d)) (.bl (freeAt c' h d)) = decide (freeAt c h d = freeAt c' h d) := by cases freeAt c h d <;> cases freeAt c' h d <;> rfl
      rw [show pstep c c' h (d :: rest) (f1, l1) = if freeAt c h d = freeAt c' h d then pstep c c' h rest (if freeAt c h d = true then exp1 h (f1, l1) d else (f1, l1)) else (some (rowF f1 h ++ [d]), (f1, l1)) from rfl] at he
      by_cases hsame : freeAt c h d = freeAt c' h d
      · rw [if_pos hsame] at he
        refine br_f (show (!eqD (.bl (freeAt c h d)) (.bl (freeAt c' h d))) = false by rw [eB, decide_eq_true hsame]; rfl) ?_
        walk_at "w"
        refine moved_s (by omega) (by omega) ?_
        walk_at "w"
        refine om_of (in_nD d (freeOf c h)) ?_
        rw [mem_free hd']
        cases hfr : freeAt c h d with
        | false =>
          rw [if_neg (by rw [hfr]; simp)] at he
          walk_at "w"
          exact ⟨(f1, l1), _, _, hrest', B1, hh1, he, rfl, rfl⟩
        | true =>
          rw [if_pos hfr] at he
          walk_at "w"
          refine ⟨1, _, rfl, ?_⟩
          walk_at "w"
          have e := has_fK f1 (moved h d)
          cases hx : hasF f1 (moved h d) with
          | false =>
            refine br_t (by show (!hasK (stK (moved h d)) ((fK f1).map (·.1))) = true; rw [e, hx]; rfl) ?_
            walk_at "w"
            refine ⟨1, _, rfl, ?_⟩
            walk_at "w"
            refine om_of (lk_fK hh1) ?_
            walk_at "w"
            refine gd_of (decide_eq_true (by simp only [List.length_map, List.length_singleton]; show (rowF f1 h).length + 1 ≤ 16777216; omega)) ?_
            walk_at "w"
            refine ⟨1, _, rfl, ?_⟩
            walk_at "w"
            refine gd_of (decide_eq_true (by rw [fK_len]; show f1.length < 16777216; omega)) ?_
            walk_at "w"
            refine ⟨0, _, rfl, ?_⟩
            walk_at "w"
            refine ⟨0, _, rfl, ?_⟩
            walk_at "w"
            refine gd_of (decide_eq_true (by rw [List.length_map]; show l1.length < 16777216; omega)) ?_
            have e3 : exp1 h (f1, l1) d = (f1 ++ [(moved h d, rowF f1 h ++ [d])], l1 ++ [moved h d]) := if_neg (by rw [hx]; simp)
            rw [e3] at B2 he
            refine ⟨(f1 ++ [(moved h d, rowF f1 h ++ [d])], l1 ++ [moved h d]), _, _, hrest', B2.1, B2.2.1, he, ?_, rfl⟩
            have e4 := put_fK (v := rowF f1 h ++ [d]) hx
            show [(p2, MC.lst (l1.map encSt ++ [encSt (moved h d)])), (p, MC.dK (putD (fK f1) (stK (moved h d)) (.tup ((rowF f1 h).map nD ++ [nD d]))))] ++ m = _
            have e5 : D.tup ((rowF f1 h).map nD ++ [nD d]) = encRow (rowF f1 h ++ [d]) := by unfold encRow; rw [List.map_append]; rfl
            rw [e5, e4, List.map_append]; rfl
          | true =>
            refine br_f (by show (!hasK (stK (moved h d)) ((fK f1).map (·.1))) = false; rw [e, hx]; rfl) ?_
            rw [show exp1 h (f1, l1) d = (f1, l1) from if_pos hx] at he
            exact ⟨(f1, l1), _, _, hrest', B1, hh1, he, rfl, rfl⟩
      · rw [if_neg hsame] at he
        refine br_t (show (!eqD (.bl (freeAt c h d)) (.bl (freeAt c' h d))) = true by rw [eB, decide_eq_false hsame]; rfl) ?_
        have e : parts2 c c' = some (rowF f1 h ++ [d]) := by
          generalize parts2 c c' = r at hr
          cases hr with
          | stop e => rw [← he] at e; exact e.symm
          | cons e _ => rw [← he] at e; cases e
        rw [e] at q
        walk_at "w"
        refine ⟨1, _, rfl, ?_⟩
        walk_at "w"
        refine om_of (lk_fK hh1) ?_
        walk_at "w"
        refine gd_of (decide_eq_true (by simp only [List.length_map, List.length_singleton]; show (rowF f1 h).length + 1 ≤ 16777216; omega)) ?_
        refine ⟨m, .cons _ (.cons _ (.refl _)), ?_⟩
        have e5 : D.tup ((rowF f1 h).map nD ++ [nD d]) = encRow (rowF f1 h ++ [d]) := by unfold encRow; rw [List.map_append]; rfl
        show Φ (D.tup ((rowF f1 h).map nD ++ [nD d])) m
        rw [e5]
        exact q
    · obtain ⟨fl, x7, x8, _, B1, hh1, he, rfl, rfl⟩ := hI
      have he' : (none, fl) = pstep c c' h (List.range c.n) (f, l) := he
      generalize parts2 c c' = r at hr
      cases hr with
      | stop e => rw [← he'] at e; cases e
      | @cons k _ _ _ _ e t =>
        rw [← he'] at t
        exact ⟨k, Nat.lt_succ_self _, fl.1, fl.2, _, _, _, _, _, B1, t, rfl, rfl⟩⟩
theorem need_two_s {A : Ad} {c c' : Cab} {m : Mem} {Φ : D → Mem → Prop} {Ψ : XF} (q1 : c.n = c'.n → Φ .non m) (q2 : c.n ≠ c'.n → Ψ A.Unlike [] m) : CallW (c_need_two A) [encCab A c, encCab A c'] m Φ Ψ := ⟨by
  walk_at "w"
  refine need_cab_s ?_
  walk_at "w"
  refine need_cab_s ?_
  walk_at "w"
  refine ⟨⟨rfl, rfl⟩, ?_⟩
  walk_at "w"
  refine ⟨⟨rfl, rfl⟩, ?_⟩
  walk_at "w"
  by_cases h : c.n = c'.n
  · refine br_f (show (!((c.n : Int) == (c'.n : Int))) = false by simp [h]) ?_
    exact q1 h
  · refine br_t (show (!((c.n : Int) == (c'.n : Int))) = true by simp; omega) ?_
    exact q2 h⟩
theorem alike_s {A : Ad} {c c' : Cab} {m : Mem} {Φ : D → Mem → Prop} {Ψ : XF} (hc : CabOk c) (hc' : CabOk c') (hn : c'.n = c.n) (q : Φ (.bl (parts2 c c').isNone) m) : CallW (c_alike A) [encCab A c, encCab A c'] m Φ Ψ := ⟨by
  walk_at "w"
  refine need_two_s (fun _ => ?_) (fun h => absurd hn.symm h)
  walk_at "w"
  refine parting_s hc hc' hn ?_
  cases e : parts2 c c' with
  | none => rw [e] at q; exact q
  | some r => rw [e] at q; exact q⟩
end DL
namespace DL
open PySem PySem.Spec PyProof.Rows L2 G
def t_need_set (A : Ad) : MS := (seq (if_ (tor (tnot (tst (o1 (fIs "tuple") (v_ 1)))) (tnot (tst (o1 fAll (lc_ (it_q (v_ 1)) (fun d ds => some ((wipeD ds [2]).set 2 (some d))) none (call_ 3 (c_is_from A) (cons_ (v_ 2) (cons_ (k_ (.int 0)) (cons_ (o2 oSub (o1 (fFld A.Cabinet ["many", "locks"] 0) (v_ 0)) (k_ (.int 1))) nil_))))))))) (seq (raise0 A.BadSet)
  nil_s) nil_s)
  (seq (if_ (tnot (tst (o1 fAll (lc_ (it_r (o2 oSub (o1 fLen (v_ 1)) (k_ (.int 1)))) (fun d ds => some ((wipeD ds [3]).set 3 (some d))) none (o2 oLt (o2 oIx (v_ 1) (v_ 3)) (o2 oIx (v_ 1) (o2 oAdd (v_ 3) (k_ (.int 1))))))))) (seq (raise0 A.BadSet)
  nil_s) nil_s)
  nil_s))
def c_need_set (A : Ad) : SpD := cF (t_need_set A) 2
def t_pattern_of (A : Ad) : MS := (seq (ret_ (mth_ .str gJoin (k_ (.str "")) (cons_ (lc_ (it_r (o1 (fFld A.Cabinet ["many", "locks"] 0) (v_ 0))) (fun d ds => some ((wipeD ds [2]).set 2 (some d))) none (ite_ (tst (o2 (oIn false) (v_ 2) (v_ 1))) (k_ (.str "o")) (k_ (.str "?")))) nil_)))
  nil_s)
def c_pattern_of (A : Ad) : SpD := cF (t_pattern_of A) 1
def t_open_together (A : Ad) : MS := (seq (ex_ (call_ 1 (c_need_cabinet A) (cons_ (v_ 0) nil_)))
  (seq (ex_ (call_ 2 (c_need_set A) (cons_ (v_ 0) (cons_ (v_ 1) nil_))))
  (seq (ret_ (call_ 2 (c_best_row A) (cons_ (call_ 2 (c_rows_from A) (cons_ (v_ 0) (cons_ (call_ 1 (c_all_shut A) (cons_ (v_ 0) nil_)) nil_))) (cons_ (call_ 2 (c_pattern_of A) (cons_ (v_ 0) (cons_ (v_ 1) nil_))) nil_))))
  nil_s)))
def c_open_together (A : Ad) : SpD := cF (t_open_together A) 0
end DL
local macro_rules | `(tactic| walk_at "w") => `(tactic| conv => whnf)
set_option pp.maxSteps 400
namespace DL
open PySem PySem.Spec PyProof.Rows L2 G
/-! ### sets of drawers -/
structure SetOk (n : Nat) (l : List Nat) : Prop where
  lt : ∀ x ∈ l, x < n
  up : l.Pairwise (· < ·)
theorem SetOk.len {n : Nat} {l : List Nat} (h : SetOk n l) : l.length ≤ n := by
  have nd : l.Nodup := h.up.imp fun {a b} hab => by show a ≠ b; omega
  have := List.Nodup.length_le_of_subset nd (l₂ := List.range n) fun x hx => List.mem_range.mpr (h.lt x hx)
  simpa using this
theorem need_set_ok {A : Ad} {c : Cab} {l : List Nat} {m : Mem} {Φ : D → Mem → Prop} {Ψ : XF} (hc : CabOk c) (h : SetOk c.n l) (q : Φ .non m) : CallW (c_need_set A) [encCab A c, .tup (l.map nD)] m Φ Ψ := ⟨by
  have h7 := hc.h7
  have hl := h.len
  walk_at "w"
  refine lc_map (α := Nat) (xs := l) (enc := nD) (g := fun _ => .bl true) (by omega) (fun x hx => ⟨_, rfl, fun Ψ' hq => ?_⟩) ?_
  · walk_at "w"
    refine ⟨⟨rfl, rfl⟩, ?_⟩
    walk_at "w"
    refine is_from_s rfl ?_
    rw [show isFrom (nD x) 0 ((c.n : Int) - 1) = true from isFrom_nat (h.lt x hx)]
    exact hq
  · walk_at "w"
    refine om_of (bools_map (fun _ => true) l) ?_
    rw [all_id, show l.all (fun _ => true) = true from by simp]
    walk_at "w"
    refine gd_of (decide_eq_true (by rw [List.length_map]; show l.length ≤ 16777216; omega)) ?_
    rw [List.length_map]
    walk_at "w"
    refine RgW.sm (by omega) (by omega) ?_
    refine lc_map (α := Nat) (xs := List.range ((l.length : Int) - 1).toNat) (enc := fun i => D.int (0 + (i : Int))) (g := fun _ => .bl true) (by simp; omega) (fun i hi => ⟨_, rfl, fun Ψ' hq => ?_⟩) ?_
    · have hi' := List.mem_range.mp hi
      have hi2 : i + 1 < l.length := by omega
      walk_at "w"
      have e1 : atI (l.map nD) (0 + (i : Int)) = some (nD l[i]) := by rw [show (0 : Int) + i = (i : Nat) by omega]; exact atI_nat (by simp [show i < l.length by omega])
      have e2 : atI (l.map nD) (0 + (i : Int) + 1) = some (nD l[i + 1]) := by rw [show (0 : Int) + i + 1 = ((i + 1 : Nat) : Int) by omega]; exact atI_nat (by simp [hi2])
      refine om_of e1 ?_
      walk_at "w"
      refine om_of e2 ?_
      walk_at "w"
      have : l[i] < l[i + 1] := List.pairwise_iff_getElem.mp h.up i (i + 1) (by omega) hi2 (by omega)
      rw [show decide ((l[i] : Int) < (l[i + 1] : Int)) = true from decide_eq_true (by omega)]
      exact hq
    · walk_at "w"
      refine om_of (bools_map (fun _ => true) _) ?_
      rw [all_id, show (List.range ((l.length : Int) - 1).toNat).all (fun _ => true) = true from by simp]
      exact q⟩
def patOf (n : Nat) (l : List Nat) : List Nat := (List.range n).map fun d => if d ∈ l then 111 else 63
theorem patOf_len (n : Nat) (l : List Nat) : (patOf n l).length = n := by unfold patOf; simp
theorem in_nDt (x : Nat) (l : List Nat) : inD (nD x) (.tup (l.map nD)) = some (decide (x ∈ l)) := in_nD x l
theorem pattern_of_s {A : Ad} {c : Cab} {l : List Nat} {m : Mem} {Φ : D → Mem → Prop} {Ψ : XF} (hc : CabOk c) (q : Φ (.str (sOf (patOf c.n l))) m) : CallW (c_pattern_of A) [encCab A c, .tup (l.map nD)] m Φ Ψ := ⟨by
  have h7 := hc.h7
  walk_at "w"
  refine ⟨⟨rfl, rfl⟩, ?_⟩
  walk_at "w"
  refine RgW.nat (by omega) ?_
  rw [Int.toNat_natCast]
  refine lc_map (α := Nat) (xs := List.range c.n) (enc := fun i => D.int (0 + (i : Int))) (g := fun d => D.str (sOf [if d ∈ l then 111 else 63])) (by simp; omega) (fun i hi => ⟨_, rfl, fun Ψ' hq => ?_⟩) ?_
  · walk_at "w"
    rw [show (0 : Int) + (i : Int) = (i : Nat) by omega]
    refine om_of (in_nDt i l) ?_
    by_cases h : i ∈ l
    · rw [decide_eq_true h]
      rw [if_pos h] at hq
      exact hq
    · rw [decide_eq_false h]
      rw [if_neg h] at hq
      exact hq
  · rw [show ((List.range c.n).map fun d => D.str (sOf [if d ∈ l then 111 else 63])) = (patOf c.n l).map fun x => D.str (sOf [x]) from by unfold patOf; rw [List.map_map]; rfl]
    walk_at "w"
    exact join_go (by rw [patOf_len]; omega) q⟩
theorem pat_ok (n : Nat) (l : List Nat) : PatOk n (patOf n l) := ⟨patOf_len n l, fun x hx => by
  obtain ⟨d, _, rfl⟩ := List.mem_map.mp hx
  split <;> simp⟩
theorem fits_pat {n : Nat} {l : List Nat} {s : St} (h : SetOk n l) (hs : s.length = n) : fitsB (patOf n l) s = l.all fun d => s.getD d false := by
  have key : ∀ i, i < n → fitAt (patOf n l) s i = (!decide (i ∈ l) || s.getD i false) := fun i hi => by
    unfold fitAt
    rw [show (patOf n l).getD i 0 = if i ∈ l then 111 else 63 from by unfold patOf; simp [hi]]
    by_cases e : i ∈ l
    · rw [if_pos e, decide_eq_true e]
      cases s.getD i false <;> rfl
    · rw [if_neg e, decide_eq_false e]; rfl
  unfold fitsB
  rw [patOf_len, Bool.eq_iff_iff, List.all_eq_true, List.all_eq_true]
  constructor
  · intro hh d hd
    have := hh d (List.mem_range.mpr (h.lt d hd))
    rw [key d (h.lt d hd), decide_eq_true hd] at this
    simpa using this
  · intro hh i hi
    have hi' := List.mem_range.mp hi
    rw [key i hi']
    by_cases e : i ∈ l
    · rw [hh i e]; simp
    · rw [decide_eq_false e]; rfl
theorem open_together_s {A : Ad} {c : Cab} {l : List Nat} {m : Mem} {Φ : D → Mem → Prop} {Ψ : XF} (hc : CabOk c) (h : SetOk c.n l) (q : Φ (encO (bestFit (bfs c (shut c.n)) (patOf c.n l))) m) : CallW (c_open_together A) [encCab A c, .tup (l.map nD)] m Φ Ψ := ⟨by
  have hB := (bfs_ok (c := c) (shut_len c.n)).2
  walk_at "w"
  refine need_cab_s ?_
  walk_at "w"
  refine need_set_ok hc h ?_
  walk_at "w"
  refine all_shut_s hc ?_
  walk_at "w"
  refine rows_from_s hc (shut_len _) ?_
  walk_at "w"
  refine pattern_of_s hc ?_
  walk_at "w"
  exact best_row_s hc.h7 hB (patOf_len _ _) q⟩
/-- a drawn set -/
theorem some_s {A : Ad} {p : Addr} {ns : List Int} {n : Nat} {m : Mem} {j : Nat} {asg : D → DS → Option DS} {t : MT} {ta : ME} {ds : DS} {Φ : D → Mem → Prop} (R : RowAt m j p ns) (hn : n ≤ 1000)
    (h : ∀ i : Nat, i < n → ∃ ds3, asg (.int (0 + (i : Int))) ds = some ds3 ∧ (∀ m2, RowAt m2 j p ns → ∀ Ψ : Bool → Mem → Prop, (∀ b c, RowC ns c → Ψ b (m2.set j (p, c))) → t ds3 m2 Ψ X0) ∧ ∀ (m2 : Mem) (Ψ : D → Mem → Prop), Ψ (nD i) m2 → ta ds3 m2 Ψ X0)
    (q : ∀ l c, RowC ns c → SetOk n l → Φ (.lst (l.map nD)) (m.set j (p, c))) : LcW asg (some t) ta (rngD 0 n) ds m Φ := by
  obtain ⟨c0, hc0, hm0⟩ : ∃ c0, RowC ns c0 ∧ m = m.set j (p, c0) := by
    obtain ⟨i, s, r, h, e⟩ := R
    refine ⟨_, ⟨i, s, r, h, rfl⟩, ?_⟩
    obtain ⟨h1, h2⟩ := List.getElem?_eq_some_iff.mp e
    rw [← h2]; exact (List.set_getElem_self h1).symm
  refine ⟨fun i acc m2 => ∃ l c, RowC ns c ∧ SetOk i l ∧ acc = l.map nD ∧ m2 = m.set j (p, c), ⟨[], c0, hc0, ⟨fun _ h => (nomatch h), List.Pairwise.nil⟩, rfl, hm0⟩, fun i d acc m2 hd hi => ?_, fun acc m2 hi => ?_⟩
  · obtain ⟨l, c1, hc1, hl, rfl, rfl⟩ := hi
    have hil : i < n := by
      have := (List.getElem?_eq_some_iff.mp hd).1
      simpa [rngD] using this
    have hd' : d = .int (0 + (i : Int)) := by
      have e : (rngD 0 n)[i]? = some (.int (0 + (i : Int))) := by simp [rngD, hil]
      rw [e] at hd; cases hd; rfl
    subst hd'
    obtain ⟨ds3, h1, h2, h3⟩ := h i hil
    refine om_of h1 (h2 _ (R.set hc1) _ fun b c hc => ?_)
    rw [set_set']
    have hll := hl.len
    refine br_b (fun hb => h3 _ _ ⟨?_, l ++ [i], c, hc, ⟨fun x hx => ?_, ?_⟩, by rw [List.map_append]; rfl, rfl⟩) (fun hb => ⟨l, c, hc, ⟨fun x hx => Nat.lt_succ_of_lt (hl.lt x hx), hl.up⟩, rfl, rfl⟩)
    · rw [List.length_map]; show l.length < 16777216; omega
    · rcases List.mem_append.mp hx with z | z
      · exact Nat.lt_succ_of_lt (hl.lt x z)
      · rw [List.mem_singleton.mp z]; exact Nat.lt_succ_self _
    · rw [List.pairwise_append]
      exact ⟨hl.up, by simp, fun a ha b hb => by rw [List.mem_singleton.mp hb]; exact hl.lt a ha⟩
  · obtain ⟨l, c, hc, hl, rfl, rfl⟩ := hi
    have e : (rngD 0 n).length = n := by simp [rngD]
    rw [e] at hl
    exact q l c hc hl
end DL
namespace DL
open PySem PySem.Spec PyProof.Rows L2 G
def t_law_odd_standing (A : Ad) : MS := (seq (set_ 3 (lst_ (cons_ (k_ .non) (cons_ (k_ (.int 0)) (cons_ (o2 oMul (k_ (.str "s")) (o2 oAdd (v_ 1) (k_ (.int 1)))) (cons_ (o2 oMul (k_ (.str "s")) (o2 oSub (v_ 1) (k_ (.int 1)))) (cons_ (o2 oMul (k_ (.str "S")) (v_ 1)) (cons_ (o2 oMulT (tup_ (cons_ (k_ (.str "s")) nil_)) (v_ 1)) (cons_ (o2 oMul (k_ (.str "x")) (v_ 1)) (cons_ (k_ (.bl true)) (cons_ (k_ .emp) nil_)))))))))))
  (seq (ret_ (ite_ (tor (tst (o2 (oIn false) (k_ (.str "?")) (v_ 2))) (tst (o2 oEq (call_ 2 (c_law_taken A) (cons_ (v_ 0) (cons_ (k_ (.int 2)) nil_))) (k_ (.int 0))))) (o2 oIx (v_ 3) (call_ 2 (c_law_taken A) (cons_ (v_ 0) (cons_ (o1 fLen (v_ 3)) nil_)))) (o2 oMul (k_ (.str "?")) (v_ 1))))
  nil_s))
def c_law_odd_standing (A : Ad) : SpD := cF (t_law_odd_standing A) 1
end DL
set_option pp.maxSteps 600
local macro_rules | `(tactic| walk_at "w") => `(tactic| conv => whnf)
namespace DL
open PySem PySem.Spec PyProof.Rows L2 G
/-! ### values that are no standings, patterns, drawers -/
/-- no text of n of the signs w -/
def badSt (n : Nat) (w : List Nat) (d : D) : Prop := isT "str" d = some false ∨ ∃ l : List Nat, d = .str (sOf l) ∧ l.length ≤ 1000 ∧ (l.length ≠ n ∨ l.all (fun c => decide (c ∈ w)) = false)
theorem need_pattern_bad {A : Ad} {c : Cab} {d : D} {m : Mem} {Φ : D → Mem → Prop} {Ψ : XF} (h : badSt c.n [111, 115, 63] d) (q : Ψ A.BadPattern [] m) : CallW (c_need_pattern A) [encCab A c, d] m Φ Ψ := ⟨by
  rcases h with h | ⟨l, rfl, hl, h⟩
  · walk_at "w"
    refine om_of h ?_
    exact q
  walk_at "w"
  refine gd_of (decide_eq_true (show (sOf l).length ≤ 16777216 by rw [sOf_len]; omega)) ?_
  walk_at "w"
  refine ⟨⟨rfl, rfl⟩, ?_⟩
  walk_at "w"
  refine gd_of rfl ?_
  by_cases hn : l.length = c.n
  · have e : eqD (.int ((sOf l).length : Nat)) (.int c.n) = true := by
      show (((sOf l).length : Int) == (c.n : Int)) = true
      rw [sOf_len, hn]; simp
    rw [e]
    walk_at "w"
    refine lc_in (l := l) (w := [111, 115, 63]) (by omega) (fun c hc => ⟨_, rfl, fun Ψ' hq => hq⟩) ?_
    walk_at "w"
    refine om_of (bools_map _ _) ?_
    rcases h with h | h
    · exact absurd hn h
    · rw [all_id, h]
      exact q
  · have e : eqD (.int ((sOf l).length : Nat)) (.int c.n) = false := by
      show (((sOf l).length : Int) == (c.n : Int)) = false
      rw [sOf_len]
      exact beq_eq_false_iff_ne.mpr (by omega)
    rw [e]
    exact q⟩
theorem need_standing_bad {A : Ad} {c : Cab} {d : D} {m : Mem} {Φ : D → Mem → Prop} {Ψ : XF} (h : badSt c.n [111, 115] d) (q : Ψ A.BadStanding [] m) : CallW (c_need_standing A) [encCab A c, d] m Φ Ψ := ⟨by
  rcases h with h | ⟨l, rfl, hl, h⟩
  · walk_at "w"
    refine om_of h ?_
    exact q
  walk_at "w"
  refine gd_of (decide_eq_true (show (sOf l).length ≤ 16777216 by rw [sOf_len]; omega)) ?_
  walk_at "w"
  refine ⟨⟨rfl, rfl⟩, ?_⟩
  walk_at "w"
  refine gd_of rfl ?_
  by_cases hn : l.length = c.n
  · have e : eqD (.int ((sOf l).length : Nat)) (.int c.n) = true := by
      show (((sOf l).length : Int) == (c.n : Int)) = true
      rw [sOf_len, hn]; simp
    rw [e]
    walk_at "w"
    refine lc_in (l := l) (w := [111, 115]) (by omega) (fun c hc => ⟨_, rfl, fun Ψ' hq => hq⟩) ?_
    walk_at "w"
    refine om_of (bools_map _ _) ?_
    rcases h with h | h
    · exact absurd hn h
    · rw [all_id, h]
      exact q
  · have e : eqD (.int ((sOf l).length : Nat)) (.int c.n) = false := by
      show (((sOf l).length : Int) == (c.n : Int)) = false
      rw [sOf_len]
      exact beq_eq_false_iff_ne.mpr (by omega)
    rw [e]
    exact q⟩
theorem all_rep {n x : Nat} {w : List Nat} (h1 : 1 ≤ n) (hx : x ∉ w) : (List.replicate n x).all (fun c => decide (c ∈ w)) = false := by
  cases n with
  | zero => omega
  | succ n =>
    rw [List.replicate_succ, List.all_cons, decide_eq_false hx]
    rfl
theorem str_S : Str.ofString "S" = sOf [83] := by decide
theorem str_x : Str.ofString "x" = sOf [120] := by decide
theorem mul_w {z : Str} {x n : Nat} {k : Int} (h : z = sOf [x]) (hk : k = (n : Int)) : Txt.mul z k = sOf (List.replicate n x) := by rw [h, hk, mul_one1]
theorem mulOk_w {z : Str} {x n : Nat} {k : Int} (h : z = sOf [x]) (hk : k = (n : Int)) (hn : n ≤ 1000) : MulOk z k := by rw [h, hk]; exact mulOk_s (by simp) hn
/-- a value that is no standing, or no pattern -/
theorem odd_standing_s {A : Ad} {p : Addr} {ns : List Int} {n : Nat} {c0 : MC} {m : Mem} {sg : Str} {Φ : D → Mem → Prop} {Ψ : XF} (R : RowAt ((p, c0) :: m) 0 p ns) (hns : ns.length ≤ 63) (h1 : 1 ≤ n) (h7 : n ≤ 7) (hsg : sg = Str.ofString "os" ∨ sg = Str.ofString "os?")
    (q : ∀ d c', RowC ns c' → badSt n (if sg = Str.ofString "os" then [111, 115] else [111, 115, 63]) d → tyOk d = true → Φ d ((p, c') :: m)) : CallW (c_law_odd_standing A) [.ref p, .int n, .str sg] ((p, c0) :: m) Φ Ψ := ⟨by
  walk_at "w"
  refine ⟨mulOk_w (n := n + 1) str_s (by omega) (by omega), ?_⟩
  walk_at "w"
  refine ⟨mulOk_w (n := n - 1) str_s (by omega) (by omega), ?_⟩
  walk_at "w"
  refine ⟨mulOk_w (n := n) str_S (by omega) (by omega), ?_⟩
  walk_at "w"
  refine gd_of ?_ ?_
  · simp; omega
  walk_at "w"
  refine ⟨mulOk_w (n := n) str_x (by omega) (by omega), ?_⟩
  walk_at "w"
  rw [mul_w (n := n + 1) str_s (by omega), mul_w (n := n - 1) str_s (by omega), mul_w (n := n) str_S (by omega), mul_w (n := n) str_x (by omega)]
  have item : ∀ w : List Nat, 115 ∈ w → 83 ∉ w → 120 ∉ w → ∀ x ∈ ([.non, .int 0, .str (sOf (List.replicate (n + 1) 115)), .str (sOf (List.replicate (n - 1) 115)), .str (sOf (List.replicate n 83)), .tup (List.replicate (n : Int).toNat [D.str (Str.ofString "s")]).flatten, .str (sOf (List.replicate n 120)), .bl true, .emp] : List D), badSt n w x ∧ tyOk x = true := by
    intro w hw h2 h3 x hx
    simp only [List.mem_cons, List.not_mem_nil, or_false] at hx
    rcases hx with rfl | rfl | rfl | rfl | rfl | rfl | rfl | rfl | rfl
    · exact ⟨.inl rfl, rfl⟩
    · exact ⟨.inl rfl, rfl⟩
    · exact ⟨.inr ⟨_, rfl, by simp; omega, .inl (by simp)⟩, rfl⟩
    · exact ⟨.inr ⟨_, rfl, by simp; omega, .inl (by simp; omega)⟩, rfl⟩
    · exact ⟨.inr ⟨_, rfl, by simp; omega, .inr (all_rep h1 h2)⟩, rfl⟩
    · exact ⟨.inl rfl, rfl⟩
    · exact ⟨.inr ⟨_, rfl, by simp; omega, .inr (all_rep h1 h3)⟩, rfl⟩
    · exact ⟨.inl rfl, rfl⟩
    · exact ⟨.inl rfl, rfl⟩
  rcases hsg with rfl | rfl
  · walk_at "w"
    refine taken_s R hns (by decide) (by decide) fun v c1 hc1 hv hv2 => ?_
    have R1 : RowAt ((p, c1) :: m) 0 p ns := R.set hc1
    walk_at "w"
    refine br_b (fun hb => ?_) (fun hb => ?_)
    · walk_at "w"
      refine taken_s (n := 9) R1 hns (by decide) (by decide) fun v2 c2 hc2 hw hw2 => ?_
      walk_at "w"
      obtain ⟨d, hd, h2, h3⟩ := pick (P := fun x => badSt n [111, 115] x ∧ tyOk x = true) hw (by simpa using hw2) (item [111, 115] (by decide) (by decide) (by decide))
      refine om_of hd ?_
      exact q d c2 hc2 (by rw [if_pos rfl]; exact h2) h3
    · walk_at "w"
      refine ⟨mulOk_w (n := n) str_q (by omega) (by omega), ?_⟩
      rw [mul_w (n := n) str_q (by omega)]
      exact q _ c1 hc1 (.inr ⟨_, rfl, by simp; omega, .inr (by rw [if_pos rfl]; exact all_rep h1 (by decide))⟩) rfl
  · walk_at "w"
    refine taken_s (n := 9) R hns (by decide) (by decide) fun v2 c2 hc2 hw hw2 => ?_
    walk_at "w"
    obtain ⟨d, hd, h2, h3⟩ := pick (P := fun x => badSt n [111, 115, 63] x ∧ tyOk x = true) hw (by simpa using hw2) (item [111, 115, 63] (by decide) (by decide) (by decide))
    refine om_of hd ?_
    exact q d c2 hc2 (by rw [if_neg (by decide)]; exact h2) h3⟩
end DL
namespace DL
open PySem PySem.Spec PyProof.Rows L2 G
def t_Cabinet_eq (A : Ad) : MS := (seq (ret_ (and_ (o1 (fIsC A.Cabinet) (v_ 1)) (and_ (o2 oEq (o1 (fFld A.Cabinet ["many", "locks"] 0) (v_ 0)) (o1 (fFld A.Cabinet ["many", "locks"] 0) (v_ 1))) (o2 oEq (o1 (fFld A.Cabinet ["many", "locks"] 1) (v_ 0)) (o1 (fFld A.Cabinet ["many", "locks"] 1) (v_ 1))))))
  nil_s)
def c_Cabinet_eq (A : Ad) : SpD := cF (t_Cabinet_eq A) 0
def t_Desk_init (A : Ad) : MS := (seq (ex_ (call_ 1 (c_need_cabinet A) (cons_ (v_ 1) nil_)))
  (seq (setN_ A.Desk [] "case" (v_ 1) (v_ 0))
  (seq (setN_ A.Desk ["case"] "stood" (tup_ (cons_ (call_ 1 (c_all_shut A) (cons_ (v_ 1) nil_)) nil_)) (v_ 0))
  (seq (setN_ A.Desk ["case", "stood"] "pulled" (tup_ nil_) (v_ 0))
  nil_s))))
def c_Desk_init (A : Ad) : SpD := cF (t_Desk_init A) 0
def t_Desk_cabinet (A : Ad) : MS := (seq (ret_ (o1 (fFldC A.Desk ["case", "stood", "pulled"] 0) (v_ 0)))
  nil_s)
def c_Desk_cabinet (A : Ad) : SpD := cF (t_Desk_cabinet A) 0
def t_Desk_standing (A : Ad) : MS := (seq (ret_ (o2 oIx (o1 (fFldC A.Desk ["case", "stood", "pulled"] 1) (v_ 0)) (k_ (.int (-1)))))
  nil_s)
def c_Desk_standing (A : Ad) : SpD := cF (t_Desk_standing A) 0
def t_Desk_pulls (A : Ad) : MS := (seq (ret_ (o1 (fFldC A.Desk ["case", "stood", "pulled"] 2) (v_ 0)))
  nil_s)
def c_Desk_pulls (A : Ad) : SpD := cF (t_Desk_pulls A) 0
def t_Desk_pull (A : Ad) : MS := (seq (ex_ (call_ 2 (c_need_drawer A) (cons_ (o1 (fFldC A.Desk ["case", "stood", "pulled"] 0) (v_ 0)) (cons_ (v_ 1) nil_))))
  (seq (if_ (tnot (tst (call_ 3 (c_is_free A) (cons_ (o1 (fFld A.Cabinet ["many", "locks"] 1) (o1 (fFldC A.Desk ["case", "stood", "pulled"] 0) (v_ 0))) (cons_ (o2 oIx (o1 (fFldC A.Desk ["case", "stood", "pulled"] 1) (v_ 0)) (k_ (.int (-1)))) (cons_ (v_ 1) nil_)))))) (seq (ret_ (k_ (.bl false)))
  nil_s) nil_s)
  (seq (setC_ A.Desk ["case", "stood", "pulled"] 1 (o2 oAdd (o1 (fFldC A.Desk ["case", "stood", "pulled"] 1) (v_ 0)) (tup_ (cons_ (call_ 2 (c_moved A) (cons_ (o2 oIx (o1 (fFldC A.Desk ["case", "stood", "pulled"] 1) (v_ 0)) (k_ (.int (-1)))) (cons_ (v_ 1) nil_))) nil_))) (v_ 0))
  (seq (setC_ A.Desk ["case", "stood", "pulled"] 2 (o2 oAdd (o1 (fFldC A.Desk ["case", "stood", "pulled"] 2) (v_ 0)) (tup_ (cons_ (v_ 1) nil_))) (v_ 0))
  (seq (ret_ (k_ (.bl true)))
  nil_s)))))
def c_Desk_pull (A : Ad) : SpD := cF (t_Desk_pull A) 0
def t_Desk_free (A : Ad) : MS := (seq (ret_ (call_ 2 (c_free_of A) (cons_ (o1 (fFldC A.Desk ["case", "stood", "pulled"] 0) (v_ 0)) (cons_ (o2 oIx (o1 (fFldC A.Desk ["case", "stood", "pulled"] 1) (v_ 0)) (k_ (.int (-1)))) nil_))))
  nil_s)
def c_Desk_free (A : Ad) : SpD := cF (t_Desk_free A) 0
def t_Desk_undo (A : Ad) : MS := (seq (if_ (tst (o2 oEq (o1 (fFldC A.Desk ["case", "stood", "pulled"] 2) (v_ 0)) (tup_ nil_))) (seq (ret_ (k_ (.bl false)))
  nil_s) nil_s)
  (seq (setC_ A.Desk ["case", "stood", "pulled"] 1 (sl_ (o1 (fFldC A.Desk ["case", "stood", "pulled"] 1) (v_ 0)) no_ (so_ (k_ (.int (-1))))) (v_ 0))
  (seq (setC_ A.Desk ["case", "stood", "pulled"] 2 (sl_ (o1 (fFldC A.Desk ["case", "stood", "pulled"] 2) (v_ 0)) no_ (so_ (k_ (.int (-1))))) (v_ 0))
  (seq (ret_ (k_ (.bl true)))
  nil_s))))
def c_Desk_undo (A : Ad) : SpD := cF (t_Desk_undo A) 0
def t_Desk_copy (A : Ad) : MS := (seq (set_ 1 (makeM_ A.Desk 1 (c_Desk_init A) (cons_ (o1 (fFldC A.Desk ["case", "stood", "pulled"] 0) (v_ 0)) nil_)))
  (seq (asg_ (gT 2 (gsC (gFldC A.Desk ["case", "stood", "pulled"] 1 (v_ 1)) (gsC (gFldC A.Desk ["case", "stood", "pulled"] 2 (v_ 1)) gsN))) (tup_ (cons_ (o1 (fFldC A.Desk ["case", "stood", "pulled"] 1) (v_ 0)) (cons_ (o1 (fFldC A.Desk ["case", "stood", "pulled"] 2) (v_ 0)) nil_))))
  (seq (ret_ (v_ 1))
  nil_s)))
def c_Desk_copy (A : Ad) : SpD := cF (t_Desk_copy A) 1
def t_Desk_len (A : Ad) : MS := (seq (ret_ (o1 fLen (o1 (fFldC A.Desk ["case", "stood", "pulled"] 2) (v_ 0))))
  nil_s)
def c_Desk_len (A : Ad) : SpD := cF (t_Desk_len A) 0
end DL
set_option pp.maxSteps 600
local macro_rules | `(tactic| walk_at "w") => `(tactic| conv => whnf)
namespace DL
open PySem PySem.Spec PyProof.Rows L2 G
/-! ### slices -/
theorem cutD_to {l : List D} {k : Nat} (h : k ≤ l.length) : G.cutD l none (some (k : Int)) = l.take k := by
  unfold G.cutD
  rw [HT.sIx_none, HT.sIx_nat, List.drop_zero, Nat.sub_zero, Nat.min_eq_left h]
theorem cutD_from {l : List D} {k : Nat} (h : k ≤ l.length) : G.cutD l (some (k : Int)) none = l.drop k := by
  unfold G.cutD
  rw [HT.sIx_none, HT.sIx_nat, Nat.min_eq_left h, List.take_of_length_le]
  rw [List.length_drop]; omega
theorem cutD_last {l : List D} : G.cutD l none (some (-1)) = l.dropLast := by
  unfold G.cutD
  rw [HT.sIx_none, List.drop_zero, Nat.sub_zero, List.dropLast_eq_take]
  congr 1
  show ((-1 : Int) + (l.length : Int)).toNat = l.length - 1
  omega
/-! ### the order of bars -/
theorem kLt_trans {a b c : List Key} (h1 : kLt a b = true) (h2 : kLt b c = true) : kLt a c = true := lex_trans _ _ _ h1 h2
theorem bLt_asymm {a b : Bar} (h : bLt a b = true) : bLt b a = false := by
  cases e : bLt b a with
  | false => rfl
  | true => exact absurd (kLt_trans h e) (by rw [kLt_irrefl]; simp)
/-! ### bars, cabinets: equal or not -/
theorem bar_eqD (a b : Bar) : eqD (encBar a) (encBar b) = decide (a = b) := by
  show (eqD (.int a.mv) (.int b.mv) && (eqD (.str (stS a.wy)) (.str (stS b.wy)) && (eqD (.int a.ot) (.int b.ot) && (eqD (.str (stS a.sd)) (.str (stS b.sd)) && true)))) = _
  rw [show eqD (.int a.mv) (.int b.mv) = decide (a.mv = b.mv) from eqD_nD _ _, show eqD (.int a.ot) (.int b.ot) = decide (a.ot = b.ot) from eqD_nD _ _, st_eq, st_eq, Bool.eq_iff_iff]
  simp only [Bool.and_eq_true, decide_eq_true_eq, beq_iff_eq, and_true]
  constructor
  · rintro ⟨h1, h2, h3, h4⟩
    cases a; cases b
    simp only at h1 h2 h3 h4
    subst h1 h2 h3 h4
    rfl
  · rintro rfl
    exact ⟨rfl, rfl, rfl, rfl⟩
theorem eqD_tups {α : Type} [DecidableEq α] {enc : α → D} (hi : ∀ x y, eqD (enc x) (enc y) = decide (x = y)) (l l' : List α) : eqD (.tup (l.map enc)) (.tup (l'.map enc)) = decide (l = l') := eqD_lst hi l l'
theorem eqD_bars (l l' : List Bar) : eqD (.tup (encBars l)) (.tup (encBars l')) = decide (l = l') := eqD_tups bar_eqD l l'
theorem cmp_bars (l : List Bar) : Cmp 2 (.tup (encBars l)) := cmp_tup fun x _ => cmp_bar x
def sameC (c1 c2 : Cab) : Bool := decide (c1.n = c2.n) && decide (c1.bars = c2.bars)
theorem cab_eq_s {A : Ad} {c1 c2 : Cab} {m : Mem} {Φ : D → Mem → Prop} {Ψ : XF} (q : Φ (.bl (sameC c1 c2)) m) : CallW (c_Cabinet_eq A) [encCab A c1, encCab A c2] m Φ Ψ := ⟨by
  walk_at "w"
  refine om_of (j := true) (show (if A.Cabinet = A.Cabinet then some true else none) = some true from if_pos rfl) ?_
  walk_at "w"
  refine ⟨⟨rfl, rfl⟩, ?_⟩
  walk_at "w"
  refine ⟨⟨rfl, rfl⟩, ?_⟩
  walk_at "w"
  refine br_b (fun h => ?_) (fun h => ?_)
  · have hn : c1.n = c2.n := by
      have := (beq_iff_eq (a := (c1.n : Int)) (b := c2.n)).mp h
      omega
    walk_at "w"
    refine ⟨⟨rfl, rfl⟩, ?_⟩
    walk_at "w"
    refine ⟨⟨rfl, rfl⟩, ?_⟩
    walk_at "w"
    refine gd_of (plk_cmp (cmp_bars _) (cmp_bars _) (by decide)) ?_
    rw [eqD_bars]
    unfold sameC at q
    rw [decide_eq_true hn, Bool.true_and] at q
    exact q
  · have hn : c1.n ≠ c2.n := fun e => by
      have : ((c1.n : Int) == (c2.n : Int)) = false := h
      rw [e] at this
      simp at this
    unfold sameC at q
    rw [decide_eq_false hn, Bool.false_and] at q
    exact q⟩
theorem cab_eq_tup {A : Ad} {c : Cab} {l : List D} {m : Mem} {Φ : D → Mem → Prop} {Ψ : XF} (q : Φ (.bl false) m) : CallW (c_Cabinet_eq A) [encCab A c, .tup l] m Φ Ψ := ⟨q⟩
end DL
namespace DL
open PySem PySem.Spec PyProof.Rows L2 G
theorem get_other {m : Mem} {j k : Nat} {x y : Addr × MC} (h : m[j]? = some x) (ne : j ≠ k) : (m.set k y)[j]? = some x := by rw [List.getElem?_set_ne (Ne.symm ne)]; exact h
theorem row_other {m : Mem} {k j : Nat} {p : Addr} {ns : List Int} {y : Addr × MC} (h : RowAt m k p ns) (ne : k ≠ j) : RowAt (m.set j y) k p ns := by
  obtain ⟨a1, a2, a3, a4, a5⟩ := h
  exact ⟨a1, a2, a3, a4, get_other a5 ne⟩
end DL
set_option pp.maxSteps 600
local macro_rules | `(tactic| walk_at "w") => `(tactic| conv => whnf)
namespace DL
open PySem PySem.Spec PyProof.Rows L2 G
/-! ### sorted(set(bars)) -/
theorem sub_len {α : Type} [DecidableEq α] : ∀ (l m : List α), l.Nodup → (∀ x ∈ l, x ∈ m) → l.length ≤ m.length
  | [], _, _, _ => Nat.zero_le _
  | x :: l, m, hn, hs => by
    obtain ⟨h1, h2⟩ := List.nodup_cons.mp hn
    have hx := hs x List.mem_cons_self
    have ih := sub_len l (m.erase x) h2 fun y hy => (List.mem_erase_of_ne (show y ≠ x from fun e => h1 (e ▸ hy))).2 (hs y (List.mem_cons_of_mem _ hy))
    have e := List.length_erase_of_mem hx
    have hp : 0 < m.length := List.length_pos_of_mem hx
    rw [List.length_cons]
    omega
theorem of_keys : ∀ {ys : List (List Key)} {bs : List Bar}, (∀ k ∈ ys, k ∈ bs.map barK) → ∃ l : List Bar, ys = l.map barK ∧ ∀ b ∈ l, b ∈ bs
  | [], _, _ => ⟨[], rfl, fun b hb => nomatch hb⟩
  | y :: ys, bs, h => by
    obtain ⟨b, hb, e⟩ := List.mem_map.mp (h y List.mem_cons_self)
    obtain ⟨l, e2, h2⟩ := of_keys (ys := ys) (bs := bs) fun k hk => h k (List.mem_cons_of_mem _ hk)
    refine ⟨b :: l, by rw [List.map_cons, e, e2], fun x hx => ?_⟩
    rcases List.mem_cons.mp hx with z | z
    · rw [z]; exact hb
    · exact h2 x z
theorem enc_keys (bs : List Bar) : encBars bs = (bs.map barK).map tupK := by unfold encBars; rw [List.map_map]; rfl
theorem sset_barsF {bs : List Bar} {m : Mem} {Φ : D → Mem → Prop} (h : ∀ l : List Bar, l.Nodup → (∀ b ∈ l, b ∈ bs) → l.length < 64) (q : ∀ l : List Bar, l.Pairwise (fun a b => bLt a b = true) → (∀ b, b ∈ l ↔ b ∈ bs) → l.length ≤ bs.length → Φ (.lst (encBars l)) m) : SSetW (encBars bs) m Φ := by
  refine ⟨bs.map barK, [false, true, false, true], enc_keys bs, fun ys nd hs => by
    obtain ⟨l, rfl, hl⟩ := of_keys hs
    rw [List.length_map]
    exact h l (List.Pairwise.of_map barK (fun _ _ hne e => hne (congrArg barK e)) nd) hl, by simp, fun k hk => ?_, fun ys nd hm hs => ?_⟩
  · obtain ⟨b, _, rfl⟩ := List.mem_map.mp hk
    exact shp_bar b
  · obtain ⟨l, rfl, hl⟩ := of_keys fun k hk => (hm k).mp hk
    have ndl : l.Nodup := List.Pairwise.of_map barK (fun _ _ hne e => hne (congrArg barK e)) nd
    rw [← enc_keys]
    refine q l (strict ndl (List.pairwise_map.mp hs)) (fun b => ⟨hl b, fun hb => ?_⟩) ?_
    · obtain ⟨b', hb', e⟩ := List.mem_map.mp ((hm (barK b)).mpr (List.mem_map.mpr ⟨b, hb, rfl⟩))
      rw [← barK_inj e]; exact hb'
    · exact sub_len l bs ndl hl
theorem sset_bars {bs : List Bar} {m : Mem} {Φ : D → Mem → Prop} (h : bs.length < 64) (q : ∀ l : List Bar, l.Pairwise (fun a b => bLt a b = true) → (∀ b, b ∈ l ↔ b ∈ bs) → l.length ≤ bs.length → Φ (.lst (encBars l)) m) : SSetW (encBars bs) m Φ :=
  sset_barsF (fun l hn hl => Nat.lt_of_le_of_lt (sub_len l bs hn hl) h) q
end DL
namespace DL
open PySem PySem.Spec PyProof.Rows L2 G
/-! ### rows by their numbers: shorter ones first, then the least -/
def code (r : List Nat) : Nat := r.foldl (fun a d => a * 8 + d) 1
theorem code_snoc (r : List Nat) (d : Nat) : code (r ++ [d]) = code r * 8 + d := by unfold code; rw [List.foldl_append]; rfl
inductive Goes (c : Cab) (b : St) : List Nat → St → Prop
  | nil : Goes c b [] b
  | snoc {r : List Nat} {s : St} {d : Nat} (g : Goes c b r s) (h : d ∈ freeOf c s) : Goes c b (r ++ [d]) (moved s d)
theorem Goes.small {c : Cab} {b : St} (h7 : c.n ≤ 7) {r : List Nat} {s : St} (g : Goes c b r s) : ∀ d ∈ r, d < 8 := by
  induction g with
  | nil => exact fun _ h => nomatch h
  | @snoc r s d g h ih =>
    intro x hx
    rcases List.mem_append.mp hx with hx | hx
    · exact ih x hx
    · rw [List.mem_singleton.mp hx]
      have := free_lt h
      omega
theorem Goes.len {c : Cab} {b : St} {r : List Nat} {s : St} (g : Goes c b r s) : s.length = b.length := by
  induction g with
  | nil => rfl
  | snoc g h ih => rw [moved_len, ih]
theorem snoc_cases (r : List Nat) : r = [] ∨ ∃ p d, r = p ++ [d] := by
  rcases List.eq_nil_or_concat r with h | ⟨p, d, h⟩
  · exact .inl h
  · exact .inr ⟨p, d, by rw [h, List.concat_eq_append]⟩
theorem code_pos (r : List Nat) : ∀ k, r.length = k → 8 ^ k ≤ code r
  | 0, h => by rw [List.eq_nil_of_length_eq_zero h]; decide
  | k + 1, h => by
    rcases snoc_cases r with e | ⟨p, d, e⟩
    · subst e; simp at h
    · subst e
      rw [List.length_append, List.length_singleton] at h
      have := code_pos p k (by omega)
      rw [code_snoc, Nat.pow_succ]
      omega
theorem code_hi (r : List Nat) : ∀ k, r.length = k → (∀ d ∈ r, d < 8) → code r + 1 ≤ 2 * 8 ^ k
  | 0, h, _ => by rw [List.eq_nil_of_length_eq_zero h]; decide
  | k + 1, h, hd => by
    rcases snoc_cases r with e | ⟨p, d, e⟩
    · subst e; simp at h
    · subst e
      rw [List.length_append, List.length_singleton] at h
      have := code_hi p k (by omega) fun x hx => hd x (List.mem_append_left _ hx)
      have h8 := hd d (List.mem_append_right _ List.mem_cons_self)
      rw [code_snoc, Nat.pow_succ]
      omega
theorem code_lt {a b : List Nat} (ha : ∀ d ∈ a, d < 8) (h : a.length < b.length) : code a < code b := by
  have h1 := code_hi a _ rfl ha
  have h2 := code_pos b _ rfl
  have h3 : 8 ^ (a.length + 1) ≤ 8 ^ b.length := Nat.pow_le_pow_right (by decide) h
  rw [Nat.pow_succ] at h3
  have : 0 < 8 ^ a.length := Nat.pow_pos (by decide)
  omega
theorem code_inj : ∀ (k : Nat) {a b : List Nat}, a.length = k → (∀ d ∈ a, d < 8) → (∀ d ∈ b, d < 8) → code a = code b → a = b
  | 0, a, b, h, ha, hb, e => by
    have ea := List.eq_nil_of_length_eq_zero h
    subst ea
    rcases snoc_cases b with z | ⟨p, d, z⟩
    · exact z.symm
    · subst z
      have := code_lt (a := []) (b := p ++ [d]) (fun _ h => nomatch h) (by simp)
      omega
  | k + 1, a, b, h, ha, hb, e => by
    rcases snoc_cases a with z | ⟨p, d, z⟩
    · subst z; simp at h
    · subst z
      rcases snoc_cases b with z | ⟨p', d', z⟩
      · subst z
        have := code_lt (a := []) (b := p ++ [d]) (fun _ h => nomatch h) (by simp)
        omega
      · subst z
        rw [code_snoc, code_snoc] at e
        have h1 := ha d (List.mem_append_right _ List.mem_cons_self)
        have h2 := hb d' (List.mem_append_right _ List.mem_cons_self)
        rw [List.length_append, List.length_singleton] at h
        have := code_inj k (a := p) (b := p') (by omega) (fun x hx => ha x (List.mem_append_left _ hx)) (fun x hx => hb x (List.mem_append_left _ hx)) (by omega)
        subst this
        have : d = d' := by omega
        subst this
        rfl
abbrev Asc (f : Fnd) : Prop := f.Pairwise fun a b => code a.2 < code b.2
theorem fold_s {c : Cab} {b h : St} {rh : List Nat} (h7 : c.n ≤ 7) : ∀ (l : List Nat) {f : Fnd} {q : List St} {u : Nat}, BOk c.n f q → (∀ d ∈ l, d ∈ freeOf c h) → l.Pairwise (· < ·) → (∀ d ∈ l, u ≤ code rh * 8 + d) → (∀ p ∈ f, code p.2 < u) → u ≤ code rh * 8 + 8 → Asc f → (∀ p ∈ f, Goes c b p.2 p.1) → (h, rh) ∈ f →
    ∃ new : Fnd, (l.foldl (exp1 h) (f, q)).1 = f ++ new ∧ (l.foldl (exp1 h) (f, q)).2 = q ++ keysF new ∧ Asc (f ++ new) ∧ (∀ p ∈ f ++ new, Goes c b p.2 p.1) ∧ (∀ p ∈ f ++ new, code p.2 < code rh * 8 + 8) ∧ ∀ d ∈ l, ∃ e, (moved h d, e) ∈ f ++ new ∧ code e ≤ code rh * 8 + d
  | [], f, q, u, B, _, _, _, hu, h8, ha, hg, _ => ⟨[], by simp, by simp [keysF], by simpa using ha, by simpa using hg, fun p hp => by have := hu p (by simpa using hp); omega, fun d hd => nomatch hd⟩
  | d :: l, f, q, u, B, hl, hp, hb, hu, h8, ha, hg, hh => by
    have hd := hl d List.mem_cons_self
    have hd7 := free_lt hd
    obtain ⟨p1, p2⟩ := List.pairwise_cons.mp hp
    have hbd := hb d List.mem_cons_self
    have hk : h ∈ keysF f := List.mem_map.mpr ⟨_, hh, rfl⟩
    rw [List.foldl_cons]
    cases hx : hasF f (moved h d) with
    | true =>
      rw [show exp1 h (f, q) d = (f, q) from if_pos hx]
      obtain ⟨new, e1, e2, e3, e4, e5, e6⟩ := fold_s h7 l B (fun x hx => hl x (List.mem_cons_of_mem _ hx)) p2 (fun x hx => hb x (List.mem_cons_of_mem _ hx)) hu h8 ha hg hh
      refine ⟨new, e1, e2, e3, e4, e5, fun x hx' => ?_⟩
      rcases List.mem_cons.mp hx' with z | z
      · subst z
        have hm := rowF_mem (of_decide_eq_true hx)
        exact ⟨_, List.mem_append_left _ hm, by have := hu _ hm; simp only at this; omega⟩
      · exact e6 x z
    | false =>
      have er : rowF f h = rh := rowF_eq B hh
      have e0 : exp1 h (f, q) d = (f ++ [(moved h d, rh ++ [d])], q ++ [moved h d]) := by rw [← er]; exact if_neg (by rw [hx]; simp)
      have B2 := (exp1_ok B hk hd7).1
      rw [e0] at B2 ⊢
      have cs := code_snoc rh d
      obtain ⟨new, e1, e2, e3, e4, e5, e6⟩ := fold_s h7 l (u := code rh * 8 + d + 1) B2 (fun x hx => hl x (List.mem_cons_of_mem _ hx)) p2 (fun x hx => by have := p1 x hx; omega)
        (fun p hp => by
          rcases List.mem_append.mp hp with z | z
          · have := hu p z; omega
          · rw [List.mem_singleton.mp z]; show code (rh ++ [d]) < _; omega) (by omega)
        (List.pairwise_append.mpr ⟨ha, List.pairwise_singleton _ _, fun a hA x hX => by rw [List.mem_singleton.mp hX]; show _ < code (rh ++ [d]); have := hu a hA; omega⟩)
        (fun p hp => by
          rcases List.mem_append.mp hp with z | z
          · exact hg p z
          · rw [List.mem_singleton.mp z]; exact (hg _ hh).snoc hd) (List.mem_append_left _ hh)
      rw [List.append_assoc] at e1 e3 e4 e5 e6
      refine ⟨(moved h d, rh ++ [d]) :: new, e1, ?_, e3, e4, e5, fun x hx' => ?_⟩
      · rw [e2, List.append_assoc]; rfl
      · rcases List.mem_cons.mp hx' with z | z
        · subst z
          exact ⟨rh ++ [x], List.mem_append_right _ List.mem_cons_self, by omega⟩
        · exact e6 x z
structure SInv (c : Cab) (b : St) (pre : List St) (f : Fnd) (q : List St) : Prop where
  keys : keysF f = pre ++ q
  ok : BOk c.n f q
  go : ∀ p ∈ f, Goes c b p.2 p.1
  asc : Asc f
  bnd : ∀ h t, q = h :: t → ∀ p ∈ f, code p.2 < code (rowF f h) * 8
  clo : ∀ s ∈ pre, ∀ d ∈ freeOf c s, ∃ e, (moved s d, e) ∈ f ∧ code e ≤ code (rowF f s) * 8 + d
theorem free_asc (c : Cab) (s : St) : (freeOf c s).Pairwise (· < ·) := List.Pairwise.filter _ List.pairwise_lt_range
theorem run_s {c : Cab} {b : St} (h7 : c.n ≤ 7) {k : Nat} {f : Fnd} {q : List St} {r : Fnd} (R : Run c k f q r) : ∀ pre, SInv c b pre f q → ∃ pre', SInv c b pre' r [] := by
  induction R with
  | nil => exact fun pre h => ⟨pre, h⟩
  | @cons k f h q r t ih =>
    intro pre S
    have B := S.ok
    have hk := B.inq h List.mem_cons_self
    have hm := rowF_mem hk
    have hb := S.bnd h q rfl
    have b1 := (expand_ok B.tail hk).1
    obtain ⟨new, e1, e2, e3, e4, e5, e6⟩ := fold_s (b := b) h7 (freeOf c h) (u := code (rowF f h) * 8) B.tail (fun d hd => hd) (free_asc c h) (fun d _ => by omega) hb (by omega) S.asc S.go hm
    have e1' : (expand c f q h).1 = f ++ new := e1
    have e2' : (expand c f q h).2 = q ++ keysF new := e2
    have key : ∀ s r, (s, r) ∈ f → rowF (f ++ new) s = r := fun s r hs => rowF_eq (p := (s, r)) (e1' ▸ b1) (List.mem_append_left _ hs)
    refine ih (pre ++ [h]) ⟨?_, b1, ?_, ?_, ?_, ?_⟩
    · rw [e1', e2', keysF_app, S.keys]; simp
    · rw [e1']; exact e4
    · rw [e1']; exact e3
    · intro h' t' hq p hp
      rw [e1'] at hp ⊢
      rw [e2'] at hq
      have h5 := e5 p hp
      -- the next one stands behind h
      have hh' : ∃ r', (h', r') ∈ f ++ new ∧ code (rowF f h) < code r' := by
        have hks : keysF (f ++ new) = (pre ++ [h]) ++ (h' :: t') := by rw [keysF_app, S.keys, ← hq]; simp
        have hs : ∃ f1 f2, f ++ new = f1 ++ f2 ∧ keysF f1 = pre ++ [h] ∧ keysF f2 = h' :: t' := by
          obtain ⟨f1, f2, z1, z2, z3⟩ := List.map_eq_append_iff.mp hks
          exact ⟨f1, f2, z1, z2, z3⟩
        obtain ⟨f1, f2, z1, z2, z3⟩ := hs
        cases f2 with
        | nil => cases z3
        | cons x f2 =>
          have zx : x.1 = h' := (List.cons.inj z3).1
          have hin : ∃ y ∈ f1, y.1 = h := by
            have : h ∈ keysF f1 := by rw [z2]; exact List.mem_append_right _ List.mem_cons_self
            obtain ⟨y, hy, e⟩ := List.mem_map.mp this
            exact ⟨y, hy, e⟩
          obtain ⟨y, hy, ey⟩ := hin
          have ha := e3
          rw [z1] at ha
          have hlt := (List.pairwise_append.mp ha).2.2 y hy x List.mem_cons_self
          refine ⟨x.2, by rw [z1, ← zx]; exact List.mem_append_right _ List.mem_cons_self, ?_⟩
          have ey2 : rowF (f ++ new) y.1 = y.2 := rowF_eq (e1' ▸ b1) (by rw [z1]; exact List.mem_append_left _ hy)
          rw [ey, key h _ hm] at ey2
          rw [ey2]
          exact hlt
      obtain ⟨r', hr', hlt⟩ := hh'
      rw [show rowF (f ++ new) h' = r' from rowF_eq (p := (h', r')) (e1' ▸ b1) hr']
      omega
    · intro s hs d hd
      rw [e1']
      rcases List.mem_append.mp hs with hs | hs
      · obtain ⟨e, he, hle⟩ := S.clo s hs d hd
        have hsk : s ∈ keysF f := by rw [S.keys]; exact List.mem_append_left _ hs
        rw [key s _ (rowF_mem hsk)]
        exact ⟨e, List.mem_append_left _ he, hle⟩
      · rw [List.mem_singleton.mp hs] at hd ⊢
        rw [key h _ hm]
        exact e6 d hd
/-- breadth first: the rows go, and none is less -/
theorem bfs_least {c : Cab} {b : St} (h7 : c.n ≤ 7) (hb : b.length = c.n) : (∀ p ∈ bfs c b, Goes c b p.2 p.1) ∧ ∀ r s, Goes c b r s → ∃ e, (s, e) ∈ bfs c b ∧ code e ≤ code r := by
  obtain ⟨R, B⟩ := bfs_ok hb
  have S0 : SInv c b [] [(b, [])] [b] := ⟨rfl, init_ok hb, fun p hp => by rw [List.mem_singleton.mp hp]; exact .nil, List.pairwise_singleton _ _, fun h t e p hp => by
    rw [List.mem_singleton.mp hp, ← (List.cons.inj e).1, show rowF [(b, [])] b = [] from rowF_eq (p := (b, [])) (init_ok hb) List.mem_cons_self]
    show code [] < code [] * 8
    decide, fun _ h => nomatch h⟩
  obtain ⟨pre, S⟩ := run_s h7 R [] S0
  refine ⟨S.go, fun r s g => ?_⟩
  have hk : keysF (bfs c b) = pre := by rw [S.keys, List.append_nil]
  induction g with
  | nil => exact ⟨[], bfs_begin hb, Nat.le_refl _⟩
  | @snoc r s d g hd ih =>
    obtain ⟨e, he, hle⟩ := ih
    obtain ⟨e2, he2, hle2⟩ := S.clo s (by rw [← hk]; exact List.mem_map.mpr ⟨_, he, rfl⟩) d hd
    rw [show rowF (bfs c b) s = e from rowF_eq (p := (s, e)) S.ok he] at hle2
    refine ⟨e2, he2, ?_⟩
    rw [code_snoc]
    omega
/-! ### all rows, level by level -/
abbrev Lvl := List (List Nat × St)
def extL (c : Cab) (p : List Nat × St) : Lvl := (freeOf c p.2).map fun d => (p.1 ++ [d], moved p.2 d)
def nextL (c : Cab) (L : Lvl) : Lvl := L.flatMap (extL c)
def addF (f : Fnd) (p : List Nat × St) : Fnd := if hasF f p.2 = true then f else f ++ [(p.2, p.1)]
theorem addF_fold : ∀ (W : Lvl) {f : Fnd} {u : Nat}, W.Pairwise (fun a b => code a.1 < code b.1) → (∀ w ∈ W, u ≤ code w.1) → (∀ p ∈ f, code p.2 < u) → (keysF f).Nodup →
    ∃ new : Fnd, W.foldl addF f = f ++ new ∧ (keysF (f ++ new)).Nodup ∧ (∀ p ∈ new, (p.2, p.1) ∈ W) ∧ ∀ w ∈ W, ∃ e, (w.2, e) ∈ f ++ new ∧ code e ≤ code w.1
  | [], f, u, _, _, _, hn => ⟨[], by simp, by simpa using hn, (fun _ h => nomatch h), (fun _ h => nomatch h)⟩
  | w :: W, f, u, hp, hu, hf, hn => by
    obtain ⟨p1, p2⟩ := List.pairwise_cons.mp hp
    have hw := hu w List.mem_cons_self
    rw [List.foldl_cons]
    cases hx : hasF f w.2 with
    | true =>
      rw [show addF f w = f from if_pos hx]
      obtain ⟨new, e1, e2, e3, e4⟩ := addF_fold W p2 (fun x hx => hu x (List.mem_cons_of_mem _ hx)) hf hn
      refine ⟨new, e1, e2, fun p hp => List.mem_cons_of_mem _ (e3 p hp), fun x hx' => ?_⟩
      rcases List.mem_cons.mp hx' with z | z
      · subst z
        have hm := rowF_mem (of_decide_eq_true hx)
        exact ⟨_, List.mem_append_left _ hm, by have := hf _ hm; simp only at this; omega⟩
      · exact e4 x z
    | false =>
      have e0 : addF f w = f ++ [(w.2, w.1)] := if_neg (by rw [hx]; simp)
      have hnw : w.2 ∉ keysF f := of_decide_eq_false hx
      rw [e0]
      obtain ⟨new, e1, e2, e3, e4⟩ := addF_fold W (f := f ++ [(w.2, w.1)]) (u := code w.1 + 1) p2 (fun x hx => p1 x hx)
        (fun p hp => by
          rcases List.mem_append.mp hp with z | z
          · have := hf p z; omega
          · rw [List.mem_singleton.mp z]; exact Nat.lt_succ_self _)
        (by
          rw [keysF_app, List.nodup_append]
          refine ⟨hn, by simp [keysF], fun a ha b hb => ?_⟩
          have : b = w.2 := by simpa [keysF] using hb
          subst this
          intro z
          subst z
          exact hnw ha)
      rw [List.append_assoc] at e1 e2 e4
      refine ⟨(w.2, w.1) :: new, e1, e2, fun p hp => ?_, fun x hx' => ?_⟩
      · rcases List.mem_cons.mp hp with z | z
        · subst z; exact List.mem_cons_self
        · exact List.mem_cons_of_mem _ (e3 p z)
      · rcases List.mem_cons.mp hx' with z | z
        · subst z; exact ⟨_, List.mem_append_right _ List.mem_cons_self, Nat.le_refl _⟩
        · exact e4 x z
structure LInv (c : Cab) (b : St) (t : Nat) (L : Lvl) (f : Fnd) : Prop where
  lev : ∀ r s, (r, s) ∈ L ↔ Goes c b r s ∧ r.length = t
  asc : L.Pairwise fun a b => code a.1 < code b.1
  fgo : ∀ p ∈ f, Goes c b p.2 p.1 ∧ p.2.length ≤ t
  cov : ∀ r s, Goes c b r s → r.length ≤ t → ∃ e, (s, e) ∈ f ∧ code e ≤ code r
  nd : (keysF f).Nodup
theorem next_asc {c : Cab} (h7 : c.n ≤ 7) : ∀ {L : Lvl}, L.Pairwise (fun a b => code a.1 < code b.1) → (nextL c L).Pairwise fun a b => code a.1 < code b.1
  | [], _ => .nil
  | p :: L, h => by
    obtain ⟨h1, h2⟩ := List.pairwise_cons.mp h
    show (extL c p ++ nextL c L).Pairwise _
    refine List.pairwise_append.mpr ⟨?_, next_asc h7 h2, fun a ha x hx => ?_⟩
    · unfold extL
      rw [List.pairwise_map]
      refine (free_asc c p.2).imp fun {d e} hde => ?_
      show code (p.1 ++ [d]) < code (p.1 ++ [e])
      rw [code_snoc, code_snoc]; omega
    · obtain ⟨d, hd, rfl⟩ := List.mem_map.mp ha
      obtain ⟨y, hy, hx⟩ := List.mem_flatMap.mp hx
      obtain ⟨e, he, rfl⟩ := List.mem_map.mp hx
      show code (p.1 ++ [d]) < code (y.1 ++ [e])
      have := h1 y hy
      have := free_lt hd
      rw [code_snoc, code_snoc]; omega
theorem LInv.next {c : Cab} {b : St} {t : Nat} {L : Lvl} {f : Fnd} (h7 : c.n ≤ 7) (I : LInv c b t L f) : LInv c b (t + 1) (nextL c L) ((nextL c L).foldl addF f) := by
  have lev : ∀ r s, (r, s) ∈ nextL c L ↔ Goes c b r s ∧ r.length = t + 1 := fun r s => by
    constructor
    · intro h
      obtain ⟨y, hy, hx⟩ := List.mem_flatMap.mp h
      obtain ⟨d, hd, e⟩ := List.mem_map.mp hx
      obtain ⟨g, hl⟩ := (I.lev y.1 y.2).mp hy
      rw [Prod.mk.injEq] at e
      rw [← e.1, ← e.2]
      exact ⟨g.snoc hd, by rw [List.length_append, List.length_singleton, hl]⟩
    · rintro ⟨g, hl⟩
      cases g with
      | nil => simp at hl
      | @snoc r s d g hd =>
        rw [List.length_append, List.length_singleton] at hl
        exact List.mem_flatMap.mpr ⟨(r, s), (I.lev r s).mpr ⟨g, by omega⟩, List.mem_map.mpr ⟨d, hd, rfl⟩⟩
  have asc := next_asc h7 I.asc
  obtain ⟨new, e1, e2, e3, e4⟩ := addF_fold (nextL c L) (f := f) (u := 8 ^ (t + 1)) asc (fun w hw => code_pos _ _ ((lev w.1 w.2).mp hw).2) (fun p hp => by
    obtain ⟨g, hl⟩ := I.fgo p hp
    have h1 := code_hi p.2 _ rfl (g.small h7)
    have h3 : 8 ^ (p.2.length + 1) ≤ 8 ^ (t + 1) := Nat.pow_le_pow_right (by decide) (by omega)
    have : 8 ^ (p.2.length + 1) = 8 ^ p.2.length * 8 := Nat.pow_succ ..
    have : 0 < 8 ^ p.2.length := Nat.pow_pos (by decide)
    omega) I.nd
  rw [e1]
  refine ⟨lev, asc, fun p hp => ?_, fun r s g hl => ?_, e2⟩
  · rcases List.mem_append.mp hp with z | z
    · obtain ⟨g, hl⟩ := I.fgo p z; exact ⟨g, by omega⟩
    · obtain ⟨g, hl⟩ := (lev _ _).mp (e3 p z); exact ⟨g, by omega⟩
  · by_cases h : r.length ≤ t
    · obtain ⟨e, he, hle⟩ := I.cov r s g h
      exact ⟨e, List.mem_append_left _ he, hle⟩
    · exact e4 (r, s) ((lev r s).mpr ⟨g, by omega⟩)
theorem LInv.start (c : Cab) (b : St) : LInv c b 0 [([], b)] [(b, [])] :=
  ⟨fun r s => ⟨fun h => by cases List.mem_singleton.mp h; exact ⟨.nil, rfl⟩, fun ⟨g, hl⟩ => by
      cases g with
      | nil => exact List.mem_cons_self
      | snoc g hd => simp at hl⟩,
    List.pairwise_singleton _ _, fun p hp => by rw [List.mem_singleton.mp hp]; exact ⟨.nil, Nat.le_refl _⟩, fun r s g hl => by
      cases g with
      | nil => exact ⟨[], List.mem_cons_self, Nat.le_refl _⟩
      | snoc g hd => simp at hl, by simp [keysF]⟩
theorem in_keys {f : Fnd} {s : St} {e : List Nat} (h : (s, e) ∈ f) : s ∈ keysF f := List.mem_map.mpr ⟨_, h, rfl⟩
/-- what was found level by level is what is found breadth first -/
theorem LInv.same {c : Cab} {b : St} {t : Nat} {L : Lvl} {f : Fnd} (h7 : c.n ≤ 7) (hb : b.length = c.n) (I : LInv c b t L f) {s : St} (hs : s ∈ keysF f) : s ∈ keysF (bfs c b) ∧ rowF (bfs c b) s = rowF f s := by
  obtain ⟨l1, l2⟩ := bfs_least h7 hb
  have hm := rowF_mem hs
  obtain ⟨g, hl⟩ := I.fgo _ hm
  obtain ⟨e, he, hle⟩ := l2 _ _ g
  have ge := l1 _ he
  have hel : e.length ≤ t := by
    rcases Nat.lt_or_ge t e.length with h | h
    · have h1 : code (rowF f s) < code e := code_lt (b := e) (g.small h7) (Nat.lt_of_le_of_lt hl h)
      have h2 : code e ≤ code (rowF f s) := hle
      omega
    · exact h
  obtain ⟨e2, he2, hle2⟩ := I.cov e s ge hel
  have hu : ∀ {f : Fnd} (_ : (keysF f).Nodup) {a b : List Nat}, (s, a) ∈ f → (s, b) ∈ f → a = b := by
    intro f hn a b ha hb
    induction f with
    | nil => cases ha
    | cons p f ih =>
      have hn' : p.1 ∉ keysF f ∧ (keysF f).Nodup := List.nodup_cons.mp hn
      rcases List.mem_cons.mp ha with ha | ha <;> rcases List.mem_cons.mp hb with hb | hb
      · rw [← ha] at hb; exact ((Prod.mk.inj hb).2).symm
      · exact absurd (in_keys hb) (by rw [← ha] at hn'; exact hn'.1)
      · exact absurd (in_keys ha) (by rw [← hb] at hn'; exact hn'.1)
      · exact ih hn'.2 ha hb
  have e3 := hu I.nd he2 hm
  subst e3
  have : e = rowF f s := code_inj _ rfl (ge.small h7) (g.small h7) (Nat.le_antisymm hle hle2)
  subst this
  exact ⟨in_keys he, rowF_eq (p := (s, _)) (bfs_ok hb).2 he⟩
theorem LInv.none {c : Cab} {b : St} {t : Nat} {L : Lvl} {f : Fnd} (h7 : c.n ≤ 7) (hb : b.length = c.n) (I : LInv c b t L f) {s : St} (hs : s ∉ keysF f) (hk : s ∈ keysF (bfs c b)) : t < (rowF (bfs c b) s).length := by
  have g := (bfs_least h7 hb).1 _ (rowF_mem hk)
  rcases Nat.lt_or_ge t (rowF (bfs c b) s).length with h | h
  · exact h
  · obtain ⟨e, he, _⟩ := I.cov _ _ g h
    exact absurd (in_keys he) hs
/-! ### the pattern that is a standing -/
theorem fits_self {s t : St} (h : t.length = s.length) : fitsB (s.map sgC) t = decide (t = s) := by
  rw [Bool.eq_iff_iff, decide_eq_true_iff]
  unfold fitsB
  rw [List.all_eq_true, List.length_map]
  have at' : ∀ i, i < s.length → (fitAt (s.map sgC) t i = true ↔ t.getD i false = s.getD i false) := fun i hi => by
    unfold fitAt
    have e : (s.map sgC).getD i 0 = sgC (s.getD i false) := by simp [List.getD_eq_getElem?_getD, hi]
    rw [e, Bool.or_eq_true, decide_eq_true_iff, decide_eq_true_iff]
    constructor
    · rintro (z | z)
      · exact absurd z (by cases s.getD i false <;> decide)
      · exact (sgC_inj z).symm
    · intro z; exact .inr (by rw [z])
  constructor
  · intro z
    refine List.ext_getElem h fun i h1 h2 => ?_
    have := (at' i h2).mp (z i (List.mem_range.mpr h2))
    simpa [List.getD_eq_getElem?_getD, h1, h2] using this
  · intro z i hi
    subst z
    exact (at' i (List.mem_range.mp hi)).mpr rfl
theorem best_self {n : Nat} {f : Fnd} {s : St} (B : BOk n f []) (hs : s.length = n) : bestFit f (s.map sgC) = if s ∈ keysF f then some (rowF f s) else none := by
  unfold bestFit
  have hflt : (f.filter fun p => fitsB (s.map sgC) p.1) = f.filter fun p => decide (p.1 = s) := List.filter_congr fun p hp => fits_self (by rw [B.len p hp, hs])
  rw [hflt]
  have gen : ∀ {f : Fnd}, (keysF f).Nodup → ((f.filter fun p => decide (p.1 = s)).map (·.2)) = if s ∈ keysF f then [rowF f s] else [] := by
    intro f
    induction f with
    | nil => intro _; simp [keysF]
    | cons p f ih =>
      intro hn
      obtain ⟨n1, n2⟩ := (show p.1 ∉ keysF f ∧ (keysF f).Nodup from List.nodup_cons.mp hn)
      by_cases e : p.1 = s
      · rw [List.filter_cons_of_pos (by simpa using e), List.map_cons, ih n2, if_neg (by rw [← e]; exact n1), if_pos (show s ∈ keysF (p :: f) from by show s ∈ p.1 :: keysF f; rw [e]; exact List.mem_cons_self)]
        unfold rowF
        rw [List.find?_cons_of_pos (by simpa using e)]
        rfl
      · rw [List.filter_cons_of_neg (by simpa using e), ih n2]
        have er : rowF (p :: f) s = rowF f s := by unfold rowF; rw [List.find?_cons_of_neg (by simpa using e)]
        rw [er]
        have : (s ∈ keysF (p :: f)) = (s ∈ keysF f) := propext ⟨fun h => by
          rcases List.mem_cons.mp (show s ∈ p.1 :: keysF f from h) with z | z
          · exact absurd z.symm e
          · exact z, fun h => List.mem_cons_of_mem _ h⟩
        simp only [this]
  rw [gen B.nd]
  split <;> rfl
end DL

namespace DL
open PySem PySem.Spec PyProof.Rows L2 G
def t_need_order (A : Ad) : MS := (seq (if_ (tor (tnot (tst (o1 (fIs "tuple") (v_ 1)))) (tst (o2 oNe (o1 fLen (v_ 1)) (o1 (fFld A.Cabinet ["many", "locks"] 0) (v_ 0))))) (seq (raise0 A.BadOrder)
  nil_s) nil_s)
  (seq (if_ (tor (tnot (tst (o1 fAll (lc_ (it_q (v_ 1)) (fun d ds => some ((wipeD ds [2]).set 2 (some d))) none (call_ 3 (c_is_from A) (cons_ (v_ 2) (cons_ (k_ (.int 0)) (cons_ (o2 oSub (o1 (fFld A.Cabinet ["many", "locks"] 0) (v_ 0)) (k_ (.int 1))) nil_)))))))) (tst (o2 oNe (o1 fLenSetN (v_ 1)) (o1 fLen (v_ 1))))) (seq (raise0 A.BadOrder)
  nil_s) nil_s)
  nil_s))
def c_need_order (A : Ad) : SpD := cF (t_need_order A) 1
def t_bars_by (A : Ad) : MS := (seq (set_ 2 (lc_ (it_q (o1 (fFld A.Cabinet ["many", "locks"] 1) (v_ 0))) (setTup [3, 4, 5, 6] [3, 4, 5, 6]) none (tup_ (cons_ (nix_ (v_ 1) (cons_ (v_ 3) nil_)) (cons_ (v_ 4) (cons_ (nix_ (v_ 1) (cons_ (v_ 5) nil_)) (cons_ (v_ 6) nil_)))))))
  (seq (ret_ (o1 fTup (o1 fSorted (v_ 2))))
  nil_s))
def c_bars_by (A : Ad) : SpD := cF (t_bars_by A) 5
def t_renamed (A : Ad) : MS := (seq (ex_ (call_ 1 (c_need_cabinet A) (cons_ (v_ 0) nil_)))
  (seq (ex_ (call_ 2 (c_need_order A) (cons_ (v_ 0) (cons_ (v_ 1) nil_))))
  (seq (ret_ (make_ A.Cabinet 2 (c_Cabinet_init A) (cons_ (o1 (fFld A.Cabinet ["many", "locks"] 0) (v_ 0)) (cons_ (call_ 2 (c_bars_by A) (cons_ (v_ 0) (cons_ (v_ 1) nil_))) nil_))))
  nil_s)))
def c_renamed (A : Ad) : SpD := cF (t_renamed A) 0
def t_orders_of (A : Ad) : MS := (seq (set_ 1 (lst_ (cons_ (tupN_ nil_) nil_)))
  (seq (for_ (it_r (v_ 0)) (g_ 2) (seq (set_ 1 (lc2_ (it_q (v_ 1)) (fun d ds => some ((wipeD ds [3, 4]).set 3 (some d))) none (it_r (v_ 0)) (fun d ds => some ((wipeD ds [4]).set 4 (some d))) (some (tst (o2 (oIn true) (v_ 4) (v_ 3)))) (o2 oAddN (v_ 3) (tupN_ (cons_ (v_ 4) nil_)))))
  nil_s))
  (seq (ret_ (v_ 1))
  nil_s)))
def c_orders_of (A : Ad) : SpD := cF (t_orders_of A) 4
def t_keeping (A : Ad) : MS := (seq (ex_ (call_ 1 (c_need_cabinet A) (cons_ (v_ 0) nil_)))
  (seq (ret_ (lc_ (it_q (call_ 1 (c_orders_of A) (cons_ (o1 (fFld A.Cabinet ["many", "locks"] 0) (v_ 0)) nil_))) (fun d ds => some ((wipeD ds [1]).set 1 (some d))) (some (tst (o2 oEq (call_ 2 (c_bars_by A) (cons_ (v_ 0) (cons_ (v_ 1) nil_))) (o1 (fFld A.Cabinet ["many", "locks"] 1) (v_ 0))))) (v_ 1)))
  nil_s))
def c_keeping (A : Ad) : SpD := cF (t_keeping A) 1
def t_law_order (A : Ad) : MS := (seq (par_ 2 3 (rgE1 (v_ 1) newL) (lstM_ nil_))
  (seq (for_ (it_r (v_ 1)) (g_ 4) (seq (ex_ (mth_ .list gApp (v_ 3) (cons_ (mth_ .list gPop (v_ 2) (cons_ (call_ 2 (c_law_taken A) (cons_ (v_ 0) (cons_ (o1 fLenV (v_ 2)) nil_))) nil_)) nil_)))
  nil_s))
  (seq (ret_ (dre_ (o1 fTupN (fz_ (v_ 3)))))
  nil_s)))
def c_law_order (A : Ad) : SpD := cF (t_law_order A) 3
def t_law_renamed (A : Ad) : MS := (seq (set_ 2 (lc_ (it_q (o2 oIx (v_ 0) (k_ (.int 1)))) (setTup [3, 4, 5, 6] [3, 4, 5, 6]) none (tup_ (cons_ (nix_ (v_ 1) (cons_ (v_ 3) nil_)) (cons_ (v_ 4) (cons_ (nix_ (v_ 1) (cons_ (v_ 5) nil_)) (cons_ (v_ 6) nil_)))))))
  (seq (ret_ (lst_ (cons_ (o2 oIx (v_ 0) (k_ (.int 0))) (cons_ (o1 fTup (o1 fSorted (v_ 2))) nil_))))
  nil_s))
def c_law_renamed (A : Ad) : SpD := cF (t_law_renamed A) 5
def t_law_orders (A : Ad) : MS := (seq (set_ 1 (lst_ (cons_ (tupN_ nil_) nil_)))
  (seq (for_ (it_r (v_ 0)) (g_ 2) (seq (set_ 3 (lstM_ nil_))
  (seq (for_ (it_q (v_ 1)) (g_ 4) (seq (ex_ (mth_ .list gExt (v_ 3) (cons_ (lc_ (it_r (v_ 0)) (fun d ds => some ((wipeD ds [5]).set 5 (some d))) (some (tst (o2 (oIn true) (v_ 5) (v_ 4)))) (o2 oAddN (v_ 4) (tupN_ (cons_ (v_ 5) nil_)))) nil_)))
  nil_s))
  (seq (set_ 1 (fz_ (v_ 3)))
  nil_s))))
  (seq (ret_ (v_ 1))
  nil_s)))
def c_law_orders (A : Ad) : SpD := cF (t_law_orders A) 5
def t_law (A : Ad) : MS := (seq (set_ 1 (lstM_ (cons_ (v_ 0) (cons_ (k_ (.int 0)) (cons_ (k_ (.int 937)) (cons_ (k_ (.int 0)) nil_))))))
  (seq (set_ 2 (call_ 2 (c_law_parts A) (cons_ (v_ 1) (cons_ (o2 oIx (lst_ (cons_ (k_ (.int 3)) (cons_ (k_ (.int 5)) (cons_ (k_ (.int 6)) nil_)))) (call_ 2 (c_law_taken A) (cons_ (v_ 1) (cons_ (k_ (.int 3)) nil_)))) nil_))))
  (seq (if_ (tand (tst (o2 oEq (call_ 2 (c_law_taken A) (cons_ (v_ 1) (cons_ (k_ (.int 2)) nil_))) (k_ (.int 0)))) (tst (o2 oGt (o2 oIx (v_ 2) (k_ (.int 0))) (k_ (.int 1))))) (seq (asg_ (gT 3 (gsC (g_ 3) (gsC (g_ 4) (gsC (g_ 5) gsN)))) (tup_ (cons_ (o2 oAdd (k_ (.int 1)) (call_ 2 (c_law_taken A) (cons_ (v_ 1) (cons_ (o2 oSub (o2 oIx (v_ 2) (k_ (.int 0))) (k_ (.int 1))) nil_)))) (cons_ (o2 oIx (lst_ (cons_ (k_ (.str "open")) (cons_ (k_ (.str "shut")) nil_))) (call_ 2 (c_law_taken A) (cons_ (v_ 1) (cons_ (k_ (.int 2)) nil_)))) (cons_ (k_ (.str "open")) nil_)))))
  (seq (set_ 6 (lc_ (it_r (o2 oIx (v_ 2) (k_ (.int 0)))) (fun d ds => some ((wipeD ds [7]).set 7 (some d))) (some (tst (o2 oGt (call_ 2 (c_law_taken A) (cons_ (v_ 1) (cons_ (k_ (.int 9)) nil_))) (k_ (.int 0))))) (tup_ (cons_ (v_ 7) (cons_ (v_ 4) (cons_ (o2 oMod (o2 oAdd (v_ 7) (v_ 3)) (o2 oIx (v_ 2) (k_ (.int 0)))) (cons_ (v_ 5) nil_)))))))
  (seq (set_ 2 (lst_ (cons_ (o2 oIx (v_ 2) (k_ (.int 0))) (cons_ (o1 fTup (o1 fSorted (v_ 6))) nil_))))
  nil_s))) nil_s)
  (seq (par_ 8 9 (call_ 1 (c_law_made A) (cons_ (v_ 2) nil_)) (call_ 2 (c_law_order A) (cons_ (v_ 1) (cons_ (o2 oIx (v_ 2) (k_ (.int 0))) nil_))))
  (seq (if_ (tnot (tst (eqO_ A.Cabinet (c_Cabinet_eq A) (call_ 2 (c_renamed A) (cons_ (v_ 8) (cons_ (v_ 9) nil_))) (call_ 1 (c_law_made A) (cons_ (call_ 2 (c_law_renamed A) (cons_ (v_ 2) (cons_ (v_ 9) nil_))) nil_))))) (seq (ret_ (k_ (.bl false)))
  nil_s) nil_s)
  (seq (ret_ (o2 oEq (call_ 1 (c_keeping A) (cons_ (v_ 8) nil_)) (lc_ (it_q (call_ 1 (c_law_orders A) (cons_ (o2 oIx (v_ 2) (k_ (.int 0))) nil_))) (fun d ds => some ((wipeD ds [10]).set 10 (some d))) (some (tst (o2 oEq (o2 oIx (call_ 2 (c_law_renamed A) (cons_ (v_ 2) (cons_ (v_ 10) nil_))) (k_ (.int 1))) (o2 oIx (v_ 2) (k_ (.int 1)))))) (v_ 10))))
  nil_s))))))
def c_law (A : Ad) : SpD := cF (t_law A) 10
structure Mt_k37 (A : Ad) : Prop where
  tr : True
end DL
set_option pp.maxSteps 300
local macro_rules | `(tactic| walk_at "w") => `(tactic| conv => whnf)
namespace DL
open PySem PySem.Spec PyProof.Rows L2 G
theorem flat_len2 {α β : Type} {k : Nat} {F : α → List β} (h : ∀ x, (F x).length ≤ k) : ∀ l : List α, (l.flatMap F).length ≤ k * l.length
  | [] => Nat.zero_le _
  | x :: l => by rw [List.flatMap_cons, List.length_append, List.length_cons, Nat.mul_succ]; have := flat_len2 h l; have := h x; omega
theorem lc2_filter {α β : Type} {asg asg1 : D → DS → Option DS} {it1 : MA} {t1 : MT} {ta : ME} {ds : DS} {m : Mem} {Φ : D → Mem → Prop} {enc : α → D} {enc1 : β → D} {xs : List α} {ys : List β} {f : α → β → Bool} {g : α → β → D} (hn : xs.length ≤ 10000) (hn1 : ys.length ≤ 1000)
    (h : ∀ x ∈ xs, ∃ ds3, asg (enc x) ds = some ds3 ∧ (∀ Ψ : List D → Mem → Prop, Ψ (ys.map enc1) m → it1 ds3 m Ψ X0) ∧ ∀ y ∈ ys, ∃ ds4, asg1 (enc1 y) ds3 = some ds4 ∧ (∀ Ψ : Bool → Mem → Prop, Ψ (f x y) m → t1 ds4 m Ψ X0) ∧ (f x y = true → ∀ Ψ : D → Mem → Prop, Ψ (g x y) m → ta ds4 m Ψ X0))
    (q : Φ (.lst (xs.flatMap fun x => (ys.filter (f x)).map (g x))) m) : Lc2W asg none it1 asg1 (some t1) ta (xs.map enc) ds m Φ := by
  have hF : ∀ x, ((fun x => (ys.filter (f x)).map (g x)) x).length ≤ 1000 := fun x => by
    show ((ys.filter (f x)).map (g x)).length ≤ 1000
    rw [List.length_map]
    exact Nat.le_trans (List.length_filter_le _ _) hn1
  refine ⟨fun i acc m2 => acc = (xs.take i).flatMap (fun x => (ys.filter (f x)).map (g x)) ∧ m2 = m, ⟨by simp, rfl⟩, fun i d acc m2 hd hi => ?_, fun acc m2 hi => ?_⟩
  · obtain ⟨rfl, rfl⟩ := hi
    rw [List.getElem?_map] at hd
    cases e : xs[i]? with
    | none => rw [e] at hd; cases hd
    | some x =>
      rw [e] at hd
      cases hd
      obtain ⟨ds3, e3, h1, h2⟩ := h x (List.mem_of_getElem? e)
      refine om_of e3 (h1 _ ?_)
      refine ⟨fun j acc1 m5 => acc1 = (xs.take i).flatMap (fun x => (ys.filter (f x)).map (g x)) ++ ((ys.take j).filter (f x)).map (g x) ∧ m5 = m2, ⟨by simp, rfl⟩, fun j d1 acc1 m5 hd1 hj => ?_, fun acc1 m5 hj => ?_⟩
      · obtain ⟨rfl, rfl⟩ := hj
        rw [List.getElem?_map] at hd1
        cases e1 : ys[j]? with
        | none => rw [e1] at hd1; cases hd1
        | some y =>
          rw [e1] at hd1
          cases hd1
          obtain ⟨ds4, e4, h3, h4⟩ := h2 y (List.mem_of_getElem? e1)
          have tk : ys.take (j + 1) = ys.take j ++ [y] := by rw [List.take_succ, e1]; rfl
          refine om_of e4 (h3 _ (br_b (fun hq => h4 hq _ ⟨?_, ?_, rfl⟩) fun hq => ⟨?_, rfl⟩))
          · have l1 := flat_len2 hF (xs.take i)
            rw [List.length_take] at l1
            have l2 : ((ys.take j).filter (f x)).length ≤ (ys.take j).length := List.length_filter_le _ _
            rw [List.length_take] at l2
            rw [List.length_append, List.length_map]
            show _ < 16777216
            omega
          · rw [tk, List.filter_append, List.map_append, List.append_assoc]; simp [hq]
          · rw [tk, List.filter_append, List.map_append]; simp [hq]
      · obtain ⟨rfl, rfl⟩ := hj
        refine ⟨?_, rfl⟩
        rw [List.length_map, List.take_length, List.take_succ, e, List.flatMap_append]
        simp
  · obtain ⟨rfl, rfl⟩ := hi
    rw [List.length_map, List.take_length]; exact q
theorem perm_map {α β : Type} {f : α → β} : ∀ {h : List β} {l : List α}, h.Perm (l.map f) → ∃ l' : List α, l'.Perm l ∧ h = l'.map f := by
  intro h l p
  generalize e : l.map f = k at p
  induction p generalizing l with
  | nil => exact ⟨[], by cases l with | nil => exact .refl _ | cons _ _ => (simp at e), rfl⟩
  | cons x h ih =>
    cases l with
    | nil => simp at e
    | cons y l =>
      rw [List.map_cons] at e
      obtain ⟨rfl, e2⟩ := List.cons.inj e
      obtain ⟨l', h1, rfl⟩ := ih e2
      exact ⟨y :: l', h1.cons y, rfl⟩
  | swap x y t =>
    match l, e with
    | a :: b :: l, e =>
      rw [List.map_cons, List.map_cons] at e
      obtain ⟨rfl, e2⟩ := List.cons.inj e
      obtain ⟨rfl, rfl⟩ := List.cons.inj e2
      exact ⟨b :: a :: l, .swap _ _ _, rfl⟩
    | [a], e => simp at e
    | [], e => simp at e
  | trans h1 h2 ih1 ih2 =>
    obtain ⟨f2, p2, e2⟩ := ih2 e
    obtain ⟨f1, p1, e1⟩ := ih1 e2.symm
    exact ⟨f1, p1.trans p2, e1⟩
abbrev Str8 (l : List Bar) : Prop := l.Pairwise fun a b => bLt a b = true
open Classical in
noncomputable def srtB (l : List Bar) : List Bar := if h : ∃ lb : List Bar, lb.Perm l ∧ Str8 lb then h.choose else []
theorem srtB_eq {l lb : List Bar} (h1 : lb.Perm l) (h2 : Str8 lb) : srtB l = lb := by
  have ex : ∃ lb : List Bar, lb.Perm l ∧ Str8 lb := ⟨lb, h1, h2⟩
  unfold srtB
  rw [dif_pos ex]
  obtain ⟨g1, g2⟩ := ex.choose_spec
  exact List.Perm.eq_of_pairwise (fun a b _ _ x y => by rw [bLt_asymm x] at y; cases y) g2 h2 (g1.trans h1.symm)
theorem nodup_of {l : List Bar} (h : Str8 l) : l.Nodup := h.imp fun {a b} z e => by subst e; rw [show bLt a a = false from kLt_irrefl _] at z; cases z
theorem sort_s {d : D} {l : List Bar} {m : Mem} {Φ : D → Mem → Prop} (hd : srcD d = some (encBars l)) (hn : l.Nodup) (hl : l.length ≤ 1000) (q : (srtB l).Perm l → Str8 (srtB l) → Φ (.lst (encBars (srtB l))) m) : fSorted d m Φ := by
  refine ⟨encBars l, hd, by show (l.map encBar).length ≤ 16777216; rw [List.length_map]; omega, .inr ⟨l.map barK, [false, true, false, true], by rw [List.map_map]; rfl, by simp, fun k hk => ?_, fun ys h1 h2 => ?_⟩⟩
  · obtain ⟨b, _, rfl⟩ := List.mem_map.mp hk
    exact shp_bar b
  · obtain ⟨lb, p1, rfl⟩ := perm_map h1
    have hs : Str8 lb := strict (p1.nodup_iff.mpr hn) (List.pairwise_map.mp h2)
    have e := srtB_eq p1 hs
    rw [e] at q
    have q' := q p1 hs
    rw [List.map_map]
    exact q'
theorem ixN_nat {n i : Nat} (h : i < n) : ixN n (i : Int) = some i := by
  unfold ixN
  rw [if_pos (by omega), if_pos (by omega)]; rfl
/-! ### orders -/
def encOr (o : List Nat) : D := .ktp (o.map nD)
structure isOrd (n : Nat) (o : List Nat) : Prop where
  len : o.length = n
  nd : o.Nodup
  lt : ∀ k ∈ o, k < n
theorem nd_len {α : Type} [DecidableEq α] : ∀ {a b : List α}, a.Nodup → (∀ x ∈ a, x ∈ b) → a.length ≤ b.length
  | [], _, _, _ => Nat.zero_le _
  | x :: a, b, hn, hs => by
    have hx := hs x List.mem_cons_self
    obtain ⟨h1, h2⟩ := List.nodup_cons.mp hn
    have h3 := nd_len (b := b.erase x) h2 fun y hy => (List.mem_erase_of_ne (fun e : y = x => h1 (by rw [← e]; exact hy))).mpr (hs y (List.mem_cons_of_mem _ hy))
    rw [List.length_erase_of_mem hx] at h3
    have h4 := List.length_pos_of_mem hx
    rw [List.length_cons]
    omega
theorem isOrd.all {n : Nat} {o : List Nat} (h : isOrd n o) {k : Nat} (hk : k < n) : k ∈ o := by
  by_cases hm : k ∈ o
  · exact hm
  · have := nd_len (a := k :: o) (b := List.range n) (List.nodup_cons.mpr ⟨hm, h.nd⟩) fun x hx => by
      rcases List.mem_cons.mp hx with rfl | hx
      · exact List.mem_range.mpr hk
      · exact List.mem_range.mpr (h.lt x hx)
    rw [List.length_cons, List.length_range, h.len] at this
    omega
theorem idx_ne {α : Type} [BEq α] [LawfulBEq α] {x a : α} (h : x ≠ a) (l : List α) : (x :: l).idxOf a = l.idxOf a + 1 := by rw [List.idxOf_cons, beq_eq_false_iff_ne.mpr h]; rfl
theorem idx_at {k : Nat} : ∀ {o : List Nat}, k ∈ o → o[o.idxOf k]? = some k
  | x :: o, h => by
    by_cases e : x = k
    · subst e; simp
    · rcases List.mem_cons.mp h with z | z
      · exact absurd z.symm e
      · rw [idx_ne e, List.getElem?_cons_succ]; exact idx_at z
theorem idx_lt {k : Nat} {o : List Nat} (h : k ∈ o) : o.idxOf k < o.length := (List.getElem?_eq_some_iff.mp (idx_at h)).1
theorem idx_inj {a b : Nat} {o : List Nat} (ha : a ∈ o) (hb : b ∈ o) (e : o.idxOf a = o.idxOf b) : a = b := by
  have h1 := idx_at ha
  rw [e, idx_at hb] at h1
  exact (Option.some.inj h1).symm
theorem idx_cast (k : Nat) : ∀ o : List Nat, (o.map fun (x : Nat) => (x : Int)).idxOf (k : Int) = o.idxOf k
  | [] => rfl
  | x :: o => by
    rw [List.map_cons]
    by_cases e : x = k
    · subst e; rw [List.idxOf_cons_self, List.idxOf_cons_self]
    · rw [idx_ne e, idx_ne (fun z : (x : Int) = k => e (by omega)), idx_cast k o]
def renB (o : List Nat) (b : Bar) : Bar := ⟨o.idxOf b.mv, b.wy, o.idxOf b.ot, b.sd⟩
noncomputable def renBs (o : List Nat) (l : List Bar) : List Bar := srtB (l.map (renB o))
theorem renB_inj {n : Nat} {o : List Nat} (h : isOrd n o) {a b : Bar} (ha : BarOk n a) (hb : BarOk n b) (e : renB o a = renB o b) : a = b := by
  obtain ⟨am, aw, ao, as⟩ := a
  obtain ⟨bm, bw, bo, bs⟩ := b
  simp only [renB, Bar.mk.injEq] at e
  obtain ⟨e1, e2, e3, e4⟩ := e
  have z1 : am = bm := idx_inj (h.all (show am < n from ha.h1)) (h.all (show bm < n from hb.h1)) e1
  have z2 : ao = bo := idx_inj (h.all (show ao < n from ha.h2)) (h.all (show bo < n from hb.h2)) e3
  subst z1; subst z2; subst e2; subst e4; rfl
theorem renB_ok {n : Nat} {o : List Nat} (h : isOrd n o) {b : Bar} (hb : BarOk n b) : BarOk n (renB o b) := by
  refine ⟨?_, ?_, fun e => hb.h3 (idx_inj (h.all hb.h1) (h.all hb.h2) e)⟩
  · have := idx_lt (h.all hb.h1); rw [h.len] at this; exact this
  · have := idx_lt (h.all hb.h2); rw [h.len] at this; exact this
theorem map_nodup {n : Nat} {o : List Nat} (h : isOrd n o) : ∀ {l : List Bar}, l.Nodup → (∀ b ∈ l, BarOk n b) → (l.map (renB o)).Nodup
  | [], _, _ => List.nodup_nil
  | b :: l, hn, ho => by
    obtain ⟨h1, h2⟩ := List.nodup_cons.mp hn
    rw [List.map_cons, List.nodup_cons]
    refine ⟨fun hm => ?_, map_nodup h h2 fun x hx => ho x (List.mem_cons_of_mem _ hx)⟩
    obtain ⟨x, hx, e⟩ := List.mem_map.mp hm
    rw [renB_inj h (ho x (List.mem_cons_of_mem _ hx)) (ho b List.mem_cons_self) e] at hx
    exact h1 hx
theorem ren_srt {c : Cab} {o : List Nat} (hc : CabOk c) (h : isOrd c.n o) {d : D} {m : Mem} {Φ : D → Mem → Prop} (hd : srcD d = some (encBars (c.bars.map (renB o)))) (q : CabOk ⟨c.n, renBs o c.bars⟩ → Φ (.lst (encBars (renBs o c.bars))) m) : fSorted d m Φ := by
  refine sort_s hd (map_nodup h (nodup_of hc.so) hc.ok) (by rw [List.length_map]; exact hc.few) fun p s => q ⟨hc.h1, hc.h7, fun b hb => ?_, s, ?_⟩
  · obtain ⟨x, hx, rfl⟩ := List.mem_map.mp (p.mem_iff.mp hb)
    exact renB_ok h (hc.ok x hx)
  · have := p.length_eq
    rw [List.length_map] at this
    show (srtB (c.bars.map (renB o))).length ≤ 1000
    rw [this]; exact hc.few
theorem ints_or (o : List Nat) : o.map nD = (o.map fun (x : Nat) => (x : Int)).map D.int := by rw [List.map_map]; rfl
theorem nix_at {o : List Nat} {k : Nat} (h : k ∈ o) : (k : Int) ∈ o.map fun (x : Nat) => (x : Int) := List.mem_map.mpr ⟨k, h, rfl⟩
section
variable {A : Ad} {c : Cab} {o : List Nat} {m : Mem} {Φ : D → Mem → Prop} {Ψ : XF}
theorem bars_by_s (hc : CabOk c) (ho : isOrd c.n o) (q : CabOk ⟨c.n, renBs o c.bars⟩ → Φ (.tup (encBars (renBs o c.bars))) m) : CallW (c_bars_by A) [encCab A c, encOr o] m Φ Ψ := ⟨by
  walk_at "w"
  refine ⟨⟨rfl, rfl⟩, ?_⟩
  walk_at "w"
  refine lc_map (α := Bar) (xs := c.bars) (enc := encBar) (g := fun b => encBar (renB o b)) (by have := hc.few; omega) (fun b hb => ⟨_, rfl, fun Ψ' h => ?_⟩) ?_
  · have hb := hc.ok b hb
    walk_at "w"
    refine ⟨_, ints_or o, nix_at (ho.all hb.h1), ?_⟩
    rw [idx_cast]
    walk_at "w"
    refine ⟨_, ints_or o, nix_at (ho.all hb.h2), ?_⟩
    rw [idx_cast]
    exact h
  have e : (c.bars.map fun b => encBar (renB o b)) = encBars (c.bars.map (renB o)) := by unfold encBars; rw [List.map_map]; rfl
  rw [e]
  walk_at "w"
  exact ren_srt (d := .lst (encBars (c.bars.map (renB o)))) (m := m) (Φ := fun d m1 => fTup d m1 Φ) hc ho rfl fun h => q h⟩
theorem law_renamed_s (hc : CabOk c) (ho : isOrd c.n o) (q : CabOk ⟨c.n, renBs o c.bars⟩ → Φ (encD ⟨c.n, renBs o c.bars⟩) m) : CallW (c_law_renamed A) [encD c, encOr o] m Φ Ψ := ⟨by
  walk_at "w"
  refine lc_map (α := Bar) (xs := c.bars) (enc := encBar) (g := fun b => encBar (renB o b)) (by have := hc.few; omega) (fun b hb => ⟨_, rfl, fun Ψ' h => ?_⟩) ?_
  · have hb := hc.ok b hb
    walk_at "w"
    refine ⟨_, ints_or o, nix_at (ho.all hb.h1), ?_⟩
    rw [idx_cast]
    walk_at "w"
    refine ⟨_, ints_or o, nix_at (ho.all hb.h2), ?_⟩
    rw [idx_cast]
    exact h
  have e : (c.bars.map fun b => encBar (renB o b)) = encBars (c.bars.map (renB o)) := by unfold encBars; rw [List.map_map]; rfl
  rw [e]
  walk_at "w"
  exact ren_srt (d := .lst (encBars (c.bars.map (renB o)))) (m := m) (Φ := fun d m1 => fTup d m1 fun d2 m2 => Φ (.lst [.int c.n, d2]) m2) hc ho rfl fun h => q h⟩
theorem need_order_s (hc : CabOk c) (ho : isOrd c.n o) (q : Φ .non m) : CallW (c_need_order A) [encCab A c, encOr o] m Φ Ψ := ⟨by
  have h7 := hc.h7
  have hl := ho.len
  have el : (o.map nD).length = c.n := by rw [List.length_map, hl]
  walk_at "w"
  refine gd_of (decide_eq_true (by rw [el]; show c.n ≤ 16777216; omega)) ?_
  walk_at "w"
  refine ⟨⟨rfl, rfl⟩, ?_⟩
  walk_at "w"
  refine br_f (by show (!eqD (.int ((o.map nD).length : Nat)) (.int (c.n : Nat))) = false; rw [el, eqD_refl]; rfl) ?_
  walk_at "w"
  refine lc_map (α := Nat) (xs := o) (enc := nD) (g := fun _ => D.bl true) (by omega) (fun k hk => ⟨_, rfl, fun Ψ' h => ?_⟩) ?_
  · have hk := ho.lt k hk
    walk_at "w"
    refine ⟨⟨rfl, rfl⟩, ?_⟩
    walk_at "w"
    refine is_from_s rfl ?_
    have e : isFrom (.int (k : Nat)) 0 ((c.n : Int) - 1) = true := by
      show (decide ((0 : Int) ≤ (k : Nat)) && decide (((k : Nat) : Int) ≤ (c.n : Int) - 1)) = true
      rw [decide_eq_true (by omega), decide_eq_true (by omega)]; rfl
    show Ψ' (.bl (isFrom (.int (k : Nat)) 0 ((c.n : Int) - 1))) _
    rw [e]; exact h
  walk_at "w"
  refine om_of (bools_map (fun _ : Nat => true) o) ?_
  have e : (o.map fun _ : Nat => true).all id = true := by rw [all_id]; exact List.all_eq_true.mpr fun _ _ => rfl
  rw [e]
  walk_at "w"
  refine ⟨_, ints_or o, by rw [List.length_map]; omega, fun cc ⟨ks, k1, k2, k3⟩ => ?_⟩
  have hcc : cc = c.n := by
    have nd : (o.map fun (x : Nat) => (x : Int)).Nodup := List.pairwise_map.mpr (ho.nd.imp fun h e => h (by omega))
    have a := nd_len k2 fun x hx => (k3 x).mp hx
    have b := nd_len nd fun x hx => (k3 x).mpr hx
    rw [List.length_map] at a b
    omega
  subst hcc
  walk_at "w"
  refine gd_of (decide_eq_true (by rw [el]; show c.n ≤ 16777216; omega)) ?_
  walk_at "w"
  refine br_f (by show (!eqD (.int (c.n : Nat)) (.int ((o.map nD).length : Nat))) = false; rw [el, eqD_refl]; rfl) ?_
  exact q⟩
theorem renamed_s (hc : CabOk c) (ho : isOrd c.n o) (q : CabOk ⟨c.n, renBs o c.bars⟩ → Φ (encCab A ⟨c.n, renBs o c.bars⟩) m) : CallW (c_renamed A) [encCab A c, encOr o] m Φ Ψ := ⟨by
  walk_at "w"
  refine need_cab_s ?_
  walk_at "w"
  refine need_order_s hc ho ?_
  walk_at "w"
  refine ⟨⟨rfl, rfl⟩, ?_⟩
  walk_at "w"
  refine bars_by_s hc ho fun h => ?_
  walk_at "w"
  refine cab_s (c := ⟨c.n, renBs o c.bars⟩) h ?_
  exact q h⟩
end
/-! ### all orders -/
def moreO (n : Nat) (s : List Nat) : List (List Nat) := ((List.range n).filter fun d => !decide (d ∈ s)).map fun d => s ++ [d]
def ordL (n : Nat) : Nat → List (List Nat)
  | 0 => [[]]
  | k + 1 => (ordL n k).flatMap (moreO n)
theorem ordL_ok {n : Nat} : ∀ {k : Nat} {o : List Nat}, o ∈ ordL n k → o.length = k ∧ o.Nodup ∧ ∀ x ∈ o, x < n
  | 0, o, h => by
    rw [List.mem_singleton.mp h]
    exact ⟨rfl, List.nodup_nil, fun x hx => nomatch hx⟩
  | k + 1, o, h => by
    obtain ⟨s, hs, h2⟩ := List.mem_flatMap.mp h
    obtain ⟨d, hd, rfl⟩ := List.mem_map.mp h2
    obtain ⟨i1, i2, i3⟩ := ordL_ok hs
    obtain ⟨d1, d2⟩ := List.mem_filter.mp hd
    have d1 := List.mem_range.mp d1
    have d2 : d ∉ s := by simpa using d2
    refine ⟨by rw [List.length_append, i1]; rfl, ?_, fun x hx => ?_⟩
    · rw [List.nodup_append]
      exact ⟨i2, List.nodup_cons.mpr ⟨List.not_mem_nil, List.nodup_nil⟩, fun a ha b hb => by rw [List.mem_singleton.mp hb]; exact fun e => d2 (e ▸ ha)⟩
    · rcases List.mem_append.mp hx with hx | hx
      · exact i3 x hx
      · rw [List.mem_singleton.mp hx]; exact d1
theorem ordL_ord {n : Nat} {o : List Nat} (h : o ∈ ordL n n) : isOrd n o := ⟨(ordL_ok h).1, (ordL_ok h).2.1, (ordL_ok h).2.2⟩
theorem flat_le {α β : Type} {f : α → List β} {n : Nat} : ∀ {l : List α}, (∀ x ∈ l, (f x).length ≤ n) → (l.flatMap f).length ≤ l.length * n
  | [], _ => by simp
  | x :: l, h => by
    have h1 := h x List.mem_cons_self
    have h2 := flat_le (l := l) fun y hy => h y (List.mem_cons_of_mem _ hy)
    rw [List.flatMap_cons, List.length_append, List.length_cons, Nat.succ_mul]
    omega
theorem more_len (n : Nat) (s : List Nat) : (moreO n s).length ≤ n := by unfold moreO; rw [List.length_map]; exact Nat.le_trans (List.length_filter_le _ _) (by rw [List.length_range]; exact Nat.le_refl _)
theorem ordL_len (n : Nat) : ∀ k, (ordL n k).length ≤ n ^ k
  | 0 => by show 1 ≤ 1; omega
  | k + 1 => by
    have h2 : (ordL n (k + 1)).length ≤ (ordL n k).length * n := flat_le fun p _ => more_len n p
    rw [Nat.pow_succ]
    exact Nat.le_trans h2 (Nat.mul_le_mul_right _ (ordL_len n k))
theorem pow_le {n k : Nat} (hn : n ≤ 6) (hk : k ≤ 5) : n ^ k ≤ 7776 := Nat.le_trans (Nat.pow_le_pow_left hn k) (Nat.le_trans (Nat.pow_le_pow_right (by decide) hk) (by decide))
theorem pow_le6 {n k : Nat} (hn : n ≤ 6) (hk : k ≤ 6) : n ^ k ≤ 46656 := Nat.le_trans (Nat.pow_le_pow_left hn k) (Nat.le_trans (Nat.pow_le_pow_right (by decide) hk) (by decide))
theorem in_or (x : Nat) (l : List Nat) : inD (nD x) (encOr l) = some (decide (x ∈ l)) := by
  have h : plks (nD x) (l.map nD) = true := by
    unfold plks
    rw [(cmpA (k := 0) (enc := nD) (l := l) fun y _ => cmp_nD y).1]; rfl
  show (if plks (nD x) (l.map nD) = true then some _ else none) = _
  rw [if_pos h, any_nD]
theorem encOr_snoc (s : List Nat) (d : Nat) : encOr (s ++ [d]) = .ktp (s.map nD ++ [nD d]) := by show D.ktp ((s ++ [d]).map nD) = _; rw [List.map_append]; rfl
section
variable {A : Ad} {n : Nat} {m : Mem} {Φ : D → Mem → Prop} {Ψ : XF}
theorem orders_of_s (h6 : n ≤ 6) (q : Φ (.lst ((ordL n n).map encOr)) m) : CallW (c_orders_of A) [nD n] m Φ Ψ := ⟨by
  walk_at "w"
  refine RgW.nat (by omega) ?_
  rw [Int.toNat_natCast]
  refine ⟨fun i ds m2 => m2 = m ∧ ∃ x2, ds = [some (nD n), some (.lst ((ordL n i).map encOr)), x2, none, none], ⟨rfl, _, rfl⟩, fun i d ds m2 hd hI => ?_, fun ds m2 hI => ?_⟩
  · obtain ⟨rfl, x2, rfl⟩ := hI
    have hi : i < n := by
      have := (List.getElem?_eq_some_iff.mp hd).1
      unfold rngD at this
      rwa [List.length_map, List.length_range] at this
    have hlen := Nat.le_trans (ordL_len n i) (pow_le (k := i) h6 (by omega))
    walk_at "w"
    refine lc2_filter (α := List Nat) (β := Nat) (xs := ordL n i) (ys := List.range n) (enc := encOr) (enc1 := fun (j : Nat) => D.int (0 + (j : Int))) (f := fun s d => !decide (d ∈ s)) (g := fun s d => encOr (s ++ [d])) (by omega) (by rw [List.length_range]; omega) (fun s hs => ⟨_, rfl, fun Ψ' h => ?_, fun d hd => ⟨_, rfl, fun Ψ' h => ?_, fun _ Ψ' h => ?_⟩⟩) ?_
    · walk_at "w"
      refine RgW.nat (by omega) ?_
      rw [Int.toNat_natCast]
      exact h
    · rw [show (0 : Int) + (d : Int) = (d : Nat) by omega]
      walk_at "w"
      refine om_of (in_or d s) ?_
      exact h
    · have hsl := (ordL_ok hs).1
      rw [show (0 : Int) + (d : Int) = (d : Nat) by omega]
      walk_at "w"
      refine gd_of (decide_eq_true (by rw [List.length_map, hsl]; show i + 1 ≤ 16777216; omega)) ?_
      rw [encOr_snoc] at h
      exact h
    refine ⟨rfl, some d, ?_⟩
    show _ = [some (nD n), some (.lst (((ordL n i).flatMap (moreO n)).map encOr)), some d, none, none]
    rw [List.map_flatMap, show (fun s => (moreO n s).map encOr) = fun s => ((List.range n).filter fun d => !decide (d ∈ s)).map fun d => encOr (s ++ [d]) from funext fun s => by unfold moreO; rw [List.map_map]; rfl]
    rfl
  · obtain ⟨rfl, x2, rfl⟩ := hI
    rw [rngD, List.length_map, List.length_range]
    exact q⟩
theorem law_orders_s (h6 : n ≤ 6) (q : Φ (.lst ((ordL n n).map encOr)) m) : CallW (c_law_orders A) [nD n] m Φ Ψ := ⟨by
  walk_at "w"
  refine RgW.nat (by omega) ?_
  rw [Int.toNat_natCast]
  refine ⟨fun i ds m2 => m = m2 ∧ ∃ x2 x3 x4, ds = [some (nD n), some (.lst ((ordL n i).map encOr)), x2, x3, x4, none], ⟨rfl, _, _, _, rfl⟩, fun i d ds m2 hd hI => ?_, fun ds m2 hI => ?_⟩
  · obtain ⟨rfl, x2, x3, x4, rfl⟩ := hI
    have hi : i < n := by
      have := (List.getElem?_eq_some_iff.mp hd).1
      unfold rngD at this
      rwa [List.length_map, List.length_range] at this
    have hlen := Nat.le_trans (ordL_len n i) (pow_le (k := i) h6 (by omega))
    walk_at "w"
    intro tw htw
    walk_at "w"
    refine for_rest (α := List Nat) (xs := ordL n i) (enc := encOr) (fun rest ds m2 => ∃ (dn : List (List Nat)) (x4 : Option D), dn ++ rest = ordL n i ∧ m2 = (tw, .lst ((dn.flatMap (moreO n)).map encOr)) :: m ∧
        ds = [some (nD n), some (.lst ((ordL n i).map encOr)), some d, some (.ref tw), x4, none])
      ⟨[], _, rfl, rfl, rfl⟩ (fun s rest ds m2 hs hI => ?_) (fun ds m2 hI => ?_)
    · obtain ⟨dn, x4, ed, rfl, rfl⟩ := hI
      have hsl := (ordL_ok hs).1
      have hdl : dn.length ≤ 7776 := by
        have := congrArg List.length ed
        rw [List.length_append] at this
        omega
      have hfl : (dn.flatMap (moreO n)).length ≤ dn.length * n := flat_le fun p _ => more_len n p
      have hfl2 : dn.length * n ≤ 7776 * 6 := Nat.mul_le_mul hdl h6
      have hml : ((List.range n).filter fun d => !decide (d ∈ s)).length ≤ n := Nat.le_trans (List.length_filter_le _ _) (by rw [List.length_range]; exact Nat.le_refl _)
      walk_at "w"
      refine ⟨0, _, rfl, ?_⟩
      walk_at "w"
      refine RgW.nat (by omega) ?_
      rw [Int.toNat_natCast]
      refine lc_filter (α := Nat) (xs := List.range n) (enc := fun (j : Nat) => D.int (0 + (j : Int))) (f := fun d => !decide (d ∈ s)) (g := fun d => encOr (s ++ [d])) (by rw [List.length_range]; omega) (fun d hd => ⟨_, rfl, fun Ψ' h => ?_, fun _ Ψ' h => ?_⟩) ?_
      · rw [show (0 : Int) + (d : Int) = (d : Nat) by omega]
        walk_at "w"
        refine om_of (in_or d s) ?_
        exact h
      · rw [show (0 : Int) + (d : Int) = (d : Nat) by omega]
        walk_at "w"
        refine gd_of (decide_eq_true (by rw [List.length_map, hsl]; show i + 1 ≤ 16777216; omega)) ?_
        rw [encOr_snoc] at h
        exact h
      walk_at "w"
      refine ⟨0, _, rfl, ?_⟩
      walk_at "w"
      refine gd_of (decide_eq_true (by rw [List.length_map, List.length_map]; show _ ≤ 16777216; omega)) ?_
      refine ⟨dn ++ [s], _, by rw [← ed]; simp, ?_, rfl⟩
      rw [List.flatMap_append, List.map_append, List.flatMap_singleton]
      show _ = (tw, MC.lst ((dn.flatMap (moreO n)).map encOr ++ (((List.range n).filter fun d => !decide (d ∈ s)).map fun d => s ++ [d]).map encOr)) :: _
      rw [List.map_map (f := fun d => s ++ [d])]
      rfl
    · obtain ⟨dn, x4, ed, rfl, rfl⟩ := hI
      rw [List.append_nil] at ed
      subst ed
      walk_at "w"
      refine ⟨0, _, rfl, ?_⟩
      exact ⟨rfl, _, _, _, rfl⟩
  · obtain ⟨rfl, x2, x3, x4, rfl⟩ := hI
    rw [rngD, List.length_map, List.length_range]
    exact q⟩
theorem keeping_s {c : Cab} (hc : CabOk c) (h6 : c.n ≤ 6) (q : Φ (.lst (((ordL c.n c.n).filter fun o => decide (renBs o c.bars = c.bars)).map encOr)) m) : CallW (c_keeping A) [encCab A c] m Φ Ψ := ⟨by
  have hlen := Nat.le_trans (ordL_len c.n c.n) (pow_le6 (k := c.n) h6 h6)
  walk_at "w"
  refine need_cab_s ?_
  walk_at "w"
  refine ⟨⟨rfl, rfl⟩, ?_⟩
  walk_at "w"
  refine orders_of_s h6 ?_
  walk_at "w"
  refine lc_filter (α := List Nat) (xs := ordL c.n c.n) (enc := encOr) (f := fun o => decide (renBs o c.bars = c.bars)) (g := encOr) (by omega) (fun o ho => ⟨_, rfl, fun Ψ' h => ?_, fun _ Ψ' h => h⟩) q
  walk_at "w"
  refine bars_by_s hc (ordL_ord ho) fun _ => ?_
  walk_at "w"
  refine ⟨⟨rfl, rfl⟩, ?_⟩
  walk_at "w"
  refine gd_of (plk_cmp (cmp_bars _) (cmp_bars _) (by decide)) ?_
  show Ψ' (eqD (.tup (encBars (renBs o c.bars))) (.tup (encBars c.bars))) _
  rw [eqD_bars]
  exact h⟩
end
/-! ### the law's draws -/
theorem erase_mapO {α β : Type} {f : α → β} : ∀ (l : List α) (i : Nat), (l.map f).eraseIdx i = (l.eraseIdx i).map f
  | [], _ => rfl
  | _ :: _, 0 => rfl
  | a :: l, i + 1 => by show f a :: (l.map f).eraseIdx i = f a :: (l.eraseIdx i).map f; rw [erase_mapO l i]
theorem perm_erase {α : Type} : ∀ {l : List α} {i : Nat} (h : i < l.length), (l[i] :: l.eraseIdx i).Perm l
  | a :: l, 0, _ => .refl _
  | a :: l, i + 1, h => (List.Perm.swap a (l[i]'(by simpa using h)) (l.eraseIdx i)).trans ((perm_erase (l := l) (by simpa using h)).cons a)
theorem law_order_s {A : Ad} {p : Addr} {ns : List Int} {n : Nat} {c : MC} {m : Mem} {Φ : D → Mem → Prop} {Ψ : XF} (hR : RowC ns c) (hns : ns.length ≤ 63) (h7 : n ≤ 7) (q : ∀ o c', isOrd n o → RowC ns c' → Φ (encOr o) ((p, c') :: m)) : CallW (c_law_order A) [.ref p, nD n] ((p, c) :: m) Φ Ψ := ⟨by
  have RB : ∀ (a b : Addr) (x y c' : MC), RowC ns c' → RowAt ((a, x) :: (b, y) :: (p, c') :: m) 2 p ns := fun a b x y c' h => by obtain ⟨i, s, r, h, rfl⟩ := h; exact ⟨i, s, r, h, rfl⟩
  walk_at "w"
  refine ⟨⟨by decide, by decide⟩, ⟨by omega, by omega⟩, ?_⟩
  intro tl htl
  rw [Int.toNat_natCast]
  walk_at "w"
  intro tf htf
  walk_at "w"
  refine RgW.nat (by omega) ?_
  rw [Int.toNat_natCast]
  have e0 : rngD 0 n = (List.range n).map nD := List.map_congr_left fun i _ => by show D.int (0 + (i : Int)) = .int i; rw [show (0 : Int) + (i : Int) = i by omega]
  refine ⟨fun i ds m2 => ∃ (f l : List Nat) (c' : MC) (x4 : Option D), RowC ns c' ∧ (f ++ l).Perm (List.range n) ∧ f.length = i ∧ m2 = (tf, .lst (f.map nD)) :: (tl, .lst (l.map nD)) :: (p, c') :: m ∧
      ds = [some (.ref p), some (nD n), some (.ref tl), some (.ref tf), x4], ⟨[], List.range n, c, _, hR, .refl _, rfl, by rw [e0]; rfl, rfl⟩, fun i d ds m2 hd hI => ?_, fun ds m2 hI => ?_⟩
  · obtain ⟨f, l, c', x4, hc', hp, hf, rfl, rfl⟩ := hI
    have hi : i < n := by
      have := (List.getElem?_eq_some_iff.mp hd).1
      unfold rngD at this
      rwa [List.length_map, List.length_range] at this
    have hll : f.length + l.length = n := by have := hp.length_eq; rwa [List.length_append, List.length_range] at this
    have el : (l.map nD).length = l.length := List.length_map _
    walk_at "w"
    refine ⟨0, _, rfl, ?_⟩
    walk_at "w"
    refine ⟨1, _, rfl, ?_⟩
    walk_at "w"
    refine ⟨1, _, rfl, ?_⟩
    walk_at "w"
    refine gd_of (decide_eq_true (by rw [el]; show l.length ≤ 16777216; omega)) ?_
    walk_at "w"
    refine taken_s (RB _ _ _ _ c' hc') hns (by rw [el]; omega) (by rw [el]; exact Int.lt_trans (b := 1000) (by omega) (by decide)) fun v c2 hc2 g1 g2 => ?_
    rw [el] at g2
    obtain ⟨v, rfl⟩ := Int.eq_ofNat_of_zero_le g1
    have hv : v < l.length := by omega
    walk_at "w"
    refine ⟨1, _, rfl, ?_⟩
    walk_at "w"
    refine RgW.nat (by omega) ?_
    walk_at "w"
    refine om_of (ixN_nat (by rw [el]; exact hv)) ?_
    refine om_of (show (l.map nD)[v]? = some (nD l[v]) by rw [List.getElem?_map, List.getElem?_eq_getElem hv]; rfl) ?_
    walk_at "w"
    refine ⟨0, _, rfl, ?_⟩
    walk_at "w"
    refine gd_of (decide_eq_true (by rw [List.length_map]; show f.length < 16777216; omega)) ?_
    refine ⟨f ++ [l[v]], l.eraseIdx v, c2, _, hc2, ?_, by rw [List.length_append, hf]; rfl, ?_, rfl⟩
    · rw [List.append_assoc]
      exact ((perm_erase hv).append_left f).trans hp
    · rw [List.map_append, erase_mapO]; rfl
  · obtain ⟨f, l, c', x4, hc', hp, hf, rfl, rfl⟩ := hI
    have hf : f.length = n := by unfold rngD at hf; rwa [List.length_map, List.length_range] at hf
    have hll : f.length + l.length = n := by have := hp.length_eq; rwa [List.length_append, List.length_range] at this
    obtain rfl : l = [] := List.length_eq_zero_iff.mp (by omega)
    rw [List.append_nil] at hp
    walk_at "w"
    refine ⟨0, _, rfl, ?_⟩
    walk_at "w"
    refine ⟨(p, c') :: m, List.sublist_cons_self _ _, ?_⟩
    exact q f c' ⟨hf, hp.nodup_iff.mpr List.nodup_range, fun k hk => List.mem_range.mp (hp.mem_iff.mp hk)⟩ hc'⟩
def t_rest37 (A : Ad) : MS := (seq (par_ 8 9 (call_ 1 (c_law_made A) (cons_ (v_ 2) nil_)) (call_ 2 (c_law_order A) (cons_ (v_ 1) (cons_ (o2 oIx (v_ 2) (k_ (.int 0))) nil_))))
  (seq (if_ (tnot (tst (eqO_ A.Cabinet (c_Cabinet_eq A) (call_ 2 (c_renamed A) (cons_ (v_ 8) (cons_ (v_ 9) nil_))) (call_ 1 (c_law_made A) (cons_ (call_ 2 (c_law_renamed A) (cons_ (v_ 2) (cons_ (v_ 9) nil_))) nil_))))) (seq (ret_ (k_ (.bl false)))
  nil_s) nil_s)
  (seq (ret_ (o2 oEq (call_ 1 (c_keeping A) (cons_ (v_ 8) nil_)) (lc_ (it_q (call_ 1 (c_law_orders A) (cons_ (o2 oIx (v_ 2) (k_ (.int 0))) nil_))) (fun d ds => some ((wipeD ds [10]).set 10 (some d))) (some (tst (o2 oEq (o2 oIx (call_ 2 (c_law_renamed A) (cons_ (v_ 2) (cons_ (v_ 10) nil_))) (k_ (.int 1))) (o2 oIx (v_ 2) (k_ (.int 1)))))) (v_ 10))))
  nil_s)))
section
variable {A : Ad} {p : Addr} {ns : List Int} {c : Cab} {m : Mem} {c3 : MC} {Φ : D → Mem → Prop} {Ψ : XF} {x3 x4 x5 x6 x7 : Option D}
theorem rest_s (hns : ns.length ≤ 63) (hc : CabOk c) (h6 : c.n ≤ 6) (hR : RowC ns c3) (q : ∀ m', Φ (.bl true) m') :
    t_rest37 A [some (.scr ns), some (.ref p), some (encD c), x3, x4, x5, x6, x7, none, none, none] ((p, c3) :: m) { nx := fun _ m => Φ .non m, rt := Φ } (fun _ => Ψ) := by
  have hlen := Nat.le_trans (ordL_len c.n c.n) (pow_le6 (k := c.n) h6 h6)
  walk_at "w"
  refine made_s hc ?_
  walk_at "w"
  refine law_order_s hR hns hc.h7 fun o c4 ho hc4 => ?_
  walk_at "w"
  refine renamed_s hc ho fun h1 => ?_
  walk_at "w"
  refine law_renamed_s hc ho fun _ => ?_
  walk_at "w"
  refine made_s h1 ?_
  walk_at "w"
  refine ⟨rfl, ?_⟩
  refine ⟨rfl, ?_⟩
  refine cab_eq_s ?_
  refine ⟨_, rfl, ?_⟩
  have es : sameC ⟨c.n, renBs o c.bars⟩ ⟨c.n, renBs o c.bars⟩ = true := by simp [sameC]
  rw [es]
  walk_at "w"
  refine keeping_s hc h6 ?_
  walk_at "w"
  refine law_orders_s h6 ?_
  walk_at "w"
  refine lc_filter (α := List Nat) (xs := ordL c.n c.n) (enc := encOr) (f := fun o => decide (renBs o c.bars = c.bars)) (g := encOr) (by omega) (fun o ho => ⟨_, rfl, fun Ψ' h => ?_, fun _ Ψ' h => h⟩) ?_
  · walk_at "w"
    refine law_renamed_s hc (ordL_ord ho) fun _ => ?_
    walk_at "w"
    refine gd_of (plk_cmp (cmp_bars _) (cmp_bars _) (by decide)) ?_
    show Ψ' (eqD (.tup (encBars (renBs o c.bars))) (.tup (encBars c.bars))) _
    rw [eqD_bars]
    exact h
  walk_at "w"
  have hcmp : Cmp 2 (.lst (((ordL c.n c.n).filter fun o => decide (renBs o c.bars = c.bars)).map encOr)) := cmp_lst (k := 1) fun o _ => by
    have := cmp_tup (k := 0) (enc := nD) (l := o) fun x _ => cmp_nD x
    exact ⟨this.1, this.2⟩
  refine gd_of (plk_cmp hcmp hcmp (by decide)) ?_
  rw [eqD_refl]
  exact q _
end
theorem p_law_k37 {A : Ad} (M : Mt_k37 A) (ns : List Int) (hns : ns.length ≤ 63) (m : Mem) (Φ : D → Mem → Prop) (Ψ : XF) (q : ∀ m', Φ (.bl true) m') : c_law A [.scr ns] m Φ Ψ := by
  walk_at "w"
  intro p hp
  walk_at "w"
  have R0 : RowAt ((p, .lst (rowD ns 0 937 0)) :: m) 0 p ns := ⟨0, 937, 0, by omega, rfl⟩
  have RA : ∀ c', RowC ns c' → RowAt ((p, c') :: m) 0 p ns := fun c' h => by obtain ⟨i, s, r, h, rfl⟩ := h; exact ⟨i, s, r, h, rfl⟩
  refine taken_s R0 hns (by decide) (by decide) fun w c0 hc0 hw hw2 => ?_
  obtain ⟨tu, htu, M1, rfl, hM⟩ := pick (P := fun d => ∃ k : Nat, d = nD k ∧ (1 ≤ k ∧ k ≤ 6)) (l := [.int 3, .int 5, .int 6]) hw (by simpa using hw2) (by
    intro x hx
    simp only [List.mem_cons, List.not_mem_nil, or_false] at hx
    rcases hx with rfl | rfl | rfl
    · exact ⟨3, rfl, by decide, by decide⟩
    · exact ⟨5, rfl, by decide, by decide⟩
    · exact ⟨6, rfl, by decide, by decide⟩)
  walk_at "w"
  refine om_of htu ?_
  walk_at "w"
  refine parts_s (most := M1) (RA c0 hc0) hns hM.1 (by omega) fun c c1 hc hbM hb13 hc1 => ?_
  have h1 := hc.h1
  have h6 : c.n ≤ 6 := by omega
  walk_at "w"
  refine taken_s (RA c1 hc1) hns (by decide) (by decide) fun v c2 hc2 hv hv2 => ?_
  walk_at "w"
  refine br_b (fun _ => ?_) fun _ => ?_
  rotate_left
  · exact rest_s hns hc h6 hc2 q
  walk_at "w"
  refine br_b (fun hn => ?_) fun _ => ?_
  rotate_left
  · exact rest_s hns hc h6 hc2 q
  have hn : 1 < c.n := by have := of_decide_eq_true hn; omega
  walk_at "w"
  refine taken_s (RA c2 hc2) hns (by omega) (by omega) fun fa c3 hc3 hf1 hf2 => ?_
  obtain ⟨fa, rfl⟩ := Int.eq_ofNat_of_zero_le hf1
  walk_at "w"
  refine taken_s (RA c3 hc3) hns (by decide) (by decide) fun wa c4 hc4 hw1 hw2 => ?_
  obtain ⟨wd, hwd, wy, rfl⟩ := pick (P := fun d => ∃ b : Bool, d = D.str (stS b)) (l := [D.str "open", D.str "shut"]) hw1 (by simpa using hw2) (by
    intro x hx
    simp only [List.mem_cons, List.not_mem_nil, or_false] at hx
    rcases hx with rfl | rfl
    · exact ⟨true, rfl⟩
    · exact ⟨false, rfl⟩)
  walk_at "w"
  refine om_of hwd ?_
  walk_at "w"
  refine RgW.nat (by omega) ?_
  rw [Int.toNat_natCast]
  refine ⟨fun i acc m2 => ∃ (l : List Bar) (c' : MC), RowC ns c' ∧ (∀ b ∈ l, BarOk c.n b ∧ b.mv < i) ∧ l.Nodup ∧ l.length ≤ i ∧ acc = l.map encBar ∧ m2 = (p, c') :: m, ⟨[], c4, hc4, fun b hb => (nomatch hb), List.nodup_nil, Nat.le_refl _, rfl, rfl⟩, fun i d acc m2 hd hi => ?_, fun acc m2 hi => ?_⟩
  · obtain ⟨l, c', hc', hl1, hl2, hl3, rfl, rfl⟩ := hi
    unfold rngD at hd
    rw [List.getElem?_map] at hd
    obtain ⟨j, hj, rfl⟩ := Option.map_eq_some_iff.mp hd
    obtain ⟨hi, rfl⟩ := List.getElem?_eq_some_iff.mp hj
    rw [List.length_range] at hi
    rw [List.getElem_range, show (0 : Int) + (i : Int) = (i : Nat) by omega]
    refine om_of rfl ?_
    walk_at "w"
    refine taken_s (RA c' hc') hns (by decide) (by decide) fun w5 c6 hc6 g5 g6 => ?_
    walk_at "w"
    refine br_b (fun _ => ?_) fun _ => ?_
    · walk_at "w"
      refine ⟨by omega, ?_⟩
      have hmod : (((i : Nat) : Int) + (1 + (fa : Int))) % (c.n : Int) = (((i + (1 + fa)) % c.n : Nat) : Int) := by rw [Int.natCast_emod]; congr 1
      rw [hmod]
      have hlt : (i + (1 + fa)) % c.n < c.n := Nat.mod_lt _ (by omega)
      have hne : i ≠ (i + (1 + fa)) % c.n := by
        rcases Nat.lt_or_ge (i + (1 + fa)) c.n with hh | hh
        · rw [Nat.mod_eq_of_lt hh]; omega
        · rw [Nat.mod_eq_sub_mod hh, Nat.mod_eq_of_lt (by omega)]; omega
      refine ⟨by show (l.map encBar).length < 16777216; rw [List.length_map]; omega, l ++ [⟨i, wy, (i + (1 + fa)) % c.n, true⟩], c6, hc6, fun b hb => ?_, ?_, by rw [List.length_append]; show l.length + 1 ≤ i + 1; omega, by rw [List.map_append]; rfl, rfl⟩
      · rcases List.mem_append.mp hb with hb | hb
        · exact ⟨(hl1 b hb).1, by have := (hl1 b hb).2; omega⟩
        · rw [List.mem_singleton.mp hb]
          exact ⟨⟨hi, hlt, hne⟩, by show i < i + 1; omega⟩
      · rw [List.nodup_append]
        exact ⟨hl2, List.nodup_cons.mpr ⟨List.not_mem_nil, List.nodup_nil⟩, fun a ha b hb e => by
          rw [List.mem_singleton.mp hb] at e
          have := (hl1 a ha).2
          rw [e] at this
          exact Nat.lt_irrefl i this⟩
    · exact ⟨l, c6, hc6, fun b hb => ⟨(hl1 b hb).1, by have := (hl1 b hb).2; omega⟩, hl2, by omega, rfl, rfl⟩
  · obtain ⟨l, c5, hc5, hl1, hl2, hl3, rfl, rfl⟩ := hi
    have hl3 : l.length ≤ c.n := by unfold rngD at hl3; rwa [List.length_map, List.length_range] at hl3
    walk_at "w"
    exact sort_s (d := .lst (encBars l)) (l := l) (m := (p, c5) :: m) (Φ := fun d m1 => fTup d m1 fun d2 m2 => t_rest37 A [some (.scr ns), some (.ref p), some (.lst [.int c.n, d2]), some (.int (1 + (fa : Int))), some (.str (stS wy)), some (.str (stS true)), some (.lst (encBars l)), none, none, none, none] m2 { nx := fun _ m => Φ .non m, rt := Φ } (fun _ => Ψ)) rfl hl2 (by omega) fun pm ps => by
      have hc' : CabOk ⟨c.n, srtB l⟩ := ⟨h1, hc.h7, fun b hb => (hl1 b (pm.mem_iff.mp hb)).1, ps, by show (srtB l).length ≤ 1000; rw [pm.length_eq]; omega⟩
      exact rest_s (c := ⟨c.n, srtB l⟩) hns hc' h6 hc5 q
end DL
namespace DL
open PySem PySem.Spec PyProof.Rows L2 G
/-! ### the text by places -/
def topS (i : Nat) : Stmt := PySem.Challenge.pw_drawerlocks_k37_whole_names.main.body.getD i (.Pass ⟨0, 0, 0, 0⟩)
abbrev s_is_from : Stmt := topS 11
abbrev s_is_stand : Stmt := topS 12
abbrev s_is_bar : Stmt := topS 13
abbrev s_need_cabinet : Stmt := topS 15
abbrev s_need_order : Stmt := topS 17
abbrev s_bars_by : Stmt := topS 18
abbrev s_renamed : Stmt := topS 19
abbrev s_orders_of : Stmt := topS 20
abbrev s_keeping : Stmt := topS 21
abbrev s_law_taken : Stmt := topS 23
abbrev s_law_parts : Stmt := topS 24
abbrev s_law_made : Stmt := topS 25
abbrev s_law_order : Stmt := topS 26
abbrev s_law_renamed : Stmt := topS 27
abbrev s_law_orders : Stmt := topS 28
abbrev s_law : Stmt := topS 29
abbrev s_BadDrawers___init__ : Stmt := inClass (topS 2) 0
abbrev s_BadBars___init__ : Stmt := inClass (topS 3) 0
abbrev s_BadCabinet___init__ : Stmt := inClass (topS 4) 0
abbrev s_BadOrder___init__ : Stmt := inClass (topS 5) 0
abbrev s_Cabinet___init__ : Stmt := inClass (topS 14) 0
abbrev s_Cabinet_drawers : Stmt := inClass (topS 14) 1
abbrev s_Cabinet_bars : Stmt := inClass (topS 14) 2
abbrev s_Cabinet___eq__ : Stmt := inClass (topS 14) 3
section
variable {P : Program} {w : World} {K : PySem.W.Frag} {mg : Str → Option Value} {base : Heap}
/-- what the top has written -/
structure Fc (P : Program) (w : World) (K : PySem.W.Frag) (mg : Str → Option Value) (base : Heap) (A : Ad) : Prop where
  T : BI mg
  hmt : A.mt = (PySem.W.exmOne K <| .ref ·)
  hfn : ∀ x, A.fn x = fnAt mg x
  E_BadDrawers : Err P w K mg base "BadDrawers" A.BadDrawers []
  E_BadBars : Err P w K mg base "BadBars" A.BadBars ["index"]
  E_BadCabinet : Err P w K mg base "BadCabinet" A.BadCabinet []
  E_BadOrder : Err P w K mg base "BadOrder" A.BadOrder []
  C_Cabinet : Kls K mg "Cabinet" A.Cabinet ["many", "locks"]
  G_STANDS : Glb K mg "STANDS" d_STANDS
  G_MOST_DRAWERS : Glb K mg "MOST_DRAWERS" d_MOST_DRAWERS
theorem sc_is_from : FnScope ["value", "low", "high"] ["value", "low", "high"] (defScope s_is_from) := ⟨rfl, rfl, rfl, by decide +kernel, rfl, by decide +kernel, by decide +kernel⟩
theorem r_is_from {A : Ad} (Q : Fc P w K mg base A) (f : Addr) (cdv : Value) (Ar : Around) (outer : List Env) (s : Shared) (H0 : Hp) (E : XK) (V : Vw P w K mg base 0 (cxOf (L2.CX P w) P w K mg base ["value", "low", "high"] "is_from" (defScope s_is_from) f cdv Ar outer s H0 E) (Wo E)) (po : PassesOwn (model P w) (cxOf (L2.CX P w) P w K mg base ["value", "low", "high"] "is_from" (defScope s_is_from) f cdv Ar outer s H0 E).A (cxOf (L2.CX P w) P w K mg base ["value", "low", "high"] "is_from" (defScope s_is_from) f cdv Ar outer s H0 E).env (cxOf (L2.CX P w) P w K mg base ["value", "low", "high"] "is_from" (defScope s_is_from) f cdv Ar outer s H0 E).xe) :
    RB (cxOf (L2.CX P w) P w K mg base ["value", "low", "high"] "is_from" (defScope s_is_from) f cdv Ar outer s H0 E) (Wo E) (defBody s_is_from) (t_is_from A) := by
  have n0 : Nam ["value", "low", "high"] 0 "value" := ⟨rfl, by decide, by decide⟩
  have n1 : Nam ["value", "low", "high"] 1 "low" := ⟨rfl, by decide, by decide⟩
  have n2 : Nam ["value", "low", "high"] 2 "high" := ⟨rfl, by decide, by decide⟩
  have hmt := Q.hmt
  have hfn := Q.hfn
  exact (b_cons (s_ret (r_and (r_isi_int V.bs (r_v n0 (Or.inl rfl))) (r_and (r_not (r_isi_bool V.bs (r_v n0 (Or.inl rfl)))) (r_one (r_chLL V.bs (r_v n1 (Or.inl rfl)) (r_v n0 (Or.inl rfl)) (r_v n2 (Or.inl rfl)))))))
  b_nil)
theorem ok_is_from {A : Ad} (Q : Fc P w K mg base A) (df : Def K mg "is_from" "is_from" s_is_from ["value", "low", "high"]) : FnE P w K mg base 1 "is_from" 3 (c_is_from A) :=
  fn_of Q.T df sc_is_from (fun f cdv Ar outer s H0 E V po => r_is_from Q f cdv Ar outer s H0 E V po) (fun _ _ _ _ h _ => h)
theorem sc_is_stand : FnScope ["value"] ["value"] (defScope s_is_stand) := ⟨rfl, rfl, rfl, by decide +kernel, rfl, by decide +kernel, by decide +kernel⟩
theorem r_is_stand {A : Ad} (Q : Fc P w K mg base A) (f : Addr) (cdv : Value) (Ar : Around) (outer : List Env) (s : Shared) (H0 : Hp) (E : XK) (V : Vw P w K mg base 0 (cxOf (L2.CX P w) P w K mg base ["value"] "is_stand" (defScope s_is_stand) f cdv Ar outer s H0 E) (Wo E)) (po : PassesOwn (model P w) (cxOf (L2.CX P w) P w K mg base ["value"] "is_stand" (defScope s_is_stand) f cdv Ar outer s H0 E).A (cxOf (L2.CX P w) P w K mg base ["value"] "is_stand" (defScope s_is_stand) f cdv Ar outer s H0 E).env (cxOf (L2.CX P w) P w K mg base ["value"] "is_stand" (defScope s_is_stand) f cdv Ar outer s H0 E).xe) :
    RB (cxOf (L2.CX P w) P w K mg base ["value"] "is_stand" (defScope s_is_stand) f cdv Ar outer s H0 E) (Wo E) (defBody s_is_stand) (t_is_stand A) := by
  have n0 : Nam ["value"] 0 "value" := ⟨rfl, by decide, by decide⟩
  have hmt := Q.hmt
  have hfn := Q.hfn
  have G_STANDS := Q.G_STANDS
  exact (b_cons (s_ret (r_and (r_isi_str V.bs (r_v n0 (Or.inl rfl))) (r_one (r_in V.bs (r_v n0 (Or.inl rfl)) (r_g (V.glb G_STANDS))))))
  b_nil)
theorem ok_is_stand {A : Ad} (Q : Fc P w K mg base A) (df : Def K mg "is_stand" "is_stand" s_is_stand ["value"]) : FnE P w K mg base 1 "is_stand" 1 (c_is_stand A) :=
  fn_of Q.T df sc_is_stand (fun f cdv Ar outer s H0 E V po => r_is_stand Q f cdv Ar outer s H0 E V po) (fun _ _ _ _ h _ => h)
theorem sc_is_bar : FnScope ["drawers", "value"] ["drawers", "value"] (defScope s_is_bar) := ⟨rfl, rfl, rfl, by decide +kernel, rfl, by decide +kernel, by decide +kernel⟩
theorem r_is_bar {A : Ad} (Q : Fc P w K mg base A) (F_is_stand : FnE P w K mg base 1 "is_stand" 1 (c_is_stand A)) (F_is_from : FnE P w K mg base 1 "is_from" 3 (c_is_from A)) (f : Addr) (cdv : Value) (Ar : Around) (outer : List Env) (s : Shared) (H0 : Hp) (E : XK) (V : Vw P w K mg base 1 (cxOf (L2.CX P w) P w K mg base ["drawers", "value"] "is_bar" (defScope s_is_bar) f cdv Ar outer s H0 E) (Wo E)) (po : PassesOwn (model P w) (cxOf (L2.CX P w) P w K mg base ["drawers", "value"] "is_bar" (defScope s_is_bar) f cdv Ar outer s H0 E).A (cxOf (L2.CX P w) P w K mg base ["drawers", "value"] "is_bar" (defScope s_is_bar) f cdv Ar outer s H0 E).env (cxOf (L2.CX P w) P w K mg base ["drawers", "value"] "is_bar" (defScope s_is_bar) f cdv Ar outer s H0 E).xe) :
    RB (cxOf (L2.CX P w) P w K mg base ["drawers", "value"] "is_bar" (defScope s_is_bar) f cdv Ar outer s H0 E) (Wo E) (defBody s_is_bar) (t_is_bar A) := by
  have n0 : Nam ["drawers", "value"] 0 "drawers" := ⟨rfl, by decide, by decide⟩
  have n1 : Nam ["drawers", "value"] 1 "value" := ⟨rfl, by decide, by decide⟩
  have hmt := Q.hmt
  have hfn := Q.hfn
  exact (b_cons (s_if (t_bo (w_or (t_not (t_val (r_isi_tuple V.bs (r_v n1 (Or.inl rfl))))) (w_or (t_ne V.bs (r_len V.bs (r_v n1 (Or.inl rfl))) r_int) (w_or (t_not (t_val (r_call V F_is_stand (r_cons (r_ix (r_v n1 (Or.inl rfl)) r_int) r_nil)))) (w_or1 (t_not (t_val (r_call V F_is_stand (r_cons (r_ix (r_v n1 (Or.inl rfl)) r_int) r_nil))))))))) (b_cons (s_ret r_bl)
  b_nil) b_nil)
  (b_cons (s_if (t_bo (w_or (t_not (t_val (r_call V F_is_from (r_cons (r_ix (r_v n1 (Or.inl rfl)) r_int) (r_cons r_int (r_cons (r_sub (r_v n0 (Or.inl rfl)) r_int) r_nil)))))) (w_or1 (t_not (t_val (r_call V F_is_from (r_cons (r_ix (r_v n1 (Or.inl rfl)) r_int) (r_cons r_int (r_cons (r_sub (r_v n0 (Or.inl rfl)) r_int) r_nil))))))))) (b_cons (s_ret r_bl)
  b_nil) b_nil)
  (b_cons (s_ret (r_ne V.bs (r_ix (r_v n1 (Or.inl rfl)) r_int) (r_ix (r_v n1 (Or.inl rfl)) r_int)))
  b_nil)))
theorem ok_is_bar {A : Ad} (Q : Fc P w K mg base A) (F_is_stand : FnE P w K mg base 1 "is_stand" 1 (c_is_stand A)) (F_is_from : FnE P w K mg base 1 "is_from" 3 (c_is_from A)) (df : Def K mg "is_bar" "is_bar" s_is_bar ["drawers", "value"]) : FnE P w K mg base 2 "is_bar" 2 (c_is_bar A) :=
  fn_of Q.T df sc_is_bar (fun f cdv Ar outer s H0 E V po => r_is_bar Q F_is_stand F_is_from f cdv Ar outer s H0 E V po) (fun _ _ _ _ h _ => h)
theorem sc_Cabinet_init : FnScope ["self", "drawers", "bars", "index", "bar"] ["self", "drawers", "bars"] (defScope s_Cabinet___init__) := ⟨rfl, rfl, rfl, by decide +kernel, rfl, by decide +kernel, by decide +kernel⟩
theorem r_Cabinet_init {A : Ad} (Q : Fc P w K mg base A) (F_is_from : FnE P w K mg base 1 "is_from" 3 (c_is_from A)) (F_is_bar : FnE P w K mg base 2 "is_bar" 2 (c_is_bar A)) (f : Addr) (cdv : Value) (Ar : Around) (outer : List Env) (s : Shared) (H0 : Hp) (E : XK) (V : Vw P w K mg base 2 (cxOf (L2.CX P w) P w K mg base ["self", "drawers", "bars", "index", "bar"] "Cabinet.__init__" (defScope s_Cabinet___init__) f cdv Ar outer s H0 E) (Wo E)) (po : PassesOwn (model P w) (cxOf (L2.CX P w) P w K mg base ["self", "drawers", "bars", "index", "bar"] "Cabinet.__init__" (defScope s_Cabinet___init__) f cdv Ar outer s H0 E).A (cxOf (L2.CX P w) P w K mg base ["self", "drawers", "bars", "index", "bar"] "Cabinet.__init__" (defScope s_Cabinet___init__) f cdv Ar outer s H0 E).env (cxOf (L2.CX P w) P w K mg base ["self", "drawers", "bars", "index", "bar"] "Cabinet.__init__" (defScope s_Cabinet___init__) f cdv Ar outer s H0 E).xe) :
    RB (cxOf (L2.CX P w) P w K mg base ["self", "drawers", "bars", "index", "bar"] "Cabinet.__init__" (defScope s_Cabinet___init__) f cdv Ar outer s H0 E) (Wo E) (defBody s_Cabinet___init__) (t_Cabinet_init A) := by
  have n0 : Nam ["self", "drawers", "bars", "index", "bar"] 0 "self" := ⟨rfl, by decide, by decide⟩
  have n1 : Nam ["self", "drawers", "bars", "index", "bar"] 1 "drawers" := ⟨rfl, by decide, by decide⟩
  have n2 : Nam ["self", "drawers", "bars", "index", "bar"] 2 "bars" := ⟨rfl, by decide, by decide⟩
  have n3 : Nam ["self", "drawers", "bars", "index", "bar"] 3 "index" := ⟨rfl, by decide, by decide⟩
  have n4 : Nam ["self", "drawers", "bars", "index", "bar"] 4 "bar" := ⟨rfl, by decide, by decide⟩
  have hmt := Q.hmt
  have hfn := Q.hfn
  have E_BadDrawers := Q.E_BadDrawers
  have E_BadBars := Q.E_BadBars
  have C_Cabinet := Q.C_Cabinet
  have G_MOST_DRAWERS := Q.G_MOST_DRAWERS
  exact (b_cons (s_if (t_not (t_val (r_call V F_is_from (r_cons (r_v n1 (Or.inl rfl)) (r_cons r_int (r_cons (r_g (V.glb G_MOST_DRAWERS)) r_nil)))))) (b_cons (s_raise0 V E_BadDrawers)
  b_nil) b_nil)
  (b_cons (s_if (t_not (t_val (r_isi_tuple V.bs (r_v n2 (Or.inl rfl))))) (b_cons (s_raise V E_BadBars (r_cons r_non r_nil))
  b_nil) b_nil)
  (b_cons (s_for po (i_e V.bs (r_v n2 (Or.inl rfl))) (gt_tup (gt_cons (gt_name V.bs n3 (Or.inl rfl) (Or.inr rfl)) (gt_cons (gt_name V.bs n4 (Or.inl rfl) (Or.inr rfl)) gt_nil))) (b_cons (s_if (t_bo (w_or (t_not (t_val (r_call V F_is_bar (r_cons (r_v n1 (Or.inl rfl)) (r_cons (r_v n4 (Or.inl rfl)) r_nil))))) (w_or1 (t_bo (w_and (t_gt V.bs (r_v n3 (Or.inl rfl)) r_int) (w_and1 (t_le V.bs (r_v n4 (Or.inl rfl)) (r_ix (r_v n2 (Or.inl rfl)) (r_sub (r_v n3 (Or.inl rfl)) r_int))))))))) (b_cons (s_raise V E_BadBars (r_cons (r_v n3 (Or.inl rfl)) r_nil))
  b_nil) b_nil)
  b_nil))
  (b_cons (s_setN (V.cls C_Cabinet) (V.noa C_Cabinet (by decide)) (r_v n1 (Or.inl rfl)) (r_v n0 (Or.inl rfl)))
  (b_cons (s_setN (V.cls C_Cabinet) (V.noa C_Cabinet (by decide)) (r_v n2 (Or.inl rfl)) (r_v n0 (Or.inl rfl)))
  b_nil)))))
theorem ok_Cabinet_init {A : Ad} {fI : Addr} {fd : FuncData} (Q : Fc P w K mg base A) (F_is_from : FnE P w K mg base 1 "is_from" 3 (c_is_from A)) (F_is_bar : FnE P w K mg base 2 "is_bar" 2 (c_is_bar A)) (Fn : Fun K "__init__" "Cabinet.__init__" s_Cabinet___init__ fI fd) (b : Binds K fd ["self", "drawers", "bars"] []) (M : Mk K A.Cabinet fI) : MkD P w K mg base 3 "Cabinet" A.Cabinet 2 (c_Cabinet_init A) :=
  mk_of Q.T Fn b M Q.C_Cabinet.gl rfl sc_Cabinet_init (fun f cdv Ar outer s H0 E V po => r_Cabinet_init Q F_is_from F_is_bar f cdv Ar outer s H0 E V po) (fun _ _ _ _ h _ => h)
theorem sc_need_cabinet : FnScope ["cabinet"] ["cabinet"] (defScope s_need_cabinet) := ⟨rfl, rfl, rfl, by decide +kernel, rfl, by decide +kernel, by decide +kernel⟩
theorem r_need_cabinet {A : Ad} (Q : Fc P w K mg base A) (f : Addr) (cdv : Value) (Ar : Around) (outer : List Env) (s : Shared) (H0 : Hp) (E : XK) (V : Vw P w K mg base 2 (cxOf (L2.CX P w) P w K mg base ["cabinet"] "need_cabinet" (defScope s_need_cabinet) f cdv Ar outer s H0 E) (Wo E)) (po : PassesOwn (model P w) (cxOf (L2.CX P w) P w K mg base ["cabinet"] "need_cabinet" (defScope s_need_cabinet) f cdv Ar outer s H0 E).A (cxOf (L2.CX P w) P w K mg base ["cabinet"] "need_cabinet" (defScope s_need_cabinet) f cdv Ar outer s H0 E).env (cxOf (L2.CX P w) P w K mg base ["cabinet"] "need_cabinet" (defScope s_need_cabinet) f cdv Ar outer s H0 E).xe) :
    RB (cxOf (L2.CX P w) P w K mg base ["cabinet"] "need_cabinet" (defScope s_need_cabinet) f cdv Ar outer s H0 E) (Wo E) (defBody s_need_cabinet) (t_need_cabinet A) := by
  have n0 : Nam ["cabinet"] 0 "cabinet" := ⟨rfl, by decide, by decide⟩
  have hmt := Q.hmt
  have hfn := Q.hfn
  have E_BadCabinet := Q.E_BadCabinet
  have C_Cabinet := Q.C_Cabinet
  exact (b_cons (s_if (t_not (t_val (r_isiC V.bs (V.cli C_Cabinet) (V.clg C_Cabinet) (r_v n0 (Or.inl rfl))))) (b_cons (s_raise0 V E_BadCabinet)
  b_nil) b_nil)
  b_nil)
theorem ok_need_cabinet {A : Ad} (Q : Fc P w K mg base A) (df : Def K mg "need_cabinet" "need_cabinet" s_need_cabinet ["cabinet"]) : FnE P w K mg base 3 "need_cabinet" 1 (c_need_cabinet A) :=
  fn_of Q.T df sc_need_cabinet (fun f cdv Ar outer s H0 E V po => r_need_cabinet Q f cdv Ar outer s H0 E V po) (fun _ _ _ _ h _ => h)
theorem sc_need_order : FnScope ["cabinet", "order", "one"] ["cabinet", "order"] (defScope s_need_order) := ⟨rfl, rfl, rfl, by decide +kernel, rfl, by decide +kernel, by decide +kernel⟩
theorem r_need_order {A : Ad} (Q : Fc P w K mg base A) (F_is_from : FnE P w K mg base 1 "is_from" 3 (c_is_from A)) (f : Addr) (cdv : Value) (Ar : Around) (outer : List Env) (s : Shared) (H0 : Hp) (E : XK) (V : Vw P w K mg base 2 (cxOf (L2.CX P w) P w K mg base ["cabinet", "order", "one"] "need_order" (defScope s_need_order) f cdv Ar outer s H0 E) (Wo E)) (po : PassesOwn (model P w) (cxOf (L2.CX P w) P w K mg base ["cabinet", "order", "one"] "need_order" (defScope s_need_order) f cdv Ar outer s H0 E).A (cxOf (L2.CX P w) P w K mg base ["cabinet", "order", "one"] "need_order" (defScope s_need_order) f cdv Ar outer s H0 E).env (cxOf (L2.CX P w) P w K mg base ["cabinet", "order", "one"] "need_order" (defScope s_need_order) f cdv Ar outer s H0 E).xe) :
    RB (cxOf (L2.CX P w) P w K mg base ["cabinet", "order", "one"] "need_order" (defScope s_need_order) f cdv Ar outer s H0 E) (Wo E) (defBody s_need_order) (t_need_order A) := by
  have n0 : Nam ["cabinet", "order", "one"] 0 "cabinet" := ⟨rfl, by decide, by decide⟩
  have n1 : Nam ["cabinet", "order", "one"] 1 "order" := ⟨rfl, by decide, by decide⟩
  have n2 : Nam ["cabinet", "order", "one"] 2 "one" := ⟨rfl, by decide, by decide⟩
  have hmt := Q.hmt
  have hfn := Q.hfn
  have E_BadOrder := Q.E_BadOrder
  have C_Cabinet := Q.C_Cabinet
  exact (b_cons (s_if (t_bo (w_or (t_not (t_val (r_isi_tuple V.bs (r_v n1 (Or.inl rfl))))) (w_or1 (t_ne V.bs (r_len V.bs (r_v n1 (Or.inl rfl))) (r_fld (ns := ["many", "locks"]) (j := 0) (V.cls C_Cabinet) (V.noa C_Cabinet (by decide)) (r_v n0 (Or.inr (Or.inl rfl)))))))) (b_cons (s_raise0 V E_BadOrder)
  b_nil) b_nil)
  (b_cons (s_if (t_bo (w_or (t_not (t_val (r_all V.bs (r_lc (own := [("one", 2)]) V.bs (show BlkOk ["cabinet", "order", "one"] (defScope s_need_order) _ [("one", 2)] from ⟨rfl, by decide +kernel, by decide +kernel, by decide +kernel, by decide +kernel⟩) (tgt_name (j := 2) (vs := [2]) (by decide)) (fun _ _ _ _ _ => pg_name (i := 2) V.bs.nd rfl (by first | exact Or.inl rfl | exact Or.inr rfl)) (i_q (r_v n1 (Or.inl rfl))) tb_none ⟨fun _ _ _ _ _ => (r_call V.blk F_is_from (r_cons (r_v n2 (by first | exact Or.inl rfl | exact Or.inr (Or.inl rfl) | exact Or.inr (Or.inr rfl))) (r_cons r_int (r_cons (r_sub (r_fld (ns := ["many", "locks"]) (j := 0) (V.blk.cls C_Cabinet) (V.blk.noa C_Cabinet (by decide)) (r_v n0 (by first | exact Or.inl rfl | exact Or.inr (Or.inl rfl) | exact Or.inr (Or.inr rfl)))) r_int) r_nil))))⟩)))) (w_or1 (t_ne V.bs (r_lenSetN V.bs (r_v n1 (Or.inl rfl))) (r_len V.bs (r_v n1 (Or.inl rfl))))))) (b_cons (s_raise0 V E_BadOrder)
  b_nil) b_nil)
  b_nil))
theorem ok_need_order {A : Ad} (Q : Fc P w K mg base A) (F_is_from : FnE P w K mg base 1 "is_from" 3 (c_is_from A)) (df : Def K mg "need_order" "need_order" s_need_order ["cabinet", "order"]) : FnE P w K mg base 3 "need_order" 2 (c_need_order A) :=
  fn_of Q.T df sc_need_order (fun f cdv Ar outer s H0 E V po => r_need_order Q F_is_from f cdv Ar outer s H0 E V po) (fun _ _ _ _ h _ => h)
theorem sc_bars_by : FnScope ["cabinet", "order", "bars", "mover", "way", "other", "stand"] ["cabinet", "order"] (defScope s_bars_by) := ⟨rfl, rfl, rfl, by decide +kernel, rfl, by decide +kernel, by decide +kernel⟩
theorem r_bars_by {A : Ad} (Q : Fc P w K mg base A) (f : Addr) (cdv : Value) (Ar : Around) (outer : List Env) (s : Shared) (H0 : Hp) (E : XK) (V : Vw P w K mg base 0 (cxOf (L2.CX P w) P w K mg base ["cabinet", "order", "bars", "mover", "way", "other", "stand"] "bars_by" (defScope s_bars_by) f cdv Ar outer s H0 E) (Wo E)) (po : PassesOwn (model P w) (cxOf (L2.CX P w) P w K mg base ["cabinet", "order", "bars", "mover", "way", "other", "stand"] "bars_by" (defScope s_bars_by) f cdv Ar outer s H0 E).A (cxOf (L2.CX P w) P w K mg base ["cabinet", "order", "bars", "mover", "way", "other", "stand"] "bars_by" (defScope s_bars_by) f cdv Ar outer s H0 E).env (cxOf (L2.CX P w) P w K mg base ["cabinet", "order", "bars", "mover", "way", "other", "stand"] "bars_by" (defScope s_bars_by) f cdv Ar outer s H0 E).xe) :
    RB (cxOf (L2.CX P w) P w K mg base ["cabinet", "order", "bars", "mover", "way", "other", "stand"] "bars_by" (defScope s_bars_by) f cdv Ar outer s H0 E) (Wo E) (defBody s_bars_by) (t_bars_by A) := by
  have n0 : Nam ["cabinet", "order", "bars", "mover", "way", "other", "stand"] 0 "cabinet" := ⟨rfl, by decide, by decide⟩
  have n1 : Nam ["cabinet", "order", "bars", "mover", "way", "other", "stand"] 1 "order" := ⟨rfl, by decide, by decide⟩
  have n2 : Nam ["cabinet", "order", "bars", "mover", "way", "other", "stand"] 2 "bars" := ⟨rfl, by decide, by decide⟩
  have n3 : Nam ["cabinet", "order", "bars", "mover", "way", "other", "stand"] 3 "mover" := ⟨rfl, by decide, by decide⟩
  have n4 : Nam ["cabinet", "order", "bars", "mover", "way", "other", "stand"] 4 "way" := ⟨rfl, by decide, by decide⟩
  have n5 : Nam ["cabinet", "order", "bars", "mover", "way", "other", "stand"] 5 "other" := ⟨rfl, by decide, by decide⟩
  have n6 : Nam ["cabinet", "order", "bars", "mover", "way", "other", "stand"] 6 "stand" := ⟨rfl, by decide, by decide⟩
  have hmt := Q.hmt
  have hfn := Q.hfn
  have C_Cabinet := Q.C_Cabinet
  exact (b_cons (s_setLc (i := 2) V.bs (show BlkOk ["cabinet", "order", "bars", "mover", "way", "other", "stand"] (defScope s_bars_by) _ [("mover", 3), ("way", 4), ("other", 5), ("stand", 6)] from ⟨rfl, by decide +kernel, by decide +kernel, by decide +kernel, by decide +kernel⟩) (own := [("mover", 3), ("way", 4), ("other", 5), ("stand", 6)]) (tgt_tup (js := [3, 4, 5, 6]) (vs := [3, 4, 5, 6]) rfl (by decide)) (fun _ _ _ _ _ => pg_tup rfl (pgs_cons (pg_name (i := 3) V.bs.nd rfl (by first | exact Or.inl rfl | exact Or.inr rfl)) (pgs_cons (pg_name (i := 4) V.bs.nd rfl (by first | exact Or.inl rfl | exact Or.inr rfl)) (pgs_cons (pg_name (i := 5) V.bs.nd rfl (by first | exact Or.inl rfl | exact Or.inr rfl)) (pgs_cons (pg_name (i := 6) V.bs.nd rfl (by first | exact Or.inl rfl | exact Or.inr rfl)) pgs_nil rfl) rfl) rfl) rfl) rfl rfl) (i_q (r_fld (ns := ["many", "locks"]) (j := 1) (V.cls C_Cabinet) (V.noa C_Cabinet (by decide)) (r_v n0 (Or.inl rfl)))) tb_none ⟨fun _ _ _ _ _ => (r_tup (r_cons (r_nix (r_v n1 (by first | exact Or.inl rfl | exact Or.inr (Or.inl rfl) | exact Or.inr (Or.inr rfl))) (r_cons (r_v n3 (by first | exact Or.inl rfl | exact Or.inr (Or.inl rfl) | exact Or.inr (Or.inr rfl))) r_nil)) (r_cons (r_v n4 (by first | exact Or.inl rfl | exact Or.inr (Or.inl rfl) | exact Or.inr (Or.inr rfl))) (r_cons (r_nix (r_v n1 (by first | exact Or.inl rfl | exact Or.inr (Or.inl rfl) | exact Or.inr (Or.inr rfl))) (r_cons (r_v n5 (by first | exact Or.inl rfl | exact Or.inr (Or.inl rfl) | exact Or.inr (Or.inr rfl))) r_nil)) (r_cons (r_v n6 (by first | exact Or.inl rfl | exact Or.inr (Or.inl rfl) | exact Or.inr (Or.inr rfl))) r_nil)))))⟩)
  (b_cons (s_ret (r_tupc V.bs (r_sorted V.bs (r_v n2 (Or.inl rfl)))))
  b_nil))
theorem ok_bars_by {A : Ad} (Q : Fc P w K mg base A) (df : Def K mg "bars_by" "bars_by" s_bars_by ["cabinet", "order"]) : FnE P w K mg base 1 "bars_by" 2 (c_bars_by A) :=
  fn_of Q.T df sc_bars_by (fun f cdv Ar outer s H0 E V po => r_bars_by Q f cdv Ar outer s H0 E V po) (fun _ _ _ _ h _ => h)
theorem sc_renamed : FnScope ["cabinet", "order"] ["cabinet", "order"] (defScope s_renamed) := ⟨rfl, rfl, rfl, by decide +kernel, rfl, by decide +kernel, by decide +kernel⟩
theorem r_renamed {A : Ad} (Q : Fc P w K mg base A) (F_need_cabinet : FnE P w K mg base 3 "need_cabinet" 1 (c_need_cabinet A)) (F_need_order : FnE P w K mg base 3 "need_order" 2 (c_need_order A)) (M_Cabinet : MkD P w K mg base 3 "Cabinet" A.Cabinet 2 (c_Cabinet_init A)) (F_bars_by : FnE P w K mg base 1 "bars_by" 2 (c_bars_by A)) (f : Addr) (cdv : Value) (Ar : Around) (outer : List Env) (s : Shared) (H0 : Hp) (E : XK) (V : Vw P w K mg base 4 (cxOf (L2.CX P w) P w K mg base ["cabinet", "order"] "renamed" (defScope s_renamed) f cdv Ar outer s H0 E) (Wo E)) (po : PassesOwn (model P w) (cxOf (L2.CX P w) P w K mg base ["cabinet", "order"] "renamed" (defScope s_renamed) f cdv Ar outer s H0 E).A (cxOf (L2.CX P w) P w K mg base ["cabinet", "order"] "renamed" (defScope s_renamed) f cdv Ar outer s H0 E).env (cxOf (L2.CX P w) P w K mg base ["cabinet", "order"] "renamed" (defScope s_renamed) f cdv Ar outer s H0 E).xe) :
    RB (cxOf (L2.CX P w) P w K mg base ["cabinet", "order"] "renamed" (defScope s_renamed) f cdv Ar outer s H0 E) (Wo E) (defBody s_renamed) (t_renamed A) := by
  have n0 : Nam ["cabinet", "order"] 0 "cabinet" := ⟨rfl, by decide, by decide⟩
  have n1 : Nam ["cabinet", "order"] 1 "order" := ⟨rfl, by decide, by decide⟩
  have hmt := Q.hmt
  have hfn := Q.hfn
  have C_Cabinet := Q.C_Cabinet
  exact (b_cons (s_ex (r_call V F_need_cabinet (r_cons (r_v n0 (Or.inl rfl)) r_nil)))
  (b_cons (s_ex (r_call V F_need_order (r_cons (r_v n0 (Or.inl rfl)) (r_cons (r_v n1 (Or.inl rfl)) r_nil))))
  (b_cons (s_ret (r_make V M_Cabinet (r_cons (r_fld (ns := ["many", "locks"]) (j := 0) (V.cls C_Cabinet) (V.noa C_Cabinet (by decide)) (r_v n0 (Or.inl rfl))) (r_cons (r_call V F_bars_by (r_cons (r_v n0 (Or.inl rfl)) (r_cons (r_v n1 (Or.inl rfl)) r_nil))) r_nil))))
  b_nil)))
theorem ok_renamed {A : Ad} (Q : Fc P w K mg base A) (F_need_cabinet : FnE P w K mg base 3 "need_cabinet" 1 (c_need_cabinet A)) (F_need_order : FnE P w K mg base 3 "need_order" 2 (c_need_order A)) (M_Cabinet : MkD P w K mg base 3 "Cabinet" A.Cabinet 2 (c_Cabinet_init A)) (F_bars_by : FnE P w K mg base 1 "bars_by" 2 (c_bars_by A)) (df : Def K mg "renamed" "renamed" s_renamed ["cabinet", "order"]) : FnE P w K mg base 5 "renamed" 2 (c_renamed A) :=
  fn_of Q.T df sc_renamed (fun f cdv Ar outer s H0 E V po => r_renamed Q F_need_cabinet F_need_order M_Cabinet F_bars_by f cdv Ar outer s H0 E V po) (fun _ _ _ _ h _ => h)
theorem sc_orders_of : FnScope ["many", "found", "turn", "some", "one"] ["many"] (defScope s_orders_of) := ⟨rfl, rfl, rfl, by decide +kernel, rfl, by decide +kernel, by decide +kernel⟩
theorem r_orders_of {A : Ad} (Q : Fc P w K mg base A) (f : Addr) (cdv : Value) (Ar : Around) (outer : List Env) (s : Shared) (H0 : Hp) (E : XK) (V : Vw P w K mg base 0 (cxOf (L2.CX P w) P w K mg base ["many", "found", "turn", "some", "one"] "orders_of" (defScope s_orders_of) f cdv Ar outer s H0 E) (Wo E)) (po : PassesOwn (model P w) (cxOf (L2.CX P w) P w K mg base ["many", "found", "turn", "some", "one"] "orders_of" (defScope s_orders_of) f cdv Ar outer s H0 E).A (cxOf (L2.CX P w) P w K mg base ["many", "found", "turn", "some", "one"] "orders_of" (defScope s_orders_of) f cdv Ar outer s H0 E).env (cxOf (L2.CX P w) P w K mg base ["many", "found", "turn", "some", "one"] "orders_of" (defScope s_orders_of) f cdv Ar outer s H0 E).xe) :
    RB (cxOf (L2.CX P w) P w K mg base ["many", "found", "turn", "some", "one"] "orders_of" (defScope s_orders_of) f cdv Ar outer s H0 E) (Wo E) (defBody s_orders_of) (t_orders_of A) := by
  have n0 : Nam ["many", "found", "turn", "some", "one"] 0 "many" := ⟨rfl, by decide, by decide⟩
  have n1 : Nam ["many", "found", "turn", "some", "one"] 1 "found" := ⟨rfl, by decide, by decide⟩
  have n2 : Nam ["many", "found", "turn", "some", "one"] 2 "turn" := ⟨rfl, by decide, by decide⟩
  have n3 : Nam ["many", "found", "turn", "some", "one"] 3 "some" := ⟨rfl, by decide, by decide⟩
  have n4 : Nam ["many", "found", "turn", "some", "one"] 4 "one" := ⟨rfl, by decide, by decide⟩
  have hmt := Q.hmt
  have hfn := Q.hfn
  exact (b_cons (s_set V.bs n1 (Or.inl rfl) (Or.inr rfl) (r_lst (r_cons (r_tupN r_nil) r_nil)))
  (b_cons (s_for po (i_r V.bs (r_v n0 (Or.inr (Or.inl rfl)))) (gt_name V.bs n2 (Or.inl rfl) (Or.inr rfl)) (b_cons (s_setLc2 (i := 1) (own := [("some", 3), ("one", 4)]) V.bs (blkOk_by (by rfl)) (tgt_name (j := 3) (vs := [3, 4]) (by decide)) (tgt_name (j := 4) (vs := [4]) (by decide)) (fun _ _ _ _ _ => pg_name (i := 3) V.bs.blk.nd rfl (by first | exact Or.inl rfl | exact Or.inr rfl) (by first | exact Or.inl rfl | exact Or.inr rfl)) (fun _ _ _ _ _ => pg_name (i := 4) V.bs.blk.nd rfl (by first | exact Or.inl rfl | exact Or.inr rfl) (by first | exact Or.inl rfl | exact Or.inr rfl)) (i_q (r_v n1 (Or.inl rfl))) tb_none ⟨fun _ _ _ _ _ => (i_r V.bs.blk (r_v n0 (by first | exact Or.inl rfl | exact Or.inr (Or.inl rfl) | exact Or.inr (Or.inr rfl))))⟩ (tb_one fun _ _ _ _ _ => (t_notin V.bs.blk (r_v n4 (by first | exact Or.inl rfl | exact Or.inr (Or.inl rfl) | exact Or.inr (Or.inr rfl))) (r_v n3 (by first | exact Or.inl rfl | exact Or.inr (Or.inl rfl) | exact Or.inr (Or.inr rfl))))) ⟨fun _ _ _ _ _ => (r_addN (r_v n3 (by first | exact Or.inl rfl | exact Or.inr (Or.inl rfl) | exact Or.inr (Or.inr rfl))) (r_tupN (r_cons (r_v n4 (by first | exact Or.inl rfl | exact Or.inr (Or.inl rfl) | exact Or.inr (Or.inr rfl))) r_nil)))⟩)
  b_nil))
  (b_cons (s_ret (r_v n1 (Or.inl rfl)))
  b_nil)))
theorem ok_orders_of {A : Ad} (Q : Fc P w K mg base A) (df : Def K mg "orders_of" "orders_of" s_orders_of ["many"]) : FnE P w K mg base 1 "orders_of" 1 (c_orders_of A) :=
  fn_of Q.T df sc_orders_of (fun f cdv Ar outer s H0 E V po => r_orders_of Q f cdv Ar outer s H0 E V po) (fun _ _ _ _ h _ => h)
theorem sc_keeping : FnScope ["cabinet", "order"] ["cabinet"] (defScope s_keeping) := ⟨rfl, rfl, rfl, by decide +kernel, rfl, by decide +kernel, by decide +kernel⟩
theorem r_keeping {A : Ad} (Q : Fc P w K mg base A) (F_need_cabinet : FnE P w K mg base 3 "need_cabinet" 1 (c_need_cabinet A)) (F_orders_of : FnE P w K mg base 1 "orders_of" 1 (c_orders_of A)) (F_bars_by : FnE P w K mg base 1 "bars_by" 2 (c_bars_by A)) (f : Addr) (cdv : Value) (Ar : Around) (outer : List Env) (s : Shared) (H0 : Hp) (E : XK) (V : Vw P w K mg base 3 (cxOf (L2.CX P w) P w K mg base ["cabinet", "order"] "keeping" (defScope s_keeping) f cdv Ar outer s H0 E) (Wo E)) (po : PassesOwn (model P w) (cxOf (L2.CX P w) P w K mg base ["cabinet", "order"] "keeping" (defScope s_keeping) f cdv Ar outer s H0 E).A (cxOf (L2.CX P w) P w K mg base ["cabinet", "order"] "keeping" (defScope s_keeping) f cdv Ar outer s H0 E).env (cxOf (L2.CX P w) P w K mg base ["cabinet", "order"] "keeping" (defScope s_keeping) f cdv Ar outer s H0 E).xe) :
    RB (cxOf (L2.CX P w) P w K mg base ["cabinet", "order"] "keeping" (defScope s_keeping) f cdv Ar outer s H0 E) (Wo E) (defBody s_keeping) (t_keeping A) := by
  have n0 : Nam ["cabinet", "order"] 0 "cabinet" := ⟨rfl, by decide, by decide⟩
  have n1 : Nam ["cabinet", "order"] 1 "order" := ⟨rfl, by decide, by decide⟩
  have hmt := Q.hmt
  have hfn := Q.hfn
  have C_Cabinet := Q.C_Cabinet
  exact (b_cons (s_ex (r_call V F_need_cabinet (r_cons (r_v n0 (Or.inr (Or.inl rfl))) r_nil)))
  (b_cons (s_ret (r_lc (own := [("order", 1)]) V.bs (show BlkOk ["cabinet", "order"] (defScope s_keeping) _ [("order", 1)] from ⟨rfl, by decide +kernel, by decide +kernel, by decide +kernel, by decide +kernel⟩) (tgt_name (j := 1) (vs := [1]) (by decide)) (fun _ _ _ _ _ => pg_name (i := 1) V.bs.nd rfl (by first | exact Or.inl rfl | exact Or.inr rfl)) (i_q (r_call V F_orders_of (r_cons (r_fld (ns := ["many", "locks"]) (j := 0) (V.cls C_Cabinet) (V.noa C_Cabinet (by decide)) (r_v n0 (Or.inr (Or.inl rfl)))) r_nil))) (tb_one fun _ _ _ _ _ => (t_eq V.bs.blk (r_call V.blk F_bars_by (r_cons (r_v n0 (by first | exact Or.inl rfl | exact Or.inr (Or.inl rfl) | exact Or.inr (Or.inr rfl))) (r_cons (r_v n1 (by first | exact Or.inl rfl | exact Or.inr (Or.inl rfl) | exact Or.inr (Or.inr rfl))) r_nil))) (r_fld (ns := ["many", "locks"]) (j := 1) (V.blk.cls C_Cabinet) (V.blk.noa C_Cabinet (by decide)) (r_v n0 (by first | exact Or.inl rfl | exact Or.inr (Or.inl rfl) | exact Or.inr (Or.inr rfl)))))) ⟨fun _ _ _ _ _ => (r_v n1 (by first | exact Or.inl rfl | exact Or.inr (Or.inl rfl) | exact Or.inr (Or.inr rfl)))⟩))
  b_nil))
theorem ok_keeping {A : Ad} (Q : Fc P w K mg base A) (F_need_cabinet : FnE P w K mg base 3 "need_cabinet" 1 (c_need_cabinet A)) (F_orders_of : FnE P w K mg base 1 "orders_of" 1 (c_orders_of A)) (F_bars_by : FnE P w K mg base 1 "bars_by" 2 (c_bars_by A)) (df : Def K mg "keeping" "keeping" s_keeping ["cabinet"]) : FnE P w K mg base 4 "keeping" 1 (c_keeping A) :=
  fn_of Q.T df sc_keeping (fun f cdv Ar outer s H0 E V po => r_keeping Q F_need_cabinet F_orders_of F_bars_by f cdv Ar outer s H0 E V po) (fun _ _ _ _ h _ => h)
theorem sc_Cabinet_eq : FnScope ["self", "other"] ["self", "other"] (defScope s_Cabinet___eq__) := ⟨rfl, rfl, rfl, by decide +kernel, rfl, by decide +kernel, by decide +kernel⟩
theorem r_Cabinet_eq {A : Ad} (Q : Fc P w K mg base A) (f : Addr) (cdv : Value) (Ar : Around) (outer : List Env) (s : Shared) (H0 : Hp) (E : XK) (V : Vw P w K mg base 0 (cxOf (L2.CX P w) P w K mg base ["self", "other"] "Cabinet.__eq__" (defScope s_Cabinet___eq__) f cdv Ar outer s H0 E) (Wo E)) (po : PassesOwn (model P w) (cxOf (L2.CX P w) P w K mg base ["self", "other"] "Cabinet.__eq__" (defScope s_Cabinet___eq__) f cdv Ar outer s H0 E).A (cxOf (L2.CX P w) P w K mg base ["self", "other"] "Cabinet.__eq__" (defScope s_Cabinet___eq__) f cdv Ar outer s H0 E).env (cxOf (L2.CX P w) P w K mg base ["self", "other"] "Cabinet.__eq__" (defScope s_Cabinet___eq__) f cdv Ar outer s H0 E).xe) :
    RB (cxOf (L2.CX P w) P w K mg base ["self", "other"] "Cabinet.__eq__" (defScope s_Cabinet___eq__) f cdv Ar outer s H0 E) (Wo E) (defBody s_Cabinet___eq__) (t_Cabinet_eq A) := by
  have n0 : Nam ["self", "other"] 0 "self" := ⟨rfl, by decide, by decide⟩
  have n1 : Nam ["self", "other"] 1 "other" := ⟨rfl, by decide, by decide⟩
  have hmt := Q.hmt
  have hfn := Q.hfn
  have C_Cabinet := Q.C_Cabinet
  exact (b_cons (s_ret (r_and (r_isiC V.bs (V.cli C_Cabinet) (V.clg C_Cabinet) (r_v n1 (Or.inl rfl))) (r_and (r_eq V.bs (r_fld (ns := ["many", "locks"]) (j := 0) (V.cls C_Cabinet) (V.noa C_Cabinet (by decide)) (r_v n0 (Or.inl rfl))) (r_fld (ns := ["many", "locks"]) (j := 0) (V.cls C_Cabinet) (V.noa C_Cabinet (by decide)) (r_v n1 (Or.inl rfl)))) (r_one (r_eq V.bs (r_fld (ns := ["many", "locks"]) (j := 1) (V.cls C_Cabinet) (V.noa C_Cabinet (by decide)) (r_v n0 (Or.inl rfl))) (r_fld (ns := ["many", "locks"]) (j := 1) (V.cls C_Cabinet) (V.noa C_Cabinet (by decide)) (r_v n1 (Or.inl rfl))))))))
  b_nil)
theorem ok_Cabinet_eq {A : Ad} {f0 : Addr} {fd : FuncData} (Q : Fc P w K mg base A) (nf : PySem.W.notFirst K A.Cabinet (.type "tuple") = true) (Fn : Fun K "__eq__" "Cabinet.__eq__" s_Cabinet___eq__ f0 fd) (b : Binds K fd ["self", "other"] []) (M : Meth K A.Cabinet "__eq__" f0) : EqD P w K mg base 1 A.Cabinet (c_Cabinet_eq A) :=
  ⟨⟨f0, fd, _, rfl, M, nf, fk_of (ps := ["self", "other"]) Q.T Fn sc_Cabinet_eq (fun f cdv Ar outer s H0 E V po => r_Cabinet_eq Q f cdv Ar outer s H0 E V po) (fun _ _ _ _ h _ => h), b⟩⟩
theorem sc_law_taken : FnScope ["_law_row", "_law_many", "_law_found", "_law_cell"] ["_law_row", "_law_many"] (defScope s_law_taken) := ⟨rfl, rfl, rfl, by decide +kernel, rfl, by decide +kernel, by decide +kernel⟩
theorem r_law_taken {A : Ad} (Q : Fc P w K mg base A) (f : Addr) (cdv : Value) (Ar : Around) (outer : List Env) (s : Shared) (H0 : Hp) (E : XK) (V : Vw P w K mg base 0 (cxOf (L2.CX P w) P w K mg base ["_law_row", "_law_many", "_law_found", "_law_cell"] "_law_taken" (defScope s_law_taken) f cdv Ar outer s H0 E) (Wo E)) (po : PassesOwn (model P w) (cxOf (L2.CX P w) P w K mg base ["_law_row", "_law_many", "_law_found", "_law_cell"] "_law_taken" (defScope s_law_taken) f cdv Ar outer s H0 E).A (cxOf (L2.CX P w) P w K mg base ["_law_row", "_law_many", "_law_found", "_law_cell"] "_law_taken" (defScope s_law_taken) f cdv Ar outer s H0 E).env (cxOf (L2.CX P w) P w K mg base ["_law_row", "_law_many", "_law_found", "_law_cell"] "_law_taken" (defScope s_law_taken) f cdv Ar outer s H0 E).xe) :
    RB (cxOf (L2.CX P w) P w K mg base ["_law_row", "_law_many", "_law_found", "_law_cell"] "_law_taken" (defScope s_law_taken) f cdv Ar outer s H0 E) (Wo E) (defBody s_law_taken) (t_law_taken A) := by
  have n0 : Nam ["_law_row", "_law_many", "_law_found", "_law_cell"] 0 "_law_row" := ⟨rfl, by decide, by decide⟩
  have n1 : Nam ["_law_row", "_law_many", "_law_found", "_law_cell"] 1 "_law_many" := ⟨rfl, by decide, by decide⟩
  have n2 : Nam ["_law_row", "_law_many", "_law_found", "_law_cell"] 2 "_law_found" := ⟨rfl, by decide, by decide⟩
  have n3 : Nam ["_law_row", "_law_many", "_law_found", "_law_cell"] 3 "_law_cell" := ⟨rfl, by decide, by decide⟩
  have hmt := Q.hmt
  have hfn := Q.hfn
  exact (b_cons (s_if (t_gt V.bs (r_ix (r_v n0 (Or.inl rfl)) r_int) r_int) (b_cons (s_set V.bs n2 (Or.inl rfl) (Or.inr rfl) (r_mod (r_intc V.bs (r_ix (r_v n0 (Or.inl rfl)) r_int)) (r_v n1 (Or.inl rfl))))
  (b_cons (s_asg (gt_put V.bs (r_v n0 (Or.inl rfl)) r_int) (r_fdv (r_ix (r_v n0 (Or.inl rfl)) r_int) (r_v n1 (Or.inl rfl))))
  (b_cons (s_ret (r_v n2 (Or.inl rfl)))
  b_nil))) b_nil)
  (b_cons (s_asg (gt_put V.bs (r_v n0 (Or.inl rfl)) r_int) (r_add (r_ix (r_v n0 (Or.inl rfl)) r_int) r_int))
  (b_cons (s_if (t_gt V.bs (r_ix (r_v n0 (Or.inl rfl)) r_int) (r_len V.bs (r_ix (r_v n0 (Or.inl rfl)) r_int))) (b_cons (s_asg (gt_put V.bs (r_v n0 (Or.inl rfl)) r_int) (r_mod (r_intc V.bs (r_add (r_mul (r_ix (r_v n0 (Or.inl rfl)) r_int) r_int) r_int)) r_int))
  (b_cons (s_ret (r_mod (r_intc V.bs (r_fdv (r_ix (r_v n0 (Or.inl rfl)) r_int) r_int)) (r_v n1 (Or.inl rfl))))
  b_nil)) b_nil)
  (b_cons (s_set V.bs n3 (Or.inl rfl) (Or.inr rfl) (r_ix (r_ix (r_v n0 (Or.inl rfl)) r_int) (r_sub (r_ix (r_v n0 (Or.inl rfl)) r_int) r_int)))
  (b_cons (s_asg (gt_put V.bs (r_v n0 (Or.inl rfl)) r_int) (r_mod (r_intc V.bs (r_add (r_add (r_mul (r_ix (r_v n0 (Or.inl rfl)) r_int) r_int) (r_v n3 (Or.inl rfl))) r_int)) r_int))
  (b_cons (s_if (t_ge V.bs (r_v n3 (Or.inl rfl)) (r_pow r_int r_int)) (b_cons (s_asg (gt_put V.bs (r_v n0 (Or.inl rfl)) r_int) (r_fdv (r_v n3 (Or.inl rfl)) (r_v n1 (Or.inl rfl))))
  b_nil) b_nil)
  (b_cons (s_ret (r_mod (r_intc V.bs (r_v n3 (Or.inl rfl))) (r_v n1 (Or.inl rfl))))
  b_nil)))))))
theorem ok_law_taken {A : Ad} (Q : Fc P w K mg base A) (df : Def K mg "_law_taken" "_law_taken" s_law_taken ["_law_row", "_law_many"]) : FnE P w K mg base 1 "_law_taken" 2 (c_law_taken A) :=
  fn_of Q.T df sc_law_taken (fun f cdv Ar outer s H0 E V po => r_law_taken Q f cdv Ar outer s H0 E V po) (fun _ _ _ _ h _ => h)
theorem sc_law_parts : FnScope ["_law_row", "_law_most", "_law_many", "_law_found", "_law_k", "_law_drawer", "_law_other", "_law_way", "_law_stand"] ["_law_row", "_law_most"] (defScope s_law_parts) := ⟨rfl, rfl, rfl, by decide +kernel, rfl, by decide +kernel, by decide +kernel⟩
theorem r_law_parts {A : Ad} (Q : Fc P w K mg base A) (F_law_taken : FnE P w K mg base 1 "_law_taken" 2 (c_law_taken A)) (f : Addr) (cdv : Value) (Ar : Around) (outer : List Env) (s : Shared) (H0 : Hp) (E : XK) (V : Vw P w K mg base 1 (cxOf (L2.CX P w) P w K mg base ["_law_row", "_law_most", "_law_many", "_law_found", "_law_k", "_law_drawer", "_law_other", "_law_way", "_law_stand"] "_law_parts" (defScope s_law_parts) f cdv Ar outer s H0 E) (Wo E)) (po : PassesOwn (model P w) (cxOf (L2.CX P w) P w K mg base ["_law_row", "_law_most", "_law_many", "_law_found", "_law_k", "_law_drawer", "_law_other", "_law_way", "_law_stand"] "_law_parts" (defScope s_law_parts) f cdv Ar outer s H0 E).A (cxOf (L2.CX P w) P w K mg base ["_law_row", "_law_most", "_law_many", "_law_found", "_law_k", "_law_drawer", "_law_other", "_law_way", "_law_stand"] "_law_parts" (defScope s_law_parts) f cdv Ar outer s H0 E).env (cxOf (L2.CX P w) P w K mg base ["_law_row", "_law_most", "_law_many", "_law_found", "_law_k", "_law_drawer", "_law_other", "_law_way", "_law_stand"] "_law_parts" (defScope s_law_parts) f cdv Ar outer s H0 E).xe) :
    RB (cxOf (L2.CX P w) P w K mg base ["_law_row", "_law_most", "_law_many", "_law_found", "_law_k", "_law_drawer", "_law_other", "_law_way", "_law_stand"] "_law_parts" (defScope s_law_parts) f cdv Ar outer s H0 E) (Wo E) (defBody s_law_parts) (t_law_parts A) := by
  have n0 : Nam ["_law_row", "_law_most", "_law_many", "_law_found", "_law_k", "_law_drawer", "_law_other", "_law_way", "_law_stand"] 0 "_law_row" := ⟨rfl, by decide, by decide⟩
  have n1 : Nam ["_law_row", "_law_most", "_law_many", "_law_found", "_law_k", "_law_drawer", "_law_other", "_law_way", "_law_stand"] 1 "_law_most" := ⟨rfl, by decide, by decide⟩
  have n2 : Nam ["_law_row", "_law_most", "_law_many", "_law_found", "_law_k", "_law_drawer", "_law_other", "_law_way", "_law_stand"] 2 "_law_many" := ⟨rfl, by decide, by decide⟩
  have n3 : Nam ["_law_row", "_law_most", "_law_many", "_law_found", "_law_k", "_law_drawer", "_law_other", "_law_way", "_law_stand"] 3 "_law_found" := ⟨rfl, by decide, by decide⟩
  have n4 : Nam ["_law_row", "_law_most", "_law_many", "_law_found", "_law_k", "_law_drawer", "_law_other", "_law_way", "_law_stand"] 4 "_law_k" := ⟨rfl, by decide, by decide⟩
  have n5 : Nam ["_law_row", "_law_most", "_law_many", "_law_found", "_law_k", "_law_drawer", "_law_other", "_law_way", "_law_stand"] 5 "_law_drawer" := ⟨rfl, by decide, by decide⟩
  have n6 : Nam ["_law_row", "_law_most", "_law_many", "_law_found", "_law_k", "_law_drawer", "_law_other", "_law_way", "_law_stand"] 6 "_law_other" := ⟨rfl, by decide, by decide⟩
  have n7 : Nam ["_law_row", "_law_most", "_law_many", "_law_found", "_law_k", "_law_drawer", "_law_other", "_law_way", "_law_stand"] 7 "_law_way" := ⟨rfl, by decide, by decide⟩
  have n8 : Nam ["_law_row", "_law_most", "_law_many", "_law_found", "_law_k", "_law_drawer", "_law_other", "_law_way", "_law_stand"] 8 "_law_stand" := ⟨rfl, by decide, by decide⟩
  have hmt := Q.hmt
  have hfn := Q.hfn
  exact (b_cons (s_par 2 3 V.bs (r_add r_int (r_call V F_law_taken (r_cons (r_v n0 (Or.inl rfl)) (r_cons (r_v n1 (Or.inl rfl)) r_nil)))) r_dnT)
  (b_cons (s_for po (i_r V.bs (r_call V F_law_taken (r_cons (r_v n0 (Or.inl rfl)) (r_cons (r_ix (r_lst (r_cons r_int (r_cons r_int (r_cons r_int r_nil)))) (r_call V F_law_taken (r_cons (r_v n0 (Or.inl rfl)) (r_cons r_int r_nil)))) r_nil)))) (gt_name V.bs n4 (Or.inl rfl) (Or.inr rfl)) (b_cons (s_par 5 6 V.bs (r_call V F_law_taken (r_cons (r_v n0 (Or.inl rfl)) (r_cons (r_v n2 (Or.inl rfl)) r_nil))) (r_call V F_law_taken (r_cons (r_v n0 (Or.inl rfl)) (r_cons (r_v n2 (Or.inl rfl)) r_nil))))
  (b_cons (s_if (t_ne V.bs (r_v n5 (Or.inl rfl)) (r_v n6 (Or.inl rfl))) (b_cons (s_par 7 8 V.bs (r_ix (r_lst (r_cons r_str (r_cons r_str r_nil))) (r_fdv (r_call V F_law_taken (r_cons (r_v n0 (Or.inl rfl)) (r_cons r_int r_nil))) r_int)) (r_ix (r_lst (r_cons r_str (r_cons r_str r_nil))) (r_call V F_law_taken (r_cons (r_v n0 (Or.inl rfl)) (r_cons r_int r_nil)))))
  (b_cons (s_asg (gt_put V.bs (r_v n3 (Or.inl rfl)) (r_tup (r_cons (r_v n5 (Or.inl rfl)) (r_cons (r_v n7 (Or.inl rfl)) (r_cons (r_v n6 (Or.inl rfl)) (r_cons (r_v n8 (Or.inl rfl)) r_nil)))))) r_bl)
  b_nil)) b_nil)
  b_nil)))
  (b_cons (s_ret (r_lst (r_cons (r_v n2 (Or.inl rfl)) (r_cons (r_tupc V.bs (r_sorted V.bs (r_fz (r_v n3 (Or.inl rfl))))) r_nil))))
  b_nil)))
theorem ok_law_parts {A : Ad} (Q : Fc P w K mg base A) (F_law_taken : FnE P w K mg base 1 "_law_taken" 2 (c_law_taken A)) (df : Def K mg "_law_parts" "_law_parts" s_law_parts ["_law_row", "_law_most"]) : FnE P w K mg base 2 "_law_parts" 2 (c_law_parts A) :=
  fn_of Q.T df sc_law_parts (fun f cdv Ar outer s H0 E V po => r_law_parts Q F_law_taken f cdv Ar outer s H0 E V po) (fun _ _ _ _ h _ => h)
theorem sc_law_made : FnScope ["_law_d"] ["_law_d"] (defScope s_law_made) := ⟨rfl, rfl, rfl, by decide +kernel, rfl, by decide +kernel, by decide +kernel⟩
theorem r_law_made {A : Ad} (Q : Fc P w K mg base A) (M_Cabinet : MkD P w K mg base 3 "Cabinet" A.Cabinet 2 (c_Cabinet_init A)) (f : Addr) (cdv : Value) (Ar : Around) (outer : List Env) (s : Shared) (H0 : Hp) (E : XK) (V : Vw P w K mg base 4 (cxOf (L2.CX P w) P w K mg base ["_law_d"] "_law_made" (defScope s_law_made) f cdv Ar outer s H0 E) (Wo E)) (po : PassesOwn (model P w) (cxOf (L2.CX P w) P w K mg base ["_law_d"] "_law_made" (defScope s_law_made) f cdv Ar outer s H0 E).A (cxOf (L2.CX P w) P w K mg base ["_law_d"] "_law_made" (defScope s_law_made) f cdv Ar outer s H0 E).env (cxOf (L2.CX P w) P w K mg base ["_law_d"] "_law_made" (defScope s_law_made) f cdv Ar outer s H0 E).xe) :
    RB (cxOf (L2.CX P w) P w K mg base ["_law_d"] "_law_made" (defScope s_law_made) f cdv Ar outer s H0 E) (Wo E) (defBody s_law_made) (t_law_made A) := by
  have n0 : Nam ["_law_d"] 0 "_law_d" := ⟨rfl, by decide, by decide⟩
  have hmt := Q.hmt
  have hfn := Q.hfn
  have C_Cabinet := Q.C_Cabinet
  exact (b_cons (s_ret (r_make V M_Cabinet (r_cons (r_ix (r_v n0 (Or.inl rfl)) r_int) (r_cons (r_ix (r_v n0 (Or.inl rfl)) r_int) r_nil))))
  b_nil)
theorem ok_law_made {A : Ad} (Q : Fc P w K mg base A) (M_Cabinet : MkD P w K mg base 3 "Cabinet" A.Cabinet 2 (c_Cabinet_init A)) (df : Def K mg "_law_made" "_law_made" s_law_made ["_law_d"]) : FnE P w K mg base 5 "_law_made" 1 (c_law_made A) :=
  fn_of Q.T df sc_law_made (fun f cdv Ar outer s H0 E V po => r_law_made Q M_Cabinet f cdv Ar outer s H0 E V po) (fun _ _ _ _ h _ => h)
theorem sc_law_order : FnScope ["_law_row", "_law_many", "_law_left", "_law_found", "_law_turn"] ["_law_row", "_law_many"] (defScope s_law_order) := ⟨rfl, rfl, rfl, by decide +kernel, rfl, by decide +kernel, by decide +kernel⟩
theorem r_law_order {A : Ad} (Q : Fc P w K mg base A) (F_law_taken : FnE P w K mg base 1 "_law_taken" 2 (c_law_taken A)) (f : Addr) (cdv : Value) (Ar : Around) (outer : List Env) (s : Shared) (H0 : Hp) (E : XK) (V : Vw P w K mg base 1 (cxOf (L2.CX P w) P w K mg base ["_law_row", "_law_many", "_law_left", "_law_found", "_law_turn"] "_law_order" (defScope s_law_order) f cdv Ar outer s H0 E) (Wo E)) (po : PassesOwn (model P w) (cxOf (L2.CX P w) P w K mg base ["_law_row", "_law_many", "_law_left", "_law_found", "_law_turn"] "_law_order" (defScope s_law_order) f cdv Ar outer s H0 E).A (cxOf (L2.CX P w) P w K mg base ["_law_row", "_law_many", "_law_left", "_law_found", "_law_turn"] "_law_order" (defScope s_law_order) f cdv Ar outer s H0 E).env (cxOf (L2.CX P w) P w K mg base ["_law_row", "_law_many", "_law_left", "_law_found", "_law_turn"] "_law_order" (defScope s_law_order) f cdv Ar outer s H0 E).xe) :
    RB (cxOf (L2.CX P w) P w K mg base ["_law_row", "_law_many", "_law_left", "_law_found", "_law_turn"] "_law_order" (defScope s_law_order) f cdv Ar outer s H0 E) (Wo E) (defBody s_law_order) (t_law_order A) := by
  have n0 : Nam ["_law_row", "_law_many", "_law_left", "_law_found", "_law_turn"] 0 "_law_row" := ⟨rfl, by decide, by decide⟩
  have n1 : Nam ["_law_row", "_law_many", "_law_left", "_law_found", "_law_turn"] 1 "_law_many" := ⟨rfl, by decide, by decide⟩
  have n2 : Nam ["_law_row", "_law_many", "_law_left", "_law_found", "_law_turn"] 2 "_law_left" := ⟨rfl, by decide, by decide⟩
  have n3 : Nam ["_law_row", "_law_many", "_law_left", "_law_found", "_law_turn"] 3 "_law_found" := ⟨rfl, by decide, by decide⟩
  have n4 : Nam ["_law_row", "_law_many", "_law_left", "_law_found", "_law_turn"] 4 "_law_turn" := ⟨rfl, by decide, by decide⟩
  have hmt := Q.hmt
  have hfn := Q.hfn
  exact (b_cons (s_par 2 3 V.bs (r_lstC1 V.bs (r_v n1 (Or.inl rfl))) (r_lstM r_nil))
  (b_cons (s_for po (i_r V.bs (r_v n1 (Or.inl rfl))) (gt_name V.bs n4 (Or.inl rfl) (Or.inr rfl)) (b_cons (s_ex (r_mth (T := .list) md_app PySem.F.plainAttrs_list PySem.F.slot_list_append PySem.F.type_list_append (r_v n3 (Or.inl rfl)) (r_cons (r_mth (T := .list) md_pop PySem.F.plainAttrs_list PySem.F.slot_list_pop PySem.F.type_list_pop (r_v n2 (Or.inl rfl)) (r_cons (r_call V F_law_taken (r_cons (r_v n0 (Or.inl rfl)) (r_cons (r_lenV V.bs (r_v n2 (Or.inl rfl))) r_nil))) r_nil)) r_nil)))
  b_nil))
  (b_cons (s_ret (r_dre (r_tupcN V.bs (r_fz (r_v n3 (Or.inl rfl))))))
  b_nil)))
theorem ok_law_order {A : Ad} (Q : Fc P w K mg base A) (F_law_taken : FnE P w K mg base 1 "_law_taken" 2 (c_law_taken A)) (df : Def K mg "_law_order" "_law_order" s_law_order ["_law_row", "_law_many"]) : FnE P w K mg base 2 "_law_order" 2 (c_law_order A) :=
  fn_of Q.T df sc_law_order (fun f cdv Ar outer s H0 E V po => r_law_order Q F_law_taken f cdv Ar outer s H0 E V po) (fun _ _ _ _ h _ => h)
theorem sc_law_renamed : FnScope ["_law_d", "_law_order_here", "_law_bars", "_law_drawer", "_law_way", "_law_other", "_law_stand"] ["_law_d", "_law_order_here"] (defScope s_law_renamed) := ⟨rfl, rfl, rfl, by decide +kernel, rfl, by decide +kernel, by decide +kernel⟩
theorem r_law_renamed {A : Ad} (Q : Fc P w K mg base A) (f : Addr) (cdv : Value) (Ar : Around) (outer : List Env) (s : Shared) (H0 : Hp) (E : XK) (V : Vw P w K mg base 0 (cxOf (L2.CX P w) P w K mg base ["_law_d", "_law_order_here", "_law_bars", "_law_drawer", "_law_way", "_law_other", "_law_stand"] "_law_renamed" (defScope s_law_renamed) f cdv Ar outer s H0 E) (Wo E)) (po : PassesOwn (model P w) (cxOf (L2.CX P w) P w K mg base ["_law_d", "_law_order_here", "_law_bars", "_law_drawer", "_law_way", "_law_other", "_law_stand"] "_law_renamed" (defScope s_law_renamed) f cdv Ar outer s H0 E).A (cxOf (L2.CX P w) P w K mg base ["_law_d", "_law_order_here", "_law_bars", "_law_drawer", "_law_way", "_law_other", "_law_stand"] "_law_renamed" (defScope s_law_renamed) f cdv Ar outer s H0 E).env (cxOf (L2.CX P w) P w K mg base ["_law_d", "_law_order_here", "_law_bars", "_law_drawer", "_law_way", "_law_other", "_law_stand"] "_law_renamed" (defScope s_law_renamed) f cdv Ar outer s H0 E).xe) :
    RB (cxOf (L2.CX P w) P w K mg base ["_law_d", "_law_order_here", "_law_bars", "_law_drawer", "_law_way", "_law_other", "_law_stand"] "_law_renamed" (defScope s_law_renamed) f cdv Ar outer s H0 E) (Wo E) (defBody s_law_renamed) (t_law_renamed A) := by
  have n0 : Nam ["_law_d", "_law_order_here", "_law_bars", "_law_drawer", "_law_way", "_law_other", "_law_stand"] 0 "_law_d" := ⟨rfl, by decide, by decide⟩
  have n1 : Nam ["_law_d", "_law_order_here", "_law_bars", "_law_drawer", "_law_way", "_law_other", "_law_stand"] 1 "_law_order_here" := ⟨rfl, by decide, by decide⟩
  have n2 : Nam ["_law_d", "_law_order_here", "_law_bars", "_law_drawer", "_law_way", "_law_other", "_law_stand"] 2 "_law_bars" := ⟨rfl, by decide, by decide⟩
  have n3 : Nam ["_law_d", "_law_order_here", "_law_bars", "_law_drawer", "_law_way", "_law_other", "_law_stand"] 3 "_law_drawer" := ⟨rfl, by decide, by decide⟩
  have n4 : Nam ["_law_d", "_law_order_here", "_law_bars", "_law_drawer", "_law_way", "_law_other", "_law_stand"] 4 "_law_way" := ⟨rfl, by decide, by decide⟩
  have n5 : Nam ["_law_d", "_law_order_here", "_law_bars", "_law_drawer", "_law_way", "_law_other", "_law_stand"] 5 "_law_other" := ⟨rfl, by decide, by decide⟩
  have n6 : Nam ["_law_d", "_law_order_here", "_law_bars", "_law_drawer", "_law_way", "_law_other", "_law_stand"] 6 "_law_stand" := ⟨rfl, by decide, by decide⟩
  have hmt := Q.hmt
  have hfn := Q.hfn
  exact (b_cons (s_setLc (i := 2) V.bs (show BlkOk ["_law_d", "_law_order_here", "_law_bars", "_law_drawer", "_law_way", "_law_other", "_law_stand"] (defScope s_law_renamed) _ [("_law_drawer", 3), ("_law_way", 4), ("_law_other", 5), ("_law_stand", 6)] from ⟨rfl, by decide +kernel, by decide +kernel, by decide +kernel, by decide +kernel⟩) (own := [("_law_drawer", 3), ("_law_way", 4), ("_law_other", 5), ("_law_stand", 6)]) (tgt_tup (js := [3, 4, 5, 6]) (vs := [3, 4, 5, 6]) rfl (by decide)) (fun _ _ _ _ _ => pg_tup rfl (pgs_cons (pg_name (i := 3) V.bs.nd rfl (by first | exact Or.inl rfl | exact Or.inr rfl)) (pgs_cons (pg_name (i := 4) V.bs.nd rfl (by first | exact Or.inl rfl | exact Or.inr rfl)) (pgs_cons (pg_name (i := 5) V.bs.nd rfl (by first | exact Or.inl rfl | exact Or.inr rfl)) (pgs_cons (pg_name (i := 6) V.bs.nd rfl (by first | exact Or.inl rfl | exact Or.inr rfl)) pgs_nil rfl) rfl) rfl) rfl) rfl rfl) (i_q (r_ix (r_v n0 (Or.inl rfl)) r_int)) tb_none ⟨fun _ _ _ _ _ => (r_tup (r_cons (r_nix (r_v n1 (by first | exact Or.inl rfl | exact Or.inr (Or.inl rfl) | exact Or.inr (Or.inr rfl))) (r_cons (r_v n3 (by first | exact Or.inl rfl | exact Or.inr (Or.inl rfl) | exact Or.inr (Or.inr rfl))) r_nil)) (r_cons (r_v n4 (by first | exact Or.inl rfl | exact Or.inr (Or.inl rfl) | exact Or.inr (Or.inr rfl))) (r_cons (r_nix (r_v n1 (by first | exact Or.inl rfl | exact Or.inr (Or.inl rfl) | exact Or.inr (Or.inr rfl))) (r_cons (r_v n5 (by first | exact Or.inl rfl | exact Or.inr (Or.inl rfl) | exact Or.inr (Or.inr rfl))) r_nil)) (r_cons (r_v n6 (by first | exact Or.inl rfl | exact Or.inr (Or.inl rfl) | exact Or.inr (Or.inr rfl))) r_nil)))))⟩)
  (b_cons (s_ret (r_lst (r_cons (r_ix (r_v n0 (Or.inl rfl)) r_int) (r_cons (r_tupc V.bs (r_sorted V.bs (r_v n2 (Or.inl rfl)))) r_nil))))
  b_nil))
theorem ok_law_renamed {A : Ad} (Q : Fc P w K mg base A) (df : Def K mg "_law_renamed" "_law_renamed" s_law_renamed ["_law_d", "_law_order_here"]) : FnE P w K mg base 1 "_law_renamed" 2 (c_law_renamed A) :=
  fn_of Q.T df sc_law_renamed (fun f cdv Ar outer s H0 E V po => r_law_renamed Q f cdv Ar outer s H0 E V po) (fun _ _ _ _ h _ => h)
theorem sc_law_orders : FnScope ["_law_many", "_law_found", "_law_turn", "_law_longer", "_law_some", "_law_one"] ["_law_many"] (defScope s_law_orders) := ⟨rfl, rfl, rfl, by decide +kernel, rfl, by decide +kernel, by decide +kernel⟩
theorem r_law_orders {A : Ad} (Q : Fc P w K mg base A) (f : Addr) (cdv : Value) (Ar : Around) (outer : List Env) (s : Shared) (H0 : Hp) (E : XK) (V : Vw P w K mg base 0 (cxOf (L2.CX P w) P w K mg base ["_law_many", "_law_found", "_law_turn", "_law_longer", "_law_some", "_law_one"] "_law_orders" (defScope s_law_orders) f cdv Ar outer s H0 E) (Wo E)) (po : PassesOwn (model P w) (cxOf (L2.CX P w) P w K mg base ["_law_many", "_law_found", "_law_turn", "_law_longer", "_law_some", "_law_one"] "_law_orders" (defScope s_law_orders) f cdv Ar outer s H0 E).A (cxOf (L2.CX P w) P w K mg base ["_law_many", "_law_found", "_law_turn", "_law_longer", "_law_some", "_law_one"] "_law_orders" (defScope s_law_orders) f cdv Ar outer s H0 E).env (cxOf (L2.CX P w) P w K mg base ["_law_many", "_law_found", "_law_turn", "_law_longer", "_law_some", "_law_one"] "_law_orders" (defScope s_law_orders) f cdv Ar outer s H0 E).xe) :
    RB (cxOf (L2.CX P w) P w K mg base ["_law_many", "_law_found", "_law_turn", "_law_longer", "_law_some", "_law_one"] "_law_orders" (defScope s_law_orders) f cdv Ar outer s H0 E) (Wo E) (defBody s_law_orders) (t_law_orders A) := by
  have n0 : Nam ["_law_many", "_law_found", "_law_turn", "_law_longer", "_law_some", "_law_one"] 0 "_law_many" := ⟨rfl, by decide, by decide⟩
  have n1 : Nam ["_law_many", "_law_found", "_law_turn", "_law_longer", "_law_some", "_law_one"] 1 "_law_found" := ⟨rfl, by decide, by decide⟩
  have n2 : Nam ["_law_many", "_law_found", "_law_turn", "_law_longer", "_law_some", "_law_one"] 2 "_law_turn" := ⟨rfl, by decide, by decide⟩
  have n3 : Nam ["_law_many", "_law_found", "_law_turn", "_law_longer", "_law_some", "_law_one"] 3 "_law_longer" := ⟨rfl, by decide, by decide⟩
  have n4 : Nam ["_law_many", "_law_found", "_law_turn", "_law_longer", "_law_some", "_law_one"] 4 "_law_some" := ⟨rfl, by decide, by decide⟩
  have n5 : Nam ["_law_many", "_law_found", "_law_turn", "_law_longer", "_law_some", "_law_one"] 5 "_law_one" := ⟨rfl, by decide, by decide⟩
  have hmt := Q.hmt
  have hfn := Q.hfn
  exact (b_cons (s_set V.bs n1 (Or.inl rfl) (Or.inr rfl) (r_lst (r_cons (r_tupN r_nil) r_nil)))
  (b_cons (s_for po (i_r V.bs (r_v n0 (Or.inl rfl))) (gt_name V.bs n2 (Or.inl rfl) (Or.inr rfl)) (b_cons (s_set V.bs n3 (Or.inl rfl) (Or.inr rfl) (r_lstM r_nil))
  (b_cons (s_for po (i_q (r_v n1 (Or.inl rfl))) (gt_name V.bs n4 (Or.inr rfl) (Or.inl rfl)) (b_cons (s_ex (r_mth (T := .list) md_ext PySem.F.plainAttrs_list PySem.F.slot_list_extend PySem.F.type_list_extend (r_v n3 (Or.inl rfl)) (r_cons (r_lc (own := [("_law_one", 5)]) V.bs (show BlkOk ["_law_many", "_law_found", "_law_turn", "_law_longer", "_law_some", "_law_one"] (defScope s_law_orders) _ [("_law_one", 5)] from ⟨rfl, by decide +kernel, by decide +kernel, by decide +kernel, by decide +kernel⟩) (tgt_name (j := 5) (vs := [5]) (by decide)) (fun _ _ _ _ _ => pg_name (i := 5) V.bs.nd rfl (by first | exact Or.inl rfl | exact Or.inr rfl)) (i_r V.bs (r_v n0 (Or.inl rfl))) (tb_one fun _ _ _ _ _ => (t_notin V.bs.blk (r_v n5 (by first | exact Or.inl rfl | exact Or.inr (Or.inl rfl) | exact Or.inr (Or.inr rfl))) (r_v n4 (by first | exact Or.inl rfl | exact Or.inr (Or.inl rfl) | exact Or.inr (Or.inr rfl))))) ⟨fun _ _ _ _ _ => (r_addN (r_v n4 (by first | exact Or.inl rfl | exact Or.inr (Or.inl rfl) | exact Or.inr (Or.inr rfl))) (r_tupN (r_cons (r_v n5 (by first | exact Or.inl rfl | exact Or.inr (Or.inl rfl) | exact Or.inr (Or.inr rfl))) r_nil)))⟩) r_nil)))
  b_nil))
  (b_cons (s_set V.bs n1 (Or.inl rfl) (Or.inr rfl) (r_fz (r_v n3 (Or.inl rfl))))
  b_nil))))
  (b_cons (s_ret (r_v n1 (Or.inl rfl)))
  b_nil)))
theorem ok_law_orders {A : Ad} (Q : Fc P w K mg base A) (df : Def K mg "_law_orders" "_law_orders" s_law_orders ["_law_many"]) : FnE P w K mg base 1 "_law_orders" 1 (c_law_orders A) :=
  fn_of Q.T df sc_law_orders (fun f cdv Ar outer s H0 E V po => r_law_orders Q f cdv Ar outer s H0 E V po) (fun _ _ _ _ h _ => h)
theorem sc_law : FnScope ["_law_script", "_law_row", "_law_d", "_law_far", "_law_way", "_law_stand", "_law_bars", "_law_drawer", "_law_cabinet", "_law_order_here", "_law_one"] ["_law_script"] (defScope s_law) := ⟨rfl, rfl, rfl, by decide +kernel, rfl, by decide +kernel, by decide +kernel⟩
theorem r_law {A : Ad} (Q : Fc P w K mg base A) (F_law_parts : FnE P w K mg base 2 "_law_parts" 2 (c_law_parts A)) (F_law_taken : FnE P w K mg base 1 "_law_taken" 2 (c_law_taken A)) (F_law_made : FnE P w K mg base 5 "_law_made" 1 (c_law_made A)) (F_law_order : FnE P w K mg base 2 "_law_order" 2 (c_law_order A)) (EQ_Cabinet_eq : EqD P w K mg base 1 A.Cabinet (c_Cabinet_eq A)) (F_renamed : FnE P w K mg base 5 "renamed" 2 (c_renamed A)) (F_law_renamed : FnE P w K mg base 1 "_law_renamed" 2 (c_law_renamed A)) (F_keeping : FnE P w K mg base 4 "keeping" 1 (c_keeping A)) (F_law_orders : FnE P w K mg base 1 "_law_orders" 1 (c_law_orders A)) (f : Addr) (cdv : Value) (Ar : Around) (outer : List Env) (s : Shared) (H0 : Hp) (E : XK) (V : Vw P w K mg base 5 (cxOf (L2.CX P w) P w K mg base ["_law_script", "_law_row", "_law_d", "_law_far", "_law_way", "_law_stand", "_law_bars", "_law_drawer", "_law_cabinet", "_law_order_here", "_law_one"] "law" (defScope s_law) f cdv Ar outer s H0 E) (Wo E)) (po : PassesOwn (model P w) (cxOf (L2.CX P w) P w K mg base ["_law_script", "_law_row", "_law_d", "_law_far", "_law_way", "_law_stand", "_law_bars", "_law_drawer", "_law_cabinet", "_law_order_here", "_law_one"] "law" (defScope s_law) f cdv Ar outer s H0 E).A (cxOf (L2.CX P w) P w K mg base ["_law_script", "_law_row", "_law_d", "_law_far", "_law_way", "_law_stand", "_law_bars", "_law_drawer", "_law_cabinet", "_law_order_here", "_law_one"] "law" (defScope s_law) f cdv Ar outer s H0 E).env (cxOf (L2.CX P w) P w K mg base ["_law_script", "_law_row", "_law_d", "_law_far", "_law_way", "_law_stand", "_law_bars", "_law_drawer", "_law_cabinet", "_law_order_here", "_law_one"] "law" (defScope s_law) f cdv Ar outer s H0 E).xe) :
    RB (cxOf (L2.CX P w) P w K mg base ["_law_script", "_law_row", "_law_d", "_law_far", "_law_way", "_law_stand", "_law_bars", "_law_drawer", "_law_cabinet", "_law_order_here", "_law_one"] "law" (defScope s_law) f cdv Ar outer s H0 E) (Wo E) (defBody s_law) (t_law A) := by
  have n0 : Nam ["_law_script", "_law_row", "_law_d", "_law_far", "_law_way", "_law_stand", "_law_bars", "_law_drawer", "_law_cabinet", "_law_order_here", "_law_one"] 0 "_law_script" := ⟨rfl, by decide, by decide⟩
  have n1 : Nam ["_law_script", "_law_row", "_law_d", "_law_far", "_law_way", "_law_stand", "_law_bars", "_law_drawer", "_law_cabinet", "_law_order_here", "_law_one"] 1 "_law_row" := ⟨rfl, by decide, by decide⟩
  have n2 : Nam ["_law_script", "_law_row", "_law_d", "_law_far", "_law_way", "_law_stand", "_law_bars", "_law_drawer", "_law_cabinet", "_law_order_here", "_law_one"] 2 "_law_d" := ⟨rfl, by decide, by decide⟩
  have n3 : Nam ["_law_script", "_law_row", "_law_d", "_law_far", "_law_way", "_law_stand", "_law_bars", "_law_drawer", "_law_cabinet", "_law_order_here", "_law_one"] 3 "_law_far" := ⟨rfl, by decide, by decide⟩
  have n4 : Nam ["_law_script", "_law_row", "_law_d", "_law_far", "_law_way", "_law_stand", "_law_bars", "_law_drawer", "_law_cabinet", "_law_order_here", "_law_one"] 4 "_law_way" := ⟨rfl, by decide, by decide⟩
  have n5 : Nam ["_law_script", "_law_row", "_law_d", "_law_far", "_law_way", "_law_stand", "_law_bars", "_law_drawer", "_law_cabinet", "_law_order_here", "_law_one"] 5 "_law_stand" := ⟨rfl, by decide, by decide⟩
  have n6 : Nam ["_law_script", "_law_row", "_law_d", "_law_far", "_law_way", "_law_stand", "_law_bars", "_law_drawer", "_law_cabinet", "_law_order_here", "_law_one"] 6 "_law_bars" := ⟨rfl, by decide, by decide⟩
  have n7 : Nam ["_law_script", "_law_row", "_law_d", "_law_far", "_law_way", "_law_stand", "_law_bars", "_law_drawer", "_law_cabinet", "_law_order_here", "_law_one"] 7 "_law_drawer" := ⟨rfl, by decide, by decide⟩
  have n8 : Nam ["_law_script", "_law_row", "_law_d", "_law_far", "_law_way", "_law_stand", "_law_bars", "_law_drawer", "_law_cabinet", "_law_order_here", "_law_one"] 8 "_law_cabinet" := ⟨rfl, by decide, by decide⟩
  have n9 : Nam ["_law_script", "_law_row", "_law_d", "_law_far", "_law_way", "_law_stand", "_law_bars", "_law_drawer", "_law_cabinet", "_law_order_here", "_law_one"] 9 "_law_order_here" := ⟨rfl, by decide, by decide⟩
  have n10 : Nam ["_law_script", "_law_row", "_law_d", "_law_far", "_law_way", "_law_stand", "_law_bars", "_law_drawer", "_law_cabinet", "_law_order_here", "_law_one"] 10 "_law_one" := ⟨rfl, by decide, by decide⟩
  have hmt := Q.hmt
  have hfn := Q.hfn
  exact (b_cons (s_set V.bs n1 (Or.inr rfl) (Or.inl rfl) (r_lstM (r_cons (r_v n0 (Or.inl rfl)) (r_cons r_int (r_cons r_int (r_cons r_int r_nil))))))
  (b_cons (s_set V.bs n2 (Or.inr rfl) (Or.inl rfl) (r_call V F_law_parts (r_cons (r_v n1 (Or.inr (Or.inl rfl))) (r_cons (r_ix (r_lst (r_cons r_int (r_cons r_int (r_cons r_int r_nil)))) (r_call V F_law_taken (r_cons (r_v n1 (Or.inr (Or.inl rfl))) (r_cons r_int r_nil)))) r_nil))))
  (b_cons (s_if (t_bo (w_and (t_eq V.bs (r_call V F_law_taken (r_cons (r_v n1 (Or.inr (Or.inl rfl))) (r_cons r_int r_nil))) r_int) (w_and1 (t_gt V.bs (r_ix (r_v n2 (Or.inr (Or.inl rfl))) r_int) r_int)))) (b_cons (s_asg (gt_tup (gt_cons (gt_name V.bs n3 (Or.inr rfl) (Or.inl rfl)) (gt_cons (gt_name V.bs n4 (Or.inr rfl) (Or.inl rfl)) (gt_cons (gt_name V.bs n5 (Or.inr rfl) (Or.inl rfl)) gt_nil)))) (r_tup (r_cons (r_add r_int (r_call V F_law_taken (r_cons (r_v n1 (Or.inr (Or.inl rfl))) (r_cons (r_sub (r_ix (r_v n2 (Or.inr (Or.inl rfl))) r_int) r_int) r_nil)))) (r_cons (r_ix (r_lst (r_cons r_str (r_cons r_str r_nil))) (r_call V F_law_taken (r_cons (r_v n1 (Or.inr (Or.inl rfl))) (r_cons r_int r_nil)))) (r_cons r_str r_nil)))))
  (b_cons (s_setLc (i := 6) V.bs (show BlkOk ["_law_script", "_law_row", "_law_d", "_law_far", "_law_way", "_law_stand", "_law_bars", "_law_drawer", "_law_cabinet", "_law_order_here", "_law_one"] (defScope s_law) _ [("_law_drawer", 7)] from ⟨rfl, by decide +kernel, by decide +kernel, by decide +kernel, by decide +kernel⟩) (own := [("_law_drawer", 7)]) (tgt_name (j := 7) (vs := [7]) (by decide)) (fun _ _ _ _ _ => pg_name (i := 7) V.bs.nd rfl (by first | exact Or.inl rfl | exact Or.inr rfl)) (i_r V.bs (r_ix (r_v n2 (Or.inr (Or.inl rfl))) r_int)) (tb_one fun _ _ _ _ _ => (t_gt V.bs.blk (r_call V.blk F_law_taken (r_cons (r_v n1 (by first | exact Or.inl rfl | exact Or.inr (Or.inl rfl) | exact Or.inr (Or.inr rfl))) (r_cons r_int r_nil))) r_int)) ⟨fun _ _ _ _ _ => (r_tup (r_cons (r_v n7 (by first | exact Or.inl rfl | exact Or.inr (Or.inl rfl) | exact Or.inr (Or.inr rfl))) (r_cons (r_v n4 (by first | exact Or.inl rfl | exact Or.inr (Or.inl rfl) | exact Or.inr (Or.inr rfl))) (r_cons (r_mod (r_add (r_v n7 (by first | exact Or.inl rfl | exact Or.inr (Or.inl rfl) | exact Or.inr (Or.inr rfl))) (r_v n3 (by first | exact Or.inl rfl | exact Or.inr (Or.inl rfl) | exact Or.inr (Or.inr rfl)))) (r_ix (r_v n2 (by first | exact Or.inl rfl | exact Or.inr (Or.inl rfl) | exact Or.inr (Or.inr rfl))) r_int)) (r_cons (r_v n5 (by first | exact Or.inl rfl | exact Or.inr (Or.inl rfl) | exact Or.inr (Or.inr rfl))) r_nil)))))⟩)
  (b_cons (s_set V.bs n2 (Or.inr rfl) (Or.inl rfl) (r_lst (r_cons (r_ix (r_v n2 (Or.inr (Or.inl rfl))) r_int) (r_cons (r_tupc V.bs (r_sorted V.bs (r_v n6 (Or.inl rfl)))) r_nil))))
  b_nil))) b_nil)
  (b_cons (s_par 8 9 V.bs (r_call V F_law_made (r_cons (r_v n2 (Or.inr (Or.inl rfl))) r_nil)) (r_call V F_law_order (r_cons (r_v n1 (Or.inr (Or.inl rfl))) (r_cons (r_ix (r_v n2 (Or.inr (Or.inl rfl))) r_int) r_nil))))
  (b_cons (s_if (t_not (t_eqO V EQ_Cabinet_eq (r_call V F_renamed (r_cons (r_v n8 (Or.inl rfl)) (r_cons (r_v n9 (Or.inl rfl)) r_nil))) (r_call V F_law_made (r_cons (r_call V F_law_renamed (r_cons (r_v n2 (Or.inr (Or.inl rfl))) (r_cons (r_v n9 (Or.inl rfl)) r_nil))) r_nil)))) (b_cons (s_ret r_bl)
  b_nil) b_nil)
  (b_cons (s_ret (r_eq V.bs (r_call V F_keeping (r_cons (r_v n8 (Or.inl rfl)) r_nil)) (r_lc (own := [("_law_one", 10)]) V.bs (show BlkOk ["_law_script", "_law_row", "_law_d", "_law_far", "_law_way", "_law_stand", "_law_bars", "_law_drawer", "_law_cabinet", "_law_order_here", "_law_one"] (defScope s_law) _ [("_law_one", 10)] from ⟨rfl, by decide +kernel, by decide +kernel, by decide +kernel, by decide +kernel⟩) (tgt_name (j := 10) (vs := [10]) (by decide)) (fun _ _ _ _ _ => pg_name (i := 10) V.bs.nd rfl (by first | exact Or.inl rfl | exact Or.inr rfl)) (i_q (r_call V F_law_orders (r_cons (r_ix (r_v n2 (Or.inr (Or.inl rfl))) r_int) r_nil))) (tb_one fun _ _ _ _ _ => (t_eq V.bs.blk (r_ix (r_call V.blk F_law_renamed (r_cons (r_v n2 (by first | exact Or.inl rfl | exact Or.inr (Or.inl rfl) | exact Or.inr (Or.inr rfl))) (r_cons (r_v n10 (by first | exact Or.inl rfl | exact Or.inr (Or.inl rfl) | exact Or.inr (Or.inr rfl))) r_nil))) r_int) (r_ix (r_v n2 (by first | exact Or.inl rfl | exact Or.inr (Or.inl rfl) | exact Or.inr (Or.inr rfl))) r_int))) ⟨fun _ _ _ _ _ => (r_v n10 (by first | exact Or.inl rfl | exact Or.inr (Or.inl rfl) | exact Or.inr (Or.inr rfl)))⟩)))
  b_nil))))))
theorem ok_law {A : Ad} (Q : Fc P w K mg base A) (F_law_parts : FnE P w K mg base 2 "_law_parts" 2 (c_law_parts A)) (F_law_taken : FnE P w K mg base 1 "_law_taken" 2 (c_law_taken A)) (F_law_made : FnE P w K mg base 5 "_law_made" 1 (c_law_made A)) (F_law_order : FnE P w K mg base 2 "_law_order" 2 (c_law_order A)) (EQ_Cabinet_eq : EqD P w K mg base 1 A.Cabinet (c_Cabinet_eq A)) (F_renamed : FnE P w K mg base 5 "renamed" 2 (c_renamed A)) (F_law_renamed : FnE P w K mg base 1 "_law_renamed" 2 (c_law_renamed A)) (F_keeping : FnE P w K mg base 4 "keeping" 1 (c_keeping A)) (F_law_orders : FnE P w K mg base 1 "_law_orders" 1 (c_law_orders A)) (df : Def K mg "law" "law" s_law ["_law_script"]) : FnE P w K mg base 6 "law" 1 (c_law A) :=
  fn_of Q.T df sc_law (fun f cdv Ar outer s H0 E V po => r_law Q F_law_parts F_law_taken F_law_made F_law_order EQ_Cabinet_eq F_renamed F_law_renamed F_keeping F_law_orders f cdv Ar outer s H0 E V po) (fun _ _ _ _ h _ => h)
end
end DL
namespace DL
open PySem PySem.Spec PyProof.Rows L2 G
theorem sc_BadDrawers : FnScope ["self"] ["self"] (defScope s_BadDrawers___init__) := ⟨rfl, rfl, rfl, by decide +kernel, rfl, by decide +kernel, by decide +kernel⟩
theorem err_BadDrawers {P : Program} {w : World} {K : PySem.W.Frag} {mg : Str → Option Value} {base : Heap} {C B : Addr} (E : ErrK K mg "BadDrawers" C [] "BadDrawers.__init__" s_BadDrawers___init__ ["self"]) (b : BaseE K mg "DrawerError" B) : Err P w K mg base "BadDrawers" C [] := E.err0 b sc_BadDrawers rfl (fun _ => rfl) rfl rfl
theorem sc_BadBars : FnScope ["self", "index"] ["self", "index"] (defScope s_BadBars___init__) := ⟨rfl, rfl, rfl, by decide +kernel, rfl, by decide +kernel, by decide +kernel⟩
theorem err_BadBars {P : Program} {w : World} {K : PySem.W.Frag} {mg : Str → Option Value} {base : Heap} {C B : Addr} (E : ErrK K mg "BadBars" C ["index"] "BadBars.__init__" s_BadBars___init__ ["self", "index"]) (b : BaseE K mg "DrawerError" B) : Err P w K mg base "BadBars" C ["index"] := E.err1 b sc_BadBars rfl (fun _ => rfl) rfl rfl rfl (by decide) (by decide)
theorem sc_BadCabinet : FnScope ["self"] ["self"] (defScope s_BadCabinet___init__) := ⟨rfl, rfl, rfl, by decide +kernel, rfl, by decide +kernel, by decide +kernel⟩
theorem err_BadCabinet {P : Program} {w : World} {K : PySem.W.Frag} {mg : Str → Option Value} {base : Heap} {C B : Addr} (E : ErrK K mg "BadCabinet" C [] "BadCabinet.__init__" s_BadCabinet___init__ ["self"]) (b : BaseE K mg "DrawerError" B) : Err P w K mg base "BadCabinet" C [] := E.err0 b sc_BadCabinet rfl (fun _ => rfl) rfl rfl
theorem sc_BadOrder : FnScope ["self"] ["self"] (defScope s_BadOrder___init__) := ⟨rfl, rfl, rfl, by decide +kernel, rfl, by decide +kernel, by decide +kernel⟩
theorem err_BadOrder {P : Program} {w : World} {K : PySem.W.Frag} {mg : Str → Option Value} {base : Heap} {C B : Addr} (E : ErrK K mg "BadOrder" C [] "BadOrder.__init__" s_BadOrder___init__ ["self"]) (b : BaseE K mg "DrawerError" B) : Err P w K mg base "BadOrder" C [] := E.err0 b sc_BadOrder rfl (fun _ => rfl) rfl rfl
theorem all_mk {l : PySem.W.OpenLaw} {w : World} {K : PySem.W.Frag} {mg : Str → Option Value} {fa cB c_BadDrawers c_BadBars c_BadCabinet c_BadOrder c_Cabinet : Addr}
    (T : BI mg)
    (BE : BaseE K mg "DrawerError" cB)
    (E_BadDrawers : ErrK K mg "BadDrawers" c_BadDrawers [] "BadDrawers.__init__" s_BadDrawers___init__ ["self"])
    (E_BadBars : ErrK K mg "BadBars" c_BadBars ["index"] "BadBars.__init__" s_BadBars___init__ ["self", "index"])
    (E_BadCabinet : ErrK K mg "BadCabinet" c_BadCabinet [] "BadCabinet.__init__" s_BadCabinet___init__ ["self"])
    (E_BadOrder : ErrK K mg "BadOrder" c_BadOrder [] "BadOrder.__init__" s_BadOrder___init__ ["self"])
    (C_Cabinet : Kls K mg "Cabinet" c_Cabinet ["many", "locks"])
    (G_STANDS : Glb K mg "STANDS" d_STANDS)
    (G_MOST_DRAWERS : Glb K mg "MOST_DRAWERS" d_MOST_DRAWERS)
    (D_is_from : Def K mg "is_from" "is_from" s_is_from ["value", "low", "high"])
    (D_is_stand : Def K mg "is_stand" "is_stand" s_is_stand ["value"])
    (D_is_bar : Def K mg "is_bar" "is_bar" s_is_bar ["drawers", "value"])
    (I_Cabinet : IniK K c_Cabinet "Cabinet.__init__" s_Cabinet___init__ ["self", "drawers", "bars"])
    (D_need_cabinet : Def K mg "need_cabinet" "need_cabinet" s_need_cabinet ["cabinet"])
    (D_need_order : Def K mg "need_order" "need_order" s_need_order ["cabinet", "order"])
    (D_bars_by : Def K mg "bars_by" "bars_by" s_bars_by ["cabinet", "order"])
    (D_renamed : Def K mg "renamed" "renamed" s_renamed ["cabinet", "order"])
    (D_orders_of : Def K mg "orders_of" "orders_of" s_orders_of ["many"])
    (D_keeping : Def K mg "keeping" "keeping" s_keeping ["cabinet"])
    (P_Cabinet_eq : EqK K c_Cabinet "Cabinet.__eq__" s_Cabinet___eq__ ["self", "other"])
    (D_law_taken : Def K mg "_law_taken" "_law_taken" s_law_taken ["_law_row", "_law_many"])
    (D_law_parts : Def K mg "_law_parts" "_law_parts" s_law_parts ["_law_row", "_law_most"])
    (D_law_made : Def K mg "_law_made" "_law_made" s_law_made ["_law_d"])
    (D_law_order : Def K mg "_law_order" "_law_order" s_law_order ["_law_row", "_law_many"])
    (D_law_renamed : Def K mg "_law_renamed" "_law_renamed" s_law_renamed ["_law_d", "_law_order_here"])
    (D_law_orders : Def K mg "_law_orders" "_law_orders" s_law_orders ["_law_many"])
    (L : LawK K mg s_law fa) :
    ∃ (A : Ad) (fd : FuncData), Mt_k37 A ∧ (∀ (s : Shared) (v : Value), BindsTo s fd ⟨[v], []⟩ [("_law_script", v)]) ∧ ∀ base : Heap, K.In base → base.Ns mainGlobals mg → FnOk l.prog w K mg base (L2.CX l.prog w) 6 fa fd ["_law_script"] (lift K 1 (c_law A)) := by
  let A : Ad := ⟨(PySem.W.exmOne K <| .ref ·), fnAt mg, cB, c_BadDrawers, c_BadBars, c_BadCabinet, 0, 0, 0, 0, 0, 0, 0, 0, 0, 0, 0, 0, c_BadOrder, 0, c_Cabinet, 0⟩
  have Q : ∀ base, Fc l.prog w K mg base A := fun base => ⟨T, rfl, fun _ => rfl, err_BadDrawers E_BadDrawers BE, err_BadBars E_BadBars BE, err_BadCabinet E_BadCabinet BE, err_BadOrder E_BadOrder BE, C_Cabinet, G_STANDS, G_MOST_DRAWERS⟩
  obtain ⟨fd, FL, bl⟩ := L
  refine ⟨A, fd, ⟨trivial⟩, bl, fun base _ _ => ?_⟩
  have F_is_from := ok_is_from (A := A) (Q base) D_is_from
  have F_is_stand := ok_is_stand (A := A) (Q base) D_is_stand
  have F_is_bar := ok_is_bar (A := A) (Q base) F_is_stand F_is_from D_is_bar
  obtain ⟨fI_Cabinet, fdI_Cabinet, FI_Cabinet, bI_Cabinet, mk_Cabinet⟩ := I_Cabinet
  have M_Cabinet := ok_Cabinet_init (A := A) (Q base) F_is_from F_is_bar FI_Cabinet bI_Cabinet mk_Cabinet
  have F_need_cabinet := ok_need_cabinet (A := A) (Q base) D_need_cabinet
  have F_need_order := ok_need_order (A := A) (Q base) F_is_from D_need_order
  have F_bars_by := ok_bars_by (A := A) (Q base) D_bars_by
  have F_renamed := ok_renamed (A := A) (Q base) F_need_cabinet F_need_order M_Cabinet F_bars_by D_renamed
  have F_orders_of := ok_orders_of (A := A) (Q base) D_orders_of
  have F_keeping := ok_keeping (A := A) (Q base) F_need_cabinet F_orders_of F_bars_by D_keeping
  obtain ⟨nf_Cabinet_eq, f_Cabinet_eq, fd_Cabinet_eq, FF_Cabinet_eq, bb_Cabinet_eq, mm_Cabinet_eq⟩ := P_Cabinet_eq
  have EQ_Cabinet_eq := ok_Cabinet_eq (A := A) (Q base) nf_Cabinet_eq FF_Cabinet_eq bb_Cabinet_eq mm_Cabinet_eq
  have F_law_taken := ok_law_taken (A := A) (Q base) D_law_taken
  have F_law_parts := ok_law_parts (A := A) (Q base) F_law_taken D_law_parts
  have F_law_made := ok_law_made (A := A) (Q base) M_Cabinet D_law_made
  have F_law_order := ok_law_order (A := A) (Q base) F_law_taken D_law_order
  have F_law_renamed := ok_law_renamed (A := A) (Q base) D_law_renamed
  have F_law_orders := ok_law_orders (A := A) (Q base) D_law_orders
  exact fk_of (Q base).T FL sc_law (fun f cdv Ar outer s H0 E V po => r_law (Q base) F_law_parts F_law_taken F_law_made F_law_order EQ_Cabinet_eq F_renamed F_law_renamed F_keeping F_law_orders f cdv Ar outer s H0 E V po) (fun _ _ _ _ h _ => h)
theorem walk {l : PySem.W.OpenLaw} {q : Program} {loose : List Str} {XP : (Str → Option Value) → Heap → Prop} {YP : World → Heap → Prop} {d : DefRec} {K : Params → PySem.W.Frag} (hn : l.most = some 63) (hdf : d.params.defaults = [])
    (hY : ∀ (w : World) (h : Heap), YP w h → (K w.params).In h)
    (F : ∀ (w : World) (mg : Str → Option Value) (fa : Addr) (h : Heap), (K w.params).In h → h.Ns mainGlobals mg → mg d.name = some (.ref fa) → ∃ (A : Ad) (fd : FuncData), Mt_k37 A ∧ (∀ (s : Shared) (v : Value), BindsTo s fd ⟨[v], []⟩ [("_law_script", v)]) ∧ ∀ base : Heap, (K w.params).In base → base.Ns mainGlobals mg → FnOk l.prog w (K w.params) mg base (L2.CX l.prog w) 6 fa fd ["_law_script"] (lift (K w.params) 1 (c_law A))) :
    PySem.W.WalkO q loose XP YP l.row.toRowW d [] (fun f vs => PySem.call f vs) :=
  law_walk (x := "_law_script") (k := 6) hn hdf ⟨rfl, by decide, by decide⟩ hY (fun w mg fa h a b c => by
    obtain ⟨A, fd, M, h1, h2⟩ := F w mg fa h a b c
    exact ⟨c_law A, fd, h1, h2, fun ns hl m Φ Ψ q => p_law_k37 M ns hl m Φ Ψ q⟩)
end DL
open PySem PySem.W PyProof.Rows
set_option maxRecDepth 100000 in
set_option maxHeartbeats 0 in
theorem PySem.Challenge.cw_drawerlocks_k37_whole_names_holds : PySem.Challenge.rw_drawerlocks_k37_whole_names.Holds := by
  w_on; o_law; k_head; (case hw => w_witness2)
  k_fill
  refine DL.walk (l := PySem.Challenge.rw_drawerlocks_k37_whole_names) rfl rfl (fun w h Y => PySem.W.kIn_of Y) ?F
  case F =>
    intro w mg fa h KX G0 hmg
    refine' DL.all_mk (l := PySem.Challenge.rw_drawerlocks_k37_whole_names) ?T ?BE ?E_BadDrawers ?E_BadBars ?E_BadCabinet ?E_BadOrder ?C_Cabinet ?G_STANDS ?G_MOST_DRAWERS ?D_is_from ?D_is_stand ?D_is_bar ?I_Cabinet ?D_need_cabinet ?D_need_order ?D_bars_by ?D_renamed ?D_orders_of ?D_keeping ?P_Cabinet_eq ?D_law_taken ?D_law_parts ?D_law_made ?D_law_order ?D_law_renamed ?D_law_orders ?L
    (case T =>
      refine' G.bi_mk KX G0 ?z_z
      (case z_z => first | k_is | rfl | decide +kernel))
    (case BE =>
      refine' G.base_mk KX G0 ?z_a ?z_r ?z_g ?z_v
      (case z_a => first | k_is | rfl | decide +kernel)
      (case z_r => first | k_is | rfl | decide +kernel)
      (case z_g => first | k_is | rfl | decide +kernel)
      (case z_v => first | k_is | rfl | decide +kernel))
    (case E_BadDrawers =>
      refine' G.err_mk (st := DL.s_BadDrawers___init__) KX G0 (fun _ _ _ _ _ _ us hl => match us, hl with | [_], _ => rfl) ?z_a ?z_xx ?z_rv ?z_sa ?z_xf ?z_nf ?z_tC ?z_kC ?z_i ?z_l ?z_c ?z_k ?z_tI
      (case z_a => first | k_is | rfl | decide +kernel)
      (case z_xx => first | k_is | rfl | decide +kernel)
      (case z_rv => first | k_is | rfl | decide +kernel)
      (case z_sa => first | k_is | rfl | decide +kernel)
      (case z_xf => first | k_is | rfl | decide +kernel)
      (case z_nf => first | k_is | rfl | decide +kernel)
      (case z_tC => first | k_is | rfl | decide +kernel)
      (case z_kC => first | k_is | rfl | decide +kernel)
      (case z_i => first | k_is | rfl | decide +kernel)
      (case z_l => first | k_is | rfl | decide +kernel)
      (case z_c => first | k_is | rfl | decide +kernel)
      (case z_k => first | k_is | rfl | decide +kernel)
      (case z_tI => first | k_is | rfl | decide +kernel))
    (case E_BadBars =>
      refine' G.err_mk (st := DL.s_BadBars___init__) KX G0 (fun _ _ _ _ _ _ us hl => match us, hl with | [_, _], _ => rfl) ?z_a ?z_xx ?z_rv ?z_sa ?z_xf ?z_nf ?z_tC ?z_kC ?z_i ?z_l ?z_c ?z_k ?z_tI
      (case z_a => first | k_is | rfl | decide +kernel)
      (case z_xx => first | k_is | rfl | decide +kernel)
      (case z_rv => first | k_is | rfl | decide +kernel)
      (case z_sa => first | k_is | rfl | decide +kernel)
      (case z_xf => first | k_is | rfl | decide +kernel)
      (case z_nf => first | k_is | rfl | decide +kernel)
      (case z_tC => first | k_is | rfl | decide +kernel)
      (case z_kC => first | k_is | rfl | decide +kernel)
      (case z_i => first | k_is | rfl | decide +kernel)
      (case z_l => first | k_is | rfl | decide +kernel)
      (case z_c => first | k_is | rfl | decide +kernel)
      (case z_k => first | k_is | rfl | decide +kernel)
      (case z_tI => first | k_is | rfl | decide +kernel))
    (case E_BadCabinet =>
      refine' G.err_mk (st := DL.s_BadCabinet___init__) KX G0 (fun _ _ _ _ _ _ us hl => match us, hl with | [_], _ => rfl) ?z_a ?z_xx ?z_rv ?z_sa ?z_xf ?z_nf ?z_tC ?z_kC ?z_i ?z_l ?z_c ?z_k ?z_tI
      (case z_a => first | k_is | rfl | decide +kernel)
      (case z_xx => first | k_is | rfl | decide +kernel)
      (case z_rv => first | k_is | rfl | decide +kernel)
      (case z_sa => first | k_is | rfl | decide +kernel)
      (case z_xf => first | k_is | rfl | decide +kernel)
      (case z_nf => first | k_is | rfl | decide +kernel)
      (case z_tC => first | k_is | rfl | decide +kernel)
      (case z_kC => first | k_is | rfl | decide +kernel)
      (case z_i => first | k_is | rfl | decide +kernel)
      (case z_l => first | k_is | rfl | decide +kernel)
      (case z_c => first | k_is | rfl | decide +kernel)
      (case z_k => first | k_is | rfl | decide +kernel)
      (case z_tI => first | k_is | rfl | decide +kernel))
    (case E_BadOrder =>
      refine' G.err_mk (st := DL.s_BadOrder___init__) KX G0 (fun _ _ _ _ _ _ us hl => match us, hl with | [_], _ => rfl) ?z_a ?z_xx ?z_rv ?z_sa ?z_xf ?z_nf ?z_tC ?z_kC ?z_i ?z_l ?z_c ?z_k ?z_tI
      (case z_a => first | k_is | rfl | decide +kernel)
      (case z_xx => first | k_is | rfl | decide +kernel)
      (case z_rv => first | k_is | rfl | decide +kernel)
      (case z_sa => first | k_is | rfl | decide +kernel)
      (case z_xf => first | k_is | rfl | decide +kernel)
      (case z_nf => first | k_is | rfl | decide +kernel)
      (case z_tC => first | k_is | rfl | decide +kernel)
      (case z_kC => first | k_is | rfl | decide +kernel)
      (case z_i => first | k_is | rfl | decide +kernel)
      (case z_l => first | k_is | rfl | decide +kernel)
      (case z_c => first | k_is | rfl | decide +kernel)
      (case z_k => first | k_is | rfl | decide +kernel)
      (case z_tI => first | k_is | rfl | decide +kernel))
    (case C_Cabinet =>
      refine' G.kls_mk KX G0 ?z_a ?z_c ?z_n
      (case z_a => first | k_is | rfl | decide +kernel)
      (case z_c => first | k_is | rfl | decide +kernel)
      (case z_n => first | k_is | rfl | decide +kernel))
    (case G_STANDS =>
      refine' G.glb_ktp KX G0 ?z_a ?z_l
      (case z_a => first | k_is | rfl | decide +kernel)
      (case z_l => first | k_is | rfl | decide +kernel))
    (case G_MOST_DRAWERS =>
      refine' G.glb_int KX G0 ?z_a
      (case z_a => first | k_is | rfl | decide +kernel))
    (case D_is_from =>
      refine' G.def_mk (st := DL.s_is_from) KX G0 (fun _ _ _ _ _ _ us hl => match us, hl with | [_, _, _], _ => rfl) ?z_a ?z_l ?z_c ?z_k
      (case z_a => first | k_is | rfl | decide +kernel)
      (case z_l => first | k_is | rfl | decide +kernel)
      (case z_c => first | k_is | rfl | decide +kernel)
      (case z_k => first | k_is | rfl | decide +kernel))
    (case D_is_stand =>
      refine' G.def_mk (st := DL.s_is_stand) KX G0 (fun _ _ _ _ _ _ us hl => match us, hl with | [_], _ => rfl) ?z_a ?z_l ?z_c ?z_k
      (case z_a => first | k_is | rfl | decide +kernel)
      (case z_l => first | k_is | rfl | decide +kernel)
      (case z_c => first | k_is | rfl | decide +kernel)
      (case z_k => first | k_is | rfl | decide +kernel))
    (case D_is_bar =>
      refine' G.def_mk (st := DL.s_is_bar) KX G0 (fun _ _ _ _ _ _ us hl => match us, hl with | [_, _], _ => rfl) ?z_a ?z_l ?z_c ?z_k
      (case z_a => first | k_is | rfl | decide +kernel)
      (case z_l => first | k_is | rfl | decide +kernel)
      (case z_c => first | k_is | rfl | decide +kernel)
      (case z_k => first | k_is | rfl | decide +kernel))
    (case I_Cabinet =>
      refine' G.ini_mk (st := DL.s_Cabinet___init__) (fun _ _ _ _ _ _ us hl => match us, hl with | [_, _, _], _ => rfl) ?z_i ?z_l ?z_c ?z_k ?z_is ?z_m ?z_kc
      (case z_i => first | k_is | rfl | decide +kernel)
      (case z_l => first | k_is | rfl | decide +kernel)
      (case z_c => first | k_is | rfl | decide +kernel)
      (case z_k => first | k_is | rfl | decide +kernel)
      (case z_is => first | k_is | rfl | decide +kernel)
      (case z_m => first | k_is | rfl | decide +kernel)
      (case z_kc => first | k_is | rfl | decide +kernel))
    (case D_need_cabinet =>
      refine' G.def_mk (st := DL.s_need_cabinet) KX G0 (fun _ _ _ _ _ _ us hl => match us, hl with | [_], _ => rfl) ?z_a ?z_l ?z_c ?z_k
      (case z_a => first | k_is | rfl | decide +kernel)
      (case z_l => first | k_is | rfl | decide +kernel)
      (case z_c => first | k_is | rfl | decide +kernel)
      (case z_k => first | k_is | rfl | decide +kernel))
    (case D_need_order =>
      refine' G.def_mk (st := DL.s_need_order) KX G0 (fun _ _ _ _ _ _ us hl => match us, hl with | [_, _], _ => rfl) ?z_a ?z_l ?z_c ?z_k
      (case z_a => first | k_is | rfl | decide +kernel)
      (case z_l => first | k_is | rfl | decide +kernel)
      (case z_c => first | k_is | rfl | decide +kernel)
      (case z_k => first | k_is | rfl | decide +kernel))
    (case D_bars_by =>
      refine' G.def_mk (st := DL.s_bars_by) KX G0 (fun _ _ _ _ _ _ us hl => match us, hl with | [_, _], _ => rfl) ?z_a ?z_l ?z_c ?z_k
      (case z_a => first | k_is | rfl | decide +kernel)
      (case z_l => first | k_is | rfl | decide +kernel)
      (case z_c => first | k_is | rfl | decide +kernel)
      (case z_k => first | k_is | rfl | decide +kernel))
    (case D_renamed =>
      refine' G.def_mk (st := DL.s_renamed) KX G0 (fun _ _ _ _ _ _ us hl => match us, hl with | [_, _], _ => rfl) ?z_a ?z_l ?z_c ?z_k
      (case z_a => first | k_is | rfl | decide +kernel)
      (case z_l => first | k_is | rfl | decide +kernel)
      (case z_c => first | k_is | rfl | decide +kernel)
      (case z_k => first | k_is | rfl | decide +kernel))
    (case D_orders_of =>
      refine' G.def_mk (st := DL.s_orders_of) KX G0 (fun _ _ _ _ _ _ us hl => match us, hl with | [_], _ => rfl) ?z_a ?z_l ?z_c ?z_k
      (case z_a => first | k_is | rfl | decide +kernel)
      (case z_l => first | k_is | rfl | decide +kernel)
      (case z_c => first | k_is | rfl | decide +kernel)
      (case z_k => first | k_is | rfl | decide +kernel))
    (case D_keeping =>
      refine' G.def_mk (st := DL.s_keeping) KX G0 (fun _ _ _ _ _ _ us hl => match us, hl with | [_], _ => rfl) ?z_a ?z_l ?z_c ?z_k
      (case z_a => first | k_is | rfl | decide +kernel)
      (case z_l => first | k_is | rfl | decide +kernel)
      (case z_c => first | k_is | rfl | decide +kernel)
      (case z_k => first | k_is | rfl | decide +kernel))
    (case P_Cabinet_eq =>
      refine' G.eq_mk (st := DL.s_Cabinet___eq__) (fun _ _ _ _ _ _ us hl => match us, hl with | [_, _], _ => rfl) ?z_i ?z_l ?z_c ?z_k ?z_is ?z_nf
      (case z_i => first | k_is | rfl | decide +kernel)
      (case z_l => first | k_is | rfl | decide +kernel)
      (case z_c => first | k_is | rfl | decide +kernel)
      (case z_k => first | k_is | rfl | decide +kernel)
      (case z_is => first | k_is | rfl | decide +kernel)
      (case z_nf => first | k_is | rfl | decide +kernel))
    (case D_law_taken =>
      refine' G.def_mk (st := DL.s_law_taken) KX G0 (fun _ _ _ _ _ _ us hl => match us, hl with | [_, _], _ => rfl) ?z_a ?z_l ?z_c ?z_k
      (case z_a => first | k_is | rfl | decide +kernel)
      (case z_l => first | k_is | rfl | decide +kernel)
      (case z_c => first | k_is | rfl | decide +kernel)
      (case z_k => first | k_is | rfl | decide +kernel))
    (case D_law_parts =>
      refine' G.def_mk (st := DL.s_law_parts) KX G0 (fun _ _ _ _ _ _ us hl => match us, hl with | [_, _], _ => rfl) ?z_a ?z_l ?z_c ?z_k
      (case z_a => first | k_is | rfl | decide +kernel)
      (case z_l => first | k_is | rfl | decide +kernel)
      (case z_c => first | k_is | rfl | decide +kernel)
      (case z_k => first | k_is | rfl | decide +kernel))
    (case D_law_made =>
      refine' G.def_mk (st := DL.s_law_made) KX G0 (fun _ _ _ _ _ _ us hl => match us, hl with | [_], _ => rfl) ?z_a ?z_l ?z_c ?z_k
      (case z_a => first | k_is | rfl | decide +kernel)
      (case z_l => first | k_is | rfl | decide +kernel)
      (case z_c => first | k_is | rfl | decide +kernel)
      (case z_k => first | k_is | rfl | decide +kernel))
    (case D_law_order =>
      refine' G.def_mk (st := DL.s_law_order) KX G0 (fun _ _ _ _ _ _ us hl => match us, hl with | [_, _], _ => rfl) ?z_a ?z_l ?z_c ?z_k
      (case z_a => first | k_is | rfl | decide +kernel)
      (case z_l => first | k_is | rfl | decide +kernel)
      (case z_c => first | k_is | rfl | decide +kernel)
      (case z_k => first | k_is | rfl | decide +kernel))
    (case D_law_renamed =>
      refine' G.def_mk (st := DL.s_law_renamed) KX G0 (fun _ _ _ _ _ _ us hl => match us, hl with | [_, _], _ => rfl) ?z_a ?z_l ?z_c ?z_k
      (case z_a => first | k_is | rfl | decide +kernel)
      (case z_l => first | k_is | rfl | decide +kernel)
      (case z_c => first | k_is | rfl | decide +kernel)
      (case z_k => first | k_is | rfl | decide +kernel))
    (case D_law_orders =>
      refine' G.def_mk (st := DL.s_law_orders) KX G0 (fun _ _ _ _ _ _ us hl => match us, hl with | [_], _ => rfl) ?z_a ?z_l ?z_c ?z_k
      (case z_a => first | k_is | rfl | decide +kernel)
      (case z_l => first | k_is | rfl | decide +kernel)
      (case z_c => first | k_is | rfl | decide +kernel)
      (case z_k => first | k_is | rfl | decide +kernel))
    (case L =>
      refine' G.law_mk (st := DL.s_law) KX G0 hmg (fun _ _ _ _ _ _ _ _ => .of_eq rfl) ?z_a ?z_l ?z_c ?z_k
      (case z_a => first | k_is | rfl | decide +kernel)
      (case z_l => first | k_is | rfl | decide +kernel)
      (case z_c => first | k_is | rfl | decide +kernel)
      (case z_k => first | k_is | rfl | decide +kernel))
