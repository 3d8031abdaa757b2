import PyProof.Rows.All
import Wide.All
import OpenK.AllK
import Wide.FinOn
import HandS.ForMost
import HandS.ForExc
import HandS.TupAny
import HandS.Walk
import HandS.Zip
import HandS.Sort
import HandS.DictTup
import KE.KDictWalk
import PyProof.MinMaxWalk
import HandS.Iter
import HandS.Zip0
import KE.GoesMore
import PyProof.Draws
import PyProof.EnumMake
import PyProof.TupleIter
import HandS.Dict
import KE.KDictZip
import KE.GoesZip
import HandS.Wide
import HandS.WideBits
import HandS.IsInst
import HandS.TupLen
import HandS.SortInts
import HandS.SortRule
import HandS.TupLe
import HandS.SortOrd
import PyProof.TupleOfSeq
import KE.KDictSum
import KE.KDictCopyH
import KE.DataMinMax
import HandS.WordsDict
import HandS.Text
import HandS.ExcOwn
import HandS.SetFor
import HandS.Conv
import HandS.Small
import HandS.WordsExc
import HandS.Ends
import HandS.EndBits
import PyProof.TableCode
import PySem.Challenge.RW_bentrows_k56_sheets_by_signs
set_option Elab.async false
set_option linter.all false
set_option maxRecDepth 100000
namespace Bw
open PySem PySem.Spec PyProof.Rows L2

abbrev Dt := PyData
/-- one name's place: what it holds, whether it is the only holder of that list or dict -/
abbrev De := List (Option (Dt × Bool))

inductive R (α : Type) where
  | ok (a : α) (e : De)
  | ex (c : Str) (x : Option Dt) (e : De)
  | bad
@[reducible] def R.bind {α β : Type} (r : R α) (f : α → De → R β) : R β :=
  match r with
  | .ok a e => f a e
  | .ex c x e => .ex c x e
  | .bad => .bad

/-- the heap without some addresses -/
def hid (S : List Addr) (H : Hp) : Hp := fun b => if b ∈ S then none else H b
theorem hid_some {S : List Addr} {H : Hp} {b : Addr} {o : HO} (h : hid S H b = some o) : b ∉ S ∧ H b = some o := by
  unfold hid at h
  split at h
  · cases h
  · rename_i hb; exact ⟨hb, h⟩
theorem hid_of {S : List Addr} {H : Hp} {b : Addr} (h : b ∉ S) : hid S H b = H b := by
  unfold hid; rw [if_neg h]

/-- more is known -/
def Le (H H' : Hp) : Prop := ∀ b o, H b = some o → H' b = some o
theorem Le.refl (H : Hp) : Le H H := fun _ _ h => h
theorem Le.trans {H H1 H2 : Hp} (a : Le H H1) (b : Le H1 H2) : Le H H2 := fun c o h => b c o (a c o h)
theorem hid_le (S : List Addr) (H : Hp) : Le (hid S H) H := fun b o h => (hid_some h).2
theorem hid_mono {S S' : List Addr} {H H' : Hp} (hs : ∀ b o, H b = some o → b ∈ S' → b ∈ S) (h : ∀ b o, b ∉ S → H b = some o → H' b = some o) : Le (hid S H) (hid S' H') := fun b o q => by
  obtain ⟨h1, h2⟩ := hid_some q
  rw [hid_of (fun z => h1 (hs b o h2 z))]
  exact h b o h1 h2

def keyD : Key → Dt
  | .inl i => .int i
  | .inr x => .str x

/-- the script: a list that is only read -/
def scr (ns : List Int) : Dt := .dict [(.none, .list (ns.map PyData.int))]
mutual
/-- a value stands for data -/
inductive Rp (K : PySem.W.Frag) (H : Hp) : V → Dt → Prop
  | non : Rp K H .non .none
  | bl (b : Bool) : Rp K H (.bl b) (.bool b)
  | int (i : Int) : Rp K H (.int i) (.int i)
  | str (x : Str) : Rp K H (.str x) (.str x)
  | lst {a : Addr} {xs : List V} {ds : List Dt} : H a = some (.lst xs) → RpL K H xs ds → Rp K H (.ref a) (.list ds)
  | scr {a : Addr} {ns : List Int} : SqL K H a (ns.map V.int) → Rp K H (.ref a) (scr ns)
  | tup {a : Addr} {xs : List V} {ds : List Dt} : H a = some (.tup xs) → RpL K H xs ds → Rp K H (.ref a) (.tuple ds)
  | dK {a : Addr} {kvs : List (Key × V)} {ds : List Dt} : Rd H a (.dK kvs) → RpL K H (kvs.map (·.2)) ds → Rp K H (.ref a) (.dict ((.bool false, .none) :: (kvs.map fun p => keyD p.1).zip ds))
  | dT {a : Addr} {kvs : List (List Key × V)} {ds : List Dt} : Rd H a (.dT kvs) → RpL K H (kvs.map (·.2)) ds → Rp K H (.ref a) (.dict ((.bool true, .none) :: (kvs.map fun p => PyData.tuple (p.1.map keyD)).zip ds))
inductive RpL (K : PySem.W.Frag) (H : Hp) : List V → List Dt → Prop
  | nil : RpL K H [] []
  | cons {v : V} {vs : List V} {d : Dt} {ds : List Dt} : Rp K H v d → RpL K H vs ds → RpL K H (v :: vs) (d :: ds)
end

theorem Rd.mono {H H' : Hp} {a : Addr} {u : HO} (l : Le H H') (h : Rd H a u) : Rd H' a u := by
  rcases h with h | ⟨o, h⟩
  · exact .inl (l _ _ h)
  · exact .inr ⟨o, l _ _ h⟩
theorem SqL.mono {K : PySem.W.Frag} {H H' : Hp} {a : Addr} {xs : List V} (l : Le H H') (h : SqL K H a xs) : SqL K H' a xs := by
  rcases h with h | h
  · exact .inl (Rd.mono l h)
  · exact .inr h
theorem SqT.mono {K : PySem.W.Frag} {H H' : Hp} {a : Addr} {xs : List V} (l : Le H H') (h : SqT K H a xs) : SqT K H' a xs := by
  rcases h with h | h
  · exact .inl (Rd.mono l h)
  · exact .inr h
mutual
theorem Rp.mono {K : PySem.W.Frag} {H H' : Hp} (l : Le H H') : ∀ {v : V} {d : Dt}, Rp K H v d → Rp K H' v d
  | _, _, .non => .non
  | _, _, .bl b => .bl b
  | _, _, .int i => .int i
  | _, _, .str x => .str x
  | _, _, .lst h t => .lst (l _ _ h) (RpL.mono l t)
  | _, _, .scr h => .scr (SqL.mono l h)
  | _, _, .tup h t => .tup (l _ _ h) (RpL.mono l t)
  | _, _, .dK h t => .dK (Rd.mono l h) (RpL.mono l t)
  | _, _, .dT h t => .dT (Rd.mono l h) (RpL.mono l t)
theorem RpL.mono {K : PySem.W.Frag} {H H' : Hp} (l : Le H H') : ∀ {vs : List V} {ds : List Dt}, RpL K H vs ds → RpL K H' vs ds
  | _, _, .nil => .nil
  | _, _, .cons h t => .cons (Rp.mono l h) (RpL.mono l t)
end
theorem RpL.length {K : PySem.W.Frag} {H : Hp} : ∀ {vs : List V} {ds : List Dt}, RpL K H vs ds → vs.length = ds.length
  | _, _, .nil => rfl
  | _, _, .cons _ t => congrArg (· + 1) (RpL.length t)
theorem RpL.append {K : PySem.W.Frag} {H : Hp} : ∀ {vs ws : List V} {ds es : List Dt}, RpL K H vs ds → RpL K H ws es → RpL K H (vs ++ ws) (ds ++ es)
  | _, _, _, _, .nil, h => h
  | _, _, _, _, .cons h t, q => .cons h (RpL.append t q)
theorem RpL.get {K : PySem.W.Frag} {H : Hp} : ∀ {vs : List V} {ds : List Dt}, RpL K H vs ds → ∀ {i : Nat} {d : Dt}, ds[i]? = some d → ∃ v, vs[i]? = some v ∧ Rp K H v d
  | _, _, .nil, i, d, h => by simp at h
  | _, _, .cons h t, 0, d, q => by simp at q; subst q; exact ⟨_, rfl, h⟩
  | _, _, .cons h t, i + 1, d, q => by
    obtain ⟨v, h1, h2⟩ := RpL.get t (i := i) (d := d) (by simpa using q)
    exact ⟨v, by simpa using h1, h2⟩
theorem RpL.take {K : PySem.W.Frag} {H : Hp} : ∀ {vs : List V} {ds : List Dt} (n : Nat), RpL K H vs ds → RpL K H (vs.take n) (ds.take n)
  | _, _, 0, _ => .nil
  | _, _, _ + 1, .nil => .nil
  | _, _, n + 1, .cons h t => .cons h (RpL.take n t)
theorem RpL.drop {K : PySem.W.Frag} {H : Hp} : ∀ {vs : List V} {ds : List Dt} (n : Nat), RpL K H vs ds → RpL K H (vs.drop n) (ds.drop n)
  | _, _, 0, h => h
  | _, _, _ + 1, .nil => .nil
  | _, _, n + 1, .cons h t => RpL.drop n t
theorem RpL.reverse {K : PySem.W.Frag} {H : Hp} : ∀ {vs : List V} {ds : List Dt}, RpL K H vs ds → RpL K H vs.reverse ds.reverse
  | _, _, .nil => .nil
  | _, _, .cons h t => by
    rw [List.reverse_cons, List.reverse_cons]
    exact (RpL.reverse t).append (.cons h .nil)
theorem RpL.set {K : PySem.W.Frag} {H : Hp} {v : V} {d : Dt} (q : Rp K H v d) : ∀ {vs : List V} {ds : List Dt} (i : Nat), RpL K H vs ds → RpL K H (vs.set i v) (ds.set i d)
  | _, _, _, .nil => .nil
  | _, _, 0, .cons _ t => .cons q t
  | _, _, i + 1, .cons h t => .cons h (RpL.set q i t)
theorem RpL.ofInts {K : PySem.W.Frag} {H : Hp} : ∀ ns : List Int, RpL K H (ns.map V.int) (ns.map PyData.int)
  | [] => .nil
  | n :: ns => .cons (.int n) (RpL.ofInts ns)

/-- what an owned object holds -/
inductive Ow (K : PySem.W.Frag) (G : Hp) : HO → Dt → Prop
  | lst {xs : List V} {ds : List Dt} : RpL K G xs ds → Ow K G (.lst xs) (.list ds)
  | dK {kvs : List (Key × V)} {ds : List Dt} : RpL K G (kvs.map (·.2)) ds → Ow K G (.dK kvs) (.dict ((.bool false, .none) :: (kvs.map fun p => keyD p.1).zip ds))
  | dT {kvs : List (List Key × V)} {ds : List Dt} : RpL K G (kvs.map (·.2)) ds → Ow K G (.dT kvs) (.dict ((.bool true, .none) :: (kvs.map fun p => PyData.tuple (p.1.map keyD)).zip ds))
theorem Ow.mono {K : PySem.W.Frag} {G G' : Hp} (l : Le G G') {o : HO} {d : Dt} (h : Ow K G o d) : Ow K G' o d := by
  cases h with
  | lst t => exact .lst (t.mono l)
  | dK t => exact .dK (t.mono l)
  | dT t => exact .dT (t.mono l)
theorem Ow.rp {K : PySem.W.Frag} {G : Hp} {a : Addr} {o : HO} {d : Dt} (h : Ow K G o d) (e : G a = some o) : Rp K G (.ref a) d := by
  cases h with
  | lst t => exact .lst e t
  | dK t => exact .dK (.inl e) t
  | dT t => exact .dT (.inl e) t

/-- the addresses that the frame may change -/
def Own (δ : De) (σ : L2.St) (b : Addr) : Prop := ∃ (i : Nat) (d : Dt), δ[i]? = some (some (d, true)) ∧ σ[i]? = some (some (V.ref b))

structure StOk (K : PySem.W.Frag) (S : List Addr) (δ : De) (σ : L2.St) (H : Hp) : Prop where
  len : δ.length = σ.length
  val : ∀ (i : Nat) (d : Dt), δ[i]? = some (some (d, false)) → ∃ v, σ[i]? = some (some v) ∧ Rp K (hid S H) v d
  own : ∀ (i : Nat) (d : Dt), δ[i]? = some (some (d, true)) → ∃ a o, σ[i]? = some (some (V.ref a)) ∧ a ∈ S ∧ H a = some o ∧ Ow K (hid S H) o d
  inj : ∀ (i j : Nat) (d e : Dt) (a : Addr), δ[i]? = some (some (d, true)) → δ[j]? = some (some (e, true)) → σ[i]? = some (some (V.ref a)) → σ[j]? = some (some (V.ref a)) → i = j
  live : ∀ b, b ∈ S → (H b).isSome = true
  nt : ∀ b, b ∈ S → ∀ xs, H b ≠ some (HO.tup xs)


/-- the frame goes on: what it may not change stands; addresses come and go as told -/
structure Mv (K : PySem.W.Frag) (δ : De) (S : List Addr) (σ : L2.St) (H : Hp) (δ' : De) (S' : List Addr) (σ' : L2.St) (H' : Hp) : Prop where
  keep : ∀ b o, H b = some o → ¬ Own δ σ b → H' b = some o
  sub : ∀ b, b ∈ S' → b ∈ S ∨ H b = none
  sup : ∀ b, b ∈ S → b ∈ S' ∨ Own δ σ b
  own : ∀ b, Own δ' σ' b → Own δ σ b ∨ H b = none
  some : ∀ b, (H b).isSome = true → (H' b).isSome = true
  live : ∀ b, b ∈ S → (H b).isSome = true
  ok : StOk K S' δ' σ' H'

theorem StOk.own_mem {K : PySem.W.Frag} {S : List Addr} {δ : De} {σ : L2.St} {H : Hp} (h : StOk K S δ σ H) {b : Addr} (q : Own δ σ b) : b ∈ S := by
  obtain ⟨i, d, h1, h2⟩ := q
  obtain ⟨a, o, e1, e2, _⟩ := h.own i d h1
  rw [h2] at e1
  cases e1
  exact e2
theorem none_back {H H' : Hp} {c : Addr} (s : (H c).isSome = true → (H' c).isSome = true) (h : H' c = none) : H c = none := by
  cases q : H c with
  | none => rfl
  | some o =>
    have := s (by rw [q]; rfl)
    rw [h] at this; cases this
section
variable {K : PySem.W.Frag} {δ δ' δ'' : De} {S S' S'' : List Addr} {σ σ' σ'' : L2.St} {H H' H'' : Hp}
theorem Mv.refl (h : StOk K S δ σ H) : Mv K δ S σ H δ S σ H := ⟨fun _ _ q _ => q, fun _ q => .inl q, fun _ q => .inl q, fun _ q => .inl q, fun _ q => q, h.live, h⟩
theorem Mv.trans (a : Mv K δ S σ H δ' S' σ' H') (b : Mv K δ' S' σ' H' δ'' S'' σ'' H'') : Mv K δ S σ H δ'' S'' σ'' H'' where
  keep := fun c o h1 h2 => b.keep c o (a.keep c o h1 h2) fun z => by
    rcases a.own c z with z | z
    · exact h2 z
    · rw [h1] at z; cases z
  sub := fun c h => by
    rcases b.sub c h with z | z
    · exact a.sub c z
    · exact .inr (none_back (a.some c) z)
  sup := fun c h => by
    rcases a.sup c h with z | z
    · rcases b.sup c z with z | z
      · exact .inl z
      · rcases a.own c z with z | z
        · exact .inr z
        · have := a.live c h
          rw [z] at this; cases this
    · exact .inr z
  own := fun c h => by
    rcases b.own c h with z | z
    · exact a.own c z
    · exact .inr (none_back (a.some c) z)
  some := fun c h => b.some c (a.some c h)
  live := a.live
  ok := b.ok
/-- what is read beside the frame stays -/
theorem Mv.le (a : Mv K δ S σ H δ' S' σ' H') (h : StOk K S δ σ H) : Le (hid S H) (hid S' H') :=
  hid_mono (fun b o q z => by
    rcases a.sub b z with z | z
    · exact z
    · rw [q] at z; cases z) fun b o h1 h2 => a.keep b o h2 fun z => h1 (h.own_mem z)
theorem Mv.rp (a : Mv K δ S σ H δ' S' σ' H') (h : StOk K S δ σ H) {v : V} {d : Dt} (q : Rp K (hid S H) v d) : Rp K (hid S' H') v d := q.mono (a.le h)
theorem Mv.rpl (a : Mv K δ S σ H δ' S' σ' H') (h : StOk K S δ σ H) {v : List V} {d : List Dt} (q : RpL K (hid S H) v d) : RpL K (hid S' H') v d := q.mono (a.le h)
/-- the heap grows alone -/
theorem StOk.grow (h : StOk K S δ σ H) (l : Le H H') : StOk K S δ σ H' :=
  ⟨h.len, fun i d q => let ⟨v, h1, h2⟩ := h.val i d q; ⟨v, h1, h2.mono (hid_mono (fun _ _ _ z => z) fun b o _ q => l b o q)⟩,
    fun i d q => let ⟨a, o, h1, h2, h3, h4⟩ := h.own i d q; ⟨a, o, h1, h2, l _ _ h3, h4.mono (hid_mono (fun _ _ _ z => z) fun b o _ q => l b o q)⟩, h.inj,
    fun b hb => by
      cases q : H b with
      | none => have := h.live b hb; rw [q] at this; cases this
      | some o => rw [l b o q]; rfl,
    fun b hb xs e => by
      cases q : H b with
      | none => have := h.live b hb; rw [q] at this; cases this
      | some o => rw [l b o q] at e; cases e; exact h.nt b hb xs q⟩
theorem isSome_le (l : Le H H') (b : Addr) (h : (H b).isSome = true) : (H' b).isSome = true := by
  cases q : H b with
  | none => rw [q] at h; cases h
  | some o => rw [l b o q]; rfl
theorem Mv.grow (h : StOk K S δ σ H) (l : Le H H') : Mv K δ S σ H δ S σ H' :=
  ⟨fun b o q _ => l b o q, fun _ q => .inl q, fun _ q => .inl q, fun _ q => .inl q, isSome_le l, h.live, h.grow l⟩
/-- some addresses are no longer kept apart -/
theorem StOk.free (h : StOk K S δ σ H) (hs : ∀ b, b ∈ S' → b ∈ S) (ho : ∀ b, Own δ σ b → b ∈ S') : StOk K S' δ σ H :=
  have l : Le (hid S H) (hid S' H) := hid_mono (fun b _ _ z => hs b z) fun _ _ _ q => q
  ⟨h.len, fun i d q => let ⟨v, h1, h2⟩ := h.val i d q; ⟨v, h1, h2.mono l⟩,
    fun i d q => let ⟨a, o, h1, h2, h3, h4⟩ := h.own i d q; ⟨a, o, h1, ho a ⟨i, d, q, h1⟩, h3, h4.mono l⟩, h.inj, fun b hb => h.live b (hs b hb), fun b hb => h.nt b (hs b hb)⟩
end


/-- what an expression gives: frozen data, or a new thing that nobody else holds -/
def Vl (K : PySem.W.Frag) (H : Hp) (S' : List Addr) (δ' : De) (σ : L2.St) (H' : Hp) (v : V) (d : Dt) : Bool → Prop
  | false => Rp K (hid S' H') v d
  | true => ∃ p o, v = .ref p ∧ H p = none ∧ p ∈ S' ∧ ¬ Own δ' σ p ∧ H' p = some o ∧ Ow K (hid S' H') o d
section
variable {K : PySem.W.Frag} {δ δ' δ'' : De} {S S' S'' : List Addr} {σ σ' σ'' : L2.St} {H H' H'' : Hp}
/-- a new thing is given away -/
theorem Vl.freeze (m : Mv K δ S σ H δ' S' σ' H') {v : V} {d : Dt} {f : Bool} (q : Vl K H S' δ' σ' H' v d f) : ∃ S'', Mv K δ S σ H δ' S'' σ' H' ∧ Rp K (hid S'' H') v d := by
  cases f with
  | false => exact ⟨S', m, q⟩
  | true =>
    obtain ⟨p, o, e, hp, hs, hn, ho, w⟩ := q
    subst e
    have hq : p ∉ S'.filter (fun b => b ≠ p) := fun z => by simp at z
    have st : StOk K (S'.filter fun b => b ≠ p) δ' σ' H' := m.ok.free (fun b z => (List.mem_filter.mp z).1) fun b z => by
      refine List.mem_filter.mpr ⟨m.ok.own_mem z, ?_⟩
      have : b ≠ p := fun e => hn (e ▸ z)
      simpa using this
    have l : Le (hid S' H') (hid (S'.filter fun b => b ≠ p) H') := hid_mono (fun b _ _ z => (List.mem_filter.mp z).1) fun _ _ _ q => q
    refine ⟨S'.filter fun b => b ≠ p, ⟨m.keep, fun b z => m.sub b (List.mem_filter.mp z).1, fun b z => ?_, m.own, m.some, m.live, st⟩, ?_⟩
    · rcases m.sup b z with y | y
      · refine .inl (List.mem_filter.mpr ⟨y, ?_⟩)
        have : b ≠ p := fun e => by
          have := m.live b z
          rw [e, hp] at this; cases this
        simpa using this
      · exact .inr y
    · exact (w.mono l).rp (by rw [hid_of hq]; exact ho)
/-- behind a further move -/
theorem Vl.later (m0 : Mv K δ S σ H δ' S' σ' H') (m : Mv K δ' S' σ' H' δ'' S'' σ'' H'') {v : V} {d : Dt} {f : Bool} (q : Vl K H' S'' δ'' σ'' H'' v d f) : Vl K H S'' δ'' σ'' H'' v d f := by
  cases f with
  | false => exact q
  | true =>
    obtain ⟨p, o, e, hp, hs, hn, ho, w⟩ := q
    exact ⟨p, o, e, none_back (m0.some p) hp, hs, hn, ho, w⟩
/-- a new object is laid: as frozen data, as a thing of its own -/
theorem Mv.laid (h : StOk K S δ σ H) {p : Addr} {o : HO} (hp : H p = none) : Mv K δ S σ H δ S σ (upd H p o) := .grow h fun b u q => by rw [upd_ne (ne_of_none q hp)]; exact q
theorem le_upd {p : Addr} {o : HO} (hp : H p = none) : Le H (upd H p o) := fun b u q => by rw [upd_ne (ne_of_none q hp)]; exact q
theorem Mv.laidOwn (h : StOk K S δ σ H) {p : Addr} {o : HO} {d : Dt} (hp : H p = none) (w : Ow K (hid S H) o d) : ∃ S', Mv K δ S σ H δ S' σ (upd H p o) ∧ Vl K H S' δ σ (upd H p o) (.ref p) d true := by
  have nS : p ∉ S := fun z => by have := h.live p z; rw [hp] at this; cases this
  have l : Le (hid S H) (hid (p :: S) (upd H p o)) := hid_mono (fun b u q z => by
    rcases List.mem_cons.mp z with z | z
    · rw [z, hp] at q; cases q
    · exact z) fun b u _ q => le_upd hp b u q
  refine ⟨p :: S, ⟨fun b u q _ => le_upd hp b u q, fun b z => ?_, fun b z => .inl (List.mem_cons_of_mem _ z), fun b z => .inl z, isSome_le (le_upd hp), h.live, ?_⟩, ⟨p, o, rfl, hp, List.mem_cons_self, fun z => nS (h.own_mem z), upd_same, w.mono l⟩⟩
  · rcases List.mem_cons.mp z with z | z
    · exact .inr (z ▸ hp)
    · exact .inl z
  · refine ⟨h.len, fun i d q => let ⟨v, h1, h2⟩ := h.val i d q; ⟨v, h1, h2.mono l⟩, fun i d q => ?_, h.inj, fun b hb => ?_, fun b hb xs e => ?_⟩
    · obtain ⟨a, u, h1, h2, h3, h4⟩ := h.own i d q
      exact ⟨a, u, h1, List.mem_cons_of_mem _ h2, le_upd hp _ _ h3, h4.mono l⟩
    · rcases List.mem_cons.mp hb with e | hb
      · rw [e, upd_same]; rfl
      · exact isSome_le (le_upd hp) b (h.live b hb)
    · rcases List.mem_cons.mp hb with e' | hb
      · rw [e', upd_same] at e
        cases e
        cases w
      · rw [upd_ne fun z => nS (by rw [← z]; exact hb)] at e
        exact h.nt b hb xs e
end
end Bw

set_option maxRecDepth 100000
set_option maxHeartbeats 4000000
namespace Bw
open PySem PySem.Spec PyProof.Rows L2
/-! ### rules that the hand layer lacks -/
/-- the different ints, as they are met -/
def metI (ns : List Int) : List Int := PyProof.Rows.firstMet (fun i => ns.getD i 0) ns.length
/-- len(set(xs)), xs a list of ints -/
def tLset (K : PySem.W.Frag) (ta : TE) : TE := fun σ H Q => ta σ H fun x H1 => ∃ (l : Addr) (ns : List Int), x = .ref l ∧ SqL K H1 l (ns.map V.int) ∧ ns.length ≤ 4000 ∧ Q (.int ((metI ns).length : Nat)) H1
theorem pe_lset {X : Cx} {a : Expr} {ta : TE} {p p2 q pos : Pos} (hg : Gl X "len") (hm : X.mg "len" = none) (hg2 : Gl X "set") (hm2 : X.mg "set" = none) (ha : PE X a ta) (hc : X.calm = true := by rfl)
    (na : starEach [a] X.env = (false, eval a X.env) :: starEach [] X.env := by rfl) : PE X (.Call (.Name "len" p) [.Call (.Name "set" p2) [a] [] q] [] pos) (tLset X.K ta) := by
  refine ⟨fun pins s σ H Q I h => ?_⟩
  refine Call_ (ld_blt I hg hm boot_len ?_)
  refine PyProof.Rows.callWith_builtin1 (PyProof.Rows.args_cons ?_ rfl) rfl rfl
  refine Call_ (ld_blt I hg2 hm2 boot_set ?_)
  refine PyProof.Rows.callWith_type1 (PyProof.Rows.args_cons (thn (ha.run pins s σ H _ I h) fun v s1 ⟨x, H1, I1, r1, q1⟩ => PyProof.Rows.args_nil ?_) na) na rfl
  obtain ⟨l, ns, rfl, hq, hl, q1⟩ := q1
  cases r1
  obtain ⟨its, r, pl, hz⟩ := I1.list hq
  have hlen : its.toArray.size = ns.length := by rw [List.size_toArray, ← r.length, List.length_map]
  refine call_set_list (I1.ok.hd hc) pl.isList (by simpa using RZ.intsAre_vals r) (by rw [hlen]; unfold scanBound; omega) fun h' tk hS hk => ?_
  refine PyProof.Rows.args_nil ?_
  rw [hlen] at hS
  have hle := PyProof.Rows.firstMet_length_le (fun i => ns.getD i 0) ns.length
  obtain ⟨o, es, ep, t, ho, hex, hd, _, _, _, hf, hn⟩ := hS
  have I2 : Inv X pins σ H1 { s1 with heap := h', toks := tk } := I1.kept fun b o e => hk b o (Heap.lt_size e) e
  exact call_len_set ho hex hd hf (by rw [hn] <;> omega) ⟨.int (metI ns).length, H1, I2.tok _, ⟨_, by rw [hn] <;> rfl⟩, q1⟩
/-- max(o.values()), a dict with tuple keys and int values, one at least -/
def tMaxV (td : TE) : TE := fun σ H Q => td σ H fun x H1 => ∃ a kvs is, x = V.ref a ∧ Rd H1 a (.dT kvs) ∧ kvs.map (·.2) = is.map V.int ∧ is ≠ [] ∧ ∀ m, m ∈ is → (∀ j ∈ is, j ≤ m) → Q (.int m) H1
theorem KT.val_at {H : Hp} {kvs : List (List L2.Key × V)} {xs : List (List L2.Key × Addr × Value)} (r : KT H kvs xs) : ∀ {i : Nat} {y : List L2.Key × Addr × Value}, xs[i]? = some y → ∃ p, kvs[i]? = some p ∧ RelV p.2 y.2.2 := by
  unfold KT at r
  induction r with
  | nil => intro i y e; simp at e
  | cons h t ih =>
    intro i y e
    cases i with
    | zero =>
      simp at e; subst e
      exact ⟨_, rfl, h.2.2⟩
    | succ i =>
      obtain ⟨p, h1, h2⟩ := ih (i := i) (y := y) (by simpa using e)
      exact ⟨p, by simpa using h1, h2⟩
theorem pe_maxV {X : Cx} {o : Expr} {p pos apos mpos : Pos} {td : TE} (hc : X.calm = true) (hg : Gl X "max") (hm : X.mg "max" = none) (hd : PE X o td) (hbase : attributeBase o "values" X.env (eval o X.env) = eval o X.env := by rfl) (hline : (apos.endLine == mpos.line) = true := by rfl)
    (hse : starEach [Expr.Call (.Attribute o "values" apos) [] [] mpos] X.env = [(false, eval (Expr.Call (.Attribute o "values" apos) [] [] mpos) X.env)] := by rfl) :
    PE X (.Call (.Name "max" p) [.Call (.Attribute o "values" apos) [] [] mpos] [] pos) (tMaxV td) := by
  refine ⟨fun pins s σ H Q I h => ?_⟩
  refine wpAny_Call_Name_kw (ld_blt I hg hm (u := .builtin "max") (by first | rfl | decide +kernel) ?_ (by first | decide +kernel | decide) (by first | decide +kernel | decide))
  rw [hse]
  refine PySem.callWith_builtin1 (wpAny_Call_method0_late hbase hline (thn (hd.run pins s σ H _ I h) fun v s1 ⟨x, H1, I1, r1, a, kvs, is, ex, ha, hv, hne, q⟩ => ?_))
  subst ex
  obtain rfl : v = Value.ref a := r1
  obtain ⟨_, hsys, xs, rel, dof⟩ := dt_rd I1.hok ha
  obtain ⟨es, ep, raw, hsz0, hen⟩ := dof.raw
  have raw' := raw
  obtain ⟨ob, ho, ex, hdat⟩ := raw'
  refine ⟨"dict", "dict.values", F.plainAttrs_dict, F.slot_dict_values, F.type_dict_values, ⟨ob, ho, ex.1⟩, fun b e => ?_, Calls.callWith_builtin rfl (PySem.evalArgs_none ?_)⟩
  · cases e
    exact ⟨ob, ho, ex.2.1⟩
  refine call_meetsIn F.slot_dict_values ⟨ob, ho, ex.1⟩ F.entry_dict_values (F.args_dict_values_1 _) (meets_dict_values_raw a hsys) ⟨⟨es, ep, raw⟩, ?_⟩
  have k1 : ∀ b u, s1.heap.get? b = some u → (s1.heap.push { cls := .type "dict_values", data := .fields #[.ref a] }).get? b = some u := fun b u e => Heap.get?_push_of_some _ e
  have raw1 : (s1.heap.push { cls := .type "dict_values", data := .fields #[.ref a] }).DictRaw a es ep := raw.at fun o e => k1 _ _ e
  have hlk : kvs.length = is.length := by
    have e1 := congrArg List.length hv
    rw [List.length_map, List.length_map] at e1
    exact e1
  have hlx : kvs.length = xs.length := Paired.length rel
  have hlen : 0 < es.size := by
    rw [hsz0, ← hlx, hlk]
    exact List.length_pos_iff.mpr hne
  have hval : ∀ (i : Nat) (v : Value), (∃ y, xs[i]? = some y ∧ v = y.2.2) → ∃ t, v = Value.int (is.getD i 0) t := fun i v ⟨y, hy, ey⟩ => by
    obtain ⟨x, h1, h2⟩ := KT.val_at rel hy
    have e1 : (kvs.map (·.2))[i]? = some x.2 := by rw [List.getElem?_map, h1] <;> rfl
    rw [hv, List.getElem?_map] at e1
    obtain ⟨j, hj, e2⟩ := Option.map_eq_some_iff.mp e1
    rw [← e2] at h2
    obtain ⟨t, e3⟩ := h2
    refine ⟨t, ?_⟩
    rw [ey, e3, List.getD_eq_getElem?_getD, hj] <;> rfl
  refine call_max_walk (wpAny_pyIter_values_raw (v := s1.heap.objs.size) (d := a) ⟨_, Heap.get?_push_size _ rfl, rfl, rfl⟩ raw1 ?_)
  have hlt : a < s1.heap.objs.size := Heap.lt_size ho
  have hsz : (s1.heap.push { cls := .type "dict_values", data := .fields #[.ref a] }).objs.size = s1.heap.objs.size + 1 := Heap.size_push _ _
  refine ⟨_, _, _, _, _, _, _, rfl, Walks.valuesH (xs := xs) (A := X.A.in1) (I.ok.hd hc) (s1.heap.push { cls := .type "dict_values", data := .fields #[.ref a] }).objs.size a (by rw [hsz]; exact Nat.ne_of_lt (Nat.lt_succ_of_lt hlt)) es ep (fun i hi => let ⟨y, h1, h2, h3, _⟩ := hen i hi; ⟨y, h1, h2, h3⟩),
    ⟨⟨_, Heap.get?_push_size _ rfl, rfl, rfl⟩, raw1.at fun o e => Heap.get?_push_of_some _ e⟩, fun b hb => ?_, hlen, CmpOf.ints_gt (fun i => is.getD i 0) hval, fun v h' tk hP hk => ?_⟩
  · show b < ((s1.heap.push _).push _).objs.size
    rw [Heap.size_push, Heap.size_push]
    rw [hsz] at hb
    rcases List.mem_cons.mp hb with e | hb
    · rw [e]
      exact Nat.lt_succ_self _
    · have e : b = a := List.mem_singleton.mp hb
      rw [e]
      exact Nat.lt_succ_of_lt (Nat.lt_succ_of_lt hlt)
  · obtain ⟨t, rfl⟩ := hval _ v hP
    obtain ⟨b1, b2⟩ := argBest_gt (fun i => is.getD i 0) (es.size - 1)
    refine ⟨.int _, H1, I1.kept (t' := tk) fun b u e => hk b u (fun hmem => ?_) (Heap.get?_push_of_some _ (k1 b u e)), ⟨t, rfl⟩, q _ ?_ fun j hj => ?_⟩
    · have e1 : b = (s1.heap.push { cls := .type "dict_values", data := .fields #[.ref a] }).objs.size := List.mem_singleton.mp hmem
      have e2 := Heap.lt_size e
      rw [hsz] at e1
      rw [e1] at e2
      exact absurd e2 (Nat.not_lt.mpr (Nat.le_succ _))
    · have hb : argBest (fun i j => decide (is.getD i 0 > is.getD j 0)) (es.size - 1) < is.length := by omega
      rw [List.getD_eq_getElem?_getD, List.getElem?_eq_getElem hb]
      exact List.getElem_mem hb
    · obtain ⟨i, hi, e⟩ := List.mem_iff_getElem.mp hj
      have e2 : is.getD i 0 = j := by rw [List.getD_eq_getElem?_getD, List.getElem?_eq_getElem hi, ← e] <;> rfl
      rw [← e2]
      exact b2 i (by omega)
end Bw

set_option maxRecDepth 100000
set_option maxHeartbeats 4000000
namespace Bw
open PySem PySem.Spec PyProof.Rows L2
/-! ### enumerate(tuple) -/
open AutoSeq1 (wpAny_loadPart') in
theorem meets_enumerate_newT (l : Addr) (items : Array Value) :
    Meets (Builtin.«enumerate.__new__» ⟨[.type "enumerate", .ref l], []⟩) (fun _ R s => s.heap.IsTuple l items ∧
      R (.ok (.ret (.ref (s.heap.push { cls := .type "tuple_iterator", data := .fields #[.ref l, .int 0 0] }).objs.size)))
        { s with heap := (s.heap.push { cls := .type "tuple_iterator", data := .fields #[.ref l, .int 0 0] }).push { cls := .type "enumerate", data := .fields #[.none, .bool false, .ref s.heap.objs.size, rawInt 0, .none, .none] } }) :=
  .of_wp fun prog w A R s h => by
    obtain ⟨hp, g, d, tk, os⟩ := s; obtain ⟨hl, h⟩ := h
    have hsub := sub_enumerate
    have hL : Heap.IsTuple (Shared.heap ⟨hp, g, d, tk, os⟩) l items := hl
    wp_walk
    refine wpAny_stack_any fun st => wpAny_pure ?_
    split
    · rename_i c _ _ _ _ _
      cases (c == Value.type "enumerate")
      · wp_walk using wpAny_pyIter_tuple hL
        exact ⟨_, rfl, h⟩
      · wp_walk using wpAny_pyIter_tuple hL
        exact ⟨_, rfl, h⟩
    · wp_walk using wpAny_pyIter_tuple hL
      exact ⟨_, rfl, h⟩
theorem call_enumerate_tuple {prog : Program} {w : World} {A : Around} {E : Value → Shared → Prop} {s : Shared} {l : Addr} {items : Array Value} {Q : Value → Shared → Prop} (hL : s.heap.IsTuple l items)
    (h : ∀ h', IsEnum h' (s.heap.objs.size + 1) s.heap.objs.size 0 .none → h'.IsTupleIter s.heap.objs.size l 0 → h'.objs.size = s.heap.objs.size + 2 →
      (∀ b o, s.heap.get? b = some o → h'.get? b = some o) → Q (.ref (s.heap.objs.size + 1)) { s with heap := h' }) :
    wpAny (model prog w) A (call (.type "enumerate") [.ref l]) Q E s := by
  refine callType_new F.called_enumerate (by decide) (F.typeCall_enumerate_1 _) (F.newCall_enumerate_1 _) (fun obj => F.args_object_init_2 obj _) F.entry_enumerate_new
    (meets_enumerate_newT l items) ⟨hL, ?_⟩
  have hz : (s.heap.push { cls := .type "tuple_iterator", data := .fields #[.ref l, .int 0 0] }).objs.size = s.heap.objs.size + 1 := Heap.size_push ..
  show _ ∧ _
  rw [hz]
  have he : IsEnum ((s.heap.push { cls := .type "tuple_iterator", data := .fields #[.ref l, .int 0 0] }).push
      { cls := .type "enumerate", data := .fields #[.none, .bool false, .ref s.heap.objs.size, rawInt 0, .none, .none] }) (s.heap.objs.size + 1) s.heap.objs.size 0 .none := by
    have := Heap.get?_push_size (s.heap.push { cls := .type "tuple_iterator", data := .fields #[.ref l, .int 0 0] })
      (o := { cls := .type "enumerate", data := .fields #[.none, .bool false, .ref s.heap.objs.size, rawInt 0, .none, .none] }) rfl
    rw [hz] at this; exact this
  refine ⟨⟨_, he, rfl⟩, h _ he ⟨_, Heap.get?_push_of_some _ (Heap.get?_push_size _ rfl), rfl, rfl⟩ (by rw [Heap.size_push, hz]) fun b o x => Heap.get?_push_of_some _ (Heap.get?_push_of_some _ x)⟩
/-- the tuple at a, each item in a new pair -/
def IteT (K : PySem.W.Frag) (a : Addr) : L2.It :=
  ⟨fun i H => ∃ (xs : List V) (x : V), SqT K H a xs ∧ xs[i]? = some x, fun i H v H' => ∃ T x, v = .ref T ∧ H T = none ∧ H' = upd H T (.tup [.int (i : Nat), x]) ∧ ∀ xs, SqT K H a xs → xs[i]? = some x, fun i H => ∃ xs : List V, SqT K H a xs ∧ xs.length = i⟩
theorem turn_enumT {P : Program} {w : World} {K : PySem.W.Frag} {elts : List Expr} {kk : Nat} {tpos : Pos} (a e it : Addr) :
    Turn P w K (.Tuple elts kk tpos) (IteT K a) [e, it] e (fun i h => (∃ old, IsEnum h e it ((i : Nat) : Int) old) ∧ h.IsTupleIter it a i ∧ e ≠ it) where
  mem := by simp
  obj := fun i h st b hb => by
    obtain ⟨⟨old, he⟩, ⟨o, ho, hc, hd⟩, _⟩ := st
    have e' : b = e ∨ b = it := by simpa using hb
    rcases e' with z | z
    · rw [z]; exact ⟨_, he, fun v q => nomatch q⟩
    · rw [z]; exact ⟨o, ho, fun v q => by rw [hd] at q; cases q⟩
  keep := fun i h h' st k => let ⟨⟨old, he⟩, hi, hne⟩ := st; ⟨⟨old, k e (by simp) _ he⟩, hi.at fun o q => k it (by simp) o q, hne⟩
  item := by
    intro X hP hw hK hc i pins s σ H E I hf st hg
    subst hP hw hK
    obtain ⟨⟨old, he⟩, hit, hne⟩ := st
    obtain ⟨xs, x, hq, hx⟩ := hg
    obtain ⟨its, rv, p, hz⟩ := I.tuple hq
    have pT : s.heap.IsTuple a its.toArray := p
    obtain ⟨u, hu, ru⟩ := rv.get hx
    have hel : e < s.heap.objs.size := Heap.lt_size he
    have hil : it < s.heap.objs.size := by obtain ⟨_, q, _⟩ := hit; exact Heap.lt_size q
    have hai : a ≠ it := fun z => by
      obtain ⟨o1, g1, c1, _⟩ := hit
      obtain ⟨o2, g2, c2, _⟩ := pT
      rw [z, g1] at g2
      cases g2
      rw [c1] at c2
      injection c2 with c2
      exact absurd c2 (by decide)
    have hae : e ≠ a := fun z => by
      obtain ⟨o2, g2, c2, _⟩ := pT
      rw [← z] at g2
      have g1 : s.heap.get? e = some _ := he
      rw [g1] at g2
      cases g2
      injection (show Value.type "enumerate" = Value.type "tuple" from c2) with c2
      exact absurd c2 (by decide)
    have hlt : i < its.toArray.size := by
      have := (List.getElem?_eq_some_iff.mp hu).1
      simpa using this
    refine wpAny_pyNext_enum_itemD (Draws.tuple (A := X.A.in1) (I.ok.hd hc) it a hai its.toArray) he ⟨hit, pT⟩ hlt hne (by simp [hne, hae]) fun u' h' tk hP' ho hst' hT hsz hk => ?_
    have eu : u' = u := by
      have h1 : its.toArray[i]? = some u' := hP'
      rw [List.getElem?_toArray, hu] at h1
      cases h1; rfl
    subst eu
    obtain ⟨hit', _⟩ := hst'
    refine ⟨_, rfl, wpAny_letOwnedTupleGo_enum (s := { s with heap := h', toks := tk + 1 }) ho fun h'' he' sb => ?_⟩
    have hT2 : h''.get? s.heap.objs.size = some { cls := .type "tuple", data := .seq #[.int i tk, u'] } := (sb.2 _ (Nat.ne_of_gt hel)).trans hT
    have new : ObjOk X.prog X.w (upd H s.heap.objs.size (.tup [.int (i : Nat), x])) h'' s.heap.objs.size (.tup [.int (i : Nat), x]) :=
      ⟨by show 2 ≤ sizeLine; decide, [.int i tk, u'], .cons ⟨_, rfl⟩ (.cons ru .nil), ⟨_, hT2, rfl, _, rfl⟩⟩
    have I1 : Inv X pins σ (upd H s.heap.objs.size (.tup [.int (i : Nat), x])) { s with heap := h'', toks := tk + 1 } :=
      I.turnedNew (ch := [e, it]) (fun b ob hb q => (sb.2 b (fun z => hb (by simp [z]))).trans (hk b ob (fun z => hb (by simp [z])) (fun z => hb (by simp [z])) q)) hf (Nat.le_refl _) new
    refine ⟨.ref s.heap.objs.size, _, I1, rfl, ⟨_, x, rfl, I.hok.fresh (Nat.le_refl _), rfl, fun ys hy => by rw [I.tuple_inj hy hq]; exact hx⟩, ⟨⟨u', ?_⟩, hit'.at fun o q => (sb.2 it (Ne.symm hne)).trans q, hne⟩, fun b hb => ?_⟩
    · have e1 : ((i + 1 : Nat) : Int) = (i : Int) + 1 := by omega
      rw [e1]; exact he'
    · have hb' : b < s.heap.objs.size := by
        have e' : b = e ∨ b = it := by simpa using hb
        rcases e' with z | z
        · rw [z]; exact hel
        · rw [z]; exact hil
      rw [upd_ne (Nat.ne_of_lt hb')]
      exact (hf b hb).1
  done := by
    intro X hP hw hK hc i pins s σ H E I hf st hg
    subst hP hw hK
    obtain ⟨⟨old, he⟩, hit, hne⟩ := st
    obtain ⟨xs, hq, hx⟩ := hg
    obtain ⟨its, rv, p, hz⟩ := I.tuple hq
    have pT : s.heap.IsTuple a its.toArray := p
    obtain ⟨f0, f1, f2, f3, f4, f5⟩ := hf it (by simp)
    have hl := rv.length
    have hai : a ≠ it := fun z => by
      obtain ⟨o1, g1, c1, _⟩ := hit
      obtain ⟨o2, g2, c2, _⟩ := pT
      rw [z, g1] at g2
      cases g2
      rw [c1] at c2
      injection c2 with c2
      exact absurd c2 (by decide)
    have hn : i = its.toArray.size := by simp; omega
    refine wpAny_pyNext_enum_endD (Draws.tuple (A := X.A.in1) (I.ok.hd hc) it a hai its.toArray) he ⟨hn ▸ hit, pT⟩ fun h' eb => ⟨rfl, I.turned (t' := s.toks) (fun b o hb q => eb b o hb q) f0 f1 f3 f4 f5⟩
  self := fun A i s Q E st h => let ⟨⟨_, he⟩, _⟩ := st; wpAny_pyIter_enum he h
def iEnumA (K : PySem.W.Frag) (ta : TA) : TI := fun σ H R => ta σ H fun vs H1 => ∃ a xs, vs = [.ref a] ∧ ((SqL K H1 a xs ∧ R (Ite K a) H1) ∨ (SqT K H1 a xs ∧ R (IteT K a) H1))
theorem pi_enumA {X : Cx} {e : Expr} {ta : TA} {p pos tpos : Pos} {elts : List Expr} {kk : Nat} (hg : Gl X "enumerate") (hm : X.mg "enumerate" = none) (ha : PA X [e] ta) (hs : starEach [e] X.env = [(false, eval e X.env)] := by rfl) :
    PI X (.Tuple elts kk tpos) (.Call (.Name "enumerate" p) [e] [] pos) (iEnumA X.K ta) := by
  refine ⟨fun pins s σ H R I h => ?_⟩
  refine Call_ (ld_blt I hg hm boot_enumerate (PyProof.Rows.callWith_type1 (thn (ha.run pos pins s σ H _ I h) fun us s1 ⟨vs, H1, I1, r1, q1⟩ => ?_) hs rfl))
  obtain ⟨a, xs, ex, q⟩ := q1
  subst ex
  cases r1 with
  | cons r rr =>
    cases rr
    cases r
    have fr : ∀ b, b ∈ [s1.heap.objs.size + 1, s1.heap.objs.size] → FpOk X pins H1 b := fun b hb => by
      have e' : b = s1.heap.objs.size + 1 ∨ b = s1.heap.objs.size := by simpa using hb
      have hle : s1.heap.objs.size ≤ b := by
        rcases e' with z | z
        · rw [z]; exact Nat.le_add_right _ _
        · rw [z]; exact Nat.le_refl _
      exact I1.fpOk hle (I1.hok.fresh hle)
    rcases q with ⟨hq, q⟩ | ⟨hq, q⟩
    · obtain ⟨its, rv, p', hz⟩ := I1.list hq
      refine call_enumerate_list p'.isList fun h' he hit hsz hk => wpAny_pyIter_enum he ?_
      have I2 : Inv X pins σ H1 { s1 with heap := h' } := I1.kept (t' := s1.toks) hk
      exact ⟨s1.heap.objs.size + 1, [s1.heap.objs.size + 1, s1.heap.objs.size], _, _, H1, rfl, I2, turn_enum a (s1.heap.objs.size + 1) s1.heap.objs.size, ⟨⟨.none, he⟩, hit, Nat.succ_ne_self _⟩, fr, q⟩
    · obtain ⟨its, rv, p', hz⟩ := I1.tuple hq
      refine call_enumerate_tuple (show s1.heap.IsTuple a its.toArray from p') fun h' he hit hsz hk => wpAny_pyIter_enum he ?_
      have I2 : Inv X pins σ H1 { s1 with heap := h' } := I1.kept (t' := s1.toks) hk
      exact ⟨s1.heap.objs.size + 1, [s1.heap.objs.size + 1, s1.heap.objs.size], _, _, H1, rfl, I2, turn_enumT a (s1.heap.objs.size + 1) s1.heap.objs.size, ⟨⟨.none, he⟩, hit, Nat.succ_ne_self _⟩, fr, q⟩
end Bw
namespace Bw
open PySem PySem.Spec PyProof.Rows L2
/-! ### min(tuple of ints) -/
theorem vals_back_at : ∀ {xs : List V} {us : List Value} {i : Nat} {u : Value}, Vals xs us → us[i]? = some u → ∃ x, xs[i]? = some x ∧ RelV x u
  | _, _, _, _, .nil, e => by simp at e
  | _, _, 0, _, .cons r _, e => by simp at e; subst e; exact ⟨_, rfl, r⟩
  | _, _, i + 1, u, .cons _ t, e => by
    obtain ⟨x, h1, h2⟩ := vals_back_at (i := i) (u := u) t (by simpa using e)
    exact ⟨x, by simpa using h1, h2⟩
def rMinT (K : PySem.W.Frag) : List V → Hp → VK → Prop := fun vs H Q => ∃ (a : Addr) (ns : List Int), vs = [V.ref a] ∧ SqT K H a (ns.map V.int) ∧ 0 < ns.length ∧ ∀ m, m ∈ ns → (∀ y, y ∈ ns → m ≤ y) → Q (.int m) H
theorem cr_minT {X : Cx} (hc : X.calm = true) : CallR X (.builtin "min") (rMinT X.K) := by
  intro pins s σ H vs us Q I r h
  obtain ⟨a, ns, rfl, hs, hne, q⟩ := h
  obtain ⟨its, rv, p, hz⟩ := I.tuple hs
  have pT : s.heap.IsTuple a its.toArray := p
  rw [Vals.ref1 r]
  have hi := rv.ints
  have hlen : its.toArray.size = ns.length := by rw [List.size_toArray, hi.length]
  obtain ⟨ob, ho, _⟩ := id pT
  have hlt : a < s.heap.objs.size := Heap.lt_size ho
  have hval : ∀ (i : Nat) (v : Value), its.toArray[i]? = some v → ∃ t, v = Value.int (ns.getD i 0) t := fun i v e => by
    have e : its[i]? = some v := by simpa using e
    obtain ⟨x, h1, h2⟩ := vals_back_at rv e
    rw [List.getElem?_map] at h1
    obtain ⟨j, hj, e2⟩ := Option.map_eq_some_iff.mp h1
    rw [← e2] at h2
    obtain ⟨t, e3⟩ := h2
    exact ⟨t, by rw [e3, List.getD_eq_getElem?_getD, hj] <;> rfl⟩
  refine call_min_walk (wpAny_pyIter_tuple pT ?_)
  have hsz : (s.heap.push { cls := .type "tuple_iterator", data := .fields #[.ref a, .int 0 0] }).objs.size = s.heap.objs.size + 1 := Heap.size_push _ _
  refine ⟨_, _, _, _, _, _, _, rfl, Walks.tuple (A := X.A.in1) (I.ok.hd hc) s.heap.objs.size a (Nat.ne_of_lt hlt) its.toArray, ⟨⟨_, Heap.get?_push_size _ rfl, rfl, rfl⟩, pT.at fun o e => Heap.get?_push_of_some _ e⟩, fun b hb => ?_, by omega, CmpOf.ints_lt (fun i => ns.getD i 0) hval, fun v h' tk hP hk => ?_⟩
  · rw [hsz]
    rcases List.mem_cons.mp hb with e | hb
    · rw [e]; exact Nat.lt_succ_self _
    · rw [List.mem_singleton.mp hb]; exact Nat.lt_succ_of_lt hlt
  · obtain ⟨t, rfl⟩ := hval _ v hP
    obtain ⟨b1, b2⟩ := argBest_lt (fun i => ns.getD i 0) (its.toArray.size - 1)
    refine ⟨.int _, H, I.kept (t' := tk) fun b u e => hk b u (fun hmem => ?_) (Heap.get?_push_of_some _ e), ⟨t, rfl⟩, q _ ?_ fun j hj => ?_⟩
    · have e1 : b = s.heap.objs.size := List.mem_singleton.mp hmem
      have e2 := Heap.lt_size e
      rw [e1] at e2
      exact absurd e2 (Nat.lt_irrefl _)
    · have hb : argBest (fun i j => decide (ns.getD i 0 < ns.getD j 0)) (its.toArray.size - 1) < ns.length := by omega
      rw [List.getD_eq_getElem?_getD, List.getElem?_eq_getElem hb]
      exact List.getElem_mem hb
    · obtain ⟨i, hi', e⟩ := List.mem_iff_getElem.mp hj
      have e2 : ns.getD i 0 = j := by rw [List.getD_eq_getElem?_getD, List.getElem?_eq_getElem hi', ← e] <;> rfl
      rw [← e2]
      exact b2 i (by omega)
theorem CallR.or {X : Cx} {f : Value} {r r' : List V → Hp → VK → Prop} (h : CallR X f r) (h' : CallR X f r') : CallR X f (fun vs H Q => r vs H Q ∨ r' vs H Q) := by
  intro pins s σ H vs us Q I rr q
  rcases q with q | q
  · exact h pins s σ H vs us Q I rr q
  · exact h' pins s σ H vs us Q I rr q
end Bw

set_option maxRecDepth 100000
set_option maxHeartbeats 4000000
namespace Bw
open PySem PySem.Spec PyProof.Rows L2
/-! ### dict(zip(xs, ys)), keys in a list, values in a tuple -/
section
variable {prog : Program} {w : World} {A : Around} {E : Value → Shared → Prop} {s : Shared} {z TI TO T i1 i2 : Addr} {fp1 fp2 : List Addr} {n1 n2 i : Nat} {P1 P2 : Nat → Value → Prop} {St1 St2 : Nat → Heap → Prop} {f : Bool} {oT : Obj}
/-- the next pair, while the last one is still out -/
theorem zip_held_item {Q : Value → Shared → Prop} (S : ZipSep2 z TI TO i1 i2 fp1 fp2) (D1 : Draws prog w A i1 fp1 n1 P1 St1) (D2 : Draws prog w A i2 fp2 n2 P2 St2)
    (hz : IsZipHeld s.heap z TI TO T f) (hT : s.heap.get? T = some oT) (hTI : IsTupOf2 s.heap TI (.ref i1) (.ref i2)) (st1 : St1 i s.heap) (st2 : St2 i s.heap) (hlt1 : i < n1) (hlt2 : i < n2)
    (hQ : ∀ x1 x2 h' tk, P1 i x1 → P2 i x2 → IsZipHeld h' z TI TO T true → St1 (i + 1) h' → St2 (i + 1) h' → IsTupOf2 h' s.heap.objs.size x1 x2 → h'.objs.size = s.heap.objs.size + 1 →
      (∀ c o, c ≠ z → c ≠ i1 → c ≠ i2 → s.heap.get? c = some o → h'.get? c = some o) → Q (.ref s.heap.objs.size) { s with heap := h', toks := tk }) :
    wpAny (model prog w) A (Builtin.«zip.__next__» ⟨[.ref z], []⟩) (fun fin s' => ∃ v, fin = .done (.ret v) ∧ Q v s') E s := by
  obtain ⟨hp, g, d, tk0, os⟩ := s
  show wpAny _ _ (field (.ref z) 2 >>= _) _ _ _
  refine wpAny_bind (wpAny_field hz rfl (x := .bool false) rfl ?_)
  show wpAny _ _ (field (.ref z) 3 >>= _) _ _ _
  refine wpAny_bind (wpAny_field hz rfl (x := .ref TI) rfl ?_)
  refine wpAny_bind (wpAny_seqItems hTI rfl ?_)
  show wpAny _ _ (Builtin.SmallTypes.ownedTupleIsFree (.ref z) >>= _) _ _ _
  refine wpAny_bind (wpAny_tupleHeld_zip hz hT fun h1 hz1 hs1 => ?_)
  replace hs1 : Heap.SameBut z hp h1 := hs1
  simp only [Bool.false_eq_true, if_false]
  refine wpAny_bind ?_
  rw [← Array.forIn_toList]
  simp only [List.forIn_cons, List.forIn_nil]
  refine wpAny_bind (wpAny_bind (wpAny_holding ?_))
  show wpAny _ _ (Builtin.SmallTypes.nextOf (.ref i1) >>= _) _ _ ⟨h1, g, d, tk0, os⟩
  refine wpAny_bind (D1.item i _ _ _ hlt1 (D1.over st1 hs1 S.zf1) fun x1 p1 tk1 hx1 sn1 hp1 => wpAny_pure ?_)
  replace hp1 : Heap.SameBut i1 h1 p1 := hp1
  refine wpAny_pure ?_
  refine wpAny_bind (wpAny_bind (wpAny_holding ?_))
  show wpAny _ _ (Builtin.SmallTypes.nextOf (.ref i2) >>= _) _ _ ⟨p1, g, d, tk1, os⟩
  refine wpAny_bind (D2.item i _ _ _ hlt2 (D2.over (D2.over st2 hs1 S.zf2) hp1 S.sep1_2) fun x2 p2 tk2 hx2 sn2 hp2 => wpAny_pure ?_)
  replace hp2 : Heap.SameBut i2 p1 p2 := hp2
  refine wpAny_pure (wpAny_pure ?_)
  show wpAny _ _ (newTuple [x1, x2] >>= _) _ _ _
  refine wpAny_bind (wpAny_newTuple ?_)
  have hsz : p2.objs.size = hp.objs.size := by rw [hp2.1, hp1.1, hs1.1]
  have hz2 : IsZipHeld p2 z TI TO T true := hp2.extBut _ _ S.zi2 (hp1.extBut _ _ S.zi1 hz1)
  have hk : ∀ c o, c ≠ z → c ≠ i1 → c ≠ i2 → hp.get? c = some o → p2.get? c = some o := fun c o c1 c2 c3 e => hp2.extBut _ _ c3 (hp1.extBut _ _ c2 (hs1.extBut _ _ c1 e))
  have sn1' : St1 (i + 1) p2 := D1.over sn1 hp2 S.sep2_1
  refine wpAny_pure ⟨_, rfl, ?_⟩
  show Q (.ref p2.objs.size) _
  have hpp : IsTupOf2 (p2.push { cls := .type "tuple", data := .seq #[x1, x2] }) p2.objs.size x1 x2 := Heap.get?_push_size _ rfl
  have hz4 : (p2.push { cls := .type "tuple", data := .seq #[x1, x2] }).objs.size = p2.objs.size + 1 := Heap.size_push ..
  rw [hsz] at hpp hz4 ⊢
  have up : ∀ c o, p2.get? c = some o → (p2.push { cls := .type "tuple", data := .seq #[x1, x2] }).get? c = some o := fun c o e => Heap.get?_push_of_some _ e
  exact hQ x1 x2 _ tk2 hx1 hx2 (up _ _ hz2) (D1.frame _ _ _ sn1' fun b _ o e => up b o e) (D2.frame _ _ _ sn2 fun b _ o e => up b o e) hpp hz4 fun c o c1 c2 c3 e => up c o (hk c o c1 c2 c3 e)
theorem zip_held_end {Q : Fin → Shared → Prop} (S : ZipSep2 z TI TO i1 i2 fp1 fp2) (D1 : Draws prog w A i1 fp1 n1 P1 St1) (D2 : Draws prog w A i2 fp2 n2 P2 St2)
    (hz : IsZipHeld s.heap z TI TO T f) (hT : s.heap.get? T = some oT) (hTI : IsTupOf2 s.heap TI (.ref i1) (.ref i2)) (st1 : St1 i s.heap) (st2 : St2 i s.heap) (hle1 : i ≤ n1) (hle2 : i ≤ n2) (hend : i = n1 ∨ i = n2)
    (hE : ∀ h' tk e, (∀ c o, c ≠ z → c ≠ i1 → c ≠ i2 → s.heap.get? c = some o → h'.get? c = some o) → (∃ o, h'.get? e = some o ∧ o.cls = .type "StopIteration") → E (.ref e) { s with heap := h', toks := tk }) :
    wpAny (model prog w) A (Builtin.«zip.__next__» ⟨[.ref z], []⟩) Q E s := by
  obtain ⟨hp, g, d, tk0, os⟩ := s
  show wpAny _ _ (field (.ref z) 2 >>= _) _ _ _
  refine wpAny_bind (wpAny_field hz rfl (x := .bool false) rfl ?_)
  show wpAny _ _ (field (.ref z) 3 >>= _) _ _ _
  refine wpAny_bind (wpAny_field hz rfl (x := .ref TI) rfl ?_)
  refine wpAny_bind (wpAny_seqItems hTI rfl ?_)
  show wpAny _ _ (Builtin.SmallTypes.ownedTupleIsFree (.ref z) >>= _) _ _ _
  refine wpAny_bind (wpAny_tupleHeld_zip hz hT fun h1 hz1 hs1 => ?_)
  replace hs1 : Heap.SameBut z hp h1 := hs1
  simp only [Bool.false_eq_true, if_false]
  refine wpAny_bind ?_
  rw [← Array.forIn_toList]
  simp only [List.forIn_cons, List.forIn_nil]
  refine wpAny_bind (wpAny_bind (wpAny_holding ?_))
  show wpAny _ _ (Builtin.SmallTypes.nextOf (.ref i1) >>= _) _ _ ⟨h1, g, d, tk0, os⟩
  by_cases hlt1 : i < n1
  · refine wpAny_bind (D1.item i _ _ _ hlt1 (D1.over st1 hs1 S.zf1) fun x1 p1 tk1 hx1 sn1 hp1 => wpAny_pure ?_)
    replace hp1 : Heap.SameBut i1 h1 p1 := hp1
    have hi2 : i = n2 := by omega
    refine wpAny_pure ?_
    refine wpAny_bind (wpAny_bind (wpAny_holding ?_))
    show wpAny _ _ (Builtin.SmallTypes.nextOf (.ref i2) >>= _) _ _ ⟨p1, g, d, tk1, os⟩
    refine wpAny_bind (D2.done ⟨p1, g, d, tk1, os⟩ _ _ (by rw [← hi2]; exact D2.over (D2.over st2 hs1 S.zf2) hp1 S.sep1_2) fun q e hq he => ?_)
    replace hq : Heap.ExtBut i2 p1 q := hq
    exact hE q tk1 e (fun c o c1 c2 c3 x => hq _ _ c3 (hp1.extBut _ _ c2 (hs1.extBut _ _ c1 x))) he
  · have hi1 : i = n1 := by omega
    refine wpAny_bind (D1.done ⟨h1, g, d, tk0, os⟩ _ _ (by rw [← hi1]; exact D1.over st1 hs1 S.zf1) fun q e hq he => ?_)
    replace hq : Heap.ExtBut i1 h1 q := hq
    exact hE q tk0 e (fun c o c1 c2 c3 x => hq _ _ c2 (hs1.extBut _ _ c1 x)) he
theorem next_held_item {Q : Option Value → Shared → Prop} (S : ZipSep2 z TI TO i1 i2 fp1 fp2) (D1 : Draws prog w A.in1 i1 fp1 n1 P1 St1) (D2 : Draws prog w A.in1 i2 fp2 n2 P2 St2)
    (hz : IsZipHeld s.heap z TI TO T f) (hT : s.heap.get? T = some oT) (hTI : IsTupOf2 s.heap TI (.ref i1) (.ref i2)) (st1 : St1 i s.heap) (st2 : St2 i s.heap) (hlt1 : i < n1) (hlt2 : i < n2)
    (hQ : ∀ x1 x2 h' tk, P1 i x1 → P2 i x2 → IsZipHeld h' z TI TO T true → St1 (i + 1) h' → St2 (i + 1) h' → IsTupOf2 h' s.heap.objs.size x1 x2 → h'.objs.size = s.heap.objs.size + 1 →
      (∀ c o, c ≠ z → c ≠ i1 → c ≠ i2 → s.heap.get? c = some o → h'.get? c = some o) → Q (some (.ref s.heap.objs.size)) { s with heap := h', toks := tk }) :
    wpAny (model prog w) A (pyNext (.ref z)) Q E s := by
  have hTy : s.TypeIs (.ref z) "zip" := ⟨_, hz, rfl⟩
  unfold pyNext
  exact wpAny_bind (wpAny_attempt (wpAny_callSpecial?_slot (name := Str.ofString "__next__") hTy F.slot_zip_next
    (wpAny_call_entry F.slot_zip_next hTy F.entry_zip_next
      (zip_held_item S D1 D2 hz hT hTI st1 st2 hlt1 hlt2 fun x1 x2 h' tk a1 a2 a3 a4 a5 a6 a7 a8 => wpAny_pure (hQ x1 x2 h' tk a1 a2 a3 a4 a5 a6 a7 a8)) (F.args_zip_next_1 _))))
theorem next_held_end {Q : Option Value → Shared → Prop} (S : ZipSep2 z TI TO i1 i2 fp1 fp2) (D1 : Draws prog w A.in1 i1 fp1 n1 P1 St1) (D2 : Draws prog w A.in1 i2 fp2 n2 P2 St2)
    (hz : IsZipHeld s.heap z TI TO T f) (hT : s.heap.get? T = some oT) (hTI : IsTupOf2 s.heap TI (.ref i1) (.ref i2)) (st1 : St1 i s.heap) (st2 : St2 i s.heap) (hle1 : i ≤ n1) (hle2 : i ≤ n2) (hend : i = n1 ∨ i = n2)
    (hQ : ∀ h' tk, (∀ c o, c ≠ z → c ≠ i1 → c ≠ i2 → s.heap.get? c = some o → h'.get? c = some o) → Q none { s with heap := h', toks := tk }) : wpAny (model prog w) A (pyNext (.ref z)) Q E s := by
  have hTy : s.TypeIs (.ref z) "zip" := ⟨_, hz, rfl⟩
  unfold pyNext
  refine wpAny_bind (wpAny_attempt (wpAny_callSpecial?_slot (name := Str.ofString "__next__") hTy F.slot_zip_next
    (wpAny_call_entry F.slot_zip_next hTy F.entry_zip_next (zip_held_end S D1 D2 hz hT hTI st1 st2 hle1 hle2 hend fun h' tk e hk he => ?_) (F.args_zip_next_1 _))))
  obtain ⟨o, ho, hc⟩ := he
  refine wpAny_bind (wpAny_isInstance (T := "StopIteration") (b := true) ⟨o, ho, hc⟩ isSubtype_stop ?_)
  exact wpAny_pure (hQ _ _ hk)
end
/-- a zip over any two drawers, as what dict() is made of -/
theorem pairZip {prog : Program} {w : World} {z TI TO i1 i2 : Addr} {fp1 fp2 : List Addr} {n1 n2 : Nat} {P1 P2 : Nat → Value → Prop} {St1 St2 : Nat → Heap → Prop} (S : ZipSep2 z TI TO i1 i2 fp1 fp2)
    (D1 : ∀ A : Around, A.handled = none → Draws prog w A i1 fp1 n1 P1 St1) (D2 : ∀ A : Around, A.handled = none → Draws prog w A i2 fp2 n2 P2 St2)
    (k1 : ∀ h h', St1 0 h → (∀ b o, h.get? b = some o → h'.get? b = some o) → St1 0 h') (k2 : ∀ h h', St2 0 h → (∀ b o, h.get? b = some o → h'.get? b = some o) → St2 0 h')
    (v1 : ∀ h, St1 0 h → ∀ b ∈ fp1, ∃ o, h.get? b = some o) (v2 : ∀ h, St2 0 h → ∀ b ∈ fp2, ∃ o, h.get? b = some o) :
    PairArg prog w "zip" z (z :: TI :: TO :: (fp1 ++ fp2)) [z, TO, i1, i2] (min n1 n2) (fun i k v => P1 i k ∧ P2 i v)
      (fun h => IsZip h z TI TO .none ∧ IsTupOf2 h TI (.ref i1) (.ref i2) ∧ (∃ a b, IsTupOf2 h TO a b) ∧ St1 0 h ∧ St2 0 h) where
  type := fun s ok => ⟨_, ok.1, rfl⟩
  notDict := by decide
  keep := fun h h' ok hk => by
    obtain ⟨hz, hTI, ⟨a, b, hTO⟩, h1, h2⟩ := ok
    exact ⟨hk _ _ hz, hk _ _ hTI, ⟨a, b, hk _ _ hTO⟩, k1 _ _ h1 hk, k2 _ _ h2 hk⟩
  there := fun h ok b hb => by
    obtain ⟨hz, hTI, ⟨a, c, hTO⟩, h1, h2⟩ := ok
    simp only [List.mem_cons, List.mem_append] at hb
    rcases hb with rfl | rfl | rfl | hb | hb
    · exact ⟨_, hz⟩
    · exact ⟨_, hTI⟩
    · exact ⟨_, hTO⟩
    · exact v1 h h1 b hb
    · exact v2 h h2 b hb
  sub := fun b hb => by
    simp only [List.mem_cons, List.mem_append, List.not_mem_nil, or_false] at hb ⊢
    rcases hb with rfl | rfl | rfl | rfl
    · exact .inl rfl
    · exact .inr (.inr (.inl rfl))
    · exact .inr (.inr (.inr (.inl S.mem1)))
    · exact .inr (.inr (.inr (.inr S.mem2)))
  noKeys := fun A s Q E hA ok h => getAttrOr_miss_zip ok.1 rfl rfl rfl zip_no_keys (by decide +kernel) hA h
  iter := fun A s d Q E hA ok hd hdf h => by
    obtain ⟨hz, hTI, ⟨a, b, hTO⟩, h1, h2⟩ := ok
    simp only [List.mem_cons, List.mem_append, not_or] at hdf
    obtain ⟨dz, dTI, dTO, df1, df2⟩ := hdf
    have E1 := D1 A.in1 hA
    have E2 := D2 A.in1 hA
    have di1 : d ≠ i1 := fun e => df1 (e ▸ S.mem1)
    have di2 : d ≠ i2 := fun e => df2 (e ▸ S.mem2)
    refine wpAny_pyIter_zip hz (h z [z, TO, i1, i2] (fun i h => IsTupOf2 h TI (.ref i1) (.ref i2) ∧ St1 i h ∧ St2 i h ∧
      ((IsZip h z TI TO .none ∧ ∃ a b, IsTupOf2 h TO a b) ∨ ∃ T f oT, IsZipHeld h z TI TO T f ∧ h.get? T = some oT ∧ T ≠ z ∧ T ≠ i1 ∧ T ≠ i2 ∧ T ≠ d)) s.heap s.toks ?_
      ⟨hTI, h1, h2, .inl ⟨hz, a, b, hTO⟩⟩ (fun _ _ e => e) fun b hb => .inl hb)
    exact {
      off := fun hm => by
        simp only [List.mem_cons, List.not_mem_nil, or_false] at hm
        rcases hm with e | e | e | e
        · exact dz e
        · exact dTO e
        · exact di1 e
        · exact di2 e
      frame := fun i h3 h4 st hk => by
        obtain ⟨hTI, h1, h2, hz⟩ := st
        refine ⟨hk _ _ (Ne.symm dTI) hTI, E1.frame _ _ _ h1 fun b hb o e => hk b o (fun q => df1 (q ▸ hb)) e, E2.frame _ _ _ h2 fun b hb o e => hk b o (fun q => df2 (q ▸ hb)) e, ?_⟩
        rcases hz with ⟨hz, a, b, hTO⟩ | ⟨T, f, oT, hz, hT, r1, r2, r3, r4⟩
        · exact .inl ⟨hk _ _ (Ne.symm dz) hz, a, b, hk _ _ (Ne.symm dTO) hTO⟩
        · exact .inr ⟨T, f, oT, hk _ _ (Ne.symm dz) hz, hk _ _ r4 hT, r1, r2, r3, r4⟩
      item := fun i s1 Q1 E1' hi st hds hQ => by
        obtain ⟨hTI, h1, h2, hz⟩ := st
        have hi1 : i < n1 := by omega
        have hi2 : i < n2 := by omega
        have lt : ∀ {c o}, s1.heap.get? c = some o → s1.heap.objs.size ≠ c := fun e => Nat.ne_of_gt (Heap.lt_size e)
        have m1 : s1.heap.objs.size ≠ i1 := let ⟨_, e⟩ := E1.live _ _ h1; lt e
        have m2 : s1.heap.objs.size ≠ i2 := let ⟨_, e⟩ := E2.live _ _ h2; lt e
        rcases hz with ⟨hz, a, b, hTO⟩ | ⟨T, f, oT, hz, hT, r1, r2, r3, r4⟩
        · refine wpAny_pyNext_zipD2_item S E1 E2 hz hTI hTO h1 h2 hi1 hi2 fun x1 x2 h' tk y1 y2 b1 b2 c1 c2 b5 b6 hk => ?_
          exact hQ s1.heap.objs.size x1 x2 h' tk ⟨y1, y2⟩ (.inl ⟨_, b5, rfl, _, rfl⟩)
            ⟨hk _ _ S.TIz S.TITO S.TIi1 S.TIi2 hTI, c1, c2, .inr ⟨s1.heap.objs.size, false, _, b1, b5, lt hz, m1, m2, Nat.ne_of_gt hds⟩⟩
            fun c o hc e => hk c o (fun x => hc (by simp [x])) (fun x => hc (by simp [x])) (fun x => hc (by simp [x])) (fun x => hc (by simp [x])) e
        · refine next_held_item S E1 E2 hz hT hTI h1 h2 hi1 hi2 fun x1 x2 h' tk y1 y2 b1 c1 c2 b5 b6 hk => ?_
          exact hQ s1.heap.objs.size x1 x2 h' tk ⟨y1, y2⟩ (.inl ⟨_, b5, rfl, _, rfl⟩)
            ⟨hk _ _ S.TIz S.TIi1 S.TIi2 hTI, c1, c2, .inr ⟨T, true, oT, b1, hk _ _ r1 r2 r3 hT, r1, r2, r3, r4⟩⟩
            fun c o hc e => hk c o (fun x => hc (by simp [x])) (fun x => hc (by simp [x])) (fun x => hc (by simp [x])) e
      done := fun s1 Q1 E1' st hQ => by
        obtain ⟨hTI, h1, h2, hz⟩ := st
        rcases hz with ⟨hz, a, b, hTO⟩ | ⟨T, f, oT, hz, hT, r1, r2, r3, r4⟩
        · exact wpAny_pyNext_zipD2_end S E1 E2 hz hTI hTO h1 h2 (by omega) (by omega) (by omega) fun h' tk hk => hQ h' tk fun c o hc e => hk c o (fun x => hc (by simp [x])) (fun x => hc (by simp [x])) (fun x => hc (by simp [x])) (fun x => hc (by simp [x])) e
        · exact next_held_end S E1 E2 hz hT hTI h1 h2 (by omega) (by omega) (by omega) fun h' tk hk => hQ h' tk fun c o hc e => hk c o (fun x => hc (by simp [x])) (fun x => hc (by simp [x])) (fun x => hc (by simp [x])) e }
/-- the entries, one behind the other -/
def putAll (kvs : List (List L2.Key × V)) (l : List ((Addr × List L2.Key) × V)) : List (List L2.Key × V) := l.foldl (fun kvs q => putK kvs q.1.2 q.2) kvs
theorem puts_kt {H : Hp} : ∀ (bs : List (Addr × List L2.Key)) {ys : List V} {us : List Value} {kvs : List (List L2.Key × V)} {xs : List (List L2.Key × Addr × Value)}, Vals ys us → (∀ b ∈ bs, H b.1 = some (.tup (b.2.map kV))) → KT H kvs xs →
    KT H (putAll kvs (bs.zip ys)) (storedAllH xs ((bs.zip us).map fun q => (q.1.2, q.1.1, q.2)))
  | [], _, _, _, _, _, _, t => t
  | b :: bs, [], us, kvs, xs, r, h, t => by
    cases r
    exact t
  | b :: bs, y :: ys, us, kvs, xs, r, h, t => by
    cases r with
    | cons ry r =>
      exact puts_kt bs r (fun c hc => h c (List.mem_cons_of_mem _ hc)) (t.put b.2 (h b List.mem_cons_self) ry)
/-- dict(zip(xs, ys)) -/
def tDzip (K : PySem.W.Frag) (t : TA) : TE := fun σ H Q => t σ H fun vs H1 => ∃ (l u : Addr) (bs : List (Addr × List L2.Key)) (ys : List V), vs = [.ref l, .ref u] ∧ SqL K H1 l (bs.map fun b => V.ref b.1) ∧ SqT K H1 u ys ∧ bs.length = ys.length ∧ bs.length ≤ sizeLine ∧
  (∀ b ∈ bs, H1 b.1 = some (.tup (b.2.map kV))) ∧ ∀ p, H1 p = none → Q (.ref p) (upd H1 p (.dT (putAll [] (bs.zip ys))))
theorem pe_dzip {X : Cx} {e e2 : Expr} {ta : TA} {p p2 q pos : Pos} (hg : Gl X "dict") (hm : X.mg "dict" = none) (hg2 : Gl X "zip") (hm2 : X.mg "zip" = none) (ha : PA X [e, e2] ta) (hu : X.A.units + 20 < cLine) (hc : X.calm = true := by rfl)
    (hs : starEach [e, e2] X.env = (false, eval e X.env) :: starEach [e2] X.env := by rfl) (hpl : (backTo q (starEach [e2] X.env)).any (·.1) = false := by rfl) :
    PE X (.Call (.Name "dict" p) [.Call (.Name "zip" p2) [e, e2] [] q] [] pos) (tDzip X.K ta) := by
  refine ⟨fun pins s σ H Q I h => ?_⟩
  refine Call_ (ld_blt I hg hm PyProof.Rows.boot_dict ?_)
  refine PyProof.Rows.callWith_type1 (PyProof.Rows.args_cons ?_ rfl) rfl rfl
  refine Call_ (ld_blt I hg2 hm2 PyProof.Rows.boot_zip (PyProof.Rows.callWith_type1 (thn (ha.run q pins s σ H _ I h) fun us s1 ⟨vs, H1, I1, r1, q1⟩ => ?_) hs hpl))
  obtain ⟨l, u, bs, ys, ex, hl, hy, hlen, hsz, hk, q1⟩ := q1
  subst ex
  cases r1 with
  | cons r rr =>
  cases rr with
  | cons r' rr =>
  cases rr
  cases r
  cases r'
  obtain ⟨its, rv, pl, hz⟩ := I1.list hl
  obtain ⟨its2, rv2, pt, hz2⟩ := I1.tuple hy
  have ll : l < s1.heap.objs.size := by obtain ⟨o, e, _⟩ := pl.isList; exact Heap.lt_size e
  have lu : u < s1.heap.objs.size := by obtain ⟨o, e, _⟩ := (show s1.heap.IsTuple u its2.toArray from pt); exact Heap.lt_size e
  refine zip_begins2 (begins_list l its.toArray) (begins_tuple u its2.toArray) pl.isList pt fun h' hzip hTI hTO g1 g2 hsz' hkeep => ?_
  refine PyProof.Rows.args_nil ?_
  have len1 : its.length = bs.length := by rw [← rv.length, List.length_map]
  have len2 : its2.length = ys.length := by rw [← rv2.length]
  have hA := I.ok.hd hc
  replace ll : @LT.lt Nat _ l s1.heap.objs.size := ll
  replace lu : @LT.lt Nat _ u s1.heap.objs.size := lu
  have nn : ∀ {a b : Nat}, a ≠ b → @Ne Addr a b := fun h => h
  have nm : ∀ {a b c : Nat}, a ≠ b → a ≠ c → (a : Addr) ∉ [(b : Addr), c] := fun h1 h2 z => by
    simp only [List.mem_cons, List.not_mem_nil, or_false] at z
    exact z.elim h1 h2
  have P : PairArg X.prog X.w "zip" (s1.heap.objs.size + 4) _ _ _ _ _ := pairZip (z := s1.heap.objs.size + 4) (TI := s1.heap.objs.size + 2) (TO := s1.heap.objs.size + 3) (i1 := s1.heap.objs.size) (i2 := s1.heap.objs.size + 1) (fp1 := [s1.heap.objs.size, l]) (fp2 := [s1.heap.objs.size + 1, u])
    ⟨nn (by omega), nn (by omega), nn (by omega), nn (by omega), by simp, nm (by omega) (by omega), nm (by omega) (by omega), nn (by omega), by simp, nm (by omega) (by omega), nm (by omega) (by omega), nm (by omega) (by omega), nm (by omega) (by omega)⟩
    (fun A hA => Draws.list hA s1.heap.objs.size l (nn (Nat.ne_of_lt ll)) its.toArray) (fun A hA => Draws.tuple hA (s1.heap.objs.size + 1) u (nn (Nat.ne_of_lt (Nat.lt_succ_of_lt lu))) its2.toArray)
    (fun h h' st k => ⟨st.1.at fun o e => k _ o e, st.2.at fun o e => k _ o e⟩) (fun h h' st k => ⟨st.1.at fun o e => k _ o e, st.2.at fun o e => k _ o e⟩)
    (fun h st b hb => by
      simp only [List.mem_cons, List.not_mem_nil, or_false] at hb
      obtain ⟨⟨o1, e1, _⟩, ⟨o2, e2, _⟩⟩ := st
      rcases hb with rfl | rfl
      · exact ⟨_, e1⟩
      · exact ⟨_, e2⟩)
    (fun h st b hb => by
      simp only [List.mem_cons, List.not_mem_nil, or_false] at hb
      obtain ⟨⟨o1, e1, _⟩, ⟨o2, e2, _⟩⟩ := st
      rcases hb with rfl | rfl
      · exact ⟨_, e1⟩
      · exact ⟨_, e2⟩)
  have kfresh : ∀ {b : Addr} {o : Obj}, s1.heap.get? b = some o → b ∉ [s1.heap.objs.size + 4, s1.heap.objs.size + 3, s1.heap.objs.size, s1.heap.objs.size + 1] ∧ b < s1.heap.objs.size := fun {b o} e => by
    have := Heap.lt_size e
    refine ⟨fun z => ?_, this⟩
    simp only [List.mem_cons, List.not_mem_nil, or_false] at z
    replace this : @LT.lt Nat _ b s1.heap.objs.size := this
    rcases z with z | z | z | z <;> (replace z : @Eq Nat b _ := z; omega)
  refine call_dict_pairsH (knd := tupleKind (mixKind X.prog X.w)) (ps := (bs.zip its2).map fun q => (q.1.2, q.1.1, q.2)) P hA ?_ ⟨hzip, hTI, ⟨_, _, hTO⟩, ⟨⟨_, g1, rfl, rfl⟩, pl.isList.at fun o e => hkeep _ o e⟩, ⟨⟨_, g2, rfl, rfl⟩, (show s1.heap.IsTuple u its2.toArray from pt).at fun o e => hkeep _ o e⟩⟩ ⟨?_, ?_⟩ ?_ ?_ fun h2 tk hd hk2 => ?_
  · show X.A.in1.in1.units < cLine
    show X.A.units + 1 + 1 < cLine
    omega
  · rw [List.length_map, List.length_zip, List.size_toArray, List.size_toArray, len1]
  · rintro i key v ⟨e1, e2⟩
    rw [List.getElem?_toArray] at e1 e2
    have hi : i < its.length := (List.getElem?_eq_some_iff.mp e1).1
    obtain ⟨b, hb⟩ : ∃ b, bs[i]? = some b := ⟨bs[i]'(by omega), List.getElem?_eq_getElem _⟩
    obtain ⟨x, hx, rx⟩ := rv.get (i := i) (x := V.ref b.1) (by rw [List.getElem?_map, hb]; rfl)
    rw [hx] at e1; cases e1
    cases rx
    refine ⟨b.2, b.1, ?_, rfl⟩
    have ez : (bs.zip its2)[i]? = some (b, v) := List.getElem?_zip_eq_some.mpr ⟨hb, e2⟩
    rw [List.getElem?_map, ez]; rfl
  · intro h3 hk3 x hx
    obtain ⟨⟨b, v⟩, hb, rfl⟩ := List.mem_map.mp hx
    have hb' := (List.of_mem_zip hb).1
    have ok3 : HOk X.prog X.w H1 h3 := I1.hok.kept fun c o e => by
      obtain ⟨m1, m2⟩ := kfresh e
      exact hk3 c o (nn (by show @Ne Nat c h'.objs.size; replace m2 : @LT.lt Nat _ c s1.heap.objs.size := m2; omega)) m1 (hkeep c o e)
    exact key_of ok3 (hk b hb')
  · rw [List.size_toArray, List.size_toArray]; omega
  · have kept : ∀ b o, s1.heap.get? b = some o → h2.get? b = some o := fun b o e => hk2 b o (kfresh e).1 (hkeep b o e)
    have hle : s1.heap.objs.size ≤ h'.objs.size := by omega
    have hfr : H1 h'.objs.size = none := I1.hok.fresh hle
    have kt : KT H1 (putAll [] (bs.zip ys)) (storedAllH [] ((bs.zip its2).map fun q => (q.1.2, q.1.1, q.2))) := puts_kt bs rv2 hk .nil
    obtain ⟨o, es, ep, ho, hce, hda, hes, _, hnd⟩ := hd
    have hl2 : (putAll [] (bs.zip ys)).length ≤ sizeLine := by
      have e1 : (putAll [] (bs.zip ys)).length = _ := Paired.length kt
      have e2 := storedAllH_length ((bs.zip its2).map fun q => (q.1.2, q.1.1, q.2)) ([] : List (List L2.Key × Addr × Value))
      rw [List.length_map, List.length_zip, List.length_nil] at e2
      omega
    refine ⟨.ref h'.objs.size, upd H1 h'.objs.size (.dT (putAll [] (bs.zip ys))), I1.laid (t' := tk) kept hle ⟨hl2, beq_eq_false_iff_ne.mpr (Nat.ne_of_gt (Nat.lt_of_lt_of_le I1.big hle)), _, kt.keeps (fun b ys e => ?_), o, es, ep, ho, hce, hda, hes, hnd⟩, rfl, q1 _ hfr⟩
    rw [upd_ne fun z => by rw [z, hfr] at e; cases e]; exact e
end Bw

set_option maxRecDepth 100000
namespace Bw
open PySem PySem.Spec PyProof.Rows L2

inductive BOp where
  | add | sub | mul | fdiv | mod | pow | shl | shr | band
  deriving DecidableEq
inductive COp where
  | eq | ne | lt | le | gt | ge | inn | nin | is | isn
  deriving DecidableEq
/-- built-ins by name, and the methods that change nothing -/
inductive Bi where
  | len | tuple | list | max2 | min2 | max1 | min1 | sorted | str | divmod | all | repr | abs | int | dict | lenset | sortedset | maxv | minv
  | mcount | mindex | mjoin | msplit | mget | mupper | mlvalues | mmaxvalues
  deriving DecidableEq
/-- methods that change a name's own list or dict -/
inductive Mu where
  | append | extend | pop | popAt | popD | clear
  deriving DecidableEq
mutual
inductive Tg where
  | nm (i : Nat)
  | tp (ts : Tgs)
inductive Tgs where
  | nil
  | cons (t : Tg) (ts : Tgs)
end
mutual
inductive E where
  | cst (c : Dt)
  | var (i : Nat)
  | gl (x : Str) (c : Dt)
  | bin (o : BOp) (a b : E)
  | cmp (o : COp) (a b : E)
  | chain (o p : COp) (a b c : E)
  | isN (a : E) | notN (a : E)
  | neg (a : E)
  | nt (a : E)
  | an (es : Es) | orr (es : Es)
  | ife (c a b : E)
  | ix (a i : E)
  | sl (a : E) (lo hi : Eo)
  | rev (a : E)
  | tup (es : Es) | lst (es : Es)
  | dct (t : Bool) (ks vs : Es)
  | bi (b : Bi) (es : Es)
  | isi (a : E) (t : String)
  | lset (a : E)
  | mxv (a : E)
  | lrng (a : E)
  | cnt (i : Nat) (b : E)
  | dzip (a b : E)
  | call (f : Str) (es : Es)
  | callM (f : Str) (i : Nat) (es : Es)
  | callT (f : Str) (a : E) (es : Es)
  | mu (m : Mu) (i : Nat) (es : Es)
  | lc (el : E) (tg : Tg) (it : It) (own : List Nat)
  | lcf (el : E) (tg : Tg) (it : It) (c : E) (own : List Nat)
inductive Eo where
  | non
  | som (e : E)
inductive Es where
  | nil
  | cons (e : E) (es : Es)
inductive It where
  | val (e : E)
  | bor (i : Nat)
  | rng1 (a : E) | rng2 (a b : E) | rng3 (a b c : E)
  | enum (e : E)
  | zip (a b : E)
  | items (e : E)
end
mutual
inductive S where
  | asg (i : Nat) (e : E)
  | unp (ts : Tgs) (e : E)
  | par (i j : Nat) (a b : E)
  | par3 (i j k : Nat) (a b c : E)
  | put (i : Nat) (k v : E)
  | ret (e : E)
  | retN
  | ifs (c : E) (t f : Ss)
  | fr (tg : Tg) (it : It) (b : Ss)
  | wh (c : E) (b : Ss)
  | ex (e : E)
  | brk
  | nev
  | rs (c : Str)
  | rsA (c : Str) (f : Str) (e : E)
  | frc (tg : Tg) (i : Nat) (c : E) (d : Bool)
inductive Ss where
  | nil
  | cons (s : S) (ss : Ss)
end

/-- what a def's call gives: an answer (is it new), and what the first argument has become -/
inductive CR where
  | ok (d : Dt) (own : Bool) (fin : Dt)
  | ex (c : Str) (x : Option Dt) (fin : Dt)
  | bad
abbrev Cl := Str → List Dt → CR

/-! ### data -/
def toKey : Dt → Option Key
  | .int i => some (.inl i)
  | .str x => some (.inr x)
  | _ => none
def toKeys : List Dt → Option (List Key)
  | [] => some []
  | d :: ds => match toKey d, toKeys ds with
    | some k, some ks => some (k :: ks)
    | _, _ => none
/-- a dict's entry by a key: an int, a text; a tuple of such -/
def toK : Dt → Option (Key ⊕ List Key)
  | .int i => some (.inl (.inl i))
  | .str x => some (.inl (.inr x))
  | .tuple ds => (toKeys ds).map .inr
  | _ => none
def findK (k : Key ⊕ List Key) : List (Dt × Dt) → Option Dt
  | [] => none
  | (a, d) :: r => if toK a = some k then some d else findK k r
/-- a dict's first entry is a mark: whether its keys are tuples -/
def getK : List (Dt × Dt) → Key ⊕ List Key → Option (Option Dt)
  | (.bool false, _) :: r, .inl x => some (findK (.inl x) r)
  | (.bool true, _) :: r, .inr x => some (findK (.inr x) r)
  | _, _ => none
def putD (kd d : Dt) (k : Key ⊕ List Key) (l : List (Dt × Dt)) : List (Dt × Dt) :=
  if (l.any fun p => decide (toK p.1 = some k)) = true then l.map (fun p => if toK p.1 = some k then (p.1, d) else p) else l ++ [(kd, d)]
def delD (k : Key ⊕ List Key) : List (Dt × Dt) → List (Dt × Dt)
  | [] => []
  | (a, e) :: r => if toK a = some k then delD k r else (a, e) :: delD k r

def intsD : List Dt → Option (List Int)
  | [] => some []
  | .int i :: ds => (intsD ds).map (i :: ·)
  | _ :: _ => none
def blsD : List Dt → Option (List Bool)
  | [] => some []
  | .bool i :: ds => (blsD ds).map (i :: ·)
  | _ :: _ => none
def strsD : List Dt → Option (List Str)
  | [] => some []
  | .str i :: ds => (strsD ds).map (i :: ·)
  | _ :: _ => none

def lim : Nat := sizeLine
def bop_add : Dt → Dt → Option (Dt × Bool)
  | .int i, .int j => some (.int (i + j), false)
  | .str x, .str y => if x.length + y.length ≤ lim then some (.str (x ++ y), false) else none
  | .list x, .list y => if x.length + y.length ≤ lim then some (.list (x ++ y), true) else none
  | .tuple x, .tuple y => if x.length + y.length ≤ lim then some (.tuple (x ++ y), false) else none
  | _, _ => none
def bop_sub : Dt → Dt → Option (Dt × Bool)
  | .int i, .int j => some (.int (i - j), false)
  | _, _ => none
def bop_mul : Dt → Dt → Option (Dt × Bool)
  | .int i, .int j => if i.natAbs.log2 + j.natAbs.log2 < 1000000 then some (.int (i * j), false) else none
  | _, _ => none
def bop_fdiv : Dt → Dt → Option (Dt × Bool)
  | .int i, .int j => if 0 < j ∧ j.natAbs.log2 < 9000 then some (.int (i / j), false) else none
  | _, _ => none
def bop_mod : Dt → Dt → Option (Dt × Bool)
  | .int i, .int j => if 0 < j then some (.int (i % j), false) else none
  | _, _ => none
def bop_pow : Dt → Dt → Option (Dt × Bool)
  | .int i, .int j => if 0 ≤ j ∧ j ≤ 1000000 ∧ i.natAbs < 2 ^ 64 then some (.int (i ^ j.toNat), false) else none
  | _, _ => none
def bop_shl : Dt → Dt → Option (Dt × Bool)
  | .int i, .int j => if 0 ≤ j ∧ j ≤ 1000000 ∧ i.natAbs < 2 ^ 64 then some (.int (i * 2 ^ j.toNat), false) else none
  | _, _ => none
def bop_shr : Dt → Dt → Option (Dt × Bool)
  | .int i, .int j => if 0 ≤ j then some (.int (i / 2 ^ j.toNat), false) else none
  | _, _ => none
def bop_band : Dt → Dt → Option (Dt × Bool)
  | .int i, .int j => some (.int (Builtin.bitAnd i j), false)
  | _, _ => none
def bop : BOp → Dt → Dt → Option (Dt × Bool)
  | .add => bop_add
  | .sub => bop_sub
  | .mul => bop_mul
  | .fdiv => bop_fdiv
  | .mod => bop_mod
  | .pow => bop_pow
  | .shl => bop_shl
  | .shr => bop_shr
  | .band => bop_band
abbrev lexI : List Int → List Int → Bool := HT.lexLt
def flat : Dt → Bool
  | .none => true
  | .bool _ => true
  | .int _ => true
  | .str _ => true
  | _ => false
def inD (x : Dt) (xs : List Dt) : Bool := xs.any fun y => PyData.eqv y x
def cop_eq : Dt → Dt → Option Bool := fun x y => if SeqAt.shaped x && SeqAt.shaped y then some (PyData.eqv x y) else none
def cop_ne : Dt → Dt → Option Bool := fun x y => if SeqAt.shaped x && SeqAt.shaped y then some (!PyData.eqv x y) else none
def cop_lt : Dt → Dt → Option Bool
  | .int i, .int j => some (decide (i < j))
  | .tuple x, .tuple y => match intsD x, intsD y with
    | some a, some b => some (lexI a b)
    | _, _ => none
  | _, _ => none
def cop_le : Dt → Dt → Option Bool
  | .int i, .int j => some (decide (i ≤ j))
  | _, _ => none
def cop_gt : Dt → Dt → Option Bool
  | .int i, .int j => some (decide (j < i))
  | _, _ => none
def cop_ge : Dt → Dt → Option Bool
  | .int i, .int j => some (decide (j ≤ i))
  | _, _ => none
def cop_inn : Dt → Dt → Option Bool
  | x, .list ys => if flat x && ys.all flat then some (inD x ys) else none
  | x, .tuple ys => if flat x && ys.all flat then some (inD x ys) else none
  | x, .dict kvs => match toK x with
    | some k => (getK kvs k).map fun o => o.isSome
    | none => none
  | .str x, .str y => some (!(Builtin.Str.occurrences y x 0 y.length 1).isEmpty)
  | _, _ => none
def cop_nin : Dt → Dt → Option Bool
  | x, .list ys => if flat x && ys.all flat then some (!inD x ys) else none
  | x, .tuple ys => if flat x && ys.all flat then some (!inD x ys) else none
  | x, .dict kvs => match toK x with
    | some k => (getK kvs k).map fun o => !o.isSome
    | none => none
  | _, _ => none
def cop_is : Dt → Dt → Option Bool
  | .bool a, .bool b => some (decide (a = b))
  | _, _ => none
def cop_isn : Dt → Dt → Option Bool
  | .bool a, .bool b => some (!decide (a = b))
  | _, _ => none
def cop : COp → Dt → Dt → Option Bool
  | .eq => cop_eq
  | .ne => cop_ne
  | .lt => cop_lt
  | .le => cop_le
  | .gt => cop_gt
  | .ge => cop_ge
  | .inn => cop_inn
  | .nin => cop_nin
  | .is => cop_is
  | .isn => cop_isn
def ixD : Dt → Dt → Option Dt
  | .dict [(.none, .list xs)], .int i => atI xs i
  | .list xs, .int i => atI xs i
  | .tuple xs, .int i => atI xs i
  | .str z, .int i => if z.length ≤ lim then (atI z.cps.toList i).map fun c => .str ⟨#[c]⟩ else none
  | .dict kvs, k => match toK k with
    | some kk => match getK kvs kk with
      | some o => o
      | none => none
    | none => none
  | _, _ => none
def cutD (xs : List Dt) (lo hi : Option Int) : List Dt := (xs.drop (HT.sIx xs.length 0 lo)).take (HT.sIx xs.length xs.length hi - HT.sIx xs.length 0 lo)
def slD : Dt → Option Int → Option Int → Option (Dt × Bool)
  | .list xs, lo, hi => some (.list (cutD xs lo hi), true)
  | .tuple xs, lo, hi => some (.tuple (cutD xs lo hi), false)
  | .str z, lo, hi => if z.length ≤ lim then some (.str ⟨((z.cps.toList.drop (HT.sIx z.cps.toList.length 0 lo)).take (HT.sIx z.cps.toList.length z.cps.toList.length hi - HT.sIx z.cps.toList.length 0 lo)).toArray⟩, false) else none
  | _, _, _ => none
/-- what isinstance(x, t) says, t one of the built-in classes -/
def tyD : Dt → String
  | .none => "NoneType"
  | .bool _ => "bool"
  | .int _ => "int"
  | .str _ => "str"
  | .list _ => "list"
  | .tuple _ => "tuple"
  | .dict _ => "dict"
def tysL : List String := ["int", "bool", "tuple", "list", "str", "dict"]
def isiD (d : Dt) (t : String) : Bool := tyD d == t || (tyD d == "bool" && t == "int")
/-- of the script it is not asked -/
def isiO (d : Dt) (t : String) : Option Bool := match d with
  | .dict ((.none, _) :: _) => none
  | .dict [] => none
  | d => some (isiD d t)

/-- what an item is sorted by: itself, or its ints -/
def keyI : Dt → List Int
  | .tuple x => (intsD x).getD []
  | .int i => [i]
  | _ => []
def insG {α : Type} (lt : α → α → Bool) (x : α) : List α → List α
  | [] => [x]
  | y :: ys => if lt y x = true then y :: insG lt x ys else x :: y :: ys
/-- the first of the least -/
def minT (x : Dt) (xs : List Dt) : Dt := xs.foldl (fun a y => if lexI (keyI y) (keyI a) = true then y else a) x
/-- by insertion, stable -/
def srtG {α : Type} (lt : α → α → Bool) : List α → List α
  | [] => []
  | x :: xs => insG lt x (srtG lt xs)
def srtD (xs : List Dt) : List Dt := srtG (fun x y => lexI (keyI x) (keyI y)) xs
def isTI (d : Dt) : Bool := match d with
  | .tuple x => match intsD x with
    | some (_ :: _) => true
    | _ => false
  | _ => false
/-- all of them tuples of ints, none empty -/
def sortT (xs : List Dt) : Bool := xs.all isTI
def maxI : List Int → Option Int
  | [] => none
  | [x] => some x
  | x :: xs => match maxI xs with
    | some y => some (if y < x then x else y)
    | none => none
def minI : List Int → Option Int
  | [] => none
  | [x] => some x
  | x :: xs => match minI xs with
    | some y => some (if x < y then x else y)
    | none => none
def dedup : List Int → List Int
  | [] => []
  | x :: xs => x :: (dedup xs).filter (fun y => y ≠ x)
def lenD : Dt → Option Int
  | .dict [(.none, .list xs)] => some xs.length
  | .list xs => some xs.length
  | .tuple xs => some xs.length
  | .str x => if x.length ≤ lim then some x.length else none
  | .dict (_ :: kvs) => some kvs.length
  | _ => none
def seqD : Dt → Option (List Dt)
  | .list xs => some xs
  | .tuple xs => some xs
  | _ => none
def biD_len : List Dt → Option (Dt × Bool)
  | [x] => (lenD x).map fun n => (.int n, false)
  | _ => none
def biD_tuple : List Dt → Option (Dt × Bool)
  | [x] => (seqD x).map fun xs => (.tuple xs, false)
  | _ => none
def biD_list : List Dt → Option (Dt × Bool)
  | [x] => (seqD x).map fun xs => (.list xs, true)
  | _ => none
def biD_max2 : List Dt → Option (Dt × Bool)
  | [.int i, .int j] => some (.int (if j > i then j else i), false)
  | _ => none
def biD_min2 : List Dt → Option (Dt × Bool)
  | [.int i, .int j] => some (.int (if j < i then j else i), false)
  | _ => none
def biD_max1 : List Dt → Option (Dt × Bool)
  | [.list xs] => match intsD xs with
    | some ns => (maxI ns).map fun m => (.int m, false)
    | none => none
  | _ => none
def biD_min1 : List Dt → Option (Dt × Bool)
  | [.tuple xs] => match intsD xs with
    | some ns => (minI ns).map fun m => (.int m, false)
    | none => none
  | [.list xs] => match intsD xs with
    | some ns => (minI ns).map fun m => (.int m, false)
    | none => match xs with
      | x :: xs => if sortT (x :: xs) then some (minT x xs, false) else none
      | [] => none
  | _ => none
def one1 : List Dt → Bool
  | [.tuple _] => true
  | _ => false
def biD_sorted : List Dt → Option (Dt × Bool)
  | [.list xs] => if sortT xs || (intsD xs).isSome || one1 xs then some (.list (srtD xs), true) else none
  | [.tuple xs] => if sortT xs then some (.list (srtD xs), true) else none
  | [.dict ((.bool true, .none) :: kvs)] => if sortT (kvs.map (·.1)) then some (.list (srtD (kvs.map (·.1))), true) else none
  | _ => none
def biD_str : List Dt → Option (Dt × Bool)
  | [.int i] => if i.natAbs.log2 < 1920 then some (.str (toString i), false) else none
  | _ => none
def biD_divmod : List Dt → Option (Dt × Bool)
  | [.int i, .int j] => if 0 < j ∧ j < 1073741824 then some (.tuple [.int (i / j), .int (i % j)], false) else none
  | _ => none
def biD_all : List Dt → Option (Dt × Bool)
  | [.list xs] => (blsD xs).map fun bs => (.bool (bs.all id), false)
  | _ => none
def biD_repr : List Dt → Option (Dt × Bool)
  | _ => none
def biD_abs : List Dt → Option (Dt × Bool)
  | [.int i] => some (.int (if i < 0 then -i else i), false)
  | _ => none
def biD_int : List Dt → Option (Dt × Bool)
  | [.int i] => some (.int i, false)
  | [.bool b] => some (.int (if b then 1 else 0), false)
  | _ => none
def biD_dict : List Dt → Option (Dt × Bool)
  | _ => none
def biD_lenset : List Dt → Option (Dt × Bool)
  | _ => none
def biD_sortedset : List Dt → Option (Dt × Bool)
  | _ => none
def biD_maxv : List Dt → Option (Dt × Bool)
  | _ => none
def biD_minv : List Dt → Option (Dt × Bool)
  | _ => none
def biD_mcount : List Dt → Option (Dt × Bool)
  | _ => none
def biD_mindex : List Dt → Option (Dt × Bool)
  | _ => none
def biD_mjoin : List Dt → Option (Dt × Bool)
  | _ => none
def biD_msplit : List Dt → Option (Dt × Bool)
  | _ => none
def biD_mget : List Dt → Option (Dt × Bool)
  | _ => none
def biD_mupper : List Dt → Option (Dt × Bool)
  | _ => none
def biD_mlvalues : List Dt → Option (Dt × Bool)
  | _ => none
def biD_mmaxvalues : List Dt → Option (Dt × Bool)
  | _ => none
def biD : Bi → List Dt → Option (Dt × Bool)
  | .len => biD_len
  | .tuple => biD_tuple
  | .list => biD_list
  | .max2 => biD_max2
  | .min2 => biD_min2
  | .max1 => biD_max1
  | .min1 => biD_min1
  | .sorted => biD_sorted
  | .str => biD_str
  | .divmod => biD_divmod
  | .all => biD_all
  | .repr => biD_repr
  | .abs => biD_abs
  | .int => biD_int
  | .dict => biD_dict
  | .lenset => biD_lenset
  | .sortedset => biD_sortedset
  | .maxv => biD_maxv
  | .minv => biD_minv
  | .mcount => biD_mcount
  | .mindex => biD_mindex
  | .mjoin => biD_mjoin
  | .msplit => biD_msplit
  | .mget => biD_mget
  | .mupper => biD_mupper
  | .mlvalues => biD_mlvalues
  | .mmaxvalues => biD_mmaxvalues

/-! ### names -/
def gt (δ : De) (i : Nat) : Option (Dt × Bool) := match δ[i]? with
  | some x => x
  | none => none
def st (δ : De) (i : Nat) (x : Option (Dt × Bool)) : De := δ.set i x
/-- no longer the only holder -/
def rls (δ : De) (i : Nat) : De := match gt δ i with
  | some (d, true) => st δ i (some (d, false))
  | _ => δ
/-- given away whole -/
def drp (δ : De) (i : Nat) : De := match gt δ i with
  | some (_, true) => st δ i none
  | _ => δ

mutual
def asgT : Tg → Dt → De → Option De
  | .nm i, d, δ => some (st δ i (some (d, false)))
  | .tp ts, d, δ => match d with
    | .tuple xs => asgTs ts xs δ
    | _ => none
def asgTs : Tgs → List Dt → De → Option De
  | .nil, [], δ => some δ
  | .cons t ts, d :: ds, δ => match asgT t d δ with
    | some δ' => asgTs ts ds δ'
    | none => none
  | _, _, _ => none
end
def wipeD (δ : De) : List Nat → De
  | [] => δ
  | i :: is => (wipeD δ is).set i none
/-- the comprehension's own names are as they were -/
def backD (δ0 δ : De) : List Nat → De
  | [] => δ
  | i :: is => st (backD δ0 δ is) i (gt δ0 i)

/-- turns of a comprehension -/
def lcL (f : Dt → De → R (Option Dt)) : List Dt → De → R (List Dt)
  | [], δ => .ok [] δ
  | d :: ds, δ => (f d δ).bind fun o δ' => (lcL f ds δ').bind fun r δ'' => match o with
    | some x => .ok (x :: r) δ''
    | none => .ok r δ''
/-- a body's end -/
inductive Fl where
  | nx | brk | ret (d : Dt) (own : Bool)
def frL (f : Dt → De → R Fl) : List Dt → De → R Fl
  | [], δ => .ok .nx δ
  | d :: ds, δ => (f d δ).bind fun o δ' => match o with
    | .nx => frL f ds δ'
    | .brk => .ok .nx δ'
    | .ret d w => .ok (.ret d w) δ'
/-- turns of a loop that asks each item one thing -/
def frcL (f : Dt → De → R Bool) (d : Bool) : List Dt → De → R Fl
  | [], δ => .ok .nx δ
  | x :: xs, δ => (f x δ).bind fun b δ' => if b = true then .ok (.ret (.bool d) false) δ' else frcL f d xs δ'
/-- behind it the name is as it was -/
def frR (i : Nat) (δ1 : De) (r : R Fl) : R Fl := match r with
  | .ok .nx δ5 => .ok .nx (backD δ1 δ5 [i])
  | .ok (.ret e w) δ5 => .ok (.ret e w) δ5
  | _ => .bad
def whL (c : De → R Bool) (f : De → R Fl) : Nat → De → R Fl
  | 0, _ => .bad
  | n + 1, δ => (c δ).bind fun b δ' => if b = true then (f δ').bind fun o δ'' => match o with
    | .nx => whL c f n δ''
    | .brk => .ok .nx δ''
    | .ret d w => .ok (.ret d w) δ'' else .ok .nx δ'

def rngL (lo : Int) : Nat → List Dt
  | 0 => []
  | n + 1 => .int lo :: rngL (lo + 1) n
def rngC (lo c : Int) : Nat → List Dt
  | 0 => []
  | n + 1 => .int lo :: rngC (lo + c) c n
def enumL (k : Int) : List Dt → List Dt
  | [] => []
  | d :: ds => .tuple [.int k, d] :: enumL (k + 1) ds
def zipL : List Dt → List Dt → List Dt
  | a :: as, b :: bs => .tuple [a, b] :: zipL as bs
  | _, _ => []
def big (i : Int) : Bool := decide (-(2 ^ 62) ≤ i) && decide (i < 2 ^ 62)
/-- what a for walks -/
def walkD : Dt → Option (List Dt)
  | .list xs => some xs
  | .tuple xs => some xs
  | .str x => some (x.cps.toList.map fun c => .str ⟨#[c]⟩)
  | _ => none

/-- an operand: data, or a name that is read when all operands are there -/
inductive Od where
  | d (x : Dt)
  | v (i : Nat)
def od (δ : De) : Od → Option Dt
  | .d x => some x
  | .v i => (gt δ i).map (·.1)
def ods (δ : De) : List Od → Option (List Dt)
  | [] => some []
  | o :: os => match od δ o, ods δ os with
    | some d, some ds => some (d :: ds)
    | _, _ => none
/-- names handed to a def that gave back no plain thing are no longer owned -/
def rlsAll (δ : De) : List Od → De
  | [] => δ
  | .d _ :: os => rlsAll δ os
  | .v i :: os => rls (rlsAll δ os) i
def noV (i : Nat) : List Od → Bool
  | [] => true
  | .d _ :: os => noV i os
  | .v j :: os => decide (j ≠ i) && noV i os
mutual
/-- neither a list nor a dict in it -/
def plain : Dt → Bool
  | .none => true
  | .bool _ => true
  | .int _ => true
  | .str _ => true
  | .tuple xs => plains xs
  | .list _ => false
  | .dict _ => false
def plains : List Dt → Bool
  | [] => true
  | x :: xs => plain x && plains xs
end
def isIntL : Dt → Bool
  | .list xs => (intsD xs).isSome
  | _ => false
def emptyD : Dt → Bool
  | .dict [] => true
  | _ => false

/-- a method on a name's own list or dict: the answer, what it has become -/
def muD_append : Dt → List Dt → Option (Dt × Dt)
  | .list xs, [x] => if xs.length < lim then some (.none, .list (xs ++ [x])) else none
  | _, _ => none
def muD_extend : Dt → List Dt → Option (Dt × Dt)
  | .list xs, [.list ys] => if xs.length + ys.length ≤ lim then some (.none, .list (xs ++ ys)) else none
  | _, _ => none
def muD_pop : Dt → List Dt → Option (Dt × Dt)
  | .list xs, [] => match xs[xs.length - 1]? with
    | some y => some (y, .list xs.dropLast)
    | none => none
  | _, _ => none
def muD_popAt : Dt → List Dt → Option (Dt × Dt)
  | .list xs, [.int i] => if big i = true then (match ixN xs.length i with
    | some k => match xs[k]? with
      | some y => some (y, .list (xs.eraseIdx k))
      | none => none
    | none => none) else none
  | _, _ => none
def muD_popD : Dt → List Dt → Option (Dt × Dt)
  | _, _ => none
def muD_clear : Dt → List Dt → Option (Dt × Dt)
  | .list _, [] => some (.none, .list [])
  | _, _ => none
def muD : Mu → Dt → List Dt → Option (Dt × Dt)
  | .append => muD_append
  | .extend => muD_extend
  | .pop => muD_pop
  | .popAt => muD_popAt
  | .popD => muD_popD
  | .clear => muD_clear
def putX : Dt → Dt → Dt → Option Dt
  | .list xs, .int k, d => match ixN xs.length k with
    | some j => some (.list (xs.set j d))
    | none => none
  | .dict (m :: kvs), k, d => match toK k with
    | some kk => match getK (m :: kvs) kk with
      | some _ => if kvs.length < lim then some (.dict (m :: putD k d kk kvs)) else none
      | none => none
    | none => none
  | _, _, _ => none

/-- a name's own list -/
def ownL (δ : De) (i : Nat) : Bool := match gt δ i with
  | some (.list _, true) => true
  | _ => false
/-- some walked things give pairs: the target is to be one -/
def tgOk : It → Tg → Bool
  | .enum _, .nm _ => false
  | .zip _ _, .nm _ => false
  | _, _ => true
mutual
/-- a target's names -/
def tgN : Tg → List Nat
  | .nm i => [i]
  | .tp ts => tgsN ts
def tgsN : Tgs → List Nat
  | .nil => []
  | .cons t ts => tgN t ++ tgsN ts
end
/-- how many different ints; they are to be different -/
def lsD : Dt → Option Int
  | .list xs => match intsD xs with
    | some ns => if ns.length ≤ 4000 then some (metI ns).length else none
    | none => none
  | _ => none
/-- the greatest of a table's numbers -/
def mxD : Dt → Option Int
  | .dict ((.bool true, .none) :: kvs) => match intsD (kvs.map (·.2)) with
    | some ns => maxI ns
    | none => none
  | _ => none
/-- list(range(j)) -/
def lrD : Dt → Option Dt
  | .int j => if -(2 ^ 62) ≤ j ∧ j ≤ 16777216 then some (.list (rngL 0 j.toNat)) else none
  | _ => none
/-- dict(zip(ks, vs)): keys in a list, values in a tuple -/
def putZ : List (Dt × Dt) → List Dt → List Dt → Option (List (Dt × Dt))
  | kvs, [], [] => some kvs
  | kvs, k :: ks, v :: vs => match toK k with
    | some (.inr x) => putZ (putD k v (.inr x) kvs) ks vs
    | _ => none
  | _, _, _ => none
def dzD : Dt → Dt → Option Dt
  | .list ks, .tuple vs => if ks.length ≤ lim then (putZ [] ks vs).map fun kvs => .dict ((.bool true, .none) :: kvs) else none
  | _, _ => none
def cntD : Dt → Dt → Option Int
  | .list xs, .int k => match intsD xs with
    | some ns => some (ns.count k)
    | none => none
  | _, _ => none
def isLs : Option (Dt × Bool) → Bool
  | some (.list _, _) => true
  | _ => false
/-- the name that is walked, itself: its list is not to be touched meanwhile -/
def lockI : It → List Nat
  | .bor i => [i]
  | _ => []
section
variable (cl : Cl)
/-- a test's answer -/
def tb (r : R (Dt × Bool)) : R Bool := r.bind fun x δ => match x.1 with
  | .bool b => .ok b δ
  | _ => .bad
/-- an operand: a name is read later -/
def opd (e : E) (r : R (Dt × Bool)) (δ : De) : R Od := match e with
  | .var i => match gt δ i with
    | some _ => .ok (.v i) δ
    | none => .bad
  | _ => r.bind fun x δ1 => .ok (.d x.1) δ1
mutual
/-- an expression's data; true: a new list or dict that nobody else holds -/
def ev : E → De → R (Dt × Bool)
  | .cst c, δ => .ok (c, false) δ
  | .var i, δ => match gt δ i with
    | some (d, _) => .ok (d, false) (rls δ i)
    | none => .bad
  | .gl _ c, δ => .ok (c, false) δ
  | .bin o a b, δ => (opd a (ev a δ) δ).bind fun x δ1 => (opd b (ev b δ1) δ1).bind fun y δ2 => match od δ2 x, od δ2 y with
    | some d, some e => match bop o d e with
      | some r => .ok r δ2
      | none => .bad
    | _, _ => .bad
  | .cmp o a b, δ => (opd a (ev a δ) δ).bind fun x δ1 => (opd b (ev b δ1) δ1).bind fun y δ2 => match od δ2 x, od δ2 y with
    | some d, some e => match cop o d e with
      | some r => .ok (.bool r, false) δ2
      | none => .bad
    | _, _ => .bad
  | .chain o p a b c, δ => (opd a (ev a δ) δ).bind fun x δ1 => (opd b (ev b δ1) δ1).bind fun y δ2 => match od δ2 x, od δ2 y with
    | some d, some e => match cop o d e with
      | some true => (opd c (ev c δ2) δ2).bind fun z δ3 => match od δ3 y, od δ3 z with
        | some e, some f => match cop p e f with
          | some r => .ok (.bool r, false) δ3
          | none => .bad
        | _, _ => .bad
      | some false => .ok (.bool false, false) δ2
      | none => .bad
    | _, _ => .bad
  | .isN a, δ => (opd a (ev a δ) δ).bind fun x δ1 => match od δ1 x with
    | some .none => .ok (.bool true, false) δ1
    | some _ => .ok (.bool false, false) δ1
    | none => .bad
  | .notN a, δ => (opd a (ev a δ) δ).bind fun x δ1 => match od δ1 x with
    | some .none => .ok (.bool false, false) δ1
    | some _ => .ok (.bool true, false) δ1
    | none => .bad
  | .neg a, δ => (opd a (ev a δ) δ).bind fun x δ1 => match od δ1 x with
    | some (.int i) => .ok (.int (-i), false) δ1
    | _ => .bad
  | .nt a, δ => (tb (ev a δ)).bind fun b δ1 => .ok (.bool (!b), false) δ1
  | .an es, δ => (tAnd es δ).bind fun b δ1 => .ok (.bool b, false) δ1
  | .orr es, δ => (tOr es δ).bind fun b δ1 => .ok (.bool b, false) δ1
  | .ife c a b, δ => (tb (ev c δ)).bind fun t δ1 => if t = true then ev a δ1 else ev b δ1
  | .ix a i, δ => (opd a (ev a δ) δ).bind fun x δ1 => (opd i (ev i δ1) δ1).bind fun y δ2 => match od δ2 x, od δ2 y with
    | some d, some e => match ixD d e with
      | some r => .ok (r, false) δ2
      | none => .bad
    | _, _ => .bad
  | .sl a lo hi, δ => (opd a (ev a δ) δ).bind fun x δ1 => (eoo lo δ1).bind fun l δ2 => (eoo hi δ2).bind fun h δ3 => match od δ3 x with
    | some d => match slD d l h with
      | some r => .ok r δ3
      | none => .bad
    | none => .bad
  | .rev a, δ => .bad
  | .tup es, δ => (evs es δ).bind fun ds δ1 => if ds.length ≤ lim then .ok (.tuple ds, false) δ1 else .bad
  | .lst es, δ => (evs es δ).bind fun ds δ1 => if ds.length ≤ lim then .ok (.list ds, true) δ1 else .bad
  | .dct t ks vs, δ => match ks with
    | .nil => .ok (.dict [(.bool t, .none)], true) δ
    | _ => .bad
  | .bi b es, δ => (eos es δ).bind fun os δ1 => match ods δ1 os with
    | some ds => match biD b ds with
      | some r => .ok r δ1
      | none => .bad
    | none => .bad
  | .isi a t, δ => (opd a (ev a δ) δ).bind fun x δ1 => match od δ1 x with
    | some d => match isiO d t with
      | some b => .ok (.bool b, false) δ1
      | none => .bad
    | none => .bad
  | .lset a, δ => (ev a δ).bind fun x δ1 => match lsD x.1 with
    | some n => .ok (.int n, false) δ1
    | none => .bad
  | .mxv a, δ => (ev a δ).bind fun x δ1 => match mxD x.1 with
    | some n => .ok (.int n, false) δ1
    | none => .bad
  | .lrng a, δ => (ev a δ).bind fun x δ1 => match lrD x.1 with
    | some d => .ok (d, true) δ1
    | none => .bad
  | .cnt i b, δ => if isLs (gt δ i) = true then ((ev b δ).bind fun y δ1 => match gt δ1 i with
    | some (d, _) => match cntD d y.1 with
      | some n => .ok (.int n, false) δ1
      | none => .bad
    | none => .bad) else .bad
  | .dzip a b, δ => (ev a δ).bind fun x δ1 => (ev b δ1).bind fun y δ2 => match dzD x.1 y.1 with
    | some d => .ok (d, true) δ2
    | none => .bad
  | .call f es, δ => (eos es δ).bind fun os δ1 => match ods δ1 os with
    | some ds => match cl f ds with
      | .ok d w _ => .ok (d, w) (if plain d = true then δ1 else rlsAll δ1 os)
      | .ex c x _ => .ex c x (rlsAll δ1 os)
      | .bad => .bad
    | none => .bad
  | .callM f i es, δ => if ownL δ i = true then ((eos es δ).bind fun os δ1 => match gt δ1 i, ods δ1 os with
    | some (b, true), some ds => match cl f (b :: ds) with
      | .ok d w b' => if isIntL b' = true ∧ noV i os = true then .ok (d, w) (st (if plain d = true then δ1 else rlsAll δ1 os) i (some (b', true))) else .bad
      | _ => .bad
    | _, _ => .bad) else .bad
  | .callT f a es, δ => (ev a δ).bind fun p δ0 => (eos es δ0).bind fun os δ1 => match p.2, ods δ1 os with
    | true, some ds => match cl f (p.1 :: ds) with
      | .ok d w b' => if isIntL b' = true then .ok (d, w) (if plain d = true then δ1 else rlsAll δ1 os) else .bad
      | _ => .bad
    | _, _ => .bad
  | .mu m i es, δ => if ownL δ i = true then ((evs es δ).bind fun ds δ1 => match gt δ1 i with
    | some (b, true) => match muD m b ds with
      | some (d, b') => .ok (d, false) (st δ1 i (some (b', true)))
      | none => .bad
    | _ => .bad) else .bad
  | .lc el tg it own, δ => (eit it δ).bind fun ds δ1 => match lcL (fun d δ2 => match asgT tg d (wipeD δ2 own) with
        | some δ3 => (ev el δ3).bind fun x δ4 => .ok (some x.1) δ4
        | none => .bad) ds (wipeD δ1 (lockI it)) with
      | .ok r δ5 => if r.length ≤ lim then .ok (.list r, true) (backD δ1 (wipeD δ5 own) (lockI it ++ own)) else .bad
      | _ => .bad
  | .lcf el tg it c own, δ => (eit it δ).bind fun ds δ1 => match lcL (fun d δ2 => match asgT tg d (wipeD δ2 own) with
        | some δ3 => (tb (ev c δ3)).bind fun b δ4 => if b = true then (ev el δ4).bind fun x δ5 => .ok (some x.1) δ5 else .ok none δ4
        | none => .bad) ds (wipeD δ1 (lockI it)) with
      | .ok r δ5 => if r.length ≤ lim then .ok (.list r, true) (backD δ1 (wipeD δ5 own) (lockI it ++ own)) else .bad
      | _ => .bad
/-- an optional int -/
def eoo : Eo → De → R (Option Int)
  | .non, δ => .ok none δ
  | .som e, δ => (ev e δ).bind fun x δ1 => match x.1 with
    | .int i => .ok (some i) δ1
    | _ => .bad
def evs : Es → De → R (List Dt)
  | .nil, δ => .ok [] δ
  | .cons e es, δ => (ev e δ).bind fun x δ1 => (evs es δ1).bind fun xs δ2 => .ok (x.1 :: xs) δ2
def eos : Es → De → R (List Od)
  | .nil, δ => .ok [] δ
  | .cons e es, δ => (opd e (ev e δ) δ).bind fun x δ1 => (eos es δ1).bind fun xs δ2 => .ok (x :: xs) δ2
def tAnd : Es → De → R Bool
  | .nil, δ => .bad
  | .cons e .nil, δ => tb (ev e δ)
  | .cons e es, δ => (tb (ev e δ)).bind fun b δ1 => if b = true then tAnd es δ1 else .ok false δ1
def tOr : Es → De → R Bool
  | .nil, δ => .bad
  | .cons e .nil, δ => tb (ev e δ)
  | .cons e es, δ => (tb (ev e δ)).bind fun b δ1 => if b = true then .ok true δ1 else tOr es δ1
/-- what is walked -/
def eit : It → De → R (List Dt)
  | .val e, δ => (ev e δ).bind fun x δ1 => match walkD x.1 with
    | some ds => .ok ds δ1
    | none => .bad
  | .bor i, δ => match gt δ i with
    | some (d, _) => match walkD d with
      | some ds => .ok ds δ
      | none => .bad
    | none => .bad
  | .rng1 a, δ => (ev a δ).bind fun x δ1 => match x.1 with
    | .int j => if big j = true then .ok (rngL 0 j.toNat) δ1 else .bad
    | _ => .bad
  | .rng2 a b, δ => (ev a δ).bind fun x δ1 => (ev b δ1).bind fun y δ2 => match x.1, y.1 with
    | .int i, .int j => if big i = true ∧ big j = true then .ok (rngL i (j - i).toNat) δ2 else .bad
    | _, _ => .bad
  | .rng3 a b c, δ => (ev a δ).bind fun x δ1 => (ev b δ1).bind fun y δ2 => (ev c δ2).bind fun z δ3 => match x.1, y.1, z.1 with
    | .int i, .int j, .int k => if big i = true ∧ big j = true ∧ k = -1 then .ok (rngC i (-1) (i - j).toNat) δ3 else .bad
    | _, _, _ => .bad
  | .enum e, δ => (ev e δ).bind fun x δ1 => match x.1 with
    | .list xs => .ok (enumL 0 xs) δ1
    | .tuple xs => .ok (enumL 0 xs) δ1
    | _ => .bad
  | .zip a b, δ => (ev a δ).bind fun x δ1 => (ev b δ1).bind fun y δ2 => match x.1, y.1 with
    | .list xs, .list ys => .ok (zipL xs ys) δ2
    | _, _ => .bad
  | .items e, δ => .bad
end
/-- the keys of a name's dict, walked -/
def dkOf : It → De → Option (Nat × List Dt)
  | .val (.var i), δ => match gt δ i with
    | some (.dict ((.bool _, _) :: kvs), _) => some (i, kvs.map (·.1))
    | _ => none
  | _, _ => none
/-- nothing is raised out of it -/
def frD (r : R Fl) : R Fl := match r with
  | .ok a δ => .ok a δ
  | _ => .bad
/-- turns that a while may take -/
def most : Nat := 100000
mutual
def xs : S → De → R Fl
  | .asg i e, δ => (ev cl e δ).bind fun x δ1 => .ok .nx (st δ1 i (some x))
  | .unp ts e, δ => (ev cl e δ).bind fun x δ1 => match asgT (.tp ts) x.1 δ1 with
    | some δ2 => .ok .nx δ2
    | none => .bad
  | .par i j a b, δ => (ev cl a δ).bind fun x δ1 => (ev cl b δ1).bind fun y δ2 => .ok .nx (st (st δ2 i (some x)) j (some y))
  | .par3 i j k a b c, δ => .bad
  | .put i k v, δ => (ev cl v δ).bind fun y δ1 => if (gt δ1 i).isSome = true then ((ev cl k δ1).bind fun x δ2 => match gt δ2 i with
    | some (b, true) => match putX b x.1 y.1 with
      | some b' => .ok .nx (st δ2 i (some (b', true)))
      | none => .bad
    | _ => .bad) else .bad
  | .ret e, δ => match e with
    | .var i => match gt δ i with
      | some (d, w) => .ok (.ret d w) (drp δ i)
      | none => .bad
    | e => (ev cl e δ).bind fun x δ1 => .ok (.ret x.1 x.2) δ1
  | .retN, δ => .ok (.ret .none false) δ
  | .ifs c t f, δ => (tb (ev cl c δ)).bind fun b δ1 => if b = true then xss t δ1 else xss f δ1
  | .fr tg it b, δ => if (lockI it).isEmpty = true then (match dkOf it δ with
    | some (i, ds) => frD (frL (fun d δ2 => match asgT tg d δ2 with
      | some δ3 => xss b δ3
      | none => .bad) ds (rls δ i))
    | none => (eit cl it δ).bind fun ds δ1 => frL (fun d δ2 => match asgT tg d δ2 with
      | some δ3 => xss b δ3
      | none => .bad) ds δ1) else .bad
  | .wh c b, δ => whL (fun δ1 => tb (ev cl c δ1)) (fun δ1 => xss b δ1) most δ
  | .ex e, δ => (ev cl e δ).bind fun _ δ1 => .ok .nx δ1
  | .brk, δ => .ok .brk δ
  | .nev, δ => .bad
  | .rs c, δ => .ex c none δ
  | .rsA c f e, δ => (ev cl e δ).bind fun x δ1 => .ex c (some x.1) δ1
  | .frc tg i c d, δ => (eit cl (.bor i) δ).bind fun ds δ1 => frR i δ1 (frcL (fun x δ2 => match asgT tg x δ2 with
      | some δ3 => tb (ev cl c δ3)
      | none => .bad) d ds (wipeD δ1 [i]))
def xss : Ss → De → R Fl
  | .nil, δ => .ok .nx δ
  | .cons s ss, δ => (xs s δ).bind fun o δ1 => match o with
    | .nx => xss ss δ1
    | .brk => .ok .brk δ1
    | .ret d w => .ok (.ret d w) δ1
end
end

/-- a def: how many names; is the first argument changed; its body -/
structure Df where
  nm : Nat
  np : Nat
  io : Bool
  body : Ss
def entry (f : Df) (as : List Dt) : De := match as with
  | [] => List.replicate f.nm none
  | a :: r => some (a, f.io) :: (r.map fun d => some (d, false)) ++ List.replicate (f.nm - as.length) none
abbrev Tb := Str → Option Df
/-- a call, so many calls one in another -/
def run (t : Tb) : Nat → Cl
  | 0 => fun _ _ => .bad
  | n + 1 => fun f as => match t f with
    | none => .bad
    | some d => if as.length = d.np then (match xss (run t n) d.body (entry d as) with
      | .ok (.ret r w) δ => if d.io = true then (match gt δ 0 with
          | some (b, true) => .ok r w b
          | _ => .bad) else .ok r w .none
      | .ok .nx δ => if d.io = true then (match gt δ 0 with
          | some (b, true) => .ok .none false b
          | _ => .bad) else .ok .none false .none
      | .ok .brk _ => .bad
      | .ex c x δ => if d.io = true then .bad else .ex c x .none
      | .bad => .bad) else .bad
end Bw

set_option maxRecDepth 100000
set_option maxHeartbeats 1000000
namespace Bw
open PySem PySem.Spec PyProof.Rows L2

/-- what an operation reads -/
def Rd1 (K : PySem.W.Frag) (S : List Addr) (H : Hp) (v : V) (d : Dt) : Prop := Rp K (hid S H) v d ∨ ∃ a o, v = .ref a ∧ H a = some o ∧ Ow K (hid S H) o d
/-- what an operation gives -/
def Out (K : PySem.W.Frag) (S : List Addr) (H : Hp) (v : V) (d : Dt) (w : Bool) (H' : Hp) : Prop :=
  Le H H' ∧ match w with
    | false => Rp K (hid S H') v d
    | true => ∃ p o, v = .ref p ∧ H p = none ∧ H' = upd H p o ∧ Ow K (hid S H) o d
section
variable {K : PySem.W.Frag} {S : List Addr} {H H' : Hp} {v : V} {d : Dt}
theorem Rd1.int {i : Int} (h : Rd1 K S H v (.int i)) : v = .int i := by
  rcases h with h | ⟨_, _, _, _, h⟩
  · cases h; rfl
  · cases h
theorem Rd1.bool {i : Bool} (h : Rd1 K S H v (.bool i)) : v = .bl i := by
  rcases h with h | ⟨_, _, _, _, h⟩
  · cases h; rfl
  · cases h
theorem Rd1.str {i : Str} (h : Rd1 K S H v (.str i)) : v = .str i := by
  rcases h with h | ⟨_, _, _, _, h⟩
  · cases h; rfl
  · cases h
theorem Rd1.none (h : Rd1 K S H v .none) : v = .non := by
  rcases h with h | ⟨_, _, _, _, h⟩
  · cases h; rfl
  · cases h
theorem Rd1.list {ds : List Dt} (h : Rd1 K S H v (.list ds)) : ∃ a xs, v = .ref a ∧ H a = some (.lst xs) ∧ RpL K (hid S H) xs ds := by
  rcases h with h | ⟨a, o, e, q, h⟩
  · cases h with
    | lst h t => exact ⟨_, _, rfl, hid_le S H _ _ h, t⟩
  · cases h with
    | lst t => exact ⟨a, _, e, q, t⟩
theorem Rd1.tuple {ds : List Dt} (h : Rd1 K S H v (.tuple ds)) : ∃ a xs, v = .ref a ∧ H a = some (.tup xs) ∧ RpL K (hid S H) xs ds := by
  rcases h with h | ⟨a, o, e, q, h⟩
  · cases h with
    | tup h t => exact ⟨_, _, rfl, hid_le S H _ _ h, t⟩
  · cases h
/-- a dict's shape -/
inductive DkAt (K : PySem.W.Frag) (G : Hp) (H : Hp) (a : Addr) : List (Dt × Dt) → Prop
  | k {kvs : List (Key × V)} {ds : List Dt} : Rd H a (.dK kvs) → RpL K G (kvs.map (·.2)) ds → DkAt K G H a ((.bool false, .none) :: (kvs.map fun p => keyD p.1).zip ds)
  | t {kvs : List (List Key × V)} {ds : List Dt} : Rd H a (.dT kvs) → RpL K G (kvs.map (·.2)) ds → DkAt K G H a ((.bool true, .none) :: (kvs.map fun p => PyData.tuple (p.1.map keyD)).zip ds)
theorem Rd1.dict {kvs : List (Dt × Dt)} (h : Rd1 K S H v (.dict kvs)) : (∃ a ns, v = .ref a ∧ PyData.dict kvs = scr ns ∧ SqL K H a (ns.map V.int)) ∨ ∃ a, v = .ref a ∧ DkAt K (hid S H) H a kvs := by
  rcases h with h | ⟨a, o, e, q, h⟩
  · cases h with
    | scr h => exact .inl ⟨_, _, rfl, rfl, SqL.mono (hid_le S H) h⟩
    | dK h t => exact .inr ⟨_, rfl, .k (Rd.mono (hid_le S H) h) t⟩
    | dT h t => exact .inr ⟨_, rfl, .t (Rd.mono (hid_le S H) h) t⟩
  · cases h with
    | dK t => exact .inr ⟨a, e, .k (.inl q) t⟩
    | dT t => exact .inr ⟨a, e, .t (.inl q) t⟩
theorem Out.same (h : Rp K (hid S H) v d) : Out K S H v d false H := ⟨.refl H, h⟩
theorem Out.int (i : Int) : Out K S H (.int i) (.int i) false H := .same (.int i)
theorem Out.bl (i : Bool) : Out K S H (.bl i) (.bool i) false H := .same (.bl i)
theorem Out.str (i : Str) : Out K S H (.str i) (.str i) false H := .same (.str i)
theorem Out.newL {p : Addr} {xs : List V} {ds : List Dt} (hp : H p = none) (t : RpL K (hid S H) xs ds) : Out K S H (.ref p) (.list ds) true (upd H p (.lst xs)) :=
  ⟨le_upd hp, p, _, rfl, hp, rfl, .lst t⟩
theorem notS (live : ∀ b, b ∈ S → (H b).isSome = true) {p : Addr} (hp : H p = none) : p ∉ S := fun z => by
  have := live p z; rw [hp] at this; cases this
theorem hid_upd (live : ∀ b, b ∈ S → (H b).isSome = true) {p : Addr} {o : HO} (hp : H p = none) : hid S (upd H p o) p = some o := by
  rw [hid_of (notS live hp), upd_same]
theorem hid_upd_le {p : Addr} {o : HO} (hp : H p = none) : Le (hid S H) (hid S (upd H p o)) := hid_mono (fun _ _ _ z => z) fun b u _ q => le_upd hp b u q
theorem Out.newT (live : ∀ b, b ∈ S → (H b).isSome = true) {p : Addr} {xs : List V} {ds : List Dt} (hp : H p = none) (t : RpL K (hid S H) xs ds) : Out K S H (.ref p) (.tuple ds) false (upd H p (.tup xs)) :=
  ⟨le_upd hp, .tup (hid_upd live hp) (t.mono (hid_upd_le hp))⟩
end

/-- the rule of an operator: over two values that stand for data -/
def Op2 (X : Cx) (f : Value → Value → Sem Value) (g : Dt → Dt → Option (Dt × Bool)) : Prop :=
  ∃ r : R2, OpR X f r ∧ ∀ (S : List Addr) (H : Hp) (x y : V) (d e c : Dt) (w : Bool) (Q : VK), (∀ b, b ∈ S → (H b).isSome = true) → Rd1 X.K S H x d → Rd1 X.K S H y e → g d e = some (c, w) →
    (∀ v H', Out X.K S H v c w H' → Q v H') → r x y H Q
section
variable {X : Cx}
theorem Op2.ints {f : Value → Value → Sem Value} {C : Int → Int → Prop} {z : Int → Int → Int} {g : Dt → Dt → Option (Dt × Bool)} (o : OpR X f (rI C fun i j => .int (z i j)))
    (hg : ∀ d e c w, g d e = some (c, w) → ∃ i j, d = .int i ∧ e = .int j ∧ C i j ∧ c = .int (z i j) ∧ w = false) : Op2 X f g :=
  ⟨_, o, fun S H x y d e c w Q live hx hy h q => by
    obtain ⟨i, j, rfl, rfl, hc, rfl, rfl⟩ := hg d e c w h
    exact ⟨i, j, hx.int, hy.int, hc, q _ _ (.int _)⟩⟩
theorem Op2.ints0 {f : Value → Value → Sem Value} {z : Int → Int → Int} {g : Dt → Dt → Option (Dt × Bool)} (o : OpR X f (rI0 fun i j => .int (z i j)))
    (hg : ∀ d e c w, g d e = some (c, w) → ∃ i j, d = .int i ∧ e = .int j ∧ c = .int (z i j) ∧ w = false) : Op2 X f g :=
  ⟨_, o, fun S H x y d e c w Q live hx hy h q => by
    obtain ⟨i, j, rfl, rfl, rfl, rfl⟩ := hg d e c w h
    exact ⟨i, j, hx.int, hy.int, q _ _ (.int _)⟩⟩
def bopP : BOp → Operator
  | .add => .Add | .sub => .Sub | .mul => .Mult | .fdiv => .FloorDiv | .mod => .Mod | .pow => .Pow | .shl => .LShift | .shr => .RShift | .band => .BitAnd
theorem op2_add : Op2 X (binaryOp .Add) (bop .add) := by
  refine ⟨_, op_add.or (op_add_str.or (op_cat.or op_catA)), fun S H x y d e c w Q live hx hy h q => ?_⟩
  change bop_add d e = _ at h
  unfold bop_add at h
  split at h <;> try cases h
  · exact .inl ⟨_, _, hx.int, hy.int, q _ _ (.int _)⟩
  · split at h <;> cases h
    rename_i hl
    exact .inr (.inl ⟨_, _, hx.str, hy.str, hl, q _ _ (.str _)⟩)
  · split at h <;> cases h
    rename_i x y hl
    obtain ⟨a, xs, rfl, h1, t1⟩ := hx.list
    obtain ⟨b, ys, rfl, h2, t2⟩ := hy.list
    refine .inr (.inr (.inl ⟨a, b, xs, ys, rfl, rfl, h1, h2, ?_, fun p hp => q _ _ (.newL hp (t1.append t2))⟩))
    rw [t1.length, t2.length]; exact hl
  · split at h <;> cases h
    rename_i x y hl
    obtain ⟨a, xs, rfl, h1, t1⟩ := hx.tuple
    obtain ⟨b, ys, rfl, h2, t2⟩ := hy.tuple
    refine .inr (.inr (.inr ⟨a, b, xs, ys, rfl, rfl, .of h1, .of h2, ?_, fun e => ?_, fun e e2 => ?_, fun _ _ p hp => q _ _ (.newT live hp (t1.append t2))⟩))
    · rw [t1.length, t2.length]; exact hl
    · subst e
      cases t1
      rcases hy with hy | ⟨_, _, _, _, hy⟩
      · exact q _ _ (.same hy)
      · cases hy
    · subst e2
      cases t2
      rw [List.append_nil] at *
      rcases hx with hx | ⟨_, _, _, _, hx⟩
      · exact q _ _ (.same hx)
      · cases hx
theorem op2_bop (o : BOp) : Op2 X (binaryOp (bopP o)) (bop o) := by
  cases o with
  | add => exact op2_add
  | sub =>
    exact .ints0 op_sub fun d e c w h => by
      change bop_sub d e = _ at h
      unfold bop_sub at h
      split at h <;> cases h
      exact ⟨_, _, rfl, rfl, rfl, rfl⟩
  | mul =>
    exact .ints op_mulW fun d e c w h => by
      change bop_mul d e = _ at h
      unfold bop_mul at h
      split at h <;> try cases h
      split at h <;> cases h
      rename_i hc
      exact ⟨_, _, rfl, rfl, hc, rfl, rfl⟩
  | fdiv =>
    exact .ints op_fdivW fun d e c w h => by
      change bop_fdiv d e = _ at h
      unfold bop_fdiv at h
      split at h <;> try cases h
      split at h <;> cases h
      rename_i hc
      exact ⟨_, _, rfl, rfl, hc, rfl, rfl⟩
  | mod =>
    exact .ints op_mod fun d e c w h => by
      change bop_mod d e = _ at h
      unfold bop_mod at h
      split at h <;> try cases h
      split at h <;> cases h
      rename_i hc
      exact ⟨_, _, rfl, rfl, hc, rfl, rfl⟩
  | pow =>
    exact .ints op_pow fun d e c w h => by
      change bop_pow d e = _ at h
      unfold bop_pow at h
      split at h <;> try cases h
      split at h <;> cases h
      rename_i hc
      exact ⟨_, _, rfl, rfl, hc, rfl, rfl⟩
  | shl =>
    exact .ints op_shl fun d e c w h => by
      change bop_shl d e = _ at h
      unfold bop_shl at h
      split at h <;> try cases h
      split at h <;> cases h
      rename_i hc
      exact ⟨_, _, rfl, rfl, hc, rfl, rfl⟩
  | shr =>
    exact .ints op_shr fun d e c w h => by
      change bop_shr d e = _ at h
      unfold bop_shr at h
      split at h <;> try cases h
      split at h <;> cases h
      rename_i hc
      exact ⟨_, _, rfl, rfl, hc, rfl, rfl⟩
  | band =>
    exact .ints0 op_and fun d e c w h => by
      change bop_band d e = _ at h
      unfold bop_band at h
      split at h <;> cases h
      exact ⟨_, _, rfl, rfl, rfl, rfl⟩
end
end Bw

set_option maxRecDepth 100000
set_option maxHeartbeats 1000000
namespace Bw
open PySem PySem.Spec PyProof.Rows L2
section
variable {K : PySem.W.Frag} {S : List Addr} {H H' : Hp} {v : V} {d : Dt}
mutual
theorem Rp.dp {K : PySem.W.Frag} {H : Hp} : ∀ {v : V} {d : Dt}, Rp K H v d → d.canLay0 = true → Dp K H v d
  | _, _, .non, _ => .non
  | _, _, .bl b, _ => .bl b
  | _, _, .int i, _ => .int i
  | _, _, .str x, _ => .str x
  | _, _, .lst h t, q => .lst (.of h) (RpL.dp t (by simpa [PyData.canLay0] using q))
  | _, _, .tup h t, q => .tup (.of h) (RpL.dp t (by simpa [PyData.canLay0] using q))
  | _, _, .scr h, q => by simp [Bw.scr, PyData.canLay0] at q
  | _, _, .dK h t, q => by simp [PyData.canLay0] at q
  | _, _, .dT h t, q => by simp [PyData.canLay0] at q
theorem RpL.dp {K : PySem.W.Frag} {H : Hp} : ∀ {vs : List V} {ds : List Dt}, RpL K H vs ds → PyData.canLayAll0 ds = true → DpAll K H vs ds
  | _, _, .nil, _ => .nil
  | _, _, .cons h t, q => by
    simp only [PyData.canLayAll0, Bool.and_eq_true] at q
    exact .cons (Rp.dp h q.1) (RpL.dp t q.2)
end
theorem Rd1.dp (h : Rd1 K S H v d) (q : SeqAt.shaped d = true) : Dp K H v d := by
  have q' := SeqAt.canLay_of_shaped q
  rcases h with h | ⟨a, o, e, ho, h⟩
  · exact (h.mono (hid_le S H)).dp q'
  · subst e
    cases h with
    | lst t => exact .lst (.of ho) ((t.mono (hid_le S H)).dp (by simpa [PyData.canLay0] using q'))
    | dK t => simp [PyData.canLay0] at q'
    | dT t => simp [PyData.canLay0] at q'
theorem RpL.intsOf : ∀ {vs : List V} {ds : List Dt} {ns : List _}, RpL K H vs ds → intsD ds = some ns → vs = ns.map V.int ∧ ds = ns.map PyData.int
  | _, _, ns, .nil, q => by
    unfold intsD at q; cases q; exact ⟨rfl, rfl⟩
  | _, _, ns, .cons (ds := ds) h t, q => by
    cases h <;> unfold intsD at q <;> try cases q
    rename_i i
    cases e : intsD ds with
    | none => rw [e] at q; cases q
    | some ms =>
      rw [e] at q
      simp only [Option.map_some, Option.some.injEq] at q
      subst q
      obtain ⟨h1, h2⟩ := RpL.intsOf t e
      exact ⟨by rw [h1]; rfl, by rw [h2]; rfl⟩
theorem RpL.blsOf : ∀ {vs : List V} {ds : List Dt} {ns : List _}, RpL K H vs ds → blsD ds = some ns → vs = ns.map V.bl ∧ ds = ns.map PyData.bool
  | _, _, ns, .nil, q => by
    unfold blsD at q; cases q; exact ⟨rfl, rfl⟩
  | _, _, ns, .cons (ds := ds) h t, q => by
    cases h <;> unfold blsD at q <;> try cases q
    rename_i i
    cases e : blsD ds with
    | none => rw [e] at q; cases q
    | some ms =>
      rw [e] at q
      simp only [Option.map_some, Option.some.injEq] at q
      subst q
      obtain ⟨h1, h2⟩ := RpL.blsOf t e
      exact ⟨by rw [h1]; rfl, by rw [h2]; rfl⟩
theorem Rp.flatV (h : Rp K H v d) (q : flat d = true) : L2.flatV v = true := by
  cases h <;> first | rfl | (exact absurd q (by simp [flat, Bw.scr]))
theorem Rp.eqV {y : V} {e : Dt} (h : Rp K H v d) (g : Rp K H y e) (q : flat d = true) (q2 : flat e = true) : L2.eqV v y = PyData.eqv d e := by
  cases h <;> cases g <;> first | rfl | (simp [flat, Bw.scr] at q q2) | (simp [L2.eqV, PyData.eqv])
theorem RpL.inV (h : Rp K H v d) (q : flat d = true) : ∀ {vs : List V} {ds : List Dt}, RpL K H vs ds → ds.all flat = true → vs.all L2.flatV = true ∧ L2.inV v vs = inD d ds
  | _, _, .nil, _ => ⟨rfl, rfl⟩
  | _, _, .cons g t, q2 => by
    rw [List.all_cons, Bool.and_eq_true] at q2
    obtain ⟨h1, h2⟩ := RpL.inV h q t q2.2
    refine ⟨by rw [List.all_cons, g.flatV q2.1, h1]; rfl, ?_⟩
    unfold L2.inV inD at *
    rw [List.any_cons, List.any_cons, g.eqV h q2.1 q, h2]
theorem Rd1.flatRp (h : Rd1 K S H v d) (q : flat d = true) : Rp K (hid S H) v d := by
  rcases h with h | ⟨_, _, _, _, h⟩
  · exact h
  · cases h <;> simp [flat] at q
/-! ### a dict's entries -/
theorem keyD_toKey : ∀ {k : Dt} {x : Key}, toKey k = some x → k = keyD x
  | .int i, _, h => by unfold toKey at h; cases h; rfl
  | .str i, _, h => by unfold toKey at h; cases h; rfl
  | .none, _, h => by unfold toKey at h; cases h
  | .bool _, _, h => by unfold toKey at h; cases h
  | .list _, _, h => by unfold toKey at h; cases h
  | .tuple _, _, h => by unfold toKey at h; cases h
  | .dict _, _, h => by unfold toKey at h; cases h
theorem toKey_keyD (k : Key) : toKey (keyD k) = some k := by cases k <;> rfl
theorem keyDs_toKeys : ∀ {ds : List Dt} {ks : List Key}, toKeys ds = some ks → ds = ks.map keyD
  | [], _, h => by unfold toKeys at h; cases h; rfl
  | d :: ds, _, h => by
    unfold toKeys at h
    split at h
    · rename_i k ks h1 h2
      cases h
      rw [List.map_cons, ← keyD_toKey h1, ← keyDs_toKeys h2]
    · cases h
theorem toKeys_keyD : ∀ ks : List Key, toKeys (ks.map keyD) = some ks
  | [] => rfl
  | k :: ks => by
    rw [List.map_cons]; unfold toKeys
    rw [toKey_keyD, toKeys_keyD ks]
theorem toK_k (k : Key) : toK (keyD k) = some (.inl k) := by cases k <;> rfl
theorem toK_t (ks : List Key) : toK (PyData.tuple (ks.map keyD)) = some (.inr ks) := by
  show (toKeys (ks.map keyD)).map _ = _
  rw [toKeys_keyD]; rfl
theorem toK_cases {d : Dt} {k : Key ⊕ List Key} (h : toK d = some k) : (∃ x, k = .inl x ∧ d = keyD x) ∨ ∃ xs, k = .inr xs ∧ d = PyData.tuple (xs.map keyD) := by
  unfold toK at h
  split at h
  · cases h; exact .inl ⟨_, rfl, rfl⟩
  · cases h; exact .inl ⟨_, rfl, rfl⟩
  · rename_i ds
    cases e : toKeys ds with
    | none => rw [e] at h; cases h
    | some ks => rw [e] at h; cases h; exact .inr ⟨ks, rfl, by rw [keyDs_toKeys e]⟩
  · cases h
theorem Rp.keyV {k : Key} (h : Rp K H v (keyD k)) : v = kV k := by
  cases k <;> (cases h; rfl)
theorem RpL.keyVs : ∀ {vs : List V} {ks : List Key}, RpL K H vs (ks.map keyD) → vs = ks.map kV
  | _, [], .nil => rfl
  | _, k :: ks, .cons h t => by rw [List.map_cons, h.keyV, RpL.keyVs t]
/-- a look-up agrees -/
theorem find_k : ∀ {kvs : List (Key × V)} {ds : List Dt} (x : Key), RpL K H (kvs.map (·.2)) ds →
    (∃ y e, valV kvs x = some y ∧ findK (.inl x) ((kvs.map fun p => keyD p.1).zip ds) = some e ∧ Rp K H y e) ∨ (valV kvs x = none ∧ findK (.inl x) ((kvs.map fun p => keyD p.1).zip ds) = none)
  | [], _, x, .nil => .inr ⟨rfl, rfl⟩
  | (k, y) :: kvs, _, x, .cons h t => by
    rw [List.map_cons, List.zip_cons_cons]
    unfold findK
    rw [toK_k]
    by_cases e : k = x
    · rw [if_pos (by rw [e])]
      exact .inl ⟨y, _, valV_pos e, rfl, h⟩
    · rw [if_neg (by simpa using e), valV_neg (p := (k, y)) e]
      exact find_k x t
theorem find_t : ∀ {kvs : List (List Key × V)} {ds : List Dt} (x : List Key), RpL K H (kvs.map (·.2)) ds →
    (∃ y e, valV kvs x = some y ∧ findK (.inr x) ((kvs.map fun p => PyData.tuple (p.1.map keyD)).zip ds) = some e ∧ Rp K H y e) ∨ (valV kvs x = none ∧ findK (.inr x) ((kvs.map fun p => PyData.tuple (p.1.map keyD)).zip ds) = none)
  | [], _, x, .nil => .inr ⟨rfl, rfl⟩
  | (k, y) :: kvs, _, x, .cons h t => by
    rw [List.map_cons, List.zip_cons_cons]
    unfold findK
    rw [toK_t]
    by_cases e : k = x
    · rw [if_pos (by rw [e])]
      exact .inl ⟨y, _, valV_pos e, rfl, h⟩
    · rw [if_neg (by simpa using e), valV_neg (p := (k, y)) e]
      exact find_t x t
end
end Bw

set_option maxRecDepth 100000
set_option maxHeartbeats 1000000
namespace Bw
open PySem PySem.Spec PyProof.Rows L2
def Cmp2 (X : Cx) (op : CmpOp) (g : Dt → Dt → Option Bool) : Prop :=
  ∃ r : R2, OpR X (compareOp op) r ∧ ∀ (S : List Addr) (H : Hp) (x y : V) (d e : Dt) (c : Bool) (Q : VK), Rd1 X.K S H x d → Rd1 X.K S H y e → g d e = some c → Q (.bl c) H → r x y H Q
def copP : COp → CmpOp
  | .eq => .Eq | .ne => .NotEq | .lt => .Lt | .le => .LtE | .gt => .Gt | .ge => .GtE | .inn => .In | .nin => .NotIn | .is => .Is | .isn => .IsNot
/-- a look-up of a value in a dict that is read -/
theorem DkAt.get {K : PySem.W.Frag} {S : List Addr} {H : Hp} {a : Addr} {kvs : List (Dt × Dt)} {y : V} {e : Dt} {k : Key ⊕ List Key} {o : Option Dt} (h : DkAt K (hid S H) H a kvs) (hy : Rd1 K S H y e) (hk : toK e = some k) (hg : getK kvs k = some o) :
    ∃ ov, DGet H a y ov ∧ ((∃ v d, ov = some v ∧ o = some d ∧ Rp K (hid S H) v d) ∨ (ov = none ∧ o = none)) := by
  rcases toK_cases hk with ⟨x, rfl, rfl⟩ | ⟨x, rfl, rfl⟩
  · have hv : y = kV x := by
      have : Rp K (hid S H) y (keyD x) := by
        cases x with
        | inl i => exact hy.flatRp rfl
        | inr i => exact hy.flatRp rfl
      exact this.keyV
    cases h with
    | k hr t =>
      have hg' : some (findK (.inl x) _) = some o := hg
      cases hg'
      rcases find_k x t with ⟨v, d, h1, h2, h3⟩ | ⟨h1, h2⟩
      · exact ⟨some v, .inl ⟨_, x, hr, hv, h1.symm⟩, .inl ⟨v, d, rfl, h2, h3⟩⟩
      · exact ⟨none, .inl ⟨_, x, hr, hv, h1.symm⟩, .inr ⟨rfl, h2⟩⟩
    | t hr t => cases hg
  · obtain ⟨b, xs, rfl, hb, tt⟩ := hy.tuple
    have := tt.keyVs
    subst this
    cases h with
    | k hr t => cases hg
    | t hr t =>
      have hg' : some (findK (.inr x) _) = some o := hg
      cases hg'
      rcases find_t x t with ⟨v, d, h1, h2, h3⟩ | ⟨h1, h2⟩
      · exact ⟨some v, .inr ⟨_, x, b, hr, rfl, hb, h1.symm⟩, .inl ⟨v, d, rfl, h2, h3⟩⟩
      · exact ⟨none, .inr ⟨_, x, b, hr, rfl, hb, h1.symm⟩, .inr ⟨rfl, h2⟩⟩
theorem scr_getK {ns : List Int} {kvs : List (Dt × Dt)} {k : Key ⊕ List Key} {o : Option Dt} (e : PyData.dict kvs = scr ns) (hg : getK kvs k = some o) : False := by
  unfold scr at e; cases e; cases hg
section
variable {X : Cx}
def rDIn (neg : Bool) : R2 := fun x y H Q => ∃ a o, y = .ref a ∧ DGet H a x o ∧ Q (.bl (if neg then !o.isSome else o.isSome)) H
theorem op_din (hu : X.A.units + 1 < cLine) : OpR X (compareOp .In) (rDIn false) := by
  intro pins s σ H x y v u Q I rx ry h
  obtain ⟨a, o, rfl, g, q⟩ := h
  cases ry
  exact d_in hu I g rx fun s' I' => ⟨.bl o.isSome, H, I', rfl, q⟩
theorem op_dnin (hu : X.A.units + 1 < cLine) : OpR X (compareOp .NotIn) (rDIn true) := by
  intro pins s σ H x y v u Q I rx ry h
  obtain ⟨a, o, rfl, g, q⟩ := h
  cases ry
  exact d_notIn hu I g rx fun s' I' => ⟨.bl (!o.isSome), H, I', rfl, q⟩
theorem cmp2_cop (hu : X.A.units + 64 < cLine) (o : COp) : Cmp2 X (copP o) (cop o) := by
  cases o with
  | eq =>
    refine ⟨_, op_eqD hu, fun S H x y d e c Q hx hy h q => ?_⟩
    change cop_eq d e = _ at h
    unfold cop_eq at h
    split at h <;> cases h
    rename_i hs
    rw [Bool.and_eq_true] at hs
    exact ⟨d, e, hx.dp hs.1, hy.dp hs.2, hs.1, hs.2, q⟩
  | ne =>
    refine ⟨_, op_neD hu, fun S H x y d e c Q hx hy h q => ?_⟩
    change cop_ne d e = _ at h
    unfold cop_ne at h
    split at h <;> cases h
    rename_i hs
    rw [Bool.and_eq_true] at hs
    exact ⟨d, e, hx.dp hs.1, hy.dp hs.2, hs.1, hs.2, q⟩
  | lt =>
    refine ⟨_, op_lt.or (op_ltT (by omega)), fun S H x y d e c Q hx hy h q => ?_⟩
    change cop_lt d e = _ at h
    unfold cop_lt at h
    split at h <;> try cases h
    · exact .inl ⟨_, _, hx.int, hy.int, q⟩
    · split at h <;> cases h
      rename_i a b h1 h2
      obtain ⟨p, xs, rfl, hp, t1⟩ := hx.tuple
      obtain ⟨r, ys, rfl, hr, t2⟩ := hy.tuple
      obtain ⟨rfl, _⟩ := t1.intsOf h1
      obtain ⟨rfl, _⟩ := t2.intsOf h2
      exact .inr ⟨p, r, a, b, rfl, rfl, .of hp, .of hr, q⟩
  | le =>
    refine ⟨_, op_le, fun S H x y d e c Q hx hy h q => ?_⟩
    change cop_le d e = _ at h
    unfold cop_le at h
    split at h <;> cases h
    exact ⟨_, _, hx.int, hy.int, q⟩
  | gt =>
    refine ⟨_, op_gt, fun S H x y d e c Q hx hy h q => ?_⟩
    change cop_gt d e = _ at h
    unfold cop_gt at h
    split at h <;> cases h
    exact ⟨_, _, hx.int, hy.int, q⟩
  | ge =>
    refine ⟨_, op_ge, fun S H x y d e c Q hx hy h q => ?_⟩
    change cop_ge d e = _ at h
    unfold cop_ge at h
    split at h <;> cases h
    exact ⟨_, _, hx.int, hy.int, q⟩
  | inn =>
    refine ⟨_, op_in_seq.or ((op_din (by omega)).or op_in_str), fun S H x y d e c Q hx hy h q => ?_⟩
    change cop_inn d e = _ at h
    unfold cop_inn at h
    split at h <;> try cases h
    · split at h <;> cases h
      rename_i hf
      rw [Bool.and_eq_true] at hf
      obtain ⟨p, xs, rfl, hp, t⟩ := hy.list
      obtain ⟨g1, g2⟩ := RpL.inV (hx.flatRp hf.1) hf.1 t hf.2
      exact .inl ⟨p, xs, rfl, .inl (.of hp), (hx.flatRp hf.1).flatV hf.1, g1, by rw [g2]; exact q⟩
    · split at h <;> cases h
      rename_i hf
      rw [Bool.and_eq_true] at hf
      obtain ⟨p, xs, rfl, hp, t⟩ := hy.tuple
      obtain ⟨g1, g2⟩ := RpL.inV (hx.flatRp hf.1) hf.1 t hf.2
      exact .inl ⟨p, xs, rfl, .inr (.of hp), (hx.flatRp hf.1).flatV hf.1, g1, by rw [g2]; exact q⟩
    · rename_i kvs
      split at h <;> try cases h
      rename_i k hk
      cases hg : getK kvs k with
      | none => rw [hg] at h; cases h
      | some o =>
        rw [hg] at h
        cases h
        rcases hy.dict with ⟨a, ns, _, e, _⟩ | ⟨a, rfl, w⟩
        · exact (scr_getK e hg).elim
        · obtain ⟨ov, g, z⟩ := w.get hx hk hg
          refine .inr (.inl ⟨a, ov, rfl, g, ?_⟩)
          rcases z with ⟨v, d, rfl, rfl, _⟩ | ⟨rfl, rfl⟩ <;> exact q
    · exact .inr (.inr ⟨_, _, hx.str, hy.str, q⟩)
  | nin =>
    refine ⟨_, op_notIn_seq.or (op_dnin (by omega)), fun S H x y d e c Q hx hy h q => ?_⟩
    change cop_nin d e = _ at h
    unfold cop_nin at h
    split at h <;> try cases h
    · split at h <;> cases h
      rename_i hf
      rw [Bool.and_eq_true] at hf
      obtain ⟨p, xs, rfl, hp, t⟩ := hy.list
      obtain ⟨g1, g2⟩ := RpL.inV (hx.flatRp hf.1) hf.1 t hf.2
      exact .inl ⟨p, xs, rfl, .inl (.of hp), (hx.flatRp hf.1).flatV hf.1, g1, by rw [g2]; exact q⟩
    · split at h <;> cases h
      rename_i hf
      rw [Bool.and_eq_true] at hf
      obtain ⟨p, xs, rfl, hp, t⟩ := hy.tuple
      obtain ⟨g1, g2⟩ := RpL.inV (hx.flatRp hf.1) hf.1 t hf.2
      exact .inl ⟨p, xs, rfl, .inr (.of hp), (hx.flatRp hf.1).flatV hf.1, g1, by rw [g2]; exact q⟩
    · rename_i kvs
      split at h <;> try cases h
      rename_i k hk
      cases hg : getK kvs k with
      | none => rw [hg] at h; cases h
      | some o =>
        rw [hg] at h
        cases h
        rcases hy.dict with ⟨a, ns, _, e, _⟩ | ⟨a, rfl, w⟩
        · exact (scr_getK e hg).elim
        · obtain ⟨ov, g, z⟩ := w.get hx hk hg
          refine .inr ⟨a, ov, rfl, g, ?_⟩
          rcases z with ⟨v, d, rfl, rfl, _⟩ | ⟨rfl, rfl⟩ <;> exact q
  | is =>
    refine ⟨_, op_is_bl, fun S H x y d e c Q hx hy h q => ?_⟩
    change cop_is d e = _ at h
    unfold cop_is at h
    split at h <;> cases h
    exact ⟨_, _, hx.bool, hy.bool, q⟩
  | isn =>
    refine ⟨_, op_isnot_bl, fun S H x y d e c Q hx hy h q => ?_⟩
    change cop_isn d e = _ at h
    unfold cop_isn at h
    split at h <;> cases h
    exact ⟨_, _, hx.bool, hy.bool, q⟩
/-! ### an item -/
def rIxD : R2 := fun x y H Q => ∃ a v, x = .ref a ∧ DGet H a y (some v) ∧ Q v H
theorem ix_dict (hu : X.A.units + 1 < cLine) : IxR X rIxD := by
  intro value slice pins s σ H x y v u Q I rx ry h hs
  obtain ⟨a, z, rfl, g, q⟩ := h
  cases rx
  exact tail_any (dict_typeIs I g) PySem.F.slot_dict_getitem.lookup (d_getItem hu I g ry fun w' s' I' rw' => ⟨z, H, I', rw', q⟩) hs
theorem RpL.at {K : PySem.W.Frag} {H : Hp} {vs : List V} {ds : List Dt} (t : RpL K H vs ds) {i : Int} {d : Dt} (h : atI ds i = some d) : ∃ v, atI vs i = some v ∧ Rp K H v d := by
  unfold atI at *
  rw [t.length]
  cases e : ixN ds.length i with
  | none => rw [e] at h; cases h
  | some j =>
    rw [e] at h
    obtain ⟨v, h1, h2⟩ := t.get (i := j) (d := d) h
    exact ⟨v, h1, h2⟩
theorem ix_all (hu : X.A.units + 64 < cLine) : ∃ r : R2, IxR X r ∧ ∀ (S : List Addr) (H : Hp) (x y : V) (d e c : Dt) (Q : VK), Rd1 X.K S H x d → Rd1 X.K S H y e → ixD d e = some c → (∀ v, Rp X.K (hid S H) v c → Q v H) → r x y H Q := by
  refine ⟨_, ix_list.or (ix_tup.or (ix_str.or (ix_dict (by omega)))), fun S H x y d e c Q hx hy h q => ?_⟩
  unfold ixD at h
  split at h
  · rename_i xs i
    rcases hx.dict with ⟨a, ns, rfl, e, w⟩ | ⟨a, rfl, w⟩
    · unfold scr at e
      cases e
      obtain ⟨v, h1, h2⟩ := RpL.at (K := X.K) (H := hid S H) (RpL.ofInts ns) h
      exact .inl ⟨a, _, i, v, rfl, hy.int, w, h1, q v h2⟩
    · cases w
  · obtain ⟨a, xs, rfl, ha, t⟩ := hx.list
    obtain ⟨v, h1, h2⟩ := t.at h
    exact .inl ⟨a, xs, _, v, rfl, hy.int, .of ha, h1, q v h2⟩
  · obtain ⟨a, xs, rfl, ha, t⟩ := hx.tuple
    obtain ⟨v, h1, h2⟩ := t.at h
    exact .inr (.inl ⟨a, xs, _, v, rfl, hy.int, .of ha, h1, q v h2⟩)
  · split at h <;> try cases h
    rename_i z i hl
    cases e : atI z.cps.toList i with
    | none => rw [e] at h; cases h
    | some k =>
      rw [e] at h
      cases h
      exact .inr (.inr (.inl ⟨z, i, k, hx.str, hy.int, hl, e, q _ (.str _)⟩))
  · split at h <;> try cases h
    rename_i kk hk
    split at h <;> try cases h
    rename_i o hg
    rcases hx.dict with ⟨a, ns, _, e, _⟩ | ⟨a, rfl, w⟩
    · exact (scr_getK e hg).elim
    · obtain ⟨ov, g, z⟩ := w.get hy hk hg
      rcases z with ⟨v, d, rfl, e2, r⟩ | ⟨rfl, e2⟩
      · cases e2
        exact .inr (.inr (.inr ⟨a, v, rfl, g, q v r⟩))
      · cases e2
  · cases h
/-! ### a slice -/
theorem RpL.cut {K : PySem.W.Frag} {H : Hp} {vs : List V} {ds : List Dt} (t : RpL K H vs ds) (lo hi : Option Int) : RpL K H (cutV vs lo hi) (cutD ds lo hi) := by
  unfold cutV cutD
  rw [t.length]
  exact (t.drop _).take _
end
end Bw

set_option maxRecDepth 100000
set_option maxHeartbeats 4000000
/-! sorting of lists and of tuples whose items are tuples of ints -/
namespace Bw
open PySem PySem.Spec PyProof.Rows L2 SrtO Srt
theorem lex_irr : ∀ xs : List Int, HT.lexLt xs xs = false
  | [] => rfl
  | x :: xs => by rw [HT.lexLt_cons, if_pos rfl]; exact lex_irr xs
theorem lex_asym : ∀ xs ys : List Int, HT.lexLt xs ys = true → HT.lexLt ys xs = false
  | [], [], h => rfl
  | [], _ :: _, _ => rfl
  | _ :: _, [], h => by cases h
  | x :: xs, y :: ys, h => by
    rw [HT.lexLt_cons] at h ⊢
    by_cases e : x = y
    · rw [if_pos e] at h; rw [if_pos e.symm]; exact lex_asym xs ys h
    · rw [if_neg e, decide_eq_true_eq] at h
      rw [if_neg (Ne.symm e)]
      exact decide_eq_false (by omega)
theorem lex_tr : ∀ xs ys zs : List Int, HT.lexLt ys xs = false → HT.lexLt zs ys = false → HT.lexLt zs xs = false
  | [], [], [], _, _ => rfl
  | [], [], _ :: _, _, h => h
  | [], _ :: _, [], _, h => rfl
  | [], _ :: _, _ :: _, _, _ => rfl
  | _ :: _, [], _, h, _ => by cases h
  | _ :: _, _ :: _, [], _, h => by cases h
  | x :: xs, y :: ys, z :: zs, h1, h2 => by
    rw [HT.lexLt_cons] at h1 h2 ⊢
    by_cases e : y = x
    · by_cases e2 : z = y
      · rw [if_pos e] at h1; rw [if_pos e2] at h2; rw [if_pos (e2.trans e)]
        exact lex_tr xs ys zs h1 h2
      · rw [if_neg e2, decide_eq_false_iff_not] at h2
        rw [if_neg (by omega)]
        exact decide_eq_false (by omega)
    · rw [if_neg e, decide_eq_false_iff_not] at h1
      by_cases e2 : z = y
      · rw [if_neg (by omega)]; exact decide_eq_false (by omega)
      · rw [if_neg e2, decide_eq_false_iff_not] at h2
        rw [if_neg (by omega)]; exact decide_eq_false (by omega)
theorem swo_list {α : Type} (k : α → List Int) : Swo fun v u => HT.lexLt (k v) (k u) := ⟨fun x y h => lex_asym _ _ h, fun x y z h1 h2 => lex_tr _ _ _ h1 h2⟩
/-- a tuple of ints in a heap -/
def TupAt (h : Heap) (v : Value) (ns : List Int) : Prop := ∃ a o its n, v = .ref a ∧ h.get? a = some o ∧ o.cls = .type "tuple" ∧ o.data = .seq its n ∧ IntsAre its.toList ns
theorem TupAt.keeps {h h' : Heap} {v : Value} {ns : List Int} (x : TupAt h v ns) (k : ∀ b o, h.get? b = some o → o.cls = .type "tuple" → h'.get? b = some o) : TupAt h' v ns := by
  obtain ⟨a, o, its, n, rfl, ho, hc, hd, hi⟩ := x
  exact ⟨a, o, its, n, rfl, k a o ho hc, hc, hd, hi⟩
section
variable {prog : Program} {w : World} {A : Around} {E : Value → Shared → Prop} {s : Shared}
theorem kat_all {Q : Bool → Shared → Prop} : ∀ {us vs : List Value} {ns ms : List Int} {i : Nat}, IntsAre us ns → IntsAre vs ms → Q (HT.lexLt ns ms) s → PySem.W.KatLex prog w A true (decide (us.length < vs.length)) Q (us.zip vs) i s
  | _, _, _, _, i, .nil, .nil, h => PySem.W.kat_nil h
  | _, _, _, _, i, .nil, .cons n t r, h => PySem.W.kat_nil (by simpa [HT.lexLt] using h)
  | _, _, _, _, i, .cons n t r, .nil, h => PySem.W.kat_nil (by simpa [HT.lexLt] using h)
  | _, _, _, _, i, .cons (vs := us) (ns := ns) n t r, .cons (vs := vs) (ns := ms) m u q, h => by
    rw [HT.lexLt_cons] at h
    have e0 : decide ((Value.int n t :: us).length < (Value.int m u :: vs).length) = decide (us.length < vs.length) := by simp
    rw [e0]
    refine PySem.W.kat_cons (SeqAt.EqAt.int_int n t m u prog w _ _ ?_)
    refine PySem.W.kat_go (fun e1 => ?_) (fun e1 => ?_)
    · have ex : n = m := by simpa using e1
      rw [if_pos ex] at h
      exact PySem.W.kat_yes (kat_all r q h)
    · have ex : ¬ n = m := by simpa using e1
      rw [if_neg ex] at h
      exact PySem.W.kat_no (TS.oneLt_ints _ h)
theorem tups_cmp {vs : List Value} {k : Value → List Int} (hp : ∀ v ∈ vs, TupAt s.heap v (k v)) : Cmp prog w A s (tuples' true) (fun p => p.1 ∈ vs) (lt2 fun v u => HT.lexLt (k v) (k u)) := by
  intro p q hm hm'
  obtain ⟨a, o, its, n, e, ho, hc, hd, hi⟩ := hp _ hm
  obtain ⟨a', o', its', n', e', ho', hc', hd', hi'⟩ := hp _ hm'
  show wpAny (model prog w) A (keyLt' (tuples' true) p.1 q.1) (fun r s' => s' = s ∧ r = HT.lexLt (k p.1) (k q.1)) (fun _ _ => False) s
  rw [e, e'] at *
  refine PySem.W.kat_lt ho hd ho' hd' ?_
  rw [← Array.length_toList (xs := its), ← Array.length_toList (xs := its')]
  exact kat_all hi hi' ⟨rfl, rfl⟩
theorem tup_heads {h : Heap} {k : Value → List Int} : ∀ {vs : List Value}, (∀ v ∈ vs, TupAt h v (k v)) → (∀ v ∈ vs, k v ≠ []) → ∃ fs, PySem.W.KatTups h vs fs ∧ fs.length = vs.length ∧ ∀ f ∈ fs, ∃ x t, f = Value.int x t
  | [], _, _ => ⟨[], PySem.W.KatTups.nil, rfl, fun f hf => by cases hf⟩
  | v :: vs, hp, hn => by
    obtain ⟨fs, h1, h2, h3⟩ := tup_heads (vs := vs) (fun u hu => hp u (List.mem_cons_of_mem _ hu)) (fun u hu => hn u (List.mem_cons_of_mem _ hu))
    obtain ⟨a, o, its, n, e, ho, hc, hd, hi⟩ := hp v List.mem_cons_self
    have hne := hn v List.mem_cons_self
    subst e
    obtain ⟨l⟩ := its
    generalize k (Value.ref a) = m at hi hne
    cases hi with
    | nil => exact absurd rfl hne
    | cons x t r => exact ⟨Value.int x t :: fs, PySem.W.KatTups.cons ho hc hd rfl h1, by rw [List.length_cons, List.length_cons, h2], fun f hf => by
        rcases List.mem_cons.mp hf with e | hf
        · exact ⟨x, t, e⟩
        · exact h3 f hf⟩
theorem tups_sortable {a : Addr} {vs : List Value} {k : Value → List Int} (h0 : 0 < vs.length) (hp : ∀ v ∈ vs, TupAt s.heap v (k v)) (hn : ∀ v ∈ vs, k v ≠ []) (ha : ∀ o, s.heap.get? a = some o → o.cls ≠ .type "tuple") :
    SortableO prog w A s a vs fun v u => HT.lexLt (k v) (k u) := by
  intro h' keep
  have hp' : ∀ v ∈ vs, TupAt h' v (k v) := fun v hm => (hp v hm).keeps fun b o e c => keep b o (fun z => by rw [z] at e; exact ha o e c) e
  obtain ⟨fs, h1, h2, h3⟩ := tup_heads hp' hn
  refine ⟨tuples' true, fun Q E hq => ?_, tups_cmp (s := { s with heap := h' }) hp'⟩
  refine PySem.W.kat_kind (T := .type "int") h1 (by omega) (fun f hm => ?_) (by rfl) ?_
  · obtain ⟨x, t, rfl⟩ := h3 f hm
    exact PySem.W.Looks.now
  · have e : (Value.type "int" != Value.type "tuple") = true := by decide +kernel
    rw [e]; exact hq
/-- what sorted first does: the items are collected -/
theorem gather {T : String} {l : Addr} {o : Obj} {vs : List Value} {n : Nat} {Q : List Value → Shared → Prop} (hT : T = "list" ∨ T = "tuple") (ho : s.heap.get? l = some o) (hc : o.cls = .type T) (hd : o.data = .seq vs.toArray n) (hz : vs.length ≤ sizeLine)
    (h : Q vs { s with heap := (s.heap.push (seqObj "list" #[] 0)).update s.heap.objs.size (Obj.mapSeq (· ++ vs.toArray)) }) : wpAny (model prog w) A (collect (.ref l)) Q E s := by
  have e0 := Heap.get?_push_of_some (seqObj "list" #[] 0) ho
  have e1 : (s.heap.push (seqObj "list" #[] 0)).get? s.heap.objs.size = some (seqObj "list" #[] 0) := Heap.get?_push_size _ rfl
  unfold collect
  refine wpAny_bind (wpAny_runValue (codeAny_builtin entry_proto_collect' ?_))
  show wpAny _ _ (do let m ← newList []; again (.builtin "list.__iadd__" ⟨[m, .ref l], []⟩)) _ _ s
  refine wpAny_bind (wpAny_newList (wpAny_pure ⟨Code.quiet_builtin _ (by decide +kernel), codeAny_builtin entry_list_iadd' ?_⟩))
  show wpAny _ _ (Builtin.List.listExtendWith (.ref s.heap.objs.size) (.ref l) (.ref s.heap.objs.size)) _ _ { s with heap := _ }
  unfold Builtin.List.listExtendWith
  refine wpAny_bind (wpAny_typeOf (T := T) ⟨o, e0, hc⟩ ?_)
  have hb : (Value.type T == Value.type "list" || Value.type T == Value.type "tuple") = true := by
    rcases hT with e | e
    · rw [e]; decide +kernel
    · rw [e]; decide +kernel
  rw [if_pos (by rw [Bool.or_assoc, hb, Bool.or_true])]
  refine wpAny_bind (listItems_at e0 hd (wpAny_bind (listItems_at (xs := #[]) (n := 0) e1 rfl ?_)))
  rw [if_neg (by simp)]
  refine wpAny_bind (listUpdate_at (xs := #[]) (n := 0) e1 rfl (wpAny_pure ?_) (Nat.zero_le _) ?_)
  · show wpAny (model prog w) A (load s.heap.objs.size >>= fun o => match o.data with
        | .seq xs _ => pure xs.toList
        | _ => unsupported "internal:collect") Q E { s with heap := (s.heap.push (seqObj "list" #[] 0)).update s.heap.objs.size (Obj.mapSeq (· ++ vs.toArray)) }
    refine wpAny_bind (wpAny_load (get?_update_seq e1 _) ?_)
    have e2 : ((#[] : Array Value) ++ vs.toArray).toList = vs := by simp
    show wpAny _ _ (pure ((#[] : Array Value) ++ vs.toArray).toList) Q E _
    rw [e2]
    exact wpAny_pure h
  · show (#[] ++ vs.toArray).size ≤ sizeLine + 1
    simp only [Array.size_append, List.size_toArray, List.length_nil]
    omega
/-- sorted(x) of a list or a tuple, in any order that its items are sortable by -/
theorem sorted_seq {T : String} {l : Addr} {o : Obj} {vs : List Value} {n : Nat} {ltv : Value → Value → Bool} {Q : Value → Shared → Prop} (O : Swo ltv) (hT : T = "list" ∨ T = "tuple") (ho : s.heap.get? l = some o) (hc : o.cls = .type T) (hd : o.data = .seq vs.toArray n) (hz : vs.length ≤ sizeLine)
    (hS : 2 ≤ vs.length → ∀ (h₁ : Heap) (a : Addr), h₁.get? a = some (seqObj "list" vs.toArray 0) → (∀ b o, s.heap.get? b = some o → b ≠ a ∧ h₁.get? b = some o) → SortableO prog w A.in1.in1 { s with heap := h₁ } a vs ltv)
    (h : ∀ (h' : Heap) (d : Addr) (out : List Value), Srtd ltv out → Stb ltv out vs → (∀ b o, s.heap.get? b = some o → h'.get? b = some o) → s.heap.objs.size ≤ d → (∃ n, h'.get? d = some (seqObj "list" out.toArray n)) → Q (.ref d) { s with heap := h' }) :
    wpAny (model prog w) A (call (.builtin "sorted") [.ref l]) Q E s := by
  refine Calls.call_function_entry kind_sorted plain_sorted entry_sorted (args_sorted1 _) ?_
  unfold Builtin.«sorted»
  refine wpAny_bind (m := checkCount "sorted" 1 1 _) (wpAny_pure (wpAny_bind (gather hT ho hc hd hz (wpAny_bind (wpAny_newList ?_ hz)))))
  generalize hg : (s.heap.push (seqObj "list" #[] 0)).update s.heap.objs.size (Obj.mapSeq (· ++ vs.toArray)) = g
  have sz : g.objs.size = s.heap.objs.size + 1 := by rw [← hg, Heap.size_update, size_push']
  have kg : ∀ b u, s.heap.get? b = some u → g.get? b = some u := fun b u q => by
    rw [← hg, Heap.get?_update_ne _ _ _ _ (Nat.ne_of_lt (Heap.lt_size q))]
    exact Heap.get?_push_of_some _ q
  have hL : (g.push (seqObj "list" vs.toArray 0)).get? g.objs.size = some (seqObj "list" vs.toArray 0) := Heap.get?_push_size _ rfl
  have keep : ∀ b u, s.heap.get? b = some u → b ≠ g.objs.size ∧ (g.push (seqObj "list" vs.toArray 0)).get? b = some u := fun b u q =>
    ⟨Nat.ne_of_lt (by rw [sz]; exact Nat.lt_succ_of_lt (Heap.lt_size q)), Heap.get?_push_of_some _ (kg b u q)⟩
  show wpAny (model prog w) A.in1 _ _ _ { s with heap := g.push (seqObj "list" vs.toArray 0) }
  refine wpAny_bind (wpAny_holding (wpAny_call_entry slot_list_sort ⟨_, hL, rfl⟩ entry_list_sort (list_sort_ord O hL hz (fun h2 => hS h2 _ _ hL keep) fun out hs hb => ⟨_, rfl, ?_⟩) (args_list_sort _)))
  refine wpAny_pure ⟨_, rfl, h _ _ out hs hb (fun b u q => ?_) (by rw [sz]; exact Nat.le_succ _) ?_⟩
  · have q1 := keep b u q
    exact (Heap.get?_update_ne _ _ _ _ q1.1).trans (Heap.get?_push_of_some _ (Heap.get?_push_of_some _ ((Heap.get?_update_ne _ _ _ _ q1.1).trans q1.2)))
  · exact ⟨_, get?_update_seq (Heap.get?_push_of_some _ (Heap.get?_push_of_some _ (get?_update_seq hL _))) _⟩
/-- the same, of what is gathered from any source -/
theorem sorted_coll {T : String} {r d : Addr} {n : Nat} {P : Nat → Value → Prop} {OK : Heap → Prop} {vs : List Value} {ltv : Value → Value → Bool} {Q : Value → Shared → Prop} (O : Swo ltv) (K : PySem.W.KdlSrc prog w T r d n P OK) (hh : A.handled = none) (hok : OK s.heap) (hn : n ≤ sizeLine) (hvs : ∀ acc : Array Value, ItemsOf P acc n → acc.toList = vs) (hz : vs.length ≤ sizeLine)
    (hS : 2 ≤ vs.length → ∀ (h₁ : Heap) (a : Addr) (tk : Nat), h₁.get? a = some (seqObj "list" vs.toArray 0) → (∀ b o, s.heap.get? b = some o → b ≠ a ∧ h₁.get? b = some o) → SortableO prog w A.in1.in1 { s with heap := h₁, toks := tk } a vs ltv)
    (h : ∀ (g h' : Heap) (d : Addr) (out : List Value) (tk : Nat), Srtd ltv out → Stb ltv out vs → (∀ b o, s.heap.get? b = some o → g.get? b = some o) → (∀ b o, g.get? b = some o → h'.get? b = some o) → g.objs.size ≤ d → (∃ n, h'.get? d = some (seqObj "list" out.toArray n)) → Q (.ref d) { s with heap := h', toks := tk }) :
    wpAny (model prog w) A (call (.builtin "sorted") [.ref r]) Q E s := by
  refine Calls.call_function_entry kind_sorted plain_sorted entry_sorted (args_sorted1 _) ?_
  unfold Builtin.«sorted»
  refine wpAny_bind (m := checkCount "sorted" 1 1 _) (wpAny_pure ?_)
  refine wpAny_bind (PySem.W.kdu_collect (A := A.in1) K hh hok hn fun g tk acc kg hacc => ?_)
  rw [hvs acc hacc]
  refine wpAny_bind (wpAny_newList ?_ hz)
  have hL : (g.push (seqObj "list" vs.toArray 0)).get? g.objs.size = some (seqObj "list" vs.toArray 0) := Heap.get?_push_size _ rfl
  have keep : ∀ b u, g.get? b = some u → b ≠ g.objs.size ∧ (g.push (seqObj "list" vs.toArray 0)).get? b = some u := fun b u q =>
    ⟨Nat.ne_of_lt (Heap.lt_size q), Heap.get?_push_of_some _ q⟩
  show wpAny (model prog w) A.in1 _ _ _ { s with heap := g.push (seqObj "list" vs.toArray 0), toks := tk }
  refine wpAny_bind (wpAny_holding (wpAny_call_entry slot_list_sort ⟨_, hL, rfl⟩ entry_list_sort (list_sort_ord O hL hz (fun h2 => hS h2 _ _ _ hL fun b u q => keep b u (kg b u q)) fun out hs hb => ⟨_, rfl, ?_⟩) (args_list_sort _)))
  refine wpAny_pure ⟨_, rfl, h g _ _ out _ hs hb kg (fun b u q => ?_) (Nat.le_refl _) ?_⟩
  · have q1 := keep b u q
    exact (Heap.get?_update_ne _ _ _ _ q1.1).trans (Heap.get?_push_of_some _ (Heap.get?_push_of_some _ ((Heap.get?_update_ne _ _ _ _ q1.1).trans q1.2)))
  · exact ⟨_, get?_update_seq (Heap.get?_push_of_some _ (Heap.get?_push_of_some _ (get?_update_seq hL _))) _⟩
end
end Bw

set_option maxRecDepth 100000
set_option maxHeartbeats 4000000
namespace Bw
open PySem PySem.Spec PyProof.Rows L2 SrtO Srt
section
variable {α β : Type}
theorem insG_mem {lt : α → α → Bool} {x : α} : ∀ {l : List α} {y : α}, y ∈ insG lt x l ↔ y = x ∨ y ∈ l
  | [], y => by unfold insG; simp
  | z :: l, y => by
    unfold insG
    split
    · rw [List.mem_cons, insG_mem, List.mem_cons]
      constructor
      · rintro (h | h | h)
        · exact .inr (.inl h)
        · exact .inl h
        · exact .inr (.inr h)
      · rintro (h | h | h)
        · exact .inr (.inl h)
        · exact .inl h
        · exact .inr (.inr h)
    · rw [List.mem_cons]
theorem insG_perm {lt : α → α → Bool} {x : α} : ∀ l : List α, (insG lt x l).Perm (x :: l)
  | [] => List.Perm.refl _
  | z :: l => by
    unfold insG
    split
    · exact (List.Perm.cons z (insG_perm l)).trans (List.Perm.swap x z l)
    · exact List.Perm.refl _
theorem srtG_perm {lt : α → α → Bool} : ∀ l : List α, (srtG lt l).Perm l
  | [] => List.Perm.refl _
  | x :: l => (insG_perm _).trans (List.Perm.cons x (srtG_perm l))
theorem insG_srtd {lt : α → α → Bool} (O : Swo lt) {x : α} : ∀ {l : List α}, Srtd lt l → Srtd lt (insG lt x l)
  | [], _ => List.pairwise_singleton _ _
  | z :: l, h => by
    unfold insG
    split
    · rename_i hz
      refine List.pairwise_cons.mpr ⟨fun y hy => ?_, insG_srtd O (List.pairwise_cons.mp h).2⟩
      rcases insG_mem.mp hy with e | hy
      · rw [e]; exact O.asym _ _ hz
      · exact (List.pairwise_cons.mp h).1 y hy
    · rename_i hz
      have hz : lt z x = false := by cases e : lt z x with
        | true => exact absurd e hz
        | false => rfl
      refine List.pairwise_cons.mpr ⟨fun y hy => ?_, h⟩
      rcases List.mem_cons.mp hy with e | hy
      · rw [e]; exact hz
      · exact O.tr x z y hz ((List.pairwise_cons.mp h).1 y hy)
theorem srtG_srtd {lt : α → α → Bool} (O : Swo lt) : ∀ l : List α, Srtd lt (srtG lt l)
  | [] => List.Pairwise.nil
  | x :: l => insG_srtd O (srtG_srtd O l)
theorem insG_cls {lt : α → α → Bool} (O : Swo lt) {x : α} (u : α) : ∀ l : List α, (insG lt x l).filter (SrtO.eqv lt u) = (x :: l).filter (SrtO.eqv lt u)
  | [] => rfl
  | z :: l => by
    unfold insG
    split
    · rename_i hz
      rw [List.filter_cons, insG_cls O u l, List.filter_cons, List.filter_cons, List.filter_cons]
      cases e1 : SrtO.eqv lt u z <;> cases e2 : SrtO.eqv lt u x <;> simp
      have h1 := SrtO.eqv_iff.mp e1
      have h2 := SrtO.eqv_iff.mp e2
      have := O.ltle hz h2.1
      rw [h1.2] at this; cases this
    · rfl
theorem srtG_stb {lt : α → α → Bool} (O : Swo lt) : ∀ l : List α, Stb lt (srtG lt l) l
  | [] => Stb.refl _
  | x :: l => by
    have ih := srtG_stb O l
    refine ⟨srtG_perm _, fun u => ?_⟩
    show (insG lt x (srtG lt l)).filter _ = _
    rw [insG_cls O u, List.filter_cons, ih.cls u, ← List.filter_cons]
theorem insG_map {lt : β → β → Bool} {lt' : α → α → Bool} {f : α → β} {x : α} : ∀ {l : List α}, (∀ y ∈ l, lt (f y) (f x) = lt' y x) → insG lt (f x) (l.map f) = (insG lt' x l).map f
  | [], _ => rfl
  | z :: l, h => by
    rw [List.map_cons]
    unfold insG
    rw [h z List.mem_cons_self]
    split
    · rw [insG_map fun y hy => h y (List.mem_cons_of_mem _ hy)]; rfl
    · rfl
theorem srtG_map {lt : β → β → Bool} {lt' : α → α → Bool} {f : α → β} : ∀ {l : List α}, (∀ y ∈ l, ∀ x ∈ l, lt (f y) (f x) = lt' y x) → srtG lt (l.map f) = (srtG lt' l).map f
  | [], _ => rfl
  | z :: l, h => by
    show insG lt (f z) (srtG lt (l.map f)) = (insG lt' z (srtG lt' l)).map f
    rw [srtG_map fun y hy x hx => h y (List.mem_cons_of_mem _ hy) x (List.mem_cons_of_mem _ hx)]
    exact insG_map fun y hy => h y (List.mem_cons_of_mem _ ((srtG_perm l).mem_iff.mp hy)) z List.mem_cons_self
end
/-- the ints of a tuple, by its address -/
def kH (H : Hp) : V → List Int
  | .ref t => match H t with
    | some (.tup ws) => ws.map fun v => match v with
      | .int i => i
      | _ => 0
    | _ => []
  | _ => []
theorem kH_of {H : Hp} {t : Addr} {ns : List Int} (h : H t = some (.tup (ns.map V.int))) : kH H (.ref t) = ns := by
  simp [kH, h, List.map_map, Function.comp_def]
def rSrtT : List V → Hp → VK → Prop := fun vs H Q => ∃ (a : Addr) (xs : List V), vs = [V.ref a] ∧ (H a = some (.lst xs) ∨ H a = some (.tup xs)) ∧ (∀ x ∈ xs, ∃ t ns, x = V.ref t ∧ H t = some (.tup (ns.map V.int)) ∧ ns ≠ []) ∧
  ∀ p, H p = none → Q (.ref p) (upd H p (.lst (srtG (fun x y => HT.lexLt (kH H x) (kH H y)) xs)))
section
variable {X : Cx}
theorem cr_srtT : CallR X (.builtin "sorted") rSrtT := by
  intro pins s σ H vs us Q I r h
  obtain ⟨a, xs, rfl, hs, hx, q⟩ := h
  obtain ⟨u, rfl, ru⟩ := vals1 r
  obtain rfl : u = Value.ref a := ru
  obtain ⟨T, o, its, n, hT, ho, hc, hd, rv, hz⟩ : ∃ T o its n, (T = "list" ∨ T = "tuple") ∧ s.heap.get? a = some o ∧ o.cls = .type T ∧ o.data = .seq its.toArray n ∧ Vals xs its ∧ xs.length ≤ sizeLine := by
    rcases hs with hs | hs
    · obtain ⟨hz, its, n, rv, e⟩ := I.hok _ _ hs
      exact ⟨"list", _, its, n, .inl rfl, e, rfl, rfl, rv, hz⟩
    · obtain ⟨hz, its, rv, o, e, hc, n, hd⟩ := I.hok _ _ hs
      exact ⟨"tuple", o, its, n, .inr rfl, e, hc, hd, rv, hz⟩
  obtain ⟨e1, e2⟩ := refs_back rv fun x m => by
    obtain ⟨t, _, e, _⟩ := hx x m
    exact ⟨t, e⟩
  have hv : ∀ v ∈ its, TupAt s.heap v (kH H (backV v)) ∧ kH H (backV v) ≠ [] := fun v hm => by
    obtain ⟨t, rfl⟩ := e2 v hm
    have hm2 : V.ref t ∈ xs := by rw [e1]; exact List.mem_map.mpr ⟨_, hm, rfl⟩
    obtain ⟨t', ns, e, ht, hne⟩ := hx _ hm2
    cases e
    have ek : kH H (backV (.ref t)) = ns := kH_of ht
    rw [ek]
    obtain ⟨_, its2, r2, o, ho, hc, n, hd⟩ := I.hok _ _ ht
    exact ⟨⟨t, o, its2.toArray, n, rfl, ho, hc, hd, by simpa using r2.ints⟩, hne⟩
  refine sorted_seq (swo_list fun v => kH H (backV v)) hT ho hc hd (by rw [← rv.length]; exact hz) (fun h2 h₁ b hb kk => ?_) fun h' d out h1 h2 kp hd hn => ?_
  · refine tups_sortable (s := { s with heap := h₁ }) (by omega) (fun v hm => ((hv v hm).1).keeps fun c o e _ => (kk c o e).2) (fun v hm => (hv v hm).2) fun o e => ?_
    have e' : some o = some (seqObj "list" its.toArray 0) := e.symm.trans hb
    cases e'
    intro c
    exact absurd (Value.type.inj c) (by decide)
  · have h3 : ∀ u ∈ out, ∃ a, u = Value.ref a := fun u hu => e2 u (h2.perm.mem_iff.mp hu)
    obtain ⟨n, hn⟩ := hn
    have hb : Stb (fun x y => HT.lexLt (kH H x) (kH H y)) (out.map backV) xs := by
      rw [e1]
      exact SrtO.Stb.map (swo_list (kH H)) backV h2
    have hu : out.map backV = srtG (fun x y => HT.lexLt (kH H x) (kH H y)) xs :=
      SrtO.stb_uniq (swo_list (kH H)) (SrtO.srtd_map h1) (srtG_srtd (swo_list (kH H)) xs) (hb.trans ⟨(srtG_perm xs).symm, fun u => ((srtG_stb (swo_list (kH H)) xs).cls u).symm⟩)
    refine ⟨.ref d, upd H d (.lst (out.map backV)), I.laid (t' := s.toks) kp hd ⟨?_, out, n, vals_back h3, hn⟩, rfl, ?_⟩
    · rw [hb.len]; exact hz
    · rw [hu]; exact q d (I.hok.fresh hd)
/-- sorted(xs), xs of one item -/
def rSrt1 : List V → Hp → VK → Prop := fun vs H Q => ∃ (a : Addr) (x : V), vs = [V.ref a] ∧ H a = some (.lst [x]) ∧ ∀ p, H p = none → Q (.ref p) (upd H p (.lst [x]))
theorem cr_srt1 : CallR X (.builtin "sorted") rSrt1 := by
  intro pins s σ H vs us Q I r h
  obtain ⟨a, x, rfl, hs, q⟩ := h
  obtain ⟨u, rfl, ru⟩ := vals1 r
  obtain rfl : u = Value.ref a := ru
  obtain ⟨hz, its, n, rv, e⟩ := I.hok _ _ hs
  cases rv with
  | @cons _ v _ _ r1 t =>
    cases t
    refine sorted_seq (ltv := fun _ _ => false) ⟨fun _ _ h => (by cases h), fun _ _ _ h _ => h⟩ (.inl rfl) e rfl rfl (by rw [sizeLine_eq]; simp) (fun h2 => absurd h2 (by simp)) fun h' d out h1 h2 kp hd hn => ?_
    have eo : out = [v] := List.perm_singleton.mp h2.perm
    subst eo
    obtain ⟨n, hn⟩ := hn
    exact ⟨.ref d, upd H d (.lst [x]), I.laid (t' := s.toks) kp hd ⟨by rw [sizeLine_eq]; simp, [v], n, .cons r1 .nil, hn⟩, rfl, q d (I.hok.fresh hd)⟩
/-- sorted(d), d a dict with tuple keys -/
def rSrtD : List V → Hp → VK → Prop := fun vs H Q => ∃ (a : Addr) (kvs : List (List L2.Key × V)), vs = [V.ref a] ∧ Rd H a (.dT kvs) ∧ ∀ ts : List V, ts.length = kvs.length → (∀ (i : Nat) (kv : List L2.Key × V), kvs[i]? = some kv → ∃ b, ts[i]? = some (V.ref b) ∧ H b = some (.tup (kv.1.map kV))) →
  (∀ x ∈ ts, ∃ t ns, x = V.ref t ∧ H t = some (.tup (ns.map V.int)) ∧ ns ≠ []) ∧ ∀ p, H p = none → Q (.ref p) (upd H p (.lst (srtG (fun x y => HT.lexLt (kH H x) (kH H y)) ts)))
theorem kt_at {H : Hp} {kvs : List (List L2.Key × V)} {xs : List (List L2.Key × Addr × Value)} (r : KT H kvs xs) : ∀ {i : Nat} {kv : List L2.Key × V}, kvs[i]? = some kv → ∃ y, xs[i]? = some y ∧ H y.2.1 = some (.tup (kv.1.map kV)) := by
  unfold KT at r
  induction r with
  | nil => intro i y e; simp at e
  | cons h t ih =>
    intro i y e
    cases i with
    | zero =>
      simp at e; subst e
      exact ⟨_, rfl, h.2.1⟩
    | succ i =>
      obtain ⟨p, h1, h2⟩ := ih (i := i) (kv := y) (by simpa using e)
      exact ⟨p, by simpa using h1, h2⟩
theorem vals_refs : ∀ xs : List (List L2.Key × Addr × Value), Vals (xs.map fun y => V.ref y.2.1) (xs.map fun y => Value.ref y.2.1)
  | [] => .nil
  | x :: xs => .cons rfl (vals_refs xs)
theorem cr_srtD (hc : X.calm = true) : CallR X (.builtin "sorted") rSrtD := by
  intro pins s σ H vs us Q I r h
  obtain ⟨a, kvs, rfl, hd, q⟩ := h
  obtain ⟨u, rfl, ru⟩ := vals1 r
  obtain rfl : u = Value.ref a := ru
  obtain ⟨hz, lo, xs, rel, dof⟩ := dt_rd I.hok hd
  obtain ⟨es, ep, raw, hsz, hen⟩ := dof.raw
  have hlx : kvs.length = xs.length := Paired.length rel
  obtain ⟨hx, q⟩ := q (xs.map fun y => V.ref y.2.1) (by rw [List.length_map, hlx]) fun i kv e => by
    obtain ⟨y, h1, h2⟩ := kt_at rel e
    exact ⟨y.2.1, by rw [List.getElem?_map, h1]; rfl, h2⟩
  have rv := vals_refs xs
  generalize hts : (xs.map fun y => V.ref y.2.1) = ts at hx q rv
  generalize hits : (xs.map fun y => Value.ref y.2.1) = its at rv
  have hl : its.length = xs.length := by rw [← hits, List.length_map]
  obtain ⟨e1, e2⟩ := refs_back rv fun x m => by
    obtain ⟨t, _, e, _⟩ := hx x m
    exact ⟨t, e⟩
  have hv : ∀ v ∈ its, TupAt s.heap v (kH H (backV v)) ∧ kH H (backV v) ≠ [] := fun v hm => by
    obtain ⟨t, rfl⟩ := e2 v hm
    have hm2 : V.ref t ∈ ts := by rw [e1]; exact List.mem_map.mpr ⟨_, hm, rfl⟩
    obtain ⟨t', ns, e, ht, hne⟩ := hx _ hm2
    cases e
    have ek : kH H (backV (.ref t)) = ns := kH_of ht
    rw [ek]
    obtain ⟨_, its2, r2, o, ho, hc, n, hd⟩ := I.hok _ _ ht
    exact ⟨⟨t, o, its2.toArray, n, rfl, ho, hc, hd, by simpa using r2.ints⟩, hne⟩
  have hvs : ∀ acc : Array Value, ItemsOf (fun i v => ∃ hi : i < es.size, v = es[i].key) acc es.size → acc.toList = its := fun acc hacc => by
    apply List.ext_getElem?
    intro i
    rw [Array.getElem?_toList]
    by_cases hi : i < es.size
    · have hi2 : i < acc.size := by rw [hacc.1]; exact hi
      obtain ⟨_, e3⟩ := hacc.2 i acc[i] (Array.getElem?_eq_getElem hi2)
      obtain ⟨y, h1, h2, _⟩ := hen i hi
      rw [Array.getElem?_eq_getElem hi2, e3, h2, ← hits, List.getElem?_map, h1]; rfl
    · rw [Array.getElem?_eq_none (by rw [hacc.1]; omega), List.getElem?_eq_none (by rw [hl, ← hsz]; omega)]
  refine sorted_coll (swo_list fun v => kH H (backV v)) (PySem.KdlSrc.rawDict lo) (I.ok.hd hc) raw (by omega) hvs (by omega) (fun h2 h₁ b tk hb kk => ?_) fun g h' d out tk h1 h2 kp kp2 hd hn => ?_
  · refine tups_sortable (s := { s with heap := h₁, toks := tk }) (by omega) (fun v hm => ((hv v hm).1).keeps fun c o e _ => (kk c o e).2) (fun v hm => (hv v hm).2) fun o e => ?_
    have e' : some o = some (seqObj "list" its.toArray 0) := e.symm.trans hb
    cases e'
    intro c
    exact absurd (Value.type.inj c) (by decide)
  · have h3 : ∀ u ∈ out, ∃ a, u = Value.ref a := fun u hu => e2 u (h2.perm.mem_iff.mp hu)
    obtain ⟨n, hn⟩ := hn
    have hb : Stb (fun x y => HT.lexLt (kH H x) (kH H y)) (out.map backV) ts := by
      rw [e1]
      exact SrtO.Stb.map (swo_list (kH H)) backV h2
    have hu : out.map backV = srtG (fun x y => HT.lexLt (kH H x) (kH H y)) ts :=
      SrtO.stb_uniq (swo_list (kH H)) (SrtO.srtd_map h1) (srtG_srtd (swo_list (kH H)) ts) (hb.trans ⟨(srtG_perm ts).symm, fun u => ((srtG_stb (swo_list (kH H)) ts).cls u).symm⟩)
    have hlt : ts.length = xs.length := by rw [← hts, List.length_map]
    have I1 : Inv X pins σ H { s with heap := g, toks := tk } := I.kept kp
    refine ⟨.ref d, upd H d (.lst (out.map backV)), I1.laid (t' := tk) kp2 hd ⟨?_, out, n, vals_back h3, hn⟩, rfl, ?_⟩
    · rw [hb.len]; omega
    · rw [hu]; exact q d (I1.hok.fresh hd)
/-- min(xs), a list of tuples of ints -/
def tupD (ns : List Int) : PyData := .tuple (ns.map PyData.int)
def rMinTT : List V → Hp → VK → Prop := fun vs H Q => ∃ (a : Addr) (b : Addr × List Int) (bs : List (Addr × List Int)), vs = [V.ref a] ∧ H a = some (.lst ((b :: bs).map fun b => V.ref b.1)) ∧ (∀ c ∈ b :: bs, H c.1 = some (.tup (c.2.map V.int))) ∧
  ∀ c ∈ b :: bs, tupD c.2 = PySem.W.minD (tupD b.2) (bs.map fun b => tupD b.2) → Q (.ref c.1) H
theorem reads_ints {h : Heap} : ∀ {its : List Value} {ns : List Int}, IntsAre its ns → ReadsAll h its (ns.map PyData.int) []
  | _, _, .nil => .nil
  | _, _, .cons n t r => .cons (as := []) (bs := []) (.int n t) (reads_ints r)
theorem reads_back {h : Heap} : ∀ {its : List Value} {ns : List Int} {ds : List PyData} {as : List Addr}, IntsAre its ns → ReadsAll h its ds as → ds = ns.map PyData.int
  | _, _, _, _, .nil, .nil => rfl
  | _, _, _, _, .cons n t r, .cons h1 h2 => by
    cases h1
    rw [reads_back r h2]; rfl
theorem cr_minTT (hc : X.calm = true) (hu : X.A.units + 64 < cLine) : CallR X (.builtin "min") rMinTT := by
  intro pins s σ H vs us Q I r h
  obtain ⟨a, b, bs, rfl, hs, hx, q⟩ := h
  obtain ⟨u, rfl, ru⟩ := vals1 r
  obtain rfl : u = Value.ref a := ru
  obtain ⟨hz, its, n, rv, e⟩ := I.hok _ _ hs
  have tup : ∀ c ∈ b :: bs, ∃ o its' n, s.heap.get? c.1 = some o ∧ o.cls = .type "tuple" ∧ o.data = .seq its' n ∧ IntsAre its'.toList c.2 := fun c hc => by
    obtain ⟨_, its2, r2, o, ho, hc', n, hd⟩ := I.hok _ _ (hx c hc)
    exact ⟨o, its2.toArray, n, ho, hc', hd, by simpa using r2.ints⟩
  have ra : ∀ (l : List (Addr × List Int)) (vs : List Value), (∀ c ∈ l, ∃ o its' n, s.heap.get? c.1 = some o ∧ o.cls = .type "tuple" ∧ o.data = .seq its' n ∧ IntsAre its'.toList c.2) → Vals (l.map fun b => V.ref b.1) vs → ReadsAll s.heap vs (l.map fun b => tupD b.2) [] := by
    intro l
    induction l with
    | nil =>
      intro vs _ r
      cases r
      exact .nil
    | cons c l ih =>
      intro vs h r
      cases r with
      | cons r1 r =>
        cases r1
        obtain ⟨o, its', n, h1, h2, h3, h4⟩ := h c List.mem_cons_self
        exact .cons (as := []) (bs := []) (.tuple h1 h2 h3 (reads_ints h4)) (ih _ (fun d hd => h d (List.mem_cons_of_mem _ hd)) r)
  have rr := ra (b :: bs) its tup rv
  rw [List.map_cons] at rr
  have al : ∀ (x y : List Int), PySem.W.alike (tupD x) (tupD y) = true := by
    intro x y
    show PySem.W.alikeAll (x.map PyData.int) (y.map PyData.int) = true
    induction x generalizing y with
    | nil => cases y <;> rfl
    | cons i x ih =>
      cases y with
      | nil => rfl
      | cons j y =>
        show (PySem.W.alike (.int i) (.int j) && PySem.W.alikeAll (x.map PyData.int) (y.map PyData.int)) = true
        rw [ih]; rfl
  have dp : ∀ (x : List Int), PyData.depth (tupD x) ≤ 1 := by
    intro x
    show PyData.depthAll (x.map PyData.int) + 1 ≤ 1
    have : PyData.depthAll (x.map PyData.int) = 0 := by
      induction x with
      | nil => rfl
      | cons i x ih =>
        show max 0 (PyData.depthAll (x.map PyData.int)) = 0
        rw [ih]; rfl
    omega
  have dpa : ∀ (l : List (Addr × List Int)), PyData.depthAll (l.map fun b => tupD b.2) ≤ 1 := by
    intro l
    induction l with
    | nil => exact Nat.zero_le _
    | cons c l ih =>
      show max (PyData.depth (tupD c.2)) (PyData.depthAll (l.map fun b => tupD b.2)) ≤ 1
      have := dp c.2
      omega
  have hal : PySem.W.AlikeAll (tupD b.2 :: bs.map fun b => tupD b.2) := by
    rw [← List.map_cons (f := fun b : Addr × List Int => tupD b.2)]
    refine ⟨fun x hx y hy => ?_, fun x hx z => ?_⟩
    · obtain ⟨c, _, rfl⟩ := List.mem_map.mp hx
      obtain ⟨d, _, rfl⟩ := List.mem_map.mp hy
      exact al _ _
    · obtain ⟨c, _, rfl⟩ := List.mem_map.mp hx
      cases z
  refine PySem.W.min_list_data (vs := its.toArray) (I.ok.hd hc) ⟨_, e, rfl, n, rfl⟩ (by simpa using rr) hal (by
    rw [← List.map_cons (f := fun b : Addr × List Int => tupD b.2)]
    have := dpa (b :: bs)
    omega) fun i v h' tk as hv hr hk => ?_
  have hv : its[i]? = some v := by simpa using hv
  have hi : i < its.length := (List.getElem?_eq_some_iff.mp hv).1
  have hlb : its.length = (b :: bs).length := by rw [← rv.length, List.length_map]
  obtain ⟨c, hcg⟩ : ∃ c, (b :: bs)[i]? = some c := ⟨(b :: bs)[i]'(by omega), List.getElem?_eq_getElem _⟩
  obtain ⟨x, hx1, rx⟩ := rv.get (i := i) (x := V.ref c.1) (by rw [List.getElem?_map, hcg]; rfl)
  rw [hv] at hx1; cases hx1
  cases rx
  have hcm := List.mem_of_getElem? hcg
  obtain ⟨o, its', n', h1, h2, h3, h4⟩ := tup c hcm
  have hmin : tupD c.2 = PySem.W.minD (tupD b.2) (bs.map fun b => tupD b.2) := by
    have h1' := hk _ _ h1
    generalize PySem.W.minD (tupD b.2) (bs.map fun b => tupD b.2) = md at hr
    cases hr with
    | list g1 g2 g3 g4 =>
      rw [h1'] at g1; cases g1
      exact absurd (Value.type.inj (h2.symm.trans g2)) (by decide)
    | tuple g1 g2 g3 g4 =>
      rw [h1'] at g1; cases g1
      rw [h3] at g3; cases g3
      show PyData.tuple _ = _
      rw [reads_back h4 g4]
    | dict g1 g2 g3 g4 =>
      rw [h1'] at g1; cases g1
      exact absurd (Value.type.inj (h2.symm.trans g2)) (by decide)
  exact ⟨.ref c.1, H, I.kept hk, rfl, q c hcm hmin⟩
/-- tuples of ints compared as data -/
theorem lt_tups : ∀ (x y : List Int), PySem.W.dataLt (tupD x) (tupD y) = HT.lexLt x y := by
  have key : ∀ (x y : List Int), PyProof.Rows.lexLt itemOrd (PySem.W.keyToksAll (x.map PyData.int)) (PySem.W.keyToksAll (y.map PyData.int)) = HT.lexLt x y := by
    intro x
    induction x with
    | nil =>
      intro y
      cases y with
      | nil => rfl
      | cons j y => rfl
    | cons i x ih =>
      intro y
      cases y with
      | nil => rfl
      | cons j y =>
        rw [List.map_cons, List.map_cons, PySem.W.toks_all_cons, PySem.W.toks_all_cons]
        show PyProof.Rows.lexLt itemOrd (Sum.inl 1 :: (Sum.inl i :: PySem.W.keyToksAll (x.map PyData.int))) (Sum.inl 1 :: (Sum.inl j :: PySem.W.keyToksAll (y.map PyData.int))) = _
        rw [lex_self (O := itemOrd), HT.lexLt_cons]
        by_cases c : i = j
        · subst c
          rw [lex_self (O := itemOrd), if_pos rfl, ih]
        · rw [if_neg c, lex_diff (O := itemOrd) (fun z => c (by cases z; rfl))]
          rfl
  exact fun x y => key x y
end
end Bw

set_option maxRecDepth 100000
set_option maxHeartbeats 4000000
namespace Bw
open PySem PySem.Spec PyProof.Rows L2 SrtO Srt
/-- operands, one by one -/
inductive RdL (K : PySem.W.Frag) (S : List Addr) (H : Hp) : List V → List Dt → Prop
  | nil : RdL K S H [] []
  | cons {v : V} {vs : List V} {d : Dt} {ds : List Dt} : Rd1 K S H v d → RdL K S H vs ds → RdL K S H (v :: vs) (d :: ds)
theorem RdL.one {K : PySem.W.Frag} {S : List Addr} {H : Hp} {vs : List V} {d : Dt} (h : RdL K S H vs [d]) : ∃ v, vs = [v] ∧ Rd1 K S H v d := by
  cases h with
  | cons h t => cases t; exact ⟨_, rfl, h⟩
theorem RdL.two {K : PySem.W.Frag} {S : List Addr} {H : Hp} {vs : List V} {d e : Dt} (h : RdL K S H vs [d, e]) : ∃ v u, vs = [v, u] ∧ Rd1 K S H v d ∧ Rd1 K S H u e := by
  cases h with
  | cons h t =>
    obtain ⟨u, rfl, hu⟩ := t.one
    exact ⟨_, _, rfl, h, hu⟩
def Bi2 (X : Cx) (f : Value) (g : List Dt → Option (Dt × Bool)) : Prop :=
  ∃ r : List V → Hp → VK → Prop, CallR X f r ∧ ∀ (S : List Addr) (H : Hp) (vs : List V) (ds : List Dt) (c : Dt) (w : Bool) (Q : VK), (∀ b, b ∈ S → (H b).isSome = true ∧ ∀ xs, H b ≠ some (HO.tup xs)) → RdL X.K S H vs ds → g ds = some (c, w) →
    (∀ v H', Out X.K S H v c w H' → Q v H') → r vs H Q
def biF : Bi → Value
  | .len => .builtin "len" | .tuple => .type "tuple" | .list => .type "list" | .max2 => .builtin "max" | .min2 => .builtin "min" | .max1 => .builtin "max" | .min1 => .builtin "min"
  | .sorted => .builtin "sorted" | .str => .type "str" | .divmod => .builtin "divmod" | .all => .builtin "all" | .repr => .builtin "repr" | .abs => .builtin "abs" | .int => .type "int"
  | _ => .none
def biN : Bi → Str
  | .len => "len" | .tuple => "tuple" | .list => "list" | .max2 => "max" | .min2 => "min" | .max1 => "max" | .min1 => "min"
  | .sorted => "sorted" | .str => "str" | .divmod => "divmod" | .all => "all" | .repr => "repr" | .abs => "abs" | .int => "int"
  | _ => "?"
def hasBi : Bi → Bool
  | .len => true | .tuple => true | .list => true | .max2 => true | .min2 => true | .max1 => true | .min1 => true
  | .sorted => true | .str => true | .divmod => true | .all => true | .abs => true | .int => true
  | _ => false
theorem maxI_spec : ∀ {ns : List Int} {m : Int}, maxI ns = some m → m ∈ ns ∧ ∀ y ∈ ns, y ≤ m
  | [], _, h => by cases h
  | [x], m, h => by
    unfold maxI at h; cases h
    exact ⟨List.mem_cons_self, fun y hy => by rw [List.mem_singleton.mp hy]; exact Int.le_refl _⟩
  | x :: z :: ns, m, h => by
    unfold maxI at h
    split at h
    · rename_i y hy
      cases h
      obtain ⟨h1, h2⟩ := maxI_spec hy
      split
      · refine ⟨List.mem_cons_self, fun u hu => ?_⟩
        rcases List.mem_cons.mp hu with e | hu
        · omega
        · have := h2 u hu; omega
      · refine ⟨List.mem_cons_of_mem _ h1, fun u hu => ?_⟩
        rcases List.mem_cons.mp hu with e | hu
        · omega
        · exact h2 u hu
    · cases h
theorem minI_spec : ∀ {ns : List Int} {m : Int}, minI ns = some m → m ∈ ns ∧ ∀ y ∈ ns, m ≤ y
  | [], _, h => by cases h
  | [x], m, h => by
    unfold minI at h; cases h
    exact ⟨List.mem_cons_self, fun y hy => by rw [List.mem_singleton.mp hy]; exact Int.le_refl _⟩
  | x :: z :: ns, m, h => by
    unfold minI at h
    split at h
    · rename_i y hy
      cases h
      obtain ⟨h1, h2⟩ := minI_spec hy
      split
      · refine ⟨List.mem_cons_self, fun u hu => ?_⟩
        rcases List.mem_cons.mp hu with e | hu
        · omega
        · have := h2 u hu; omega
      · refine ⟨List.mem_cons_of_mem _ h1, fun u hu => ?_⟩
        rcases List.mem_cons.mp hu with e | hu
        · omega
        · exact h2 u hu
    · cases h
section
variable {X : Cx}
def rLenR : List V → Hp → VK → Prop := fun xs H Q => ∃ p : Addr, xs = [.ref p] ∧ ((∃ kvs : List (Key × V), Rd H p (.dK kvs) ∧ Q (.int ((kvs.length : Nat) : Int)) H) ∨ ∃ kvs : List (List Key × V), Rd H p (.dT kvs) ∧ Q (.int ((kvs.length : Nat) : Int)) H)
theorem call_lenR : CallR X (.builtin "len") rLenR := by
  intro pins s σ H xs us Q I r h
  obtain ⟨p, rfl, h⟩ := h
  obtain ⟨u, rfl, ru⟩ := vals1 r
  cases ru
  rcases h with ⟨kvs, hr, q⟩ | ⟨kvs, hr, q⟩
  · exact d_len I hr fun t s' I' => ⟨.int kvs.length, H, I', ⟨_, rfl⟩, q⟩
  · obtain ⟨hz, hd, xs, kt, hm⟩ := dt_rd I.hok hr
    have hl : kvs.length = xs.length := Paired.length kt
    refine call_len_dictH hd hm ?_ ⟨.int ((kvs.length : Nat) : Int), H, I.tok _, ⟨s.toks + 1, ?_⟩, q⟩
    · rw [← hl]
      have := line63
      omega
    · rw [hl]
theorem bi_len : Bi2 X (.builtin "len") biD_len := by
  refine ⟨_, call_len_seq.or (call_len_str.or call_lenR), fun S H vs ds c w Q lv hx h q => ?_⟩
  have live : ∀ b, b ∈ S → (H b).isSome = true := fun b hb => (lv b hb).1
  unfold biD_len at h
  split at h <;> try cases h
  rename_i x
  obtain ⟨v, rfl, hv⟩ := hx.one
  cases e : lenD x with
  | none => rw [e] at h; cases h
  | some n =>
    rw [e] at h
    cases h
    unfold lenD at e
    split at e <;> try cases e
    · rename_i xs
      rcases hv.dict with ⟨a, ns, rfl, e, w⟩ | ⟨a, rfl, w⟩
      · unfold scr at e
        cases e
        refine .inl ⟨a, _, rfl, .inl w, ?_⟩
        have := q (.int ((ns.map V.int).length : Nat)) H
        rw [List.length_map] at this ⊢
        refine this ?_
        rw [List.length_map]
        exact .int _
      · cases w
    · obtain ⟨a, xs, rfl, ha, t⟩ := hv.list
      refine .inl ⟨a, xs, rfl, .inl (.of ha), ?_⟩
      rw [t.length]; exact q _ _ (.int _)
    · obtain ⟨a, xs, rfl, ha, t⟩ := hv.tuple
      refine .inl ⟨a, xs, rfl, .inr (.of ha), ?_⟩
      rw [t.length]; exact q _ _ (.int _)
    · split at e <;> cases e
      rename_i hl
      exact .inr (.inl ⟨_, by rw [hv.str], hl, q _ _ (.int _)⟩)
    · rename_i kvs _
      rcases hv.dict with ⟨a, ns, rfl, e, w⟩ | ⟨a, rfl, w⟩
      · unfold scr at e
        cases e
        simp_all
      · cases w with
        | k hr t =>
          refine .inr (.inr ⟨a, rfl, .inl ⟨_, hr, ?_⟩⟩)
          have hl := t.length
          rw [List.length_map] at hl
          have := q _ H (Out.int (K := X.K) (S := S) _)
          rw [List.length_zip, List.length_map, ← hl, Nat.min_self] at this
          exact this
        | t hr t =>
          refine .inr (.inr ⟨a, rfl, .inr ⟨_, hr, ?_⟩⟩)
          have hl := t.length
          rw [List.length_map] at hl
          have := q _ H (Out.int (K := X.K) (S := S) _)
          rw [List.length_zip, List.length_map, ← hl, Nat.min_self] at this
          exact this
theorem bi_tuple : Bi2 X (.type "tuple") biD_tuple := by
  refine ⟨_, call_tuple_of, fun S H vs ds c w Q lv hx h q => ?_⟩
  have live : ∀ b, b ∈ S → (H b).isSome = true := fun b hb => (lv b hb).1
  unfold biD_tuple at h
  split at h <;> try cases h
  rename_i x
  obtain ⟨v, rfl, hv⟩ := hx.one
  cases e : seqD x with
  | none => rw [e] at h; cases h
  | some n =>
    rw [e] at h
    cases h
    unfold seqD at e
    split at e <;> cases e
    · obtain ⟨a, xs, rfl, ha, t⟩ := hv.list
      exact ⟨a, xs, rfl, .inl ⟨.of ha, fun l hl => q _ _ (.newT live hl t)⟩⟩
    · obtain ⟨a, xs, rfl, ha, t⟩ := hv.tuple
      refine ⟨a, xs, rfl, .inr ⟨.of ha, q _ _ (.same ?_)⟩⟩
      rcases hv with hv | ⟨_, _, _, _, hv⟩
      · exact hv
      · cases hv
theorem bi_list : Bi2 X (.type "list") biD_list := by
  refine ⟨_, call_list_of, fun S H vs ds c w Q lv hx h q => ?_⟩
  have live : ∀ b, b ∈ S → (H b).isSome = true := fun b hb => (lv b hb).1
  unfold biD_list at h
  split at h <;> try cases h
  rename_i x
  obtain ⟨v, rfl, hv⟩ := hx.one
  cases e : seqD x with
  | none => rw [e] at h; cases h
  | some n =>
    rw [e] at h
    cases h
    unfold seqD at e
    split at e <;> cases e
    · obtain ⟨a, xs, rfl, ha, t⟩ := hv.list
      exact ⟨a, xs, rfl, .inl (.of ha), fun l hl => q _ _ (.newL hl t)⟩
    · obtain ⟨a, xs, rfl, ha, t⟩ := hv.tuple
      exact ⟨a, xs, rfl, .inr (.of ha), fun l hl => q _ _ (.newL hl t)⟩
theorem bi_max2 (hc : X.calm = true) : Bi2 X (.builtin "max") biD_max2 := by
  refine ⟨_, call_max2 hc, fun S H vs ds c w Q lv hx h q => ?_⟩
  have live : ∀ b, b ∈ S → (H b).isSome = true := fun b hb => (lv b hb).1
  unfold biD_max2 at h
  split at h <;> cases h
  obtain ⟨v, u, rfl, hv, hu⟩ := hx.two
  exact ⟨_, _, by rw [hv.int, hu.int], q _ _ (.int _)⟩
theorem bi_min2 (hc : X.calm = true) : Bi2 X (.builtin "min") biD_min2 := by
  refine ⟨_, call_min2 hc, fun S H vs ds c w Q lv hx h q => ?_⟩
  have live : ∀ b, b ∈ S → (H b).isSome = true := fun b hb => (lv b hb).1
  unfold biD_min2 at h
  split at h <;> cases h
  obtain ⟨v, u, rfl, hv, hu⟩ := hx.two
  exact ⟨_, _, by rw [hv.int, hu.int], q _ _ (.int _)⟩
theorem bi_max1 (hc : X.calm = true) : Bi2 X (.builtin "max") biD_max1 := by
  refine ⟨_, cr_max hc, fun S H vs ds c w Q lv hx h q => ?_⟩
  have live : ∀ b, b ∈ S → (H b).isSome = true := fun b hb => (lv b hb).1
  unfold biD_max1 at h
  split at h <;> try cases h
  rename_i xs
  obtain ⟨v, rfl, hv⟩ := hx.one
  obtain ⟨a, ys, rfl, ha, t⟩ := hv.list
  split at h <;> try cases h
  rename_i ns e
  obtain ⟨rfl, _⟩ := t.intsOf e
  cases e2 : maxI ns with
  | none => rw [e2] at h; cases h
  | some m =>
    rw [e2] at h
    cases h
    obtain ⟨h1, h2⟩ := maxI_spec e2
    refine ⟨a, ns, rfl, .of ha, List.length_pos_of_mem h1, fun k hk hall => ?_⟩
    have : k = m := by
      have a1 := h2 k hk
      have a2 := hall m h1
      omega
    rw [this]
    exact q _ _ (.int _)
theorem bi_str : Bi2 X (.type "str") biD_str := by
  refine ⟨_, call_str_int, fun S H vs ds c w Q lv hx h q => ?_⟩
  have live : ∀ b, b ∈ S → (H b).isSome = true := fun b hb => (lv b hb).1
  unfold biD_str at h
  split at h <;> try cases h
  split at h <;> cases h
  rename_i hl
  obtain ⟨v, rfl, hv⟩ := hx.one
  exact ⟨_, by rw [hv.int], hl, q _ _ (.str _)⟩
theorem bi_divmod : Bi2 X (.builtin "divmod") biD_divmod := by
  refine ⟨_, call_divmod, fun S H vs ds c w Q lv hx h q => ?_⟩
  have live : ∀ b, b ∈ S → (H b).isSome = true := fun b hb => (lv b hb).1
  unfold biD_divmod at h
  split at h <;> try cases h
  split at h <;> cases h
  rename_i hl
  obtain ⟨v, u, rfl, hv, hu⟩ := hx.two
  exact ⟨_, _, by rw [hv.int, hu.int], hl, fun p hp => q _ _ (.newT live hp (.cons (.int _) (.cons (.int _) .nil)))⟩
theorem bi_all (hc : X.calm = true) : Bi2 X (.builtin "all") biD_all := by
  refine ⟨_, cr_all hc, fun S H vs ds c w Q lv hx h q => ?_⟩
  have live : ∀ b, b ∈ S → (H b).isSome = true := fun b hb => (lv b hb).1
  unfold biD_all at h
  split at h <;> try cases h
  rename_i xs
  obtain ⟨v, rfl, hv⟩ := hx.one
  obtain ⟨a, ys, rfl, ha, t⟩ := hv.list
  cases e : blsD xs with
  | none => rw [e] at h; cases h
  | some bs =>
    rw [e] at h
    cases h
    obtain ⟨rfl, _⟩ := t.blsOf e
    exact ⟨a, bs, rfl, .of ha, q _ _ (.bl _)⟩
theorem bi_abs : Bi2 X (.builtin "abs") biD_abs := by
  refine ⟨_, call_abs, fun S H vs ds c w Q lv hx h q => ?_⟩
  have live : ∀ b, b ∈ S → (H b).isSome = true := fun b hb => (lv b hb).1
  unfold biD_abs at h
  split at h <;> cases h
  obtain ⟨v, rfl, hv⟩ := hx.one
  exact ⟨_, by rw [hv.int], q _ _ (.int _)⟩
theorem bi_int : Bi2 X (.type "int") biD_int := by
  refine ⟨_, call_int1, fun S H vs ds c w Q lv hx h q => ?_⟩
  have live : ∀ b, b ∈ S → (H b).isSome = true := fun b hb => (lv b hb).1
  unfold biD_int at h
  split at h <;> cases h
  · obtain ⟨v, rfl, hv⟩ := hx.one
    exact .inl ⟨_, by rw [hv.int], q _ _ (.int _)⟩
  · obtain ⟨v, rfl, hv⟩ := hx.one
    exact .inr ⟨_, by rw [hv.bool], q _ _ (.int _)⟩
/-! ### sorted -/
theorem isTI_of {d : Dt} (h : isTI d = true) : ∃ x ns, d = .tuple x ∧ intsD x = some ns ∧ ns ≠ [] ∧ keyI d = ns := by
  unfold isTI at h
  split at h
  · split at h
    · rename_i x i ns e
      exact ⟨_, _, rfl, e, by simp, by show (intsD _).getD [] = _; rw [e]; rfl⟩
    · cases h
  · cases h
theorem RpL.mem {K : PySem.W.Frag} {H : Hp} : ∀ {vs : List V} {ds : List Dt}, RpL K H vs ds → ∀ p ∈ vs.zip ds, Rp K H p.1 p.2
  | _, _, .nil, p, h => by cases h
  | _, _, .cons a t, p, h => by
    rw [List.zip_cons_cons] at h
    rcases List.mem_cons.mp h with e | h
    · rw [e]; exact a
    · exact t.mem p h
theorem RpL.ofZip {K : PySem.W.Frag} {H : Hp} : ∀ {zs : List (V × Dt)}, (∀ p ∈ zs, Rp K H p.1 p.2) → RpL K H (zs.map (·.1)) (zs.map (·.2))
  | [], _ => .nil
  | p :: zs, h => .cons (h p List.mem_cons_self) (RpL.ofZip fun q hq => h q (List.mem_cons_of_mem _ hq))
/-- the two sorts agree -/
theorem RpL.srt {K : PySem.W.Frag} {S : List Addr} {H : Hp} {xs : List V} {ds : List Dt} (t : RpL K (hid S H) xs ds) (hs : sortT ds = true) :
    (∀ x ∈ xs, ∃ t ns, x = V.ref t ∧ H t = some (.tup (ns.map V.int)) ∧ ns ≠ []) ∧ RpL K (hid S H) (srtG (fun x y => HT.lexLt (kH H x) (kH H y)) xs) (srtD ds) := by
  have hall : ∀ d ∈ ds, isTI d = true := List.all_eq_true.mp hs
  have one : ∀ p ∈ xs.zip ds, ∃ a ns, p.1 = V.ref a ∧ H a = some (.tup (ns.map V.int)) ∧ ns ≠ [] ∧ keyI p.2 = ns ∧ kH H p.1 = ns := fun p hp => by
    have r := t.mem p hp
    obtain ⟨x, ns, e, hi, hne, hk⟩ := isTI_of (hall p.2 (List.of_mem_zip hp).2)
    rw [e] at r
    generalize hv : p.1 = v at r
    cases r with
    | tup ha tt =>
      obtain ⟨rfl, _⟩ := tt.intsOf hi
      have ha' := hid_le S H _ _ ha
      exact ⟨_, ns, rfl, ha', hne, hk, kH_of ha'⟩
  have hl := t.length
  have e1 : (xs.zip ds).map (·.1) = xs := List.map_fst_zip (by omega)
  have e2 : (xs.zip ds).map (·.2) = ds := List.map_snd_zip (by omega)
  refine ⟨fun x hx => ?_, ?_⟩
  · rw [← e1] at hx
    obtain ⟨p, hp, rfl⟩ := List.mem_map.mp hx
    obtain ⟨a, ns, h1, h2, h3, _⟩ := one p hp
    exact ⟨a, ns, h1, h2, h3⟩
  · have s1 : srtG (fun x y => HT.lexLt (kH H x) (kH H y)) xs = (srtG (fun p q : V × Dt => HT.lexLt (keyI p.2) (keyI q.2)) (xs.zip ds)).map (·.1) := by
      rw [← srtG_map (f := fun p : V × Dt => p.1) (lt := fun x y => HT.lexLt (kH H x) (kH H y)) (fun y hy x hx => ?_), e1]
      obtain ⟨_, _, _, _, _, k1, k2⟩ := one y hy
      obtain ⟨_, _, _, _, _, k3, k4⟩ := one x hx
      show HT.lexLt (kH H y.1) (kH H x.1) = HT.lexLt (keyI y.2) (keyI x.2)
      rw [k1, k2, k3, k4]
    have s2 : srtD ds = (srtG (fun p q : V × Dt => HT.lexLt (keyI p.2) (keyI q.2)) (xs.zip ds)).map (·.2) := by
      unfold srtD
      rw [← srtG_map (f := fun p : V × Dt => p.2) (lt := fun x y => lexI (keyI x) (keyI y)) (fun y hy x hx => rfl), e2]
    rw [s1, s2]
    exact RpL.ofZip fun p hp => t.mem p ((srtG_perm _).mem_iff.mp hp)
theorem sorted_uniq : ∀ {a b : List Int}, a.Perm b → a.Pairwise (· ≤ ·) → b.Pairwise (· ≤ ·) → a = b := fun {a b} p h1 h2 => by
  exact p.eq_of_pairwise (fun x y _ _ h h' => Int.le_antisymm h h') h1 h2
theorem srtD_ints (ns : List Int) : srtD (ns.map PyData.int) = (srtG (fun x y : Int => decide (x < y)) ns).map PyData.int := by
  unfold srtD
  refine srtG_map (f := PyData.int) fun y _ x _ => ?_
  show HT.lexLt [y] [x] = _
  rw [HT.lexLt_cons]
  split
  · rename_i e; rw [e, HT.lexLt_nil_nil]; exact (decide_eq_false (Int.lt_irrefl _)).symm
  · rfl
theorem swo_I : Swo fun x y : Int => decide (x < y) := ⟨fun x y h => by simp at *; omega, fun x y z h1 h2 => by simp at *; omega⟩
theorem intsD_of : ∀ ns : List Int, intsD (ns.map PyData.int) = some ns
  | [] => rfl
  | n :: ns => by
    show (intsD (ns.map PyData.int)).map (n :: ·) = _
    rw [intsD_of ns]; rfl
theorem key_tup (ns : List Int) : keyI (tupD ns) = ns := by
  show (intsD (ns.map PyData.int)).getD [] = ns
  rw [intsD_of]; rfl
theorem min_tups : ∀ (bs : List (Addr × List Int)) (m : List Int), minT (tupD m) (bs.map fun b => tupD b.2) = PySem.W.minD (tupD m) (bs.map fun b => tupD b.2)
  | [], _ => rfl
  | c :: bs, m => by
    show (bs.map fun b => tupD b.2).foldl _ (if lexI (keyI (tupD c.2)) (keyI (tupD m)) = true then tupD c.2 else tupD m) = (bs.map fun b => tupD b.2).foldl _ (if PySem.W.dataLt (tupD c.2) (tupD m) = true then tupD c.2 else tupD m)
    rw [key_tup, key_tup, lt_tups]
    by_cases h : lexI c.2 m = true
    · rw [if_pos h]; exact min_tups bs c.2
    · rw [if_neg h]; exact min_tups bs m
theorem RpL.tups {K : PySem.W.Frag} {G : Hp} : ∀ {ys : List V} {ds : List Dt}, RpL K G ys ds → (∀ d ∈ ds, isTI d = true) → ∃ bs : List (Addr × List Int), ys = bs.map (fun b => V.ref b.1) ∧ ds = bs.map (fun b => tupD b.2) ∧ ∀ c ∈ bs, G c.1 = some (.tup (c.2.map V.int))
  | _, _, .nil, _ => ⟨[], rfl, rfl, fun c h => nomatch h⟩
  | _, _, .cons (d := d) r t, h => by
    obtain ⟨bs, e1, e2, e3⟩ := RpL.tups t fun d hd => h d (List.mem_cons_of_mem _ hd)
    obtain ⟨x, ns, rfl, hi, _, _⟩ := isTI_of (h d List.mem_cons_self)
    cases r with
    | @tup a vs _ hq tq =>
      obtain ⟨rfl, rfl⟩ := tq.intsOf hi
      refine ⟨(a, ns) :: bs, by rw [e1]; rfl, by rw [e2]; rfl, fun c hc => ?_⟩
      rcases List.mem_cons.mp hc with rfl | hc
      · exact hq
      · exact e3 c hc
theorem bi_min1 (hc : X.calm = true) (hu : X.A.units + 64 < cLine) : Bi2 X (.builtin "min") biD_min1 := by
  refine ⟨_, (CallR.or (cr_min hc) (cr_minT hc)).or (cr_minTT hc hu), fun S H vs ds c w Q lv hx h q => ?_⟩
  have live : ∀ b, b ∈ S → (H b).isSome = true := fun b hb => (lv b hb).1
  unfold biD_min1 at h
  split at h <;> try cases h
  · rename_i xs
    obtain ⟨v, rfl, hv⟩ := hx.one
    obtain ⟨a, ys, rfl, ha, t⟩ := hv.tuple
    split at h <;> try cases h
    rename_i ns e
    obtain ⟨rfl, _⟩ := t.intsOf e
    cases e2 : minI ns with
    | none => rw [e2] at h; cases h
    | some m =>
      rw [e2] at h
      cases h
      obtain ⟨h1, h2⟩ := minI_spec e2
      refine .inl (.inr ⟨a, ns, rfl, .of ha, List.length_pos_of_mem h1, fun k hk hall => ?_⟩)
      have : k = m := by
        have a1 := h2 k hk
        have a2 := hall m h1
        omega
      rw [this]
      exact q _ _ (.int _)
  rename_i xs
  obtain ⟨v, rfl, hv⟩ := hx.one
  obtain ⟨a, ys, rfl, ha, t⟩ := hv.list
  split at h
  · rename_i ns e
    obtain ⟨rfl, _⟩ := t.intsOf e
    cases e2 : minI ns with
    | none => rw [e2] at h; cases h
    | some m =>
      rw [e2] at h
      cases h
      obtain ⟨h1, h2⟩ := minI_spec e2
      refine .inl (.inl ⟨a, ns, rfl, .of ha, List.length_pos_of_mem h1, fun k hk hall => ?_⟩)
      have : k = m := by
        have a1 := h2 k hk
        have a2 := hall m h1
        omega
      rw [this]
      exact q _ _ (.int _)
  · split at h
    · rename_i x xs _
      split at h <;> cases h
      rename_i hs
      obtain ⟨bs, e1, e2, e3⟩ := t.tups (List.all_eq_true.mp hs)
      cases bs with
      | nil => cases e2
      | cons b bs =>
        rw [List.map_cons] at e2
        injection e2 with e4 e5
        subst e4 e5
        subst e1
        refine .inr ⟨a, b, bs, rfl, ha, fun c hc => hid_le S H _ _ (e3 c hc), fun c hc e => ?_⟩
        rw [← min_tups] at e
        refine q _ _ ?_
        rw [← e]
        exact .same (.tup (e3 c hc) (RpL.ofInts c.2))
    · cases h
theorem bi_sorted (hc : X.calm = true) : Bi2 X (.builtin "sorted") biD_sorted := by
  refine ⟨_, ((cr_srtT.or cr_sortedI).or (cr_srtD hc)).or cr_srt1, fun S H vs ds c w Q lv hx h q => ?_⟩
  have live : ∀ b, b ∈ S → (H b).isSome = true := fun b hb => (lv b hb).1
  unfold biD_sorted at h
  split at h <;> try cases h
  · split at h <;> cases h
    rename_i xs hs
    obtain ⟨v, rfl, hv⟩ := hx.one
    obtain ⟨a, ys, rfl, ha, t⟩ := hv.list
    by_cases hT : sortT xs = true
    · obtain ⟨h1, h2⟩ := t.srt hT
      exact .inl (.inl (.inl ⟨a, ys, rfl, .inl ha, h1, fun p hp => q _ _ (.newL hp h2)⟩))
    · rw [Bool.not_eq_true] at hT
      rw [hT, Bool.false_or] at hs
      by_cases hI : (intsD xs).isSome = true
      · obtain ⟨ns, e⟩ := Option.isSome_iff_exists.mp hI
        obtain ⟨rfl, rfl⟩ := t.intsOf e
        refine .inl (.inl (.inr ⟨a, ns, rfl, .of ha, fun ns' p hp hs hn => ?_⟩))
        have : ns' = srtG (fun x y : Int => decide (x < y)) ns := sorted_uniq (hp.trans (srtG_perm ns).symm) hs ((srtG_srtd swo_I ns).imp fun {a b} z => by simpa using z)
        rw [srtD_ints, ← this] at q
        exact q _ _ (.newL hn (RpL.ofInts ns'))
      · rw [Bool.not_eq_true] at hI
        rw [hI, Bool.false_or] at hs
        unfold one1 at hs
        split at hs
        · rename_i d
          have ht := t
          cases ht with
          | @cons y _ _ _ r t2 =>
            cases t2
            exact .inr ⟨a, y, rfl, ha, fun p hp => q _ _ (.newL hp t)⟩
        · cases hs
  · split at h <;> cases h
    rename_i xs hs
    obtain ⟨v, rfl, hv⟩ := hx.one
    obtain ⟨a, ys, rfl, ha, t⟩ := hv.tuple
    obtain ⟨h1, h2⟩ := t.srt hs
    exact .inl (.inl (.inl ⟨a, ys, rfl, .inr ha, h1, fun p hp => q _ _ (.newL hp h2)⟩))
  · split at h <;> cases h
    rename_i kvs hs
    obtain ⟨v, rfl, hv⟩ := hx.one
    rcases hv.dict with ⟨_, ns', _, z, _⟩ | ⟨b, rfl, w⟩
    · unfold scr at z
      injection z with z
      injection z with z _
      injection z with z _
      cases z
    · generalize hm : ((PyData.bool true, PyData.none) :: kvs) = mk at w
      cases w with
      | k h t =>
        injection hm with hm _
        injection hm with hm _
        injection hm with hm
        cases hm
      | @t kvs' ds h t =>
        injection hm with _ hm
        have hlen : kvs'.length = ds.length := by
          rw [← t.length, List.length_map]
        have hks : kvs.map (·.1) = kvs'.map fun p => PyData.tuple (p.1.map keyD) := by
          rw [hm, List.map_fst_zip]
          rw [List.length_map, hlen]; exact Nat.le_refl _
        rw [hks] at hs q
        refine .inl (.inr ⟨b, kvs', rfl, h, fun ts hl hts => ?_⟩)
        have rl : RpL X.K (hid S H) ts (kvs'.map fun p => PyData.tuple (p.1.map keyD)) := by
          clear hm hks h t hlen hs q
          induction kvs' generalizing ts with
          | nil =>
            cases ts with
            | nil => exact .nil
            | cons => cases hl
          | cons p l ih =>
            cases ts with
            | nil => cases hl
            | cons x ts =>
              obtain ⟨b, e1, e2⟩ := hts 0 p rfl
              simp at e1
              subst e1
              refine .cons (.tup (by rw [hid_of fun z => (lv b z).2 _ e2]; exact e2) ?_) (ih ts (by simpa using hl) fun i kv e => ?_)
              · generalize p.1 = ks
                induction ks with
                | nil => exact .nil
                | cons k ks ih => exact .cons (by cases k with
                    | inl i => exact .int i
                    | inr z => exact .str z) ih
              · obtain ⟨b, e1, e2⟩ := hts (i + 1) kv (by simpa using e)
                exact ⟨b, by simpa using e1, e2⟩
        obtain ⟨h1, h2⟩ := rl.srt hs
        exact ⟨h1, fun p hp => q _ _ (.newL hp h2)⟩
/-- those built-ins that have a rule here -/
theorem bi_all_of (hc : X.calm = true) (hu : X.A.units + 64 < cLine) (b : Bi) (h : hasBi b = true) : Bi2 X (biF b) (biD b) := by
  cases b with
  | len => exact bi_len
  | tuple => exact bi_tuple
  | list => exact bi_list
  | max2 => exact bi_max2 hc
  | min2 => exact bi_min2 hc
  | max1 => exact bi_max1 hc
  | min1 => exact bi_min1 hc hu
  | sorted => exact bi_sorted hc
  | str => exact bi_str
  | divmod => exact bi_divmod
  | all => exact bi_all hc
  | abs => exact bi_abs
  | int => exact bi_int
  | _ => cases h
end
end Bw

set_option maxRecDepth 100000
set_option maxHeartbeats 4000000
namespace Bw
open PySem PySem.Spec PyProof.Rows L2
/-! ### names of a frame, and what is asked of the text -/
structure Cn where
  N : List Str
  sc : Scope
  so : Scope
  io : Str → Option Bool
  gc : Str → Option Const
def isLC : Option NameKind → Bool
  | some .local => true
  | some .cell => true
  | _ => false
def visB (sc : Scope) (x : Str) : Bool := match sc.names.lookup x with
  | some .local => true
  | some .cell => true
  | some .free => true
  | _ => false
def gloB (sc : Scope) (x : Str) : Bool := decide (sc.names.lookup x = some .globalImplicit)
theorem visB_ok {sc : Scope} {x : Str} (h : visB sc x = true) : Vis sc x := by
  unfold visB at h
  unfold Vis
  split at h <;> simp_all
/-- a readable name in slot i -/
def nmB (cn : Cn) (i : Nat) (x : Str) : Bool := decide (cn.N[i]? = some x) && visB cn.sc x && !(x == ("__debug__" : Str)) && !(x == ("__classdict__" : Str))
/-- a global name -/
def glB (cn : Cn) (x : Str) : Bool := gloB cn.sc x && !(x == ("__debug__" : Str)) && !(x == ("__name__" : Str))
def cstM : Dt → Const → Bool
  | .none, .none => true
  | .bool a, .bool b => a == b
  | .int a, .int b => decide (a = b)
  | .str a, .str b => decide (a = b)
  | _, _ => false
def isSlice : Expr → Bool
  | .Slice .. => true
  | _ => false
def isStar : Expr → Bool
  | .Starred .. => true
  | _ => false
/-- an expression whose truth is asked of its value -/
def isPlainT : Expr → Bool
  | .UnaryOp .Not _ _ => false
  | .BoolOp .. => false
  | .IfExp .. => false
  | .Compare .. => false
  | _ => true
def muN : Mu → Str
  | .append => "append" | .extend => "extend" | .pop => "pop" | .popAt => "pop" | .popD => "pop" | .clear => "clear"
mutual
def mT (cn : Cn) : Tg → Expr → Bool
  | .nm i, .Name x _ => decide (cn.N[i]? = some x) && isLC (cn.so.names.lookup x)
  | .tp ts, .Tuple es _ _ => mTs cn ts es
  | _, _ => false
def mTs (cn : Cn) : Tgs → List Expr → Bool
  | .nil, [] => true
  | .cons t ts, e :: es => mT cn t e && mTs cn ts es
  | _, _ => false
end
def isBin : BOp → Operator → Bool := fun o p => decide (bopP o = p)
def ownP (N : List Str) (own : List Nat) : List (Str × Nat) := own.map fun i => ((N[i]?).getD Str.empty, i)
def cnIn (cn : Cn) (scope : Scope) : Cn := ⟨cn.N, relS scope cn.sc, scope, cn.io, cn.gc⟩
/-- no call that may be super() -/
def noSup : Expr → Bool
  | .Call (.Name _ _) [] [] _ => false
  | _ => true
mutual
def mE : Cn → E → Expr → Bool
  | _, .cst c, .Constant k _ _ => cstM c k
  | cn, .var i, .Name x _ => nmB cn i x
  | cn, .gl x c, .Name y _ => decide (x = y) && glB cn x && (match cn.gc x with | some k => cstM c k | none => false)
  | cn, .bin o a b, .BinOp l p r _ => isBin o p && mE cn a l && mE cn b r
  | cn, .cmp o a b, .Compare l [p] [r] _ => decide (copP o = p) && mE cn a l && mE cn b r && !(behindInMarks p r)
  | cn, .chain o o' a b c, .Compare l [p, p'] [r, r'] _ => decide (copP o = p) && decide (copP o' = p') && mE cn a l && mE cn b r && mE cn c r' && !(lastMarks [p, p'] [r, r'])
  | cn, .isN a, .Compare l [.Is] [.Constant .none _ _] _ => mE cn a l
  | cn, .notN a, .Compare l [.IsNot] [.Constant .none _ _] _ => mE cn a l
  | cn, .neg a, .UnaryOp .USub e _ => mE cn a e
  | cn, .nt a, .UnaryOp .Not e _ => mE cn a e
  | cn, .an es, .BoolOp .And l _ => mEs cn es l && !l.isEmpty
  | cn, .orr es, .BoolOp .Or l _ => mEs cn es l && !l.isEmpty
  | cn, .ife c a b, .IfExp t x y _ => mE cn c t && mE cn a x && mE cn b y
  | cn, .ix a i, .Subscript e s _ => mE cn a e && mE cn i s && !(isSlice s)
  | cn, .sl a lo hi, .Subscript e (.Slice l u none _) _ => mE cn a e && mEo cn lo l && mEo cn hi u
  | cn, .tup es, .Tuple l _ _ => mEs cn es l
  | cn, .lst es, .List l _ => mEs cn es l
  | _, .dct _ .nil .nil, .Dict [] [] _ => true
  | cn, .bi b es, .Call (.Name x _) l [] _ => decide (x = biN b) && hasBi b && glB cn x && mEs cn es l && !l.isEmpty
  | cn, .isi a t, .Call (.Name x _) [e, .Name y _] [] _ => decide (x = ("isinstance" : Str)) && decide (y = Str.ofString t) && tysL.contains t && glB cn x && glB cn y && mE cn a e
  | cn, .lset a, .Call (.Name x _) [.Call (.Name y _) [e] [] _] [] _ => decide (x = ("len" : Str)) && decide (y = ("set" : Str)) && glB cn x && glB cn y && mE cn a e
  | cn, .mxv a, .Call (.Name x _) [.Call (.Attribute e n apos) [] [] mpos] [] _ => decide (x = ("max" : Str)) && decide (n = ("values" : Str)) && glB cn x && (apos.endLine == mpos.line) && noSup e && mE cn a e
  | cn, .lrng a, .Call (.Name x _) [.Call (.Name y _) [e] [] _] [] _ => decide (x = ("list" : Str)) && decide (y = ("range" : Str)) && glB cn x && glB cn y && mE cn a e
  | cn, .cnt i b, .Call (.Attribute (.Name y _) n apos) [e] [] mpos => decide (n = ("count" : Str)) && nmB cn i y && (apos.endLine == mpos.line) && mE cn b e
  | cn, .dzip a b, .Call (.Name x _) [.Call (.Name y _) [e, e2] [] _] [] _ => decide (x = ("dict" : Str)) && decide (y = ("zip" : Str)) && glB cn x && glB cn y && mE cn a e && mE cn b e2
  | cn, .call f es, .Call (.Name x _) l [] _ => decide (x = f) && glB cn x && mEs cn es l && !l.isEmpty && (cn.io f == some false)
  | cn, .callM f i es, .Call (.Name x _) (.Name y _ :: l) [] _ => decide (x = f) && glB cn x && nmB cn i y && mEs cn es l && (cn.io f == some true)
  | cn, .callT f a es, .Call (.Name x _) (e :: l) [] _ => decide (x = f) && glB cn x && mE cn a e && mEs cn es l && (cn.io f == some true)
  | cn, .mu m i es, .Call (.Attribute (.Name y _) n apos) l [] pos => decide (n = muN m) && nmB cn i y && mEs cn es l && (apos.endLine == pos.line) && decide (l.length < 29)
  | cn, .lc el tg it own, .ListComp elt [⟨t, iter, [], as⟩] scope _ => decide (as = 0) && blkC cn.N cn.sc scope (ownP cn.N own) && mE (cnIn cn scope) el elt && mT (cnIn cn scope) tg t && mI cn it iter && tgOk it tg && (tgN tg).all own.contains
  | cn, .lcf el tg it c own, .ListComp elt [⟨t, iter, [d], as⟩] scope _ => decide (as = 0) && blkC cn.N cn.sc scope (ownP cn.N own) && mE (cnIn cn scope) el elt && mE (cnIn cn scope) c d && mT (cnIn cn scope) tg t && mI cn it iter && tgOk it tg && (tgN tg).all own.contains
  | _, _, _ => false
def mEo : Cn → Eo → Option Expr → Bool
  | _, .non, none => true
  | cn, .som e, some x => mE cn e x
  | _, _, _ => false
def mEs : Cn → Es → List Expr → Bool
  | _, .nil, [] => true
  | cn, .cons e es, x :: xs => mE cn e x && mEs cn es xs
  | _, _, _ => false
def mI : Cn → It → Expr → Bool
  | cn, .val e, x => mE cn e x
  | cn, .bor i, .Name x _ => nmB cn i x
  | cn, .rng1 a, .Call (.Name x _) [e] [] _ => decide (x = ("range" : Str)) && glB cn x && mE cn a e
  | cn, .rng2 a b, .Call (.Name x _) [e, f] [] _ => decide (x = ("range" : Str)) && glB cn x && mE cn a e && mE cn b f
  | cn, .rng3 a b c, .Call (.Name x _) [e, f, g] [] _ => decide (x = ("range" : Str)) && glB cn x && mE cn a e && mE cn b f && mE cn c g
  | cn, .enum e, .Call (.Name x _) [l] [] _ => decide (x = ("enumerate" : Str)) && glB cn x && mE cn e l
  | cn, .zip a b, .Call (.Name x _) [e, f] [] _ => decide (x = ("zip" : Str)) && glB cn x && mE cn a e && mE cn b f
  | _, _, _ => false
end
end Bw

set_option maxRecDepth 100000
set_option maxHeartbeats 4000000
namespace Bw
open PySem PySem.Spec PyProof.Rows L2
theorem PE.imp {X : Cx} {e : Expr} {t t' : TE} (h : PE X e t) (f : ∀ σ H Q, t' σ H Q → t σ H Q) : PE X e t' := ⟨fun pins s σ H Q I q => h.run pins s σ H Q I (f σ H Q q)⟩
theorem PT.imp {X : Cx} {e : Expr} {t t' : TT} (h : PT X e t) (f : ∀ σ H Q, t' σ H Q → t σ H Q) : PT X e t' := ⟨fun pins s σ H Q I q => h.run pins s σ H Q I (f σ H Q q)⟩
theorem PW.imp {X : Cx} {e : Expr} {t t' : TT} (h : PW X e t) (f : ∀ σ H Q, t' σ H Q → t σ H Q) : PW X e t' := ⟨fun w pins s σ H Q I q => h.run w pins s σ H Q I (f σ H Q q)⟩
theorem PA.imp {X : Cx} {e : List Expr} {t t' : TA} (h : PA X e t) (f : ∀ σ H Q, t' σ H Q → t σ H Q) : PA X e t' := ⟨fun p pins s σ H Q I q => h.run p pins s σ H Q I (f σ H Q q)⟩
theorem PO.imp {X : Cx} {e : Option Expr} {t t' : TO} (h : PO X e t) (f : ∀ σ H Q, t' σ H Q → t σ H Q) : PO X e t' := ⟨fun pins s σ H Q I q => h.run pins s σ H Q I (f σ H Q q)⟩
theorem PI.imp {X : Cx} {tg e : Expr} {t t' : TI} (h : PI X tg e t) (f : ∀ σ H Q, t' σ H Q → t σ H Q) : PI X tg e t' := ⟨fun pins s σ H Q I q => h.run pins s σ H Q I (f σ H Q q)⟩
theorem PS.imp {X : Cx} {e : Stmt} {t t' : TS} (h : PS X e t) (f : ∀ D σ H, t' D σ H → t D σ H) : PS X e t' := ⟨fun pins s σ H D I q => h.run pins s σ H D I (f D σ H q)⟩
theorem PSs.imp {X : Cx} {e : List Stmt} {t t' : TS} (h : PSs X e t) (f : ∀ D σ H, t' D σ H → t D σ H) : PSs X e t' := ⟨fun pins s σ H D I q => h.run pins s σ H D I (f D σ H q)⟩
theorem PI.or {X : Cx} {tg e : Expr} {t t' : TI} (h : PI X tg e t) (h' : PI X tg e t') : PI X tg e (fun σ H R => t σ H R ∨ t' σ H R) :=
  ⟨fun pins s σ H Q I q => q.elim (h.run pins s σ H Q I) (h'.run pins s σ H Q I)⟩

/-- an exception, by its class's name and its field -/
def ExM (K : PySem.W.Frag) (mg : Str → Option Value) (S : List Addr) (H : Hp) (c : Str) (x : Option Dt) (cls : Value) (dd : Option Addr) : Prop :=
  ∃ C, mg c = some (.ref C) ∧ cls = .ref C ∧ match x with
    | none => dd = none
    | some d => ∃ da f v, dd = some da ∧ H da = some (.xd [(f, v)]) ∧ Rp K (hid S H) v d
abbrev ExV (X : Cx) := ExM X.K X.mg
/-- how an answer stands for a value: from the heap at the start, behind the run -/
abbrev Ans (α β : Type) := Hp → α → De → List Addr → Hp → β → Prop
/-- what is to be shown of a run's result -/
def Res {α β : Type} (X : Cx) (W : WX) (P : Ans α β) (δ : De) (S : List Addr) (σ : L2.St) (H : Hp) (r : R α) (Q : β → Hp → Prop) : Prop :=
  match r with
  | .ok a δ' => ∀ v H' S', Mv X.K δ S σ H δ' S' σ H' → P H a δ' S' H' v → Q v H'
  | .ex c x δ' => ∀ H' S' cls dd, Mv X.K δ S σ H δ' S' σ H' → ExV X S' H' c x cls dd → W cls dd σ H'
  | .bad => False
/-- an answer told from a later start holds from an earlier one -/
def Later (X : Cx) (σ : L2.St) {α β : Type} (P : Ans α β) : Prop := ∀ δ S H δ1 S1 H1 a δ2 S2 H2 v, Mv X.K δ S σ H δ1 S1 σ H1 → Mv X.K δ1 S1 σ H1 δ2 S2 σ H2 → P H1 a δ2 S2 H2 v → P H a δ2 S2 H2 v
def AV (X : Cx) (σ : L2.St) : Ans (Dt × Bool) V := fun H a δ' S' H' v => Vl X.K H S' δ' σ H' v a.1 a.2
def AOd (X : Cx) (σ : L2.St) : Ans Od V := fun _ a _ S' H' v => match a with
  | .d x => Rp X.K (hid S' H') v x
  | .v i => σ[i]? = some (some v)
def AB : Ans Bool Bool := fun _ a _ _ _ v => v = a
inductive OdL (K : PySem.W.Frag) (S : List Addr) (σ : L2.St) (H : Hp) : List Od → List V → Prop
  | nil : OdL K S σ H [] []
  | d {x : Dt} {v : V} {os : List Od} {vs : List V} : Rp K (hid S H) v x → OdL K S σ H os vs → OdL K S σ H (.d x :: os) (v :: vs)
  | v {i : Nat} {v : V} {os : List Od} {vs : List V} : σ[i]? = some (some v) → OdL K S σ H os vs → OdL K S σ H (.v i :: os) (v :: vs)
def AOds (X : Cx) (σ : L2.St) : Ans (List Od) (List V) := fun _ a _ S' H' vs => OdL X.K S' σ H' a vs
def ALs (X : Cx) : Ans (List Dt) (List V) := fun _ a _ S' H' vs => RpL X.K (hid S' H') vs a
def AOI : Ans (Option Int) (Option Int) := fun _ a _ _ _ v => v = a
section
variable {X : Cx} {W : WX} {α β γ ε : Type} {δ δ' : De} {S S' : List Addr} {σ : L2.St} {H H' : Hp}
theorem later_AV : Later X σ (AV X σ) := fun _ _ _ _ _ _ _ _ _ _ _ m m2 q => Vl.later m m2 q
theorem later_AOd : Later X σ (AOd X σ) := fun _ _ _ _ _ _ _ _ _ _ _ _ _ q => q
theorem later_AB : Later X σ AB := fun _ _ _ _ _ _ _ _ _ _ _ _ _ q => q
theorem later_AOds : Later X σ (AOds X σ) := fun _ _ _ _ _ _ _ _ _ _ _ _ _ q => q
theorem later_ALs : Later X σ (ALs X) := fun _ _ _ _ _ _ _ _ _ _ _ _ _ q => q
theorem later_AOI : Later X σ AOI := fun _ _ _ _ _ _ _ _ _ _ _ _ _ q => q
theorem Mv.rd (m : Mv X.K δ S σ H δ' S' σ H') (h : StOk X.K S δ σ H) {v : V} {o : Od} (q : AOd X σ H o δ S H v) : AOd X σ H' o δ' S' H' v := by
  cases o with
  | d x => exact m.rp h q
  | v i => exact q
theorem OdL.move (m : Mv X.K δ S σ H δ' S' σ H') (h : StOk X.K S δ σ H) : ∀ {os : List Od} {vs : List V}, OdL X.K S σ H os vs → OdL X.K S' σ H' os vs
  | _, _, .nil => .nil
  | _, _, .d r t => .d (m.rp h r) (OdL.move m h t)
  | _, _, .v r t => .v r (OdL.move m h t)
/-- an operand is read -/
theorem od_rd (h : StOk X.K S δ σ H) {v : V} {o : Od} {d : Dt} (q : AOd X σ H' o δ' S H v) (e : od δ o = some d) : Rd1 X.K S H v d := by
  cases o with
  | d x => cases e; exact .inl q
  | v i =>
    have q : σ[i]? = some (some v) := q
    change (gt δ i).map (·.1) = some d at e
    unfold gt at e
    cases hx : δ[i]? with
    | none => rw [hx] at e; cases e
    | some y =>
      rw [hx] at e
      cases y with
      | none => cases e
      | some y =>
        obtain ⟨d', f⟩ := y
        cases e
        cases f with
        | false =>
          obtain ⟨v', e1, r⟩ := h.val i _ hx
          rw [q] at e1; cases e1
          exact .inl r
        | true =>
          obtain ⟨a, o, e1, _, ho, w⟩ := h.own i _ hx
          rw [q] at e1; cases e1
          exact .inr ⟨a, o, rfl, ho, w⟩
theorem ods_rd (h : StOk X.K S δ σ H) : ∀ {os : List Od} {vs : List V} {ds : List Dt}, OdL X.K S σ H os vs → ods δ os = some ds → RdL X.K S H vs ds
  | _, _, _, .nil, e => by cases e; exact .nil
  | _, _, _, .d (x := x) (os := os) r t, e => by
    unfold ods at e
    split at e
    · rename_i d ds e1 e2
      cases e
      exact .cons (od_rd (o := .d x) (H' := H) (δ' := δ) h r e1) (ods_rd h t e2)
    · cases e
  | _, _, _, .v (i := i) (os := os) r t, e => by
    unfold ods at e
    split at e
    · rename_i d ds e1 e2
      cases e
      exact .cons (od_rd (o := .v i) (H' := H) (δ' := δ) h r e1) (ods_rd h t e2)
    · cases e
theorem Res.imp {P : Ans α β} {r : R α} {Q Q' : β → Hp → Prop} (h : Res X W P δ S σ H r Q) (f : ∀ v H', Q v H' → Q' v H') : Res X W P δ S σ H r Q' := by
  cases r with
  | ok a δ' => exact fun v H' S' m p => f v H' (h v H' S' m p)
  | ex c x δ' => exact h
  | bad => exact h
/-- one after the other -/
theorem Res.bind {P : Ans α β} {P2 : Ans γ ε} (L : Later X σ P2) {r : R α} {f : α → De → R γ} {Q : ε → Hp → Prop} {Q1 : β → Hp → Prop} (h : Res X W P2 δ S σ H (r.bind f) Q)
    (k : ∀ a δ1 v H1 S1, Mv X.K δ S σ H δ1 S1 σ H1 → P H a δ1 S1 H1 v → Res X W P2 δ1 S1 σ H1 (f a δ1) Q → Q1 v H1) : Res X W P δ S σ H r Q1 := by
  cases r with
  | ok a δ' =>
    intro v H' S' m p
    refine k a δ' v H' S' m p ?_
    have h' : Res X W P2 δ S σ H (f a δ') Q := h
    cases e : f a δ' with
    | ok b δ'' =>
      rw [e] at h'
      exact fun u H'' S'' m2 q => h' u H'' S'' (m.trans m2) (L _ _ _ _ _ _ _ _ _ _ _ m m2 q)
    | ex c x δ'' =>
      rw [e] at h'
      exact fun H'' S'' cls dd m2 ex => h' H'' S'' cls dd (m.trans m2) ex
    | bad => rw [e] at h'; exact h'
  | ex c x δ' => exact h
  | bad => exact h
end
/-! ### the readings -/
section
variable (cl : Cl) (X : Cx) (W : WX)
def te (e : E) : TE := fun σ H Q => ∃ δ S, StOk X.K S δ σ H ∧ Res X W (AV X σ) δ S σ H (ev cl e δ) Q
def to (e : E) : TE := fun σ H Q => ∃ δ S, StOk X.K S δ σ H ∧ Res X W (AOd X σ) δ S σ H (opd e (ev cl e δ) δ) Q
def tt (e : E) : TT := fun σ H Q => ∃ δ S, StOk X.K S δ σ H ∧ Res X W AB δ S σ H (tb (ev cl e δ)) Q
def tos (es : Es) : TA := fun σ H Q => ∃ δ S, StOk X.K S δ σ H ∧ Res X W (AOds X σ) δ S σ H (eos cl es δ) Q
def tes (es : Es) : TA := fun σ H Q => ∃ δ S, StOk X.K S δ σ H ∧ Res X W (ALs X) δ S σ H (evs cl es δ) Q
def too (e : Eo) : TO := fun σ H Q => ∃ δ S, StOk X.K S δ σ H ∧ Res X W AOI δ S σ H (eoo cl e δ) Q
end
section
variable {cl : Cl} {X : Cx} {W : WX} {cn : Cn}
def bnames : List Str := ["len", "tuple", "list", "max", "min", "sorted", "str", "divmod", "all", "repr", "abs", "int", "isinstance", "range", "enumerate", "zip", "bool", "dict", "set"]
/-- what is known of a frame's context -/
structure Good (X : Cx) (W : WX) (cn : Cn) : Prop where
  N : X.N = cn.N
  nd : cn.N.Nodup
  sc : X.env.scope = cn.sc
  sto : ∀ x, isLC (cn.so.names.lookup x) = true → Loc X.env.scope x ∧ (X.fn x = true ∨ X.env.scope.names.lookup x = some .local)
  kd : X.env.scope.kind = .function
  calm : X.calm = true
  hu : X.A.units + 64 < cLine
  tk : Takes X W
  nob : ∀ x ∈ bnames, X.mg x = none
theorem nmB_ok (g : Good X W cn) {i : Nat} {x : Str} {pos : Pos} (h : nmB cn i x = true) : PE X (.Name x pos) (tVar i) := by
  unfold nmB at h
  simp only [Bool.and_eq_true, decide_eq_true_eq, Bool.not_eq_true'] at h
  exact pe_var (by rw [g.N]; exact h.1.1.1) (by rw [g.sc]; exact visB_ok h.1.1.2) h.1.2 h.2
theorem glB_ok (g : Good X W cn) {x : Str} (h : glB cn x = true) : Gl X x ∧ (x == ("__debug__" : Str)) = false ∧ x ≠ ("__name__" : Str) := by
  unfold glB gloB at h
  simp only [Bool.and_eq_true, decide_eq_true_eq, Bool.not_eq_true'] at h
  refine ⟨?_, h.1.2, fun e => ?_⟩
  · show X.env.scope.names.lookup x = _
    rw [g.sc]; exact h.1.1
  · rw [e] at h
    simp at h
/-- a result that is given away at once -/
theorem frz {δ : De} {S : List Addr} {σ : L2.St} {H : Hp} {α β : Type} {r : R (Dt × Bool)} {f : Dt → De → R α} {P : Ans α β} {Q : β → Hp → Prop} {Q1 : V → Hp → Prop} (h : Res X W P δ S σ H (r.bind fun y δ1 => f y.1 δ1) Q)
    (k : ∀ d δ1 v H1 S1, Mv X.K δ S σ H δ1 S1 σ H1 → Rp X.K (hid S1 H1) v d → Res X W P δ S σ H (f d δ1) Q → Q1 v H1) : Res X W (AV X σ) δ S σ H r Q1 := by
  cases r with
  | ok a δ' =>
    intro v H' S' m p
    obtain ⟨S2, m2, r⟩ := Vl.freeze m p
    exact k a.1 δ' v H' S2 m2 r h
  | ex c x δ' => exact h
  | bad => exact h
theorem opd_ne {e : E} (h : ∀ i, e ≠ .var i) (r : R (Dt × Bool)) (δ : De) : opd e r δ = r.bind fun x δ1 => .ok (.d x.1) δ1 := by
  cases e <;> first | rfl | exact absurd rfl (h _)
theorem gt_some {δ : De} {i : Nat} {x : Dt × Bool} (h : gt δ i = some x) : δ[i]? = some (some x) := by
  unfold gt at h
  split at h
  · rename_i y e; rw [e, h]
  · cases h
theorem StOk.at {K : PySem.W.Frag} {S : List Addr} {δ : De} {σ : L2.St} {H : Hp} (h : StOk K S δ σ H) {i : Nat} {d : Dt} {f : Bool} (e : gt δ i = some (d, f)) : ∃ v, σ[i]? = some (some v) ∧ Rd1 K S H v d ∧ (f = false → Rp K (hid S H) v d) ∧ (f = true → ∃ a o, v = .ref a ∧ a ∈ S ∧ H a = some o ∧ Ow K (hid S H) o d) := by
  have e := gt_some e
  cases f with
  | false =>
    obtain ⟨v, h1, h2⟩ := h.val i d e
    exact ⟨v, h1, .inl h2, fun _ => h2, fun z => (by cases z)⟩
  | true =>
    obtain ⟨a, o, h1, h2, h3, h4⟩ := h.own i d e
    exact ⟨_, h1, .inr ⟨a, o, rfl, h3, h4⟩, fun z => (by cases z), fun _ => ⟨a, o, rfl, h2, h3, h4⟩⟩
/-- an operand from an expression -/
theorem pe_to (g : Good X W cn) {e : E} {x : Expr} (m : mE cn e x = true) (h : PE X x (te cl X W e)) : PE X x (to cl X W e) := by
  by_cases hv : ∃ i, e = .var i
  · obtain ⟨i, rfl⟩ := hv
    cases x <;> try (cases m)
    rename_i y pos
    refine PE.imp (nmB_ok (pos := pos) g (show nmB cn i y = true from m)) fun σ H Q ⟨δ, S, ok, q⟩ => ?_
    change Res X W (AOd X σ) δ S σ H (match gt δ i with
      | some _ => .ok (.v i) δ
      | none => .bad) Q at q
    cases e : gt δ i with
    | none => rw [e] at q; exact q.elim
    | some p =>
      rw [e] at q
      obtain ⟨v, h1, _⟩ := ok.at (d := p.1) (f := p.2) e
      exact ⟨v, h1, q v H S (.refl ok) h1⟩
  · refine PE.imp h fun σ H Q ⟨δ, S, ok, q⟩ => ⟨δ, S, ok, ?_⟩
    rw [opd_ne fun i e => hv ⟨i, e⟩] at q
    exact frz (P := AOd X σ) (f := fun d δ1 => R.ok (Od.d d) δ1) q fun d δ1 v H1 S1 m1 r q1 => q1 v H1 S1 m1 r
theorem plainT_ok {x : Expr} (h : isPlainT x = true) {env : Env} : ∀ whole, isTrue x env whole = (do let v ← whole; standAt x.pos; holding [v] (truthy v)) := by
  intro whole
  cases x <;> first | rfl | (cases h) | skip
  rename_i op e pos
  cases op <;> first | rfl | (cases h)
/-- a test from a value -/
theorem pt_plain {e : E} {x : Expr} (h : PE X x (te cl X W e)) (hp : isPlainT x = true) : PT X x (tt cl X W e) := by
  refine PT.imp (pt_val h (plainT_ok hp)) fun σ H Q ⟨δ, S, ok, q⟩ => ⟨δ, S, ok, ?_⟩
  exact frz (P := AB) (f := fun d δ1 => match d with
    | .bool b => .ok b δ1
    | _ => .bad) q fun d δ1 v H1 S1 m1 r q1 => by
      cases d <;> first | exact q1.elim | skip
      cases r
      exact ⟨_, rfl, q1 _ H1 S1 m1 rfl⟩
end
end Bw

set_option maxRecDepth 100000
set_option maxHeartbeats 4000000
namespace Bw
open PySem PySem.Spec PyProof.Rows L2
section
variable {cl : Cl} {X : Cx} {W : WX} {cn : Cn}
theorem Res.shift {α β : Type} {P : Ans α β} {δ δ1 : De} {S S1 : List Addr} {σ : L2.St} {H H1 : Hp} {r : R α} {Q : β → Hp → Prop} (L : Later X σ P) (m : Mv X.K δ S σ H δ1 S1 σ H1) (h : Res X W P δ S σ H r Q) : Res X W P δ1 S1 σ H1 r Q := by
  cases r with
  | ok a δ' => exact fun v H' S' m2 p => h v H' S' (m.trans m2) (L _ _ _ _ _ _ _ _ _ _ _ m m2 p)
  | ex c x δ' => exact fun H' S' cls dd m2 e => h H' S' cls dd (m.trans m2) e
  | bad => exact h
/-- an operation's result is the expression's -/
theorem out_fin {δ δ2 : De} {S S2 : List Addr} {σ : L2.St} {H H2 : Hp} {c : Dt} {w : Bool} {Q : V → Hp → Prop} (m : Mv X.K δ S σ H δ2 S2 σ H2) (q : ∀ v H' S', Mv X.K δ S σ H δ2 S' σ H' → Vl X.K H S' δ2 σ H' v c w → Q v H')
    {v : V} {H' : Hp} (o : Out X.K S2 H2 v c w H') : Q v H' := by
  obtain ⟨l, o⟩ := o
  cases w with
  | false => exact q v H' S2 (m.trans (.grow m.ok l)) o
  | true =>
    obtain ⟨p, u, rfl, hp, rfl, w⟩ := o
    obtain ⟨S3, m3, vl⟩ := Mv.laidOwn m.ok hp w
    exact q _ _ S3 (m.trans m3) (Vl.later m m3 (by
      obtain ⟨p', o', e1, e2, e3, e4, e5, e6⟩ := vl
      exact ⟨p', o', e1, hp ▸ (by cases e1; rfl), e3, e4, e5, e6⟩))
theorem ok_cst {c : Dt} {k : Const} {n : Nat} {pos : Pos} (h : cstM c k = true) : PE X (.Constant k n pos) (te cl X W (.cst c)) := by
  have fin : ∀ {v : V} , (∀ S H, Rp X.K (hid S H) v c) → PE X (.Constant k n pos) (tC v) → PE X (.Constant k n pos) (te cl X W (.cst c)) := fun {v} r p => PE.imp p fun σ H Q ⟨δ, S, ok, q⟩ => q v H S (.refl ok) (r S H)
  cases c <;> cases k <;> simp only [cstM, Bool.false_eq_true, beq_iff_eq, decide_eq_true_eq] at h
  · exact fin (fun _ _ => .non) pe_non
  · subst h; exact fin (fun _ _ => .bl _) pe_bl
  · subst h; exact fin (fun _ _ => .int _) pe_int
  · subst h; exact fin (fun _ _ => .str _) pe_str
/-- a name given on is no longer owned -/
theorem rls_ok {K : PySem.W.Frag} {δ : De} {S : List Addr} {σ : L2.St} {H : Hp} (ok : StOk K S δ σ H) {i : Nat} {d : Dt} {f : Bool} (e : gt δ i = some (d, f)) : ∃ v S', σ[i]? = some (some v) ∧ Mv K δ S σ H (rls δ i) S' σ H ∧ Rp K (hid S' H) v d ∧ (f = true → ∃ a, v = .ref a ∧ a ∈ S ∧ S' = S.filter fun b => b ≠ a) := by
  obtain ⟨v, h1, _, h2, h3⟩ := ok.at e
  cases f with
  | false =>
    have : rls δ i = δ := by unfold rls; rw [e]
    rw [this]
    exact ⟨v, S, h1, .refl ok, h2 rfl, fun z => by cases z⟩
  | true =>
    obtain ⟨a, o, rfl, ha, ho, w⟩ := h3 rfl
    have hr : rls δ i = δ.set i (some (d, false)) := by unfold rls; rw [e]; rfl
    have e0 := gt_some e
    have hi : i < δ.length := (List.getElem?_eq_some_iff.mp e0).1
    have own : ∀ b, Own (δ.set i (some (d, false))) σ b → Own δ σ b ∧ b ≠ a := fun b ⟨j, c, g1, g2⟩ => by
      by_cases hj : i = j
      · subst hj
        rw [List.getElem?_set_self hi] at g1; cases g1
      · rw [List.getElem?_set_ne hj] at g1
        refine ⟨⟨j, c, g1, g2⟩, fun z => ?_⟩
        subst z
        exact hj (ok.inj i j d c b e0 g1 h1 g2)
    have l : Le (hid S H) (hid (S.filter fun b => b ≠ a) H) := hid_mono (fun b _ _ z => (List.mem_filter.mp z).1) fun _ _ _ q => q
    have nf : a ∉ S.filter (fun b => b ≠ a) := fun z => by simp at z
    have ra : Rp K (hid (S.filter fun b => b ≠ a) H) (.ref a) d := (w.mono l).rp (by rw [hid_of nf]; exact ho)
    rw [hr]
    refine ⟨_, S.filter fun b => b ≠ a, h1, ⟨fun b u q _ => q, fun b z => .inl (List.mem_filter.mp z).1, fun b z => ?_, fun b z => .inl (own b z).1, fun b z => z, ok.live, ?_⟩, ra, fun _ => ⟨a, rfl, ha, rfl⟩⟩
    · by_cases hb : b = a
      · subst hb; exact .inr ⟨i, d, e0, h1⟩
      · exact .inl (List.mem_filter.mpr ⟨z, by simpa using hb⟩)
    · refine ⟨by rw [List.length_set]; exact ok.len, fun j c g => ?_, fun j c g => ?_, fun j k c c' b g1 g2 => ?_, fun b z => ok.live b (List.mem_filter.mp z).1, fun b z => ok.nt b (List.mem_filter.mp z).1⟩
      · by_cases hj : i = j
        · subst hj
          rw [List.getElem?_set_self hi] at g; cases g
          exact ⟨_, h1, ra⟩
        · rw [List.getElem?_set_ne hj] at g
          obtain ⟨u, g1, g2⟩ := ok.val j c g
          exact ⟨u, g1, g2.mono l⟩
      · have hj : ¬ i = j := fun z => by
          subst z
          rw [List.getElem?_set_self hi] at g; cases g
        rw [List.getElem?_set_ne hj] at g
        obtain ⟨b, u, g1, g2, g3, g4⟩ := ok.own j c g
        refine ⟨b, u, g1, List.mem_filter.mpr ⟨g2, ?_⟩, g3, g4.mono l⟩
        have : b ≠ a := fun z => by
          subst z
          exact hj (ok.inj i j d c b e0 g h1 g1)
        simpa using this
      · have f : ∀ {j : Nat} {c : Dt}, (δ.set i (some (d, false)))[j]? = some (some (c, true)) → δ[j]? = some (some (c, true)) := fun {j c} g => by
          by_cases hj : i = j
          · subst hj
            rw [List.getElem?_set_self hi] at g; cases g
          · rw [List.getElem?_set_ne hj] at g; exact g
        exact ok.inj j k c c' b (f g1) (f g2)
theorem ok_var (g : Good X W cn) {i : Nat} {x : Str} {pos : Pos} (h : nmB cn i x = true) : PE X (.Name x pos) (te cl X W (.var i)) := by
  refine PE.imp (nmB_ok g h) fun σ H Q ⟨δ, S, ok, q⟩ => ?_
  change Res X W (AV X σ) δ S σ H (match gt δ i with
    | some (d, _) => .ok (d, false) (rls δ i)
    | none => .bad) Q at q
  cases e : gt δ i with
  | none => rw [e] at q; exact q.elim
  | some p =>
    rw [e] at q
    obtain ⟨v, S', h1, m, r, _⟩ := rls_ok ok (d := p.1) (f := p.2) e
    exact ⟨v, h1, q v H S' m r⟩
/-- two operands -/
theorem two_ops {f : Dt → Dt → R (Dt × Bool)} {a b : E} {g : De → Dt → Dt → R (Dt × Bool)} {σ : L2.St} {H : Hp} {Q : V → Hp → Prop} {Qx : V → V → Hp → Prop} {δ : De} {S : List Addr} (ok : StOk X.K S δ σ H)
    (q : Res X W (AV X σ) δ S σ H ((opd a (ev cl a δ) δ).bind fun x δ1 => (opd b (ev cl b δ1) δ1).bind fun y δ2 => match od δ2 x, od δ2 y with
      | some d, some e => g δ2 d e
      | _, _ => .bad) Q)
    (k : ∀ δ2 S2 H2 x y d e, Mv X.K δ S σ H δ2 S2 σ H2 → Rd1 X.K S2 H2 x d → Rd1 X.K S2 H2 y e → Res X W (AV X σ) δ2 S2 σ H2 (g δ2 d e) Q → Qx x y H2) :
    to cl X W a σ H fun x H1 => to cl X W b σ H1 fun y H2 => Qx x y H2 := by
  refine ⟨δ, S, ok, Res.bind later_AV q fun x δ1 v H1 S1 m1 p1 q1 => ⟨δ1, S1, m1.ok, Res.bind later_AV q1 fun y δ2 u H2 S2 m2 p2 q2 => ?_⟩⟩
  have p1' := m2.rd m1.ok p1
  cases e1 : od δ2 x with
  | none => rw [e1] at q2; exact q2.elim
  | some d =>
    cases e2 : od δ2 y with
    | none => rw [e1, e2] at q2; exact q2.elim
    | some e =>
      rw [e1, e2] at q2
      refine k δ2 S2 H2 v u d e (m1.trans m2) (od_rd m2.ok p1' e1) (od_rd m2.ok p2 e2) ?_
      exact q2
theorem ok_bin (g : Good X W cn) {o : BOp} {a b : E} {l r : Expr} {pos : Pos} (ma : mE cn a l = true) (mb : mE cn b r = true) (ha : PE X l (te cl X W a)) (hb : PE X r (te cl X W b)) : PE X (.BinOp l (bopP o) r pos) (te cl X W (.bin o a b)) := by
  obtain ⟨rr, ho, hr⟩ := op2_bop (X := X) o
  refine PE.imp (pe_op ho (pe_to g ma ha) (pe_to g mb hb)) fun σ H Q ⟨δ, S, ok, q⟩ => ?_
  refine two_ops (f := fun _ _ => .bad) (g := fun δ2 d e => match bop o d e with
    | some r => .ok r δ2
    | none => .bad) ok q fun δ2 S2 H2 x y d e m rx ry q2 => ?_
  cases e1 : bop o d e with
  | none => simp only [e1] at q2; exact q2.elim
  | some c =>
    simp only [e1] at q2
    exact hr S2 H2 x y d e c.1 c.2 Q m.ok.live rx ry e1 fun v H' o => out_fin (.refl m.ok) q2 o
/-- a test is a value that is a truth -/
theorem tt_te {e : E} {σ : L2.St} {H : Hp} {Q : Bool → Hp → Prop} (h : tt cl X W e σ H Q) : te cl X W e σ H fun v H' => ∃ c, v = .bl c ∧ Q c H' := by
  obtain ⟨δ, S, ok, q⟩ := h
  refine ⟨δ, S, ok, frz (P := AB) (f := fun d δ1 => match d with
    | .bool b => .ok b δ1
    | _ => .bad) q fun d δ1 v H1 S1 m1 r q1 => ?_⟩
  cases d <;> first | exact q1.elim | skip
  cases r
  exact ⟨_, rfl, q1 _ H1 S1 m1 rfl⟩
theorem ok_cmp (g : Good X W cn) {o : COp} {a b : E} {l r : Expr} {pos : Pos} (ma : mE cn a l = true) (mb : mE cn b r = true) (hm : behindInMarks (copP o) r = false) (ha : PE X l (te cl X W a)) (hb : PE X r (te cl X W b)) :
    PE X (.Compare l [copP o] [r] pos) (te cl X W (.cmp o a b)) ∧ PT X (.Compare l [copP o] [r] pos) (tt cl X W (.cmp o a b)) := by
  obtain ⟨rr, ho, hr⟩ := cmp2_cop g.hu o
  have key : ∀ σ H Q, te cl X W (.cmp o a b) σ H Q → tOp rr (to cl X W a) (to cl X W b) σ H Q := fun σ H Q ⟨δ, S, ok, q⟩ => by
    refine two_ops (f := fun _ _ => .bad) (g := fun δ2 d e => match cop o d e with
      | some r => .ok (.bool r, false) δ2
      | none => .bad) ok q fun δ2 S2 H2 x y d e m rx ry q2 => ?_
    cases e1 : cop o d e with
    | none => simp only [e1] at q2; exact q2.elim
    | some c =>
      simp only [e1] at q2
      exact hr S2 H2 x y d e c _ rx ry e1 (q2 _ H2 S2 (.refl m.ok) (.bl c))
  exact ⟨PE.imp (pe_cmpR ho (pe_to g ma ha) (pe_to g mb hb) hm) key, PT.imp (pt_cmpR ho (pe_to g ma ha) (pe_to g mb hb) hm) fun σ H Q q => key σ H _ (tt_te q)⟩
theorem ok_chain (g : Good X W cn) {o o' : COp} {a b c : E} {l r r' : Expr} {pos : Pos} (ma : mE cn a l = true) (mb : mE cn b r = true) (mc : mE cn c r' = true) (hm : lastMarks [copP o, copP o'] [r, r'] = false) (ha : PE X l (te cl X W a)) (hb : PE X r (te cl X W b)) (hc : PE X r' (te cl X W c)) :
    PE X (.Compare l [copP o, copP o'] [r, r'] pos) (te cl X W (.chain o o' a b c)) ∧ PT X (.Compare l [copP o, copP o'] [r, r'] pos) (tt cl X W (.chain o o' a b c)) := by
  obtain ⟨rr, ho, hr⟩ := cmp2_cop g.hu o
  obtain ⟨rr', ho', hr'⟩ := cmp2_cop g.hu o'
  have key : ∀ σ H Q, te cl X W (.chain o o' a b c) σ H Q → tChain rr rr' (to cl X W a) (to cl X W b) (to cl X W c) σ H Q := fun σ H Q ⟨δ, S, ok, q⟩ => by
    refine ⟨δ, S, ok, Res.bind later_AV q fun x δ1 v H1 S1 m1 p1 q1 => ⟨δ1, S1, m1.ok, Res.bind later_AV q1 fun y δ2 u H2 S2 m2 p2 q2 => ?_⟩⟩
    have p1' := m2.rd m1.ok p1
    cases e1 : od δ2 x with
    | none => rw [e1] at q2; exact q2.elim
    | some d =>
      cases e2 : od δ2 y with
      | none => rw [e1, e2] at q2; exact q2.elim
      | some e =>
        rw [e1, e2] at q2
        cases e3 : cop o d e with
        | none => simp only [e3] at q2; exact q2.elim
        | some t =>
          refine hr S2 H2 v u d e t _ (od_rd m2.ok p1' e1) (od_rd m2.ok p2 e2) e3 ⟨t, rfl, ?_⟩
          cases t with
          | false =>
            simp only [e3] at q2
            rw [if_neg (by simp)]
            exact q2 _ H2 S2 (.refl m2.ok) (.bl false)
          | true =>
            simp only [e3] at q2
            rw [if_pos rfl]
            refine ⟨δ2, S2, m2.ok, Res.bind later_AV q2 fun z δ3 w' H3 S3 m3 p3 q3 => ?_⟩
            have p2' := m3.rd m2.ok p2
            cases e4 : od δ3 y with
            | none => rw [e4] at q3; exact q3.elim
            | some e' =>
              cases e5 : od δ3 z with
              | none => rw [e4, e5] at q3; exact q3.elim
              | some f =>
                rw [e4, e5] at q3
                cases e6 : cop o' e' f with
                | none => simp only [e6] at q3; exact q3.elim
                | some t' =>
                  simp only [e6] at q3
                  exact hr' S3 H3 u w' e' f t' _ (od_rd m3.ok p2' e4) (od_rd m3.ok p3 e5) e6 (q3 _ H3 S3 (.refl m3.ok) (.bl t'))
  exact ⟨PE.imp (pe_chain ho ho' (pe_to g ma ha) (pe_to g mb hb) (pe_to g mc hc) hm) key, PT.imp (pt_chain ho ho' (pe_to g ma ha) (pe_to g mb hb) (pe_to g mc hc) hm) fun σ H Q q => key σ H _ (tt_te q)⟩
/-- one operand -/
theorem one_op {a : E} {g : De → Dt → R (Dt × Bool)} {σ : L2.St} {H : Hp} {Q : V → Hp → Prop} {Qx : V → Hp → Prop} {δ : De} {S : List Addr} (ok : StOk X.K S δ σ H)
    (q : Res X W (AV X σ) δ S σ H ((opd a (ev cl a δ) δ).bind fun x δ1 => match od δ1 x with
      | some d => g δ1 d
      | none => .bad) Q)
    (k : ∀ δ2 S2 H2 x d, Mv X.K δ S σ H δ2 S2 σ H2 → Rd1 X.K S2 H2 x d → Res X W (AV X σ) δ2 S2 σ H2 (g δ2 d) Q → Qx x H2) : to cl X W a σ H Qx := by
  refine ⟨δ, S, ok, Res.bind later_AV q fun x δ1 v H1 S1 m1 p1 q1 => ?_⟩
  cases e1 : od δ1 x with
  | none => rw [e1] at q1; exact q1.elim
  | some d =>
    rw [e1] at q1
    exact k δ1 S1 H1 v d m1 (od_rd m1.ok p1 e1) q1
theorem Rd1.isN {K : PySem.W.Frag} {S : List Addr} {H : Hp} {v : V} {d : Dt} (h : Rd1 K S H v d) : decide (v = .non) = (match d with | .none => true | _ => false) := by
  rcases h with h | ⟨_, _, rfl, _, h⟩
  · cases h <;> rfl
  · cases h <;> rfl
theorem ok_isN (g : Good X W cn) {a : E} {l : Expr} {pos p2 : Pos} {k : Nat} (ma : mE cn a l = true) (ha : PE X l (te cl X W a)) :
    PE X (.Compare l [.Is] [.Constant .none k p2] pos) (te cl X W (.isN a)) ∧ PT X (.Compare l [.Is] [.Constant .none k p2] pos) (tt cl X W (.isN a)) := by
  have key : ∀ σ H Q, te cl X W (.isN a) σ H Q → tOp (fun x y H Q => y = .non ∧ Q (.bl (decide (x = .non))) H) (to cl X W a) (tC .non) σ H Q := fun σ H Q ⟨δ, S, ok, q⟩ => by
    refine one_op (g := fun δ1 d => match d with
      | .none => .ok (.bool true, false) δ1
      | _ => .ok (.bool false, false) δ1) ok (by
        have e : ev cl (.isN a) δ = (opd a (ev cl a δ) δ).bind fun x δ1 => match od δ1 x with
          | some .none => .ok (.bool true, false) δ1
          | some _ => .ok (.bool false, false) δ1
          | none => .bad := rfl
        rw [e] at q
        have e2 : (fun (x : Od) (δ1 : De) => (match od δ1 x with
          | some .none => .ok (.bool true, false) δ1
          | some _ => .ok (.bool false, false) δ1
          | none => .bad : R (Dt × Bool))) = fun x δ1 => match od δ1 x with
          | some d => (match d with
            | .none => .ok (.bool true, false) δ1
            | _ => .ok (.bool false, false) δ1)
          | none => .bad := by
          funext x δ1
          cases od δ1 x with
          | none => rfl
          | some d => cases d <;> rfl
        rw [e2] at q
        exact q) fun δ2 S2 H2 x d m r q2 => ?_
    refine ⟨rfl, ?_⟩
    rw [r.isN]
    cases d <;> exact q2 _ H2 S2 (.refl m.ok) (.bl _)
  exact ⟨PE.imp (pe_cmpR op_isN (pe_to g ma ha) pe_non (nomark _)) key, PT.imp (pt_cmpR op_isN (pe_to g ma ha) pe_non (nomark _)) fun σ H Q q => key σ H _ (tt_te q)⟩
theorem ok_notN (g : Good X W cn) {a : E} {l : Expr} {pos p2 : Pos} {k : Nat} (ma : mE cn a l = true) (ha : PE X l (te cl X W a)) :
    PE X (.Compare l [.IsNot] [.Constant .none k p2] pos) (te cl X W (.notN a)) ∧ PT X (.Compare l [.IsNot] [.Constant .none k p2] pos) (tt cl X W (.notN a)) := by
  have key : ∀ σ H Q, te cl X W (.notN a) σ H Q → tOp (fun x y H Q => y = .non ∧ Q (.bl (!decide (x = .non))) H) (to cl X W a) (tC .non) σ H Q := fun σ H Q ⟨δ, S, ok, q⟩ => by
    refine one_op (g := fun δ1 d => match d with
      | .none => .ok (.bool false, false) δ1
      | _ => .ok (.bool true, false) δ1) ok (by
        have e : ev cl (.notN a) δ = (opd a (ev cl a δ) δ).bind fun x δ1 => match od δ1 x with
          | some .none => .ok (.bool false, false) δ1
          | some _ => .ok (.bool true, false) δ1
          | none => .bad := rfl
        rw [e] at q
        have e2 : (fun (x : Od) (δ1 : De) => (match od δ1 x with
          | some .none => .ok (.bool false, false) δ1
          | some _ => .ok (.bool true, false) δ1
          | none => .bad : R (Dt × Bool))) = fun x δ1 => match od δ1 x with
          | some d => (match d with
            | .none => .ok (.bool false, false) δ1
            | _ => .ok (.bool true, false) δ1)
          | none => .bad := by
          funext x δ1
          cases od δ1 x with
          | none => rfl
          | some d => cases d <;> rfl
        rw [e2] at q
        exact q) fun δ2 S2 H2 x d m r q2 => ?_
    refine ⟨rfl, ?_⟩
    rw [r.isN]
    cases d <;> exact q2 _ H2 S2 (.refl m.ok) (.bl _)
  exact ⟨PE.imp (pe_cmpR op_notN (pe_to g ma ha) pe_non (nomark _)) key, PT.imp (pt_cmpR op_notN (pe_to g ma ha) pe_non (nomark _)) fun σ H Q q => key σ H _ (tt_te q)⟩
theorem ok_neg (g : Good X W cn) {a : E} {l : Expr} {pos : Pos} (ma : mE cn a l = true) (ha : PE X l (te cl X W a)) : PE X (.UnaryOp .USub l pos) (te cl X W (.neg a)) := by
  refine PE.imp (pe_un un_neg (pe_to g ma ha)) fun σ H Q ⟨δ, S, ok, q⟩ => ?_
  refine one_op (g := fun δ1 d => match d with
    | .int i => .ok (.int (-i), false) δ1
    | _ => .bad) ok (by
      have e2 : (fun (x : Od) (δ1 : De) => (match od δ1 x with
          | some (.int i) => .ok (.int (-i), false) δ1
          | _ => .bad : R (Dt × Bool))) = fun x δ1 => match od δ1 x with
          | some d => (match d with
            | .int i => .ok (.int (-i), false) δ1
            | _ => .bad)
          | none => .bad := by
        funext x δ1
        cases od δ1 x with
        | none => rfl
        | some d => cases d <;> rfl
      change Res X W (AV X σ) δ S σ H ((opd a (ev cl a δ) δ).bind fun (x : Od) (δ1 : De) => (match od δ1 x with
          | some (.int i) => .ok (.int (-i), false) δ1
          | _ => .bad : R (Dt × Bool))) Q at q
      rw [e2] at q
      exact q) fun δ2 S2 H2 x d m r q2 => ?_
  cases d <;> first | exact q2.elim | skip
  exact ⟨_, r.int, q2 _ H2 S2 (.refl m.ok) (.int _)⟩
end
end Bw

set_option maxRecDepth 100000
set_option maxHeartbeats 4000000
namespace Bw
open PySem PySem.Spec PyProof.Rows L2
theorem R.bind_assoc {α β γ : Type} (r : R α) (f : α → De → R β) (g : β → De → R γ) : (r.bind f).bind g = r.bind fun a δ => (f a δ).bind g := by cases r <;> rfl
section
variable {cl : Cl} {X : Cx} {W : WX} {cn : Cn}
theorem tb_bool (r : R Bool) : tb (r.bind fun b δ => .ok (.bool b, false) δ) = r := by cases r <;> rfl
/-- a truth's value, by its test -/
theorem te_of_b {r : De → R Bool} {σ : L2.St} {H : Hp} {δ : De} {S : List Addr} {Q : V → Hp → Prop} (q : Res X W (AV X σ) δ S σ H ((r δ).bind fun b δ1 => .ok (.bool b, false) δ1) Q) : Res X W AB δ S σ H (r δ) (fun b H' => Q (.bl b) H') :=
  Res.bind (P := AB) later_AV q fun b δ1 v H1 S1 m p q1 => by
    cases p
    exact q1 _ H1 S1 (.refl m.ok) (.bl _)
theorem ok_nt (g : Good X W cn) {a : E} {l : Expr} {pos : Pos} (ha : PE X l (te cl X W a)) (hb : PT X l (tt cl X W a)) : PE X (.UnaryOp .Not l pos) (te cl X W (.nt a)) ∧ PT X (.UnaryOp .Not l pos) (tt cl X W (.nt a)) := by
  refine ⟨PE.imp (pe_not ha) fun σ H Q ⟨δ, S, ok, q⟩ => ?_, PT.imp (pt_not hb) fun σ H Q ⟨δ, S, ok, q⟩ => ?_⟩
  · have q' : Res X W (AV X σ) δ S σ H ((tb (ev cl a δ)).bind fun b δ1 => .ok (.bool (!b), false) δ1) Q := q
    have q2 : Res X W AB δ S σ H (tb (ev cl a δ)) (fun b H' => Q (.bl (!b)) H') := Res.bind (P := AB) later_AV q' fun b δ1 v H1 S1 m p q1 => by
      cases p
      exact q1 _ H1 S1 (.refl m.ok) (.bl _)
    exact tt_te (e := a) ⟨δ, S, ok, q2⟩
  · refine ⟨δ, S, ok, ?_⟩
    have e : tb (ev cl (.nt a) δ) = (tb (ev cl a δ)).bind fun b δ1 => .ok (!b) δ1 := by
      show tb ((tb (ev cl a δ)).bind fun b δ1 => .ok (.bool (!b), false) δ1) = _
      cases tb (ev cl a δ) <;> rfl
    rw [e] at q
    exact Res.bind (P := AB) later_AB q fun b δ1 v H1 S1 m p q1 => by
      cases p
      exact q1 _ H1 S1 (.refl m.ok) rfl
/-- the readings of and, or over a list -/
def teA (cl : Cl) (X : Cx) (W : WX) (es : Es) : TE := fun σ H Q => ∃ δ S, StOk X.K S δ σ H ∧ Res X W AB δ S σ H (tAnd cl es δ) (fun b H' => Q (.bl b) H')
def ttA (cl : Cl) (X : Cx) (W : WX) (es : Es) : TT := fun σ H Q => ∃ δ S, StOk X.K S δ σ H ∧ Res X W AB δ S σ H (tAnd cl es δ) Q
def teO (cl : Cl) (X : Cx) (W : WX) (es : Es) : TE := fun σ H Q => ∃ δ S, StOk X.K S δ σ H ∧ Res X W AB δ S σ H (tOr cl es δ) (fun b H' => Q (.bl b) H')
def ttO (cl : Cl) (X : Cx) (W : WX) (es : Es) : TT := fun σ H Q => ∃ δ S, StOk X.K S δ σ H ∧ Res X W AB δ S σ H (tOr cl es δ) Q
theorem and_one {e : E} {x : Expr} {pos : Pos} (ha : PE X x (te cl X W e)) (hb : PT X x (tt cl X W e)) : PE X (.BoolOp .And [x] pos) (teA cl X W (.cons e .nil)) ∧ PW X (.BoolOp .And [x] pos) (ttA cl X W (.cons e .nil)) :=
  ⟨pe_one (PE.imp ha fun σ H Q ⟨δ, S, ok, q⟩ => by
    obtain ⟨δ', S', ok', q'⟩ := tt_te (e := e) (cl := cl) (X := X) (W := W) ⟨δ, S, ok, q⟩
    exact ⟨δ', S', ok', Res.imp q' fun v H' ⟨c, e1, h⟩ => e1 ▸ h⟩), pw_and1 hb⟩
theorem or_one {e : E} {x : Expr} {pos : Pos} (ha : PE X x (te cl X W e)) (hb : PT X x (tt cl X W e)) : PE X (.BoolOp .Or [x] pos) (teO cl X W (.cons e .nil)) ∧ PW X (.BoolOp .Or [x] pos) (ttO cl X W (.cons e .nil)) :=
  ⟨pe_one (PE.imp ha fun σ H Q ⟨δ, S, ok, q⟩ => by
    obtain ⟨δ', S', ok', q'⟩ := tt_te (e := e) (cl := cl) (X := X) (W := W) ⟨δ, S, ok, q⟩
    exact ⟨δ', S', ok', Res.imp q' fun v H' ⟨c, e1, h⟩ => e1 ▸ h⟩), pw_or1 hb⟩
theorem and_more {e e2 : E} {es : Es} {x y : Expr} {l : List Expr} {pos : Pos} (ha : PE X x (te cl X W e)) (hb : PT X x (tt cl X W e)) (h : PE X (.BoolOp .And (y :: l) pos) (teA cl X W (.cons e2 es)) ∧ PW X (.BoolOp .And (y :: l) pos) (ttA cl X W (.cons e2 es))) :
    PE X (.BoolOp .And (x :: y :: l) pos) (teA cl X W (.cons e (.cons e2 es))) ∧ PW X (.BoolOp .And (x :: y :: l) pos) (ttA cl X W (.cons e (.cons e2 es))) := by
  have go : ∀ {σ H} {δ : De} {S : List Addr} {Q : Bool → Hp → Prop}, Res X W AB δ S σ H (tAnd cl (.cons e (.cons e2 es)) δ) Q → Res X W AB δ S σ H (tb (ev cl e δ)) (fun c H1 => if c = true then (∃ δ1 S1, StOk X.K S1 δ1 σ H1 ∧ Res X W AB δ1 S1 σ H1 (tAnd cl (.cons e2 es) δ1) Q) else Q false H1) := fun {σ H δ S Q} q =>
    Res.bind (P := AB) (P2 := AB) (f := fun b δ1 => if b = true then tAnd cl (.cons e2 es) δ1 else .ok false δ1) later_AB q fun b δ1 v H1 S1 m p q1 => by
      cases p
      cases b with
      | true => exact ⟨δ1, S1, m.ok, q1⟩
      | false => exact q1 _ H1 S1 (.refl m.ok) rfl
  refine ⟨PE.imp (pe_and ha h.1) fun σ H Q ⟨δ, S, ok, q⟩ => ?_, PW.imp (pw_and hb h.2) fun σ H Q ⟨δ, S, ok, q⟩ => ⟨δ, S, ok, Res.imp (go q) fun c H1 z => z⟩⟩
  obtain ⟨δ', S', ok', q'⟩ := tt_te (e := e) (cl := cl) (X := X) (W := W) ⟨δ, S, ok, go q⟩
  exact ⟨δ', S', ok', Res.imp q' fun v H' ⟨c, e1, z⟩ => ⟨c, e1, z⟩⟩
theorem or_more {e e2 : E} {es : Es} {x y : Expr} {l : List Expr} {pos : Pos} (ha : PE X x (te cl X W e)) (hb : PT X x (tt cl X W e)) (h : PE X (.BoolOp .Or (y :: l) pos) (teO cl X W (.cons e2 es)) ∧ PW X (.BoolOp .Or (y :: l) pos) (ttO cl X W (.cons e2 es))) :
    PE X (.BoolOp .Or (x :: y :: l) pos) (teO cl X W (.cons e (.cons e2 es))) ∧ PW X (.BoolOp .Or (x :: y :: l) pos) (ttO cl X W (.cons e (.cons e2 es))) := by
  have go : ∀ {σ H} {δ : De} {S : List Addr} {Q : Bool → Hp → Prop}, Res X W AB δ S σ H (tOr cl (.cons e (.cons e2 es)) δ) Q → Res X W AB δ S σ H (tb (ev cl e δ)) (fun c H1 => if c = true then Q true H1 else (∃ δ1 S1, StOk X.K S1 δ1 σ H1 ∧ Res X W AB δ1 S1 σ H1 (tOr cl (.cons e2 es) δ1) Q)) := fun {σ H δ S Q} q =>
    Res.bind (P := AB) (P2 := AB) (f := fun b δ1 => if b = true then .ok true δ1 else tOr cl (.cons e2 es) δ1) later_AB q fun b δ1 v H1 S1 m p q1 => by
      cases p
      cases b with
      | true => exact q1 _ H1 S1 (.refl m.ok) rfl
      | false => exact ⟨δ1, S1, m.ok, q1⟩
  refine ⟨PE.imp (pe_or ha h.1) fun σ H Q ⟨δ, S, ok, q⟩ => ?_, PW.imp (pw_or hb h.2) fun σ H Q ⟨δ, S, ok, q⟩ => ⟨δ, S, ok, Res.imp (go q) fun c H1 z => z⟩⟩
  obtain ⟨δ', S', ok', q'⟩ := tt_te (e := e) (cl := cl) (X := X) (W := W) ⟨δ, S, ok, go q⟩
  exact ⟨δ', S', ok', Res.imp q' fun v H' ⟨c, e1, z⟩ => ⟨c, e1, z⟩⟩
theorem ok_an {es : Es} {l : List Expr} {pos : Pos} (h : PE X (.BoolOp .And l pos) (teA cl X W es) ∧ PW X (.BoolOp .And l pos) (ttA cl X W es)) : PE X (.BoolOp .And l pos) (te cl X W (.an es)) ∧ PT X (.BoolOp .And l pos) (tt cl X W (.an es)) :=
  ⟨PE.imp h.1 fun σ H Q ⟨δ, S, ok, q⟩ => ⟨δ, S, ok, te_of_b (r := tAnd cl es) q⟩, PT.imp h.2.pt fun σ H Q ⟨δ, S, ok, q⟩ => ⟨δ, S, ok, by
    have e : tb (ev cl (.an es) δ) = tAnd cl es δ := tb_bool _
    rw [e] at q; exact q⟩⟩
theorem ok_orr {es : Es} {l : List Expr} {pos : Pos} (h : PE X (.BoolOp .Or l pos) (teO cl X W es) ∧ PW X (.BoolOp .Or l pos) (ttO cl X W es)) : PE X (.BoolOp .Or l pos) (te cl X W (.orr es)) ∧ PT X (.BoolOp .Or l pos) (tt cl X W (.orr es)) :=
  ⟨PE.imp h.1 fun σ H Q ⟨δ, S, ok, q⟩ => ⟨δ, S, ok, te_of_b (r := tOr cl es) q⟩, PT.imp h.2.pt fun σ H Q ⟨δ, S, ok, q⟩ => ⟨δ, S, ok, by
    have e : tb (ev cl (.orr es) δ) = tOr cl es δ := tb_bool _
    rw [e] at q; exact q⟩⟩
theorem pt_ifx {c a b : Expr} {pos : Pos} {tc ta tb : TT} (hc : PT X c tc) (ha : PT X a ta) (hb : PT X b tb) : PT X (.IfExp c a b pos) (fun σ H Q => tc σ H fun k H1 => if k = true then ta σ H1 Q else tb σ H1 Q) := by
  refine ⟨fun pins s σ H Q I h => ?_⟩
  show wpAny _ _ (isTrue c X.env (eval c X.env) >>= fun t => if t = true then isTrue a X.env (eval a X.env) else isTrue b X.env (eval b X.env)) _ _ _
  refine wpAny_bind (thn (hc.run pins s σ H _ I h) fun k s1 ⟨H1, I1, q⟩ => ?_)
  cases k with
  | true => exact ha.run pins s1 σ H1 Q I1 q
  | false => exact hb.run pins s1 σ H1 Q I1 q
theorem ok_ife {c a b : E} {x y z : Expr} {pos : Pos} (hc : PT X x (tt cl X W c)) (ha : PE X y (te cl X W a)) (ha' : PT X y (tt cl X W a)) (hb : PE X z (te cl X W b)) (hb' : PT X z (tt cl X W b)) :
    PE X (.IfExp x y z pos) (te cl X W (.ife c a b)) ∧ PT X (.IfExp x y z pos) (tt cl X W (.ife c a b)) := by
  refine ⟨PE.imp (pe_ifExp hc ha hb) fun σ H Q ⟨δ, S, ok, q⟩ => ⟨δ, S, ok, ?_⟩, PT.imp (pt_ifx hc ha' hb') fun σ H Q ⟨δ, S, ok, q⟩ => ⟨δ, S, ok, ?_⟩⟩
  · refine Res.bind (P := AB) (f := fun t δ1 => if t = true then ev cl a δ1 else ev cl b δ1) later_AV q fun t δ1 v H1 S1 m p q1 => ?_
    cases p
    cases t with
    | true => exact ⟨δ1, S1, m.ok, q1⟩
    | false => exact ⟨δ1, S1, m.ok, q1⟩
  · have e : tb (ev cl (.ife c a b) δ) = (tb (ev cl c δ)).bind fun t δ1 => if t = true then tb (ev cl a δ1) else tb (ev cl b δ1) := by
      show tb ((tb (ev cl c δ)).bind fun t δ1 => if t = true then ev cl a δ1 else ev cl b δ1) = _
      cases tb (ev cl c δ) with
      | ok t δ1 => cases t <;> rfl
      | ex c x δ1 => rfl
      | bad => rfl
    rw [e] at q
    refine Res.bind (P := AB) (P2 := AB) (f := fun t δ1 => if t = true then tb (ev cl a δ1) else tb (ev cl b δ1)) later_AB q fun t δ1 v H1 S1 m p q1 => ?_
    cases p
    cases t with
    | true => exact ⟨δ1, S1, m.ok, q1⟩
    | false => exact ⟨δ1, S1, m.ok, q1⟩
end
end Bw

set_option maxRecDepth 100000
set_option maxHeartbeats 4000000
namespace Bw
open PySem PySem.Spec PyProof.Rows L2
section
variable {X : Cx}
/-! ### isinstance against a built-in class -/
def rIsiD (t : String) : List V → Hp → VK → Prop := fun xs H Q => ∃ (x : V) (d : Dt) (S : List Addr) (b : Bool), xs = [x, .ty t] ∧ Rd1 X.K S H x d ∧ isiO d t = some b ∧ Q (.bl b) H
theorem kit_isi {T t : String} (hT : T = "NoneType" ∨ T = "bool" ∨ T = "int" ∨ T = "str" ∨ T = "list" ∨ T = "tuple" ∨ T = "dict") (ht : tysL.contains t = true) : kitB T t = some (T == t || (T == "bool" && t == "int")) := by
  have ht' : t = "int" ∨ t = "bool" ∨ t = "tuple" ∨ t = "list" ∨ t = "str" ∨ t = "dict" := by simpa [tysL] using ht
  rcases hT with h | h | h | h | h | h | h <;> rcases ht' with h' | h' | h' | h' | h' | h' <;> subst h <;> subst h' <;> decide +kernel
theorem kit_rd {pins : List (Addr × Obj)} {σ : L2.St} {H : Hp} {s : Shared} {S : List Addr} {x : V} {u : Value} {d : Dt} (I : Inv X pins σ H s) (rx : RelV x u) (h : Rd1 X.K S H x d) (hs : ∀ p r, d ≠ .dict ((.none, p) :: r)) :
    ∃ P : Heap → Prop, PySem.W.KitX X.K u (.type (tyD d)) P ∧ P s.heap ∧ u ≠ .builtin "__main__.__loader__#opaque" := by
  cases d with
  | none =>
    cases h.none
    cases (show u = Value.none from rx); exact ⟨_, PySem.W.kitx_none, True.intro, fun z => nomatch z⟩
  | bool b =>
    cases h.bool
    cases (show u = Value.bool b from rx); exact ⟨_, PySem.W.kitx_bool, True.intro, fun z => nomatch z⟩
  | int i =>
    cases h.int
    obtain ⟨t, q⟩ := (show ∃ t, u = Value.int i t from rx); cases q; exact ⟨_, PySem.W.kitx_int, True.intro, fun z => nomatch z⟩
  | str y =>
    cases h.str
    obtain ⟨t, q⟩ := (show ∃ t, u = Value.str y t from rx); cases q; exact ⟨_, PySem.W.kitx_str, True.intro, fun z => nomatch z⟩
  | list ds =>
    obtain ⟨a, xs, rfl, ha, _⟩ := h.list
    cases (show u = Value.ref a from rx)
    obtain ⟨_, _, n, _, h1⟩ := I.hok a _ ha
    exact ⟨_, PySem.W.kitx_list, ⟨_, h1, rfl⟩, fun z => nomatch z⟩
  | tuple ds =>
    obtain ⟨a, xs, rfl, ha, _⟩ := h.tuple
    cases (show u = Value.ref a from rx)
    obtain ⟨_, _, _, o, h1, h2, _⟩ := I.hok a _ ha
    exact ⟨_, PySem.W.kitx_tuple, ⟨o, h1, h2⟩, fun z => nomatch z⟩
  | dict kvs =>
    rcases h.dict with ⟨a, ns, _, e, _⟩ | ⟨a, rfl, w⟩
    · exact absurd e (by unfold scr; exact hs _ _)
    · cases (show u = Value.ref a from rx)
      cases w with
      | k hr t =>
        obtain ⟨_, _, vs, _, o, es, ep, h1, h2, _⟩ := rd_of I.hok hr
        exact ⟨_, PySem.W.kitx_dict, ⟨o, h1, h2.1⟩, fun z => nomatch z⟩
      | t hr t =>
        obtain ⟨_, _, xs, _, o, es, ep, h1, h2, _⟩ := rd_of I.hok hr
        exact ⟨_, PySem.W.kitx_dict, ⟨o, h1, h2.1⟩, fun z => nomatch z⟩
theorem call_isiD {t : String} (ht : tysL.contains t = true) : CallR X (.builtin "isinstance") (rIsiD (X := X) t) := by
  intro pins s σ H xs us Q I r h
  obtain ⟨x, d, S, b, rfl, hx, e, q⟩ := h
  obtain ⟨u1, u2, rfl, r1, r2⟩ := vals2 r
  cases (show u2 = Value.type t from r2)
  have hs : (∀ p r, d ≠ .dict ((.none, p) :: r)) ∧ isiD d t = b := by
    unfold isiO at e
    split at e
    · cases e
    · cases e
    · rename_i h1 _
      cases e
      exact ⟨fun p r z => h1 p r z, rfl⟩
  obtain ⟨P, Z, p, hn⟩ := kit_rd I r1 hx hs.1
  have hk : PySem.W.kitOne X.K (.type (tyD d)) (.type t) = some b := kit_ty (by
    rw [kit_isi (by cases d <;> simp [tyD]) ht, ← hs.2]; rfl)
  exact PySem.W.kia_one Z I.kIn p hk hn fun tk => ⟨.bl b, H, I.tok tk, rfl, q⟩
end
section
variable {cl : Cl} {X : Cx} {W : WX} {cn : Cn}
theorem not_star {e : E} {x : Expr} (m : mE cn e x = true) : isStar x = false := by
  cases x <;> first | rfl | (exfalso; revert m; cases e <;> simp [mE])
theorem star_cons {x : Expr} {l : List Expr} {env : Env} (h : isStar x = false) : starEach (x :: l) env = (false, eval x env) :: starEach l env := by
  cases x <;> first | rfl | cases h
theorem star_all : ∀ {es : Es} {l : List Expr} {env : Env}, mEs cn es l = true → (starEach l env).all (fun x => !x.1) = true
  | .nil, [], _, _ => rfl
  | .cons e es, x :: l, env, m => by
    simp only [mEs, Bool.and_eq_true] at m
    rw [star_cons (not_star m.1), List.all_cons, star_all m.2]; rfl
  | .nil, _ :: _, _, m => by simp [mEs] at m
  | .cons _ _, [], _, m => by simp [mEs] at m
theorem back_any {pos : Pos} {l : List (Bool × Sem Value)} (h : l.all (fun x => !x.1) = true) : (backTo pos l).any (·.1) = false := by
  induction l with
  | nil => rfl
  | cons x l ih =>
    rw [List.all_cons, Bool.and_eq_true] at h
    obtain ⟨b, t⟩ := x
    have hb : b = false := by simpa using h.1
    subst hb
    show (false || (backTo pos l).any _) = false
    rw [ih h.2]; rfl
/-- operands as arguments -/
theorem pa_one (g : Good X W cn) {e : E} {es : Es} {x : Expr} {l : List Expr} (m : mE cn e x = true) (h : PE X x (te cl X W e)) (t : PA X l (tos cl X W es)) : PA X (x :: l) (tos cl X W (.cons e es)) := by
  refine PA.imp (pa_cons (pe_to g m h) t (star_cons (not_star m))) fun σ H Q ⟨δ, S, ok, q⟩ => ?_
  refine ⟨δ, S, ok, Res.bind later_AOds q fun o δ1 v H1 S1 m1 p q1 => ⟨δ1, S1, m1.ok, Res.bind later_AOds q1 fun os δ2 vs H2 S2 m2 ps q2 => q2 _ H2 S2 (.refl m2.ok) ?_⟩⟩
  have p' := m2.rd m1.ok p
  cases o with
  | d x => exact .d p' ps
  | v i => exact .v p' ps
theorem pa_zero : PA X [] (tos cl X W .nil) := PA.imp pa_nil fun σ H Q ⟨δ, S, ok, q⟩ => q _ H S (.refl ok) .nil
/-- items of a display -/
theorem pd_one {e : E} {es : Es} {x : Expr} {l : List Expr} (m : mE cn e x = true) (h : PE X x (te cl X W e)) (t : PA X l (tes cl X W es)) : PA X (x :: l) (tes cl X W (.cons e es)) := by
  refine PA.imp (pa_cons h t (star_cons (not_star m))) fun σ H Q ⟨δ, S, ok, q⟩ => ⟨δ, S, ok, ?_⟩
  refine frz (P := ALs X) (f := fun d δ1 => (evs cl es δ1).bind fun xs δ2 => R.ok (d :: xs) δ2) q fun d δ1 v H1 S1 m1 r q1 => ⟨δ1, S1, m1.ok, ?_⟩
  refine Res.bind (P := ALs X) later_ALs (Res.shift later_ALs m1 q1) fun xs δ2 vs H2 S2 m2 rs q2 => q2 _ H2 S2 (.refl m2.ok) (.cons (m2.rp m1.ok r) rs)
theorem pd_zero : PA X [] (tes cl X W .nil) := PA.imp pa_nil fun σ H Q ⟨δ, S, ok, q⟩ => q _ H S (.refl ok) .nil
theorem ok_tup {es : Es} {l : List Expr} {k : Nat} {pos : Pos} (h : PA X l (tes cl X W es)) : PE X (.Tuple l k pos) (te cl X W (.tup es)) := by
  refine PE.imp (pe_tup h) fun σ H Q ⟨δ, S, ok, q⟩ => ⟨δ, S, ok, ?_⟩
  refine Res.bind (P := ALs X) later_AV q fun ds δ1 vs H1 S1 m1 rs q1 => ?_
  by_cases hl : ds.length ≤ lim
  · rw [if_pos hl] at q1
    exact ⟨by rw [rs.length]; exact hl, fun p hp => out_fin (.refl m1.ok) q1 (.newT m1.ok.live hp rs)⟩
  · rw [if_neg hl] at q1; exact q1.elim
theorem ok_lst {es : Es} {l : List Expr} {pos : Pos} (h : PA X l (tes cl X W es)) : PE X (.List l pos) (te cl X W (.lst es)) := by
  refine PE.imp (pe_lst h) fun σ H Q ⟨δ, S, ok, q⟩ => ⟨δ, S, ok, ?_⟩
  refine Res.bind (P := ALs X) later_AV q fun ds δ1 vs H1 S1 m1 rs q1 => ?_
  by_cases hl : ds.length ≤ lim
  · rw [if_pos hl] at q1
    exact ⟨by rw [rs.length]; exact hl, fun p hp => out_fin (.refl m1.ok) q1 (.newL hp rs)⟩
  · rw [if_neg hl] at q1; exact q1.elim
theorem ok_dct {t : Bool} {pos : Pos} : PE X (.Dict [] [] pos) (te cl X W (.dct t .nil .nil)) := by
  cases t with
  | true => exact PE.imp pe_dnewT fun σ H Q ⟨δ, S, ok, q⟩ p hp => out_fin (.refl ok) q ⟨le_upd hp, p, _, rfl, hp, rfl, .dT (kvs := []) .nil⟩
  | false => exact PE.imp pe_dnewK fun σ H Q ⟨δ, S, ok, q⟩ p hp => out_fin (.refl ok) q ⟨le_upd hp, p, _, rfl, hp, rfl, .dK (kvs := []) .nil⟩
theorem plainIx_ok {s : Expr} (h : isSlice s = false) : PlainIx s := by
  intro o i
  cases s <;> first | rfl | cases h
theorem ok_ix (g : Good X W cn) {a i : E} {x s : Expr} {pos : Pos} (ma : mE cn a x = true) (mi : mE cn i s = true) (hs : isSlice s = false) (ha : PE X x (te cl X W a)) (hi : PE X s (te cl X W i)) : PE X (.Subscript x s pos) (te cl X W (.ix a i)) := by
  obtain ⟨rr, ho, hr⟩ := ix_all (X := X) g.hu
  refine PE.imp (pe_ix ho (pe_to g ma ha) (pe_to g mi hi) (plainIx_ok hs)) fun σ H Q ⟨δ, S, ok, q⟩ => ?_
  refine two_ops (f := fun _ _ => .bad) (g := fun δ2 d e => match ixD d e with
    | some r => .ok (r, false) δ2
    | none => .bad) ok q fun δ2 S2 H2 x y d e m rx ry q2 => ?_
  cases e1 : ixD d e with
  | none => simp only [e1] at q2; exact q2.elim
  | some c =>
    simp only [e1] at q2
    exact hr S2 H2 x y d e c Q rx ry e1 fun v r => q2 v H2 S2 (.refl m.ok) r
theorem po_of {e : Eo} {x : Option Expr} (h : ∀ e' x', e = .som e' → x = some x' → PE X x' (te cl X W e')) (m : mEo cn e x = true) : PO X x (too cl X W e) := by
  cases e with
  | non =>
    cases x with
    | none => exact PO.imp po_none fun σ H Q ⟨δ, S, ok, q⟩ => q none H S (.refl ok) rfl
    | some x => simp [mEo] at m
  | som e =>
    cases x with
    | none => simp [mEo] at m
    | some x =>
      refine PO.imp (po_some (h e x rfl rfl)) fun σ H Q ⟨δ, S, ok, q⟩ => ⟨δ, S, ok, ?_⟩
      refine frz (P := AOI) (f := fun d δ1 => match d with
        | .int i => R.ok (some i) δ1
        | _ => .bad) q fun d δ1 v H1 S1 m1 r q1 => ?_
      cases d <;> first | exact q1.elim | skip
      cases r
      exact ⟨_, rfl, q1 _ H1 S1 m1 rfl⟩
theorem cut_all {K : PySem.W.Frag} {H : Hp} {xs : List V} {ds : List Dt} {lo hi : Option Int} (t : RpL K H xs ds) (hw : HT.sIx xs.length 0 lo = 0 ∧ HT.sIx xs.length xs.length hi = xs.length) : cutD ds lo hi = ds := by
  unfold cutD
  rw [← t.length, hw.1, hw.2, t.length]
  simp
theorem ok_sl (g : Good X W cn) {a : E} {lo hi : Eo} {x : Expr} {l u : Option Expr} {p2 pos : Pos} (ma : mE cn a x = true) (ha : PE X x (te cl X W a)) (hl : PO X l (too cl X W lo)) (hu : PO X u (too cl X W hi)) : PE X (.Subscript x (.Slice l u none p2) pos) (te cl X W (.sl a lo hi)) := by
  refine PE.imp (pe_slice (sl_list.or (sl_tupA.or sl_str)) (pe_to g ma ha) hl hu) fun σ H Q ⟨δ, S, ok, q⟩ => ⟨δ, S, ok, ?_⟩
  refine Res.bind (P := AOd X σ) later_AV q fun o δ1 v H1 S1 m1 p q1 => ⟨δ1, S1, m1.ok, Res.bind (P := AOI) later_AV q1 fun lo' δ2 l' H2 S2 m2 e2 q2 => ⟨δ2, S2, m2.ok, Res.bind (P := AOI) later_AV q2 fun hi' δ3 u' H3 S3 m3 e3 q3 => ?_⟩⟩
  cases e2
  cases e3
  have p' := m3.rd m2.ok (m2.rd m1.ok p)
  cases e1 : od δ3 o with
  | none => simp only [e1] at q3; exact q3.elim
  | some d =>
    simp only [e1] at q3
    have r := od_rd m3.ok p' e1
    cases e4 : slD d lo' hi' with
    | none => simp only [e4] at q3; exact q3.elim
    | some c =>
      simp only [e4] at q3
      unfold slD at e4
      split at e4 <;> try cases e4
      · obtain ⟨a, xs, rfl, h1, t⟩ := r.list
        exact .inl ⟨a, xs, rfl, .of h1, fun p hp => out_fin (.refl m3.ok) q3 (.newL hp (t.cut _ _))⟩
      · obtain ⟨a, xs, rfl, h1, t⟩ := r.tuple
        refine .inr (.inl ⟨a, xs, rfl, .of h1, fun hw => ?_, fun _ p hp => out_fin (.refl m3.ok) q3 (.newT m3.ok.live hp (t.cut _ _))⟩)
        rw [cut_all t hw] at q3
        rcases r with r | ⟨_, _, _, _, r⟩
        · exact q3 _ H3 S3 (.refl m3.ok) r
        · cases r
      · split at e4 <;> cases e4
        rename_i hl
        exact .inr (.inr ⟨_, r.str, hl, q3 _ H3 S3 (.refl m3.ok) (.str _)⟩)
end
end Bw

set_option maxRecDepth 100000
set_option maxHeartbeats 4000000
namespace Bw
open PySem PySem.Spec PyProof.Rows L2
theorem boot_bi {b : Bi} (h : hasBi b = true) : bootBuiltins (biN b) = some (biF b) ∧ biN b ∈ bnames := by
  cases b <;> first | exact absurd h (by decide) | exact ⟨by decide +kernel, by decide +kernel⟩
theorem boot_isi : bootBuiltins "isinstance" = some (.builtin "isinstance") := by decide +kernel
theorem boot_tys {t : String} (h : tysL.contains t = true) : bootBuiltins (Str.ofString t) = some (.type t) ∧ Str.ofString t ∈ bnames := by
  have ht' : t = "int" ∨ t = "bool" ∨ t = "tuple" ∨ t = "list" ∨ t = "str" ∨ t = "dict" := by simpa [tysL] using h
  rcases ht' with h | h | h | h | h | h <;> subst h <;> exact ⟨by decide +kernel, by decide +kernel⟩
section
variable {cl : Cl} {X : Cx} {W : WX} {cn : Cn}
/-- a built-in's operands, then its rule -/
theorem bi_read {b : Bi} {es : Es} {rr : List V → Hp → VK → Prop}
    (hr : ∀ (S : List Addr) (H : Hp) (vs : List V) (ds : List Dt) (c : Dt) (w : Bool) (Q : VK), (∀ b, b ∈ S → (H b).isSome = true ∧ ∀ xs, H b ≠ some (HO.tup xs)) → RdL X.K S H vs ds → biD b ds = some (c, w) → (∀ v H', Out X.K S H v c w H' → Q v H') → rr vs H Q) :
    ∀ σ H Q, te cl X W (.bi b es) σ H Q → tCB rr (tos cl X W es) σ H Q := fun σ H Q ⟨δ, S, ok, q⟩ => by
  refine ⟨δ, S, ok, Res.bind (P := AOds X σ) later_AV q fun os δ1 vs H1 S1 m1 ps q1 => ?_⟩
  cases e : ods δ1 os with
  | none => simp only [e] at q1; exact q1.elim
  | some ds =>
    simp only [e] at q1
    cases e2 : biD b ds with
    | none => simp only [e2] at q1; exact q1.elim
    | some c =>
      simp only [e2] at q1
      exact hr S1 H1 vs ds c.1 c.2 Q (fun b hb => ⟨m1.ok.live b hb, m1.ok.nt b hb⟩) (ods_rd m1.ok ps e) e2 fun v H' o => out_fin (.refl m1.ok) q1 o
theorem ok_bi (g : Good X W cn) {b : Bi} {es : Es} {x : Expr} {l : List Expr} {p pos : Pos} (hb : hasBi b = true) (hn : glB cn (biN b) = true) (hs : isStar x = false) (hl : (starEach l X.env).all (fun x => !x.1) = true) (h : PA X (x :: l) (tos cl X W es)) :
    PE X (.Call (.Name (biN b) p) (x :: l) [] pos) (te cl X W (.bi b es)) := by
  obtain ⟨hg, hdb, hnn⟩ := glB_ok g hn
  obtain ⟨hv, hm⟩ := boot_bi hb
  have hm := g.nob _ hm
  obtain ⟨rr, hc, hr⟩ := bi_all_of (X := X) g.calm g.hu b hb
  cases e : biF b with
  | builtin id =>
    rw [e] at hc hv
    exact PE.imp (pe_callB hc hg hm hv h hnn hdb (star_cons hs) (back_any hl)) (bi_read hr)
  | type T =>
    rw [e] at hc hv
    exact PE.imp (pe_callTy hc hg hm hv h hnn hdb (star_cons hs) (back_any hl)) (bi_read hr)
  | _ => cases b <;> first | exact absurd hb (by decide) | cases e
theorem ok_isi (g : Good X W cn) {a : E} {t : String} {x : Expr} {p p2 pos : Pos} (ht : tysL.contains t = true) (hn : glB cn "isinstance" = true) (hn2 : glB cn (Str.ofString t) = true) (ma : mE cn a x = true) (ha : PE X x (te cl X W a)) :
    PE X (.Call (.Name "isinstance" p) [x, .Name (Str.ofString t) p2] [] pos) (te cl X W (.isi a t)) := by
  obtain ⟨hg, hdb, hnn⟩ := glB_ok g hn
  obtain ⟨hg2, hdb2, hnn2⟩ := glB_ok g hn2
  obtain ⟨hv2, hm2⟩ := boot_tys ht
  have hm2 := g.nob _ hm2
  have hm := g.nob "isinstance" (by decide +kernel)
  have pa : PA X [x, .Name (Str.ofString t) p2] _ := pa_cons (pe_to g ma ha) (pa_cons (pe_bltn (v := .ty t) hg2 hm2 hv2 rfl hnn2 hdb2) pa_nil) (star_cons (not_star ma))
  refine PE.imp (pe_callB (call_isiD ht) hg hm boot_isi pa hnn hdb (star_cons (not_star ma)) (by rfl)) fun σ H Q ⟨δ, S, ok, q⟩ => ?_
  refine one_op (g := fun δ1 d => match isiO d t with
    | some b => .ok (.bool b, false) δ1
    | none => .bad) ok q fun δ2 S2 H2 v d m r q2 => ?_
  cases e : isiO d t with
  | none => simp only [e] at q2; exact q2.elim
  | some b =>
    simp only [e] at q2
    exact ⟨v, d, S2, b, rfl, r, e, q2 _ H2 S2 (.refl m.ok) (.bl b)⟩
end
end Bw

set_option maxRecDepth 100000
set_option maxHeartbeats 4000000
namespace Bw
open PySem PySem.Spec PyProof.Rows L2
section
variable {K : PySem.W.Frag} {δ : De} {S : List Addr} {σ : L2.St} {H : Hp}
theorem hid_in {a : Addr} {o : HO} (ha : a ∈ S) : hid S (upd H a o) = hid S H := by
  funext b
  unfold hid
  by_cases hb : b ∈ S
  · rw [if_pos hb, if_pos hb]
  · rw [if_neg hb, if_neg hb, upd_ne fun e => hb (by rw [e]; exact ha)]
/-- an owned thing is changed in place -/
theorem own_put {i : Nat} {b b' : Dt} {a : Addr} {o' : HO} (ok : StOk K S δ σ H) (e : gt δ i = some (b, true)) (hσ : σ[i]? = some (some (V.ref a))) (w : Ow K (hid S H) o' b') :
    Mv K δ S σ H (st δ i (some (b', true))) S σ (upd H a o') := by
  have e0 := gt_some e
  have hi : i < δ.length := (List.getElem?_eq_some_iff.mp e0).1
  obtain ⟨a', o, h1, ha, ho, _⟩ := ok.own i b e0
  rw [hσ] at h1; cases h1
  have dn : ∀ {j : Nat} {c : Dt}, (δ.set i (some (b', true)))[j]? = some (some (c, true)) → ∃ c', δ[j]? = some (some (c', true)) := fun {j c} g => by
    by_cases hj : i = j
    · subst hj; exact ⟨b, e0⟩
    · rw [List.getElem?_set_ne hj] at g; exact ⟨c, g⟩
  have own : ∀ c, Own (st δ i (some (b', true))) σ c → Own δ σ c := fun c ⟨j, d, g1, g2⟩ => by
    obtain ⟨c', g⟩ := dn g1
    exact ⟨j, c', g, g2⟩
  have up : ∀ c, (H c).isSome = true → (upd H a o' c).isSome = true := fun c h => by
    by_cases hc : c = a
    · rw [hc, upd_same]; rfl
    · rw [upd_ne hc]; exact h
  refine ⟨fun c u q hn => ?_, fun c z => .inl z, fun c z => .inl z, fun c z => .inl (own c z), up, ok.live, ?_⟩
  · rw [upd_ne fun z => hn ⟨i, b, e0, by rw [z]; exact hσ⟩]; exact q
  · refine ⟨by show (δ.set i _).length = _; rw [List.length_set]; exact ok.len, fun j c g => ?_, fun j c g => ?_, fun j k c c' x g1 g2 => ?_, fun c z => up c (ok.live c z), fun c z ys g => ?_⟩
    · rw [hid_in ha]
      have g : (δ.set i (some (b', true)))[j]? = some (some (c, false)) := g
      by_cases hj : i = j
      · subst hj
        rw [List.getElem?_set_self hi] at g; cases g
      · rw [List.getElem?_set_ne hj] at g
        exact ok.val j c g
    · rw [hid_in ha]
      have g : (δ.set i (some (b', true)))[j]? = some (some (c, true)) := g
      by_cases hj : i = j
      · subst hj
        rw [List.getElem?_set_self hi] at g; cases g
        exact ⟨a, o', hσ, ha, upd_same, w⟩
      · rw [List.getElem?_set_ne hj] at g
        obtain ⟨p, u, g1, g2, g3, g4⟩ := ok.own j c g
        have hp : p ≠ a := fun z => by
          subst z
          exact hj (ok.inj i j b c p e0 g hσ g1)
        exact ⟨p, u, g1, g2, by rw [upd_ne hp]; exact g3, g4⟩
    · obtain ⟨d1, f1⟩ := dn g1
      obtain ⟨d2, f2⟩ := dn g2
      exact ok.inj j k d1 d2 x f1 f2
    · by_cases hc : c = a
      · rw [hc, upd_same] at g; cases g; cases w
      · rw [upd_ne hc] at g; exact ok.nt c z ys g
theorem hid_back {b : Addr} {o : HO} (h : hid S H b = some o) : H b = some o := (hid_some h).2
end
section
variable {cl : Cl} {X : Cx} {W : WX} {cn : Cn}
/-- the method by its name -/
def muF : Mu → String
  | .append => "list.append" | .extend => "list.extend" | .pop => "list.pop" | .popAt => "list.pop" | .popD => "list.pop" | .clear => "list.clear"
/-- a method's rule on an owned list -/
def MuOk (X : Cx) (m : Mu) (r : V → List V → Hp → VK → Prop) : Prop :=
  ∀ (S : List Addr) (H : Hp) (a : Addr) (o : HO) (b d b' : Dt) (vs : List V) (ds : List Dt) (Q : VK), H a = some o → a ∈ S → Ow X.K (hid S H) o b → RpL X.K (hid S H) vs ds → muD m b ds = some (d, b') →
    (∀ v o', Rp X.K (hid S H) v d → Ow X.K (hid S H) o' b' → Q v (upd H a o')) → r (.ref a) vs H Q
theorem mu_append : MuOk X .append rAppend := by
  intro S H a o b d b' vs ds Q ho ha w rs e q
  change muD_append b ds = _ at e
  unfold muD_append at e
  split at e
  · rename_i xs x
    split at e <;> cases e
    rename_i hl
    cases w with
    | lst t =>
      cases rs with
      | cons h0 h1 => cases h1; exact ⟨a, _, _, rfl, rfl, ho, by rw [t.length]; exact hl, q _ _ .non (.lst (t.append (.cons h0 .nil)))⟩
  · cases e
theorem mu_extend : MuOk X .extend rExtend := by
  intro S H a o b d b' vs ds Q ho ha w rs e q
  change muD_extend b ds = _ at e
  unfold muD_extend at e
  split at e
  · rename_i xs x
    split at e <;> cases e
    rename_i hl
    cases w with
    | lst t =>
      cases rs with
      | cons h0 h1 =>
        cases h1
        cases h0 with
        | lst hb tb => exact ⟨a, _, _, _, rfl, rfl, ho, hid_back hb, by rw [t.length, tb.length]; exact hl, q _ _ .non (.lst (t.append tb))⟩
  · cases e
theorem RpL.dropLast {K : PySem.W.Frag} {H : Hp} {vs : List V} {ds : List Dt} (h : RpL K H vs ds) : RpL K H vs.dropLast ds.dropLast := by
  rw [List.dropLast_eq_take, List.dropLast_eq_take, h.length]; exact h.take _
theorem RpL.erase {K : PySem.W.Frag} {H : Hp} : ∀ {vs : List V} {ds : List Dt} (k : Nat), RpL K H vs ds → RpL K H (vs.eraseIdx k) (ds.eraseIdx k)
  | _, _, _, .nil => .nil
  | _, _, 0, .cons _ t => t
  | _, _, k + 1, .cons h t => .cons h (RpL.erase k t)
theorem mu_pop : MuOk X .pop rPop := by
  intro S H a o b d b' vs ds Q ho ha w rs e q
  change muD_pop b ds = _ at e
  unfold muD_pop at e
  split at e
  · rename_i xs
    split at e <;> cases e
    rename_i y hy
    cases w with
    | lst t =>
      cases rs
      obtain ⟨v, h1, h2⟩ := t.get hy
      exact ⟨a, _, v, rfl, rfl, ho, by rw [t.length]; exact h1, q _ _ h2 (.lst t.dropLast)⟩
  · cases e
theorem mu_popAt : MuOk X .popAt rPopAt := by
  intro S H a o b d b' vs ds Q ho ha w rs e q
  change muD_popAt b ds = _ at e
  unfold muD_popAt at e
  split at e
  · rename_i xs i
    split at e
    · rename_i hb
      split at e
      · rename_i k hk
        split at e <;> cases e
        rename_i y hy
        cases w with
        | lst t =>
          cases rs with
          | cons h0 h1 =>
            cases h1
            cases h0
            obtain ⟨v, g1, g2⟩ := t.get hy
            unfold big at hb
            simp only [Bool.and_eq_true, decide_eq_true_eq] at hb
            exact ⟨a, _, i, k, v, rfl, rfl, ho, by omega, by omega, by rw [t.length]; exact (ixN_seq hk).1, g1, q _ _ g2 (.lst (t.erase k))⟩
      · cases e
    · cases e
  · cases e
theorem mu_clear : MuOk X .clear rClear := by
  intro S H a o b d b' vs ds Q ho ha w rs e q
  change muD_clear b ds = _ at e
  unfold muD_clear at e
  split at e
  · cases e
    cases w with
    | lst t => cases rs; exact ⟨a, _, rfl, rfl, ho, q _ _ .non (.lst .nil)⟩
  · cases e
theorem ownL_at {δ : De} {S : List Addr} {σ : L2.St} {H : Hp} (ok : StOk X.K S δ σ H) {i : Nat} (h : ownL δ i = true) : ∃ a xs, σ[i]? = some (some (V.ref a)) ∧ H a = some (.lst xs) := by
  unfold ownL at h
  split at h
  · rename_i ds e
    obtain ⟨a, o, h1, _, h3, w⟩ := ok.own i _ (gt_some e)
    cases w
    exact ⟨a, _, h1, h3⟩
  · cases h
/-- the reading: the list by its name, the arguments, the method's rule -/
theorem mu_read {m : Mu} {i : Nat} {es : Es} {r : V → List V → Hp → VK → Prop} (hr : MuOk X m r) (σ : L2.St) (H : Hp) (Q : VK) (h : te cl X W (.mu m i es) σ H Q) :
    ∃ a, σ[i]? = some (some (V.ref a)) ∧ tyV X.K "list" (.ref a) H ∧ tes cl X W es σ H fun xs H2 => r (.ref a) xs H2 Q := by
  obtain ⟨δ, S, ok, q⟩ := h
  change Res X W (AV X σ) δ S σ H (if ownL δ i = true then ((evs cl es δ).bind fun ds δ1 => match gt δ1 i with
    | some (b, true) => match muD m b ds with
      | some (d, b') => .ok (d, false) (st δ1 i (some (b', true)))
      | none => .bad
    | _ => .bad) else .bad) Q at q
  split at q
  · rename_i hl
    obtain ⟨a, xs, h1, h2⟩ := ownL_at ok hl
    refine ⟨a, h1, .inl ⟨rfl, xs, .of h2⟩, δ, S, ok, Res.bind (P := ALs X) later_AV q fun ds δ1 vs H1 S1 m1 rs q1 => ?_⟩
    split at q1
    · rename_i b e
      split at q1
      · rename_i d b' e2
        obtain ⟨a', o, g1, g2, g3, g4⟩ := m1.ok.own i b (gt_some e)
        rw [h1] at g1; cases g1
        refine hr S1 H1 a o b d b' vs ds Q g3 g2 g4 rs e2 fun v o' rv w' => ?_
        have mp := own_put m1.ok e h1 w'
        exact q1 v (upd H1 a o') S1 mp (mp.rp m1.ok rv)
      · exact q1.elim
    · exact q1.elim
  · exact q.elim
theorem ok_mu1 (g : Good X W cn) {m : Mu} {i : Nat} {es : Es} {y : Str} {x : Expr} {l : List Expr} {p apos pos : Pos} (hn : nmB cn i y = true) (hl : (apos.endLine == pos.line) = true) (hf : (x :: l).length < 29)
    (ms : mEs cn es (x :: l) = true) (h : PA X (x :: l) (tes cl X W es)) : PE X (.Call (.Attribute (.Name y p) (muN m) apos) (x :: l) [] pos) (te cl X W (.mu m i es)) := by
  have hs : isStar x = false := by
    cases es with
    | nil => simp [mEs] at ms
    | cons e es =>
      simp only [mEs, Bool.and_eq_true] at ms
      exact not_star ms.1
  have hall : ∀ {es : Es} {l : List Expr}, mEs cn es l = true → (backTo pos (starEach l X.env)).all (fun x => !x.1) = true := fun {es l} ms => by
    have := back_any (pos := pos) (star_all (env := X.env) ms)
    rw [List.any_eq_false] at this
    rw [List.all_eq_true]
    intro z hz
    have := this z hz
    simpa using this
  have hfew : ((backTo pos (starEach (x :: l) X.env)).all (fun x => !x.1) && (backToKw pos (keywordEach [] X.env)).all (fun x => x.1.isSome) && decide ((x :: l).length + ([] : List Keyword).length + (if ([] : List Keyword).isEmpty then 0 else 1) < 30)) = true := by
    rw [hall ms]
    have : (backToKw pos (keywordEach [] X.env)).all (fun x => x.1.isSome) = true := rfl
    rw [this]
    have : decide ((x :: l).length + ([] : List Keyword).length + (if ([] : List Keyword).isEmpty = true then 0 else 1) < 30) = true := by
      rw [decide_eq_true_eq]
      show (x :: l).length + 0 + 0 < 30
      omega
    rw [this]; rfl
  have hpl : (backTo pos (starEach l X.env)).any (·.1) = false := by
    cases es with
    | nil => simp [mEs] at ms
    | cons e es =>
      simp only [mEs, Bool.and_eq_true] at ms
      exact back_any (star_all ms.2)
  have hbase : attributeBase (.Name y p) (muN m) X.env (eval (.Name y p) X.env) = eval (.Name y p) X.env := rfl
  have pn := nmB_ok (pos := p) g hn
  have fin : ∀ {T id : String} {r : V → List V → Hp → VK → Prop}, PE X (.Call (.Attribute (.Name y p) (muN m) apos) (x :: l) [] pos) (tBM X.K "list" r (tVar i) (tes cl X W es)) → MuOk X m r → PE X (.Call (.Attribute (.Name y p) (muN m) apos) (x :: l) [] pos) (te cl X W (.mu m i es)) := fun {T id r} hp hr => by
    refine PE.imp hp fun σ H Q q => ?_
    obtain ⟨a, h1, h2, h3⟩ := mu_read hr σ H Q q
    exact ⟨_, h1, h2, h3⟩
  cases m with
  | append => exact fin (T := "") (id := "") (pe_bm PySem.F.plainAttrs_list PySem.F.slot_list_append PySem.F.type_list_append mt_append pn h hbase hfew hl (star_cons hs) hpl) mu_append
  | extend => exact fin (T := "") (id := "") (pe_bm PySem.F.plainAttrs_list PySem.F.slot_list_extend PySem.F.type_list_extend mt_extend pn h hbase hfew hl (star_cons hs) hpl) mu_extend
  | pop => exact fin (T := "") (id := "") (pe_bm PySem.F.plainAttrs_list PySem.F.slot_list_pop PySem.F.type_list_pop mt_pop pn h hbase hfew hl (star_cons hs) hpl) mu_pop
  | popAt => exact fin (T := "") (id := "") (pe_bm PySem.F.plainAttrs_list PySem.F.slot_list_pop PySem.F.type_list_pop mt_popAt pn h hbase hfew hl (star_cons hs) hpl) mu_popAt
  | clear => exact fin (T := "") (id := "") (pe_bm PySem.F.plainAttrs_list PySem.F.slot_list_clear PySem.F.type_list_clear mt_clear pn h hbase hfew hl (star_cons hs) hpl) mu_clear
  | popD =>
    refine PE.imp (pe_bm PySem.F.plainAttrs_list PySem.F.slot_list_pop PySem.F.type_list_pop mt_pop pn h hbase hfew hl (star_cons hs) hpl) fun σ H Q q => ?_
    obtain ⟨a, h1, h2, h3⟩ := mu_read (r := fun _ _ _ _ => False) (fun S H a o b d b' vs ds Q _ _ _ _ e _ => by cases e) σ H Q q
    obtain ⟨δ, S, ok, r⟩ := h3
    exact ⟨_, h1, h2, δ, S, ok, Res.imp r fun _ _ z => z.elim⟩
theorem ok_mu0 (g : Good X W cn) {m : Mu} {i : Nat} {y : Str} {p apos pos : Pos} (hn : nmB cn i y = true) (hl : (apos.endLine == pos.line) = true) :
    PE X (.Call (.Attribute (.Name y p) (muN m) apos) [] [] pos) (te cl X W (.mu m i .nil)) := by
  have hbase : attributeBase (.Name y p) (muN m) X.env (eval (.Name y p) X.env) = eval (.Name y p) X.env := rfl
  have pn := nmB_ok (pos := p) g hn
  have fin : ∀ {T id : String} {r : V → List V → Hp → VK → Prop}, PE X (.Call (.Attribute (.Name y p) (muN m) apos) [] [] pos) (tBM0 X.K "list" r (tVar i)) → MuOk X m r → PE X (.Call (.Attribute (.Name y p) (muN m) apos) [] [] pos) (te cl X W (.mu m i .nil)) := fun {T id r} hp hr => by
    refine PE.imp hp fun σ H Q q => ?_
    obtain ⟨a, h1, h2, δ, S, ok, h3⟩ := mu_read hr σ H Q q
    exact ⟨_, h1, h2, h3 [] H S (.refl ok) .nil⟩
  cases m with
  | append => exact fin (T := "") (id := "") (pe_bm0 PySem.F.plainAttrs_list PySem.F.slot_list_append PySem.F.type_list_append mt_append pn hbase hl) mu_append
  | extend => exact fin (T := "") (id := "") (pe_bm0 PySem.F.plainAttrs_list PySem.F.slot_list_extend PySem.F.type_list_extend mt_extend pn hbase hl) mu_extend
  | pop => exact fin (T := "") (id := "") (pe_bm0 PySem.F.plainAttrs_list PySem.F.slot_list_pop PySem.F.type_list_pop mt_pop pn hbase hl) mu_pop
  | popAt => exact fin (T := "") (id := "") (pe_bm0 PySem.F.plainAttrs_list PySem.F.slot_list_pop PySem.F.type_list_pop mt_popAt pn hbase hl) mu_popAt
  | clear => exact fin (T := "") (id := "") (pe_bm0 PySem.F.plainAttrs_list PySem.F.slot_list_clear PySem.F.type_list_clear mt_clear pn hbase hl) mu_clear
  | popD =>
    refine PE.imp (pe_bm0 PySem.F.plainAttrs_list PySem.F.slot_list_pop PySem.F.type_list_pop mt_pop pn hbase hl) fun σ H Q q => ?_
    obtain ⟨a, h1, h2, h3⟩ := mu_read (r := fun _ _ _ _ => False) (fun S H a o b d b' vs ds Q _ _ _ _ e _ => by cases e) σ H Q q
    obtain ⟨δ, S, ok, r⟩ := h3
    exact ⟨_, h1, h2, (r [] H S (.refl ok) .nil).elim⟩
/-- a constant of the module -/
theorem ok_gl (g : Good X W cn) {x : Str} {c : Dt} {pos : Pos} {u : Value} {v : V} (hn : glB cn x = true) (hm : X.mg x = some u) (r : RelV v u) (rp : ∀ S H, Rp X.K (hid S H) v c) : PE X (.Name x pos) (te cl X W (.gl x c)) := by
  obtain ⟨hg, hdb, hnn⟩ := glB_ok g hn
  exact PE.imp (pe_glob hg hm r hdb) fun σ H Q ⟨δ, S, ok, q⟩ => q v H S (.refl ok) (rp S H)
end
end Bw

set_option maxRecDepth 100000
set_option maxHeartbeats 4000000
namespace Bw
open PySem PySem.Spec PyProof.Rows L2
/-! ### what is walked -/
/-- what a walk gives while the frame goes on; what stands at L is not touched -/
def WkAt (K : PySem.W.Frag) (J : L2.It) (L : List Addr) (S : List Addr) (H : Hp) (ds : List Dt) : Prop :=
  ∃ (G : Hp → Prop) (Y : Nat → Hp → V → Hp → Prop), Walk J ds.length G Y ∧ ∀ S' H', Le (hid S H) (hid S' H') → (∀ b ∈ L, H' b = H b) → (∀ b, b ∈ S' → (H' b).isSome = true) → (∀ b, b ∈ S' → ∀ xs, H' b ≠ some (HO.tup xs)) →
    G H' ∧ ∀ i x H'' d, ds[i]? = some d → Y i H' x H'' → Le H' H'' ∧ Rp K (hid S' H'') x d
section
variable {K : PySem.W.Frag} {S : List Addr} {H : Hp} {L : List Addr}
theorem RpL.nth {K : PySem.W.Frag} {H : Hp} {vs : List V} {ds : List Dt} (t : RpL K H vs ds) {i : Nat} {v : V} {d : Dt} (h1 : vs[i]? = some v) (h2 : ds[i]? = some d) : Rp K H v d := by
  obtain ⟨u, g1, g2⟩ := t.get h2
  rw [h1] at g1; cases g1; exact g2
theorem wk_list {a : Addr} {xs : List V} {ds : List Dt} (h : ∀ H', (∀ S', Le (hid S H) (hid S' H') → (∀ b ∈ L, H' b = H b) → SqL K H' a xs)) (t : RpL K (hid S H) xs ds) : WkAt K (Itl K a) L S H ds :=
  ⟨fun H' => SqL K H' a xs, YAt xs, t.length ▸ walk_list, fun S' H' l k _ _ => ⟨h H' S' l k, fun i x H'' d e y => by
    obtain ⟨rfl, y2⟩ := y
    exact ⟨.refl _, (t.mono l).nth y2 e⟩⟩⟩
theorem wk_tup {a : Addr} {xs : List V} {ds : List Dt} (h : ∀ H', (∀ S', Le (hid S H) (hid S' H') → (∀ b ∈ L, H' b = H b) → SqT K H' a xs)) (t : RpL K (hid S H) xs ds) : WkAt K (Itt K a) L S H ds :=
  ⟨fun H' => SqT K H' a xs, YAt xs, t.length ▸ walk_tup, fun S' H' l k _ _ => ⟨h H' S' l k, fun i x H'' d e y => by
    obtain ⟨rfl, y2⟩ := y
    exact ⟨.refl _, (t.mono l).nth y2 e⟩⟩⟩
theorem wk_str {z : Str} : WkAt K (Its z) L S H (z.cps.toList.map fun c => .str ⟨#[c]⟩) := by
  refine ⟨fun _ => True, fun i H v H' => H' = H ∧ ∃ c, z.cps[i]? = some c ∧ v = .str ⟨#[c]⟩, ?_, fun S' H' l k _ _ => ⟨trivial, fun i x H'' d e y => ?_⟩⟩
  · have : (z.cps.toList.map fun c => (PyData.str ⟨#[c]⟩)).length = z.cps.size := by simp
    rw [this]; exact walk_str
  · obtain ⟨rfl, c, h1, rfl⟩ := y
    refine ⟨.refl _, ?_⟩
    rw [List.getElem?_map, Array.getElem?_toList, h1] at e
    cases e
    exact .str _
theorem rngL_len : ∀ (n : Nat) (lo : Int), (rngL lo n).length = n
  | 0, _ => rfl
  | n + 1, lo => congrArg (· + 1) (rngL_len n (lo + 1))
theorem rngL_at : ∀ (n : Nat) (lo : Int) (i : Nat) (d : Dt), (rngL lo n)[i]? = some d → d = .int (lo + i)
  | 0, _, i, d, h => by simp [rngL] at h
  | n + 1, lo, 0, d, h => by simp [rngL] at h; rw [← h]; simp
  | n + 1, lo, i + 1, d, h => by
    have := rngL_at n (lo + 1) i d (by simpa [rngL] using h)
    rw [this]; congr 1; push_cast; omega
theorem wk_range {lo : Int} {n : Nat} : WkAt K (Itr lo n) L S H (rngL lo n) := by
  refine ⟨fun _ => True, YFn fun i => .int (lo + i), by rw [rngL_len]; exact walk_range, fun S' H' l k _ _ => ⟨trivial, fun i x H'' d e y => ?_⟩⟩
  obtain ⟨rfl, rfl⟩ := y
  rw [rngL_at n lo i d e]
  exact ⟨.refl _, .int _⟩
theorem rngC_len {c : Int} : ∀ (n : Nat) (lo : Int), (rngC lo c n).length = n
  | 0, _ => rfl
  | n + 1, lo => congrArg (· + 1) (rngC_len n (lo + c))
theorem rngC_at {c : Int} : ∀ (n : Nat) (lo : Int) (i : Nat) (d : Dt), (rngC lo c n)[i]? = some d → d = .int (lo + (i : Nat) * c)
  | 0, _, i, d, h => by simp [rngC] at h
  | n + 1, lo, 0, d, h => by simp [rngC] at h; rw [← h]; simp
  | n + 1, lo, i + 1, d, h => by
    have := rngC_at n (lo + c) i d (by simpa [rngC] using h)
    rw [this]; congr 1
    have : (((i + 1 : Nat) : Int)) * c = (i : Int) * c + c := by push_cast; rw [Int.add_mul, Int.one_mul]
    rw [this]; omega
theorem wk_rangeC {lo c : Int} {n : Nat} : WkAt K (Itc lo c n) L S H (rngC lo c n) := by
  refine ⟨fun _ => True, YFn fun i => .int (lo + (i : Nat) * c), by rw [rngC_len]; exact walk_rangeC, fun S' H' l k _ _ => ⟨trivial, fun i x H'' d e y => ?_⟩⟩
  obtain ⟨rfl, rfl⟩ := y
  rw [rngC_at n lo i d e]
  exact ⟨.refl _, .int _⟩
/-- a new pair -/
theorem pair_rp {S' : List Addr} {H' : Hp} {T : Addr} {x y : V} {c d : Dt} (live : ∀ b, b ∈ S' → (H' b).isSome = true) (hT : H' T = none) (rx : Rp K (hid S' H') x c) (ry : Rp K (hid S' H') y d) :
    Le H' (upd H' T (.tup [x, y])) ∧ Rp K (hid S' (upd H' T (.tup [x, y]))) (.ref T) (.tuple [c, d]) :=
  ⟨le_upd hT, .tup (hid_upd live hT) (.cons (rx.mono (hid_upd_le hT)) (.cons (ry.mono (hid_upd_le hT)) .nil))⟩
theorem enumL_len : ∀ (k : Int) (ds : List Dt), (enumL k ds).length = ds.length
  | _, [] => rfl
  | k, d :: ds => congrArg (· + 1) (enumL_len (k + 1) ds)
theorem enumL_at : ∀ (k : Int) (ds : List Dt) (i : Nat) (d : Dt), (enumL k ds)[i]? = some d → ∃ e, ds[i]? = some e ∧ d = .tuple [.int (k + i), e]
  | _, [], i, d, h => by simp [enumL] at h
  | k, e :: ds, 0, d, h => by simp [enumL] at h; exact ⟨e, rfl, by rw [← h]; simp⟩
  | k, e :: ds, i + 1, d, h => by
    obtain ⟨e', h1, h2⟩ := enumL_at (k + 1) ds i d (by simpa [enumL] using h)
    refine ⟨e', by simpa using h1, ?_⟩
    rw [h2, show k + 1 + (i : Int) = k + ((i + 1 : Nat) : Int) by push_cast; omega]
theorem wk_enum {a : Addr} {xs : List V} {ds : List Dt} (h : ∀ H', (∀ S', Le (hid S H) (hid S' H') → SqL K H' a xs)) (t : RpL K (hid S H) xs ds) : WkAt K (Ite K a) L S H (enumL 0 ds) := by
  refine ⟨fun H' => SqL K H' a xs, _, by rw [enumL_len, ← t.length]; exact walk_enum, fun S' H' l k live _ => ⟨h H' S' l, fun i x H'' d e y => ?_⟩⟩
  obtain ⟨e', g1, rfl⟩ := enumL_at 0 ds i d e
  obtain ⟨T, u, w, rfl, hT, rfl, y1, y2⟩ := y
  cases y1
  rw [Int.zero_add]
  exact pair_rp live hT (.int _) ((t.mono l).nth y2 g1)
theorem walk_enumT {a : Addr} {xs : List V} : Walk (IteT K a) xs.length (fun H => SqT K H a xs) (YPair (fun i => some (.int (i : Nat))) (fun i => xs[i]?)) := by
  refine ⟨fun i _ hi q => ⟨xs, xs[i], q, by simp [hi]⟩, fun _ q => ⟨xs, q, rfl⟩, fun i H v H' _ q y => ?_⟩
  obtain ⟨T, x, h1, h2, h3, h4⟩ := y
  exact ⟨T, .int (i : Nat), x, h1, h2, h3, rfl, h4 xs q⟩
theorem wk_enumT {a : Addr} {xs : List V} {ds : List Dt} (h : ∀ H', (∀ S', Le (hid S H) (hid S' H') → SqT K H' a xs)) (t : RpL K (hid S H) xs ds) : WkAt K (IteT K a) L S H (enumL 0 ds) := by
  refine ⟨fun H' => SqT K H' a xs, _, by rw [enumL_len, ← t.length]; exact walk_enumT, fun S' H' l k live _ => ⟨h H' S' l, fun i x H'' d e y => ?_⟩⟩
  obtain ⟨e', g1, rfl⟩ := enumL_at 0 ds i d e
  obtain ⟨T, u, w, rfl, hT, rfl, y1, y2⟩ := y
  cases y1
  rw [Int.zero_add]
  exact pair_rp live hT (.int _) ((t.mono l).nth y2 g1)
theorem zipL_len : ∀ (as bs : List Dt), (zipL as bs).length = min as.length bs.length
  | [], _ => by simp [zipL]
  | _ :: _, [] => by simp [zipL]
  | a :: as, b :: bs => by simp [zipL, zipL_len as bs]
theorem zipL_at : ∀ (as bs : List Dt) (i : Nat) (d : Dt), (zipL as bs)[i]? = some d → ∃ a b, as[i]? = some a ∧ bs[i]? = some b ∧ d = .tuple [a, b]
  | [], _, i, d, h => by simp [zipL] at h
  | _ :: _, [], i, d, h => by simp [zipL] at h
  | a :: as, b :: bs, 0, d, h => by simp [zipL] at h; exact ⟨a, b, rfl, rfl, h.symm⟩
  | a :: as, b :: bs, i + 1, d, h => by
    obtain ⟨c, e, h1, h2, h3⟩ := zipL_at as bs i d (by simpa [zipL] using h)
    exact ⟨c, e, by simpa using h1, by simpa using h2, h3⟩
theorem wk_zip {a b : Addr} {xs ys : List V} {ds es : List Dt} (h : ∀ H', (∀ S', Le (hid S H) (hid S' H') → SqL K H' a xs ∧ SqL K H' b ys)) (t : RpL K (hid S H) xs ds) (u : RpL K (hid S H) ys es) : WkAt K (Itz K a b) L S H (zipL ds es) := by
  refine ⟨fun H' => SqL K H' a xs ∧ SqL K H' b ys, _, walk_zip (by rw [zipL_len, ← t.length, ← u.length]), fun S' H' l k live _ => ⟨h H' S' l, fun i x H'' d e y => ?_⟩⟩
  obtain ⟨c, c', g1, g2, rfl⟩ := zipL_at ds es i d e
  obtain ⟨T, v, w, rfl, hT, rfl, y1, y2⟩ := y
  exact pair_rp live hT ((t.mono l).nth y1 g1) ((u.mono l).nth y2 g2)
end
/-- a walk: what it is to touch not -/
def AIt (X : Cx) (σ : L2.St) (lk : List Nat) : Ans (List Dt) L2.It := fun _ ds δ' S' H' J => ∃ L, WkAt X.K J L S' H' ds ∧ ∀ b ∈ L, (H' b).isSome = true ∧ ∃ i ∈ lk, ∃ d, gt δ' i = some (d, true) ∧ σ[i]? = some (some (V.ref b))
theorem later_AIt {X : Cx} {σ : L2.St} {lk : List Nat} : Later X σ (AIt X σ lk) := fun _ _ _ _ _ _ _ _ _ _ _ _ _ q => q
def ti (cl : Cl) (X : Cx) (W : WX) (it : It) : TI := fun σ H R => ∃ δ S, StOk X.K S δ σ H ∧ Res X W (AIt X σ (lockI it)) δ S σ H (eit cl it δ) R
section
variable {cl : Cl} {X : Cx} {W : WX} {cn : Cn}
theorem sq_tup {S S' : List Addr} {H H' : Hp} {a : Addr} {xs : List V} (h : hid S H a = some (.tup xs)) (l : Le (hid S H) (hid S' H')) : SqT X.K H' a xs := .of (hid_back (l _ _ h))
theorem sq_list {S S' : List Addr} {H H' : Hp} {a : Addr} {xs : List V} (h : hid S H a = some (.lst xs)) (l : Le (hid S H) (hid S' H')) : SqL X.K H' a xs := .of (hid_back (l _ _ h))
/-- frozen things that are walked -/
theorem wk_val {S : List Addr} {H : Hp} {v : V} {d : Dt} {ds : List Dt} (r : Rp X.K (hid S H) v d) (e : walkD d = some ds) :
    (∃ a xs, v = .ref a ∧ SqL X.K H a xs ∧ WkAt X.K (Itl X.K a) [] S H ds) ∨ (∃ a xs, v = .ref a ∧ SqT X.K H a xs ∧ WkAt X.K (Itt X.K a) [] S H ds) ∨ ∃ z, v = .str z ∧ WkAt X.K (Its z) [] S H ds := by
  cases d <;> first | (cases e; done) | skip
  · cases e; cases r; exact .inr (.inr ⟨_, rfl, wk_str⟩)
  · cases e
    cases r with
    | lst h t => exact .inl ⟨_, _, rfl, .of (hid_back h), wk_list (fun H' S' l _ => sq_list h l) t⟩
  · cases e
    cases r with
    | tup h t => exact .inr (.inl ⟨_, _, rfl, .of (hid_back h), wk_tup (fun H' S' l _ => .of (hid_back (l _ _ h))) t⟩)
theorem Res.ok_of {α β : Type} {P : Ans α β} {δ : De} {S : List Addr} {σ : L2.St} {H : Hp} {r : R α} {Q : β → Hp → Prop} (h : Res X W P δ S σ H r Q) : (∃ a δ', r = .ok a δ') ∨ ∃ c x δ', r = .ex c x δ' := by
  cases r with
  | ok a δ' => exact .inl ⟨a, δ', rfl⟩
  | ex c x δ' => exact .inr ⟨c, x, δ', rfl⟩
  | bad => exact h.elim
theorem ti_val {e : E} {x tg : Expr} (h : PE X x (te cl X W e)) : PI X tg x (ti cl X W (.val e)) := by
  refine PI.imp (PI.or (pi_list h) (PI.or (pi_tup h) (pi_str h))) fun σ H R ⟨δ, S, ok, q⟩ => ?_
  have q' : Res X W (AIt X σ []) δ S σ H ((ev cl e δ).bind fun x δ1 => match walkD x.1 with
    | some ds => .ok ds δ1
    | none => .bad) R := q
  have fz := fun Q1 k => frz (P := AIt X σ []) (Q := R) (Q1 := Q1) (f := fun d δ1 => match walkD d with
    | some ds => .ok ds δ1
    | none => .bad) q' k
  rcases Res.ok_of (r := ev cl e δ) (P := AV X σ) (δ := δ) (S := S) (σ := σ) (H := H) (X := X) (W := W) (Q := fun _ _ => True) (fz _ fun _ _ _ _ _ _ _ _ => trivial) with ⟨a, δ', e1⟩ | ⟨c, y, δ', e1⟩
  · rw [e1] at fz
    cases e2 : walkD a.1 with
    | none =>
      rw [e1] at q'
      change Res X W _ δ S σ H (match walkD a.1 with
        | some ds => .ok ds δ'
        | none => .bad) R at q'
      rw [e2] at q'; exact q'.elim
    | some ds =>
      have key : ∀ v H1 S1, Mv X.K δ S σ H δ' S1 σ H1 → Rp X.K (hid S1 H1) v a.1 → ∀ J, WkAt X.K J [] S1 H1 ds → R J H1 := fun v H1 S1 m r J w => by
        rw [e1] at q'
        change Res X W _ δ S σ H (match walkD a.1 with
          | some ds => .ok ds δ'
          | none => .bad) R at q'
        rw [e2] at q'
        exact q' J H1 S1 m ⟨[], w, fun b hb => by cases hb⟩
      have dk : (∃ ys, a.1 = .list ys) ∨ (∃ ys, a.1 = .tuple ys) ∨ ∃ z, a.1 = .str z := by
        cases h : a.1 <;> rw [h] at e2 <;> first | exact .inl ⟨_, rfl⟩ | exact .inr (.inl ⟨_, rfl⟩) | exact .inr (.inr ⟨_, rfl⟩) | cases e2
      have goal : ∀ Q1 : VK, (∀ v H1 S1, Mv X.K δ S σ H δ' S1 σ H1 → Rp X.K (hid S1 H1) v a.1 → Q1 v H1) → te cl X W e σ H Q1 := fun Q1 k => ⟨δ, S, ok, by
        rw [e1]
        exact fun v H' S' m p => by
          obtain ⟨S2, m2, r⟩ := Vl.freeze m p
          exact k v H' S2 m2 r⟩
      rcases dk with ⟨ys, h⟩ | ⟨ys, h⟩ | ⟨z, h⟩
      · refine .inl (goal _ fun v H1 S1 m r => ?_)
        rcases wk_val r e2 with ⟨a', xs, rfl, s, w⟩ | ⟨a', xs, rfl, s, w⟩ | ⟨z, rfl, w⟩
        · exact ⟨a', rfl, ⟨xs, s⟩, key _ H1 S1 m r _ w⟩
        · rw [h] at r
          cases r with
          | lst hh t => rw [h] at e2; cases e2; exact ⟨a', rfl, ⟨_, .of (hid_back hh)⟩, key _ H1 S1 m (by rw [h]; exact .lst hh t) _ (wk_list (fun H' S' l _ => sq_list hh l) t)⟩
        · rw [h] at r; cases r
      · refine .inr (.inl (goal _ fun v H1 S1 m r => ?_))
        rw [h] at r e2
        cases e2
        cases r with
        | tup hh t => exact ⟨_, rfl, ⟨_, .of (hid_back hh)⟩, key _ H1 S1 m (by rw [h]; exact .tup hh t) _ (wk_tup (fun H' S' l _ => .of (hid_back (l _ _ hh))) t)⟩
      · refine .inr (.inr (goal _ fun v H1 S1 m r => ?_))
        rw [h] at r e2
        cases e2
        cases r
        exact ⟨_, rfl, key _ H1 S1 m (by rw [h]; exact .str z) _ wk_str⟩
  · refine .inl ⟨δ, S, ok, ?_⟩
    rw [e1] at q' ⊢
    exact q'
theorem ti_bor (g : Good X W cn) {i : Nat} {x : Str} {tg : Expr} {pos : Pos} (hn : nmB cn i x = true) : PI X tg (.Name x pos) (ti cl X W (.bor i)) := by
  have h := nmB_ok (pos := pos) g hn
  refine PI.imp (PI.or (pi_list h) (PI.or (pi_tup h) (pi_str h))) fun σ H R ⟨δ, S, ok, q⟩ => ?_
  change Res X W (AIt X σ [i]) δ S σ H (match gt δ i with
    | some (d, _) => match walkD d with
      | some ds => .ok ds δ
      | none => .bad
    | none => .bad) R at q
  cases e : gt δ i with
  | none => rw [e] at q; exact q.elim
  | some p =>
    obtain ⟨d, f⟩ := p
    rw [e] at q
    change Res X W (AIt X σ [i]) δ S σ H (match walkD d with
      | some ds => .ok ds δ
      | none => .bad) R at q
    cases e2 : walkD d with
    | none => rw [e2] at q; exact q.elim
    | some ds =>
      rw [e2] at q
      obtain ⟨v, h1, _, h2, h3⟩ := ok.at e
      have key : ∀ J L, WkAt X.K J L S H ds → (∀ b ∈ L, (H b).isSome = true ∧ ∃ j ∈ [i], ∃ c, gt δ j = some (c, true) ∧ σ[j]? = some (some (V.ref b))) → R J H := fun J L w z => q J H S (.refl ok) ⟨L, w, z⟩
      cases f with
      | false =>
        rcases wk_val (h2 rfl) e2 with ⟨a', xs, rfl, s, w⟩ | ⟨a', xs, rfl, s, w⟩ | ⟨z, rfl, w⟩
        · exact .inl ⟨_, h1, a', rfl, ⟨xs, s⟩, key _ _ w fun b hb => by cases hb⟩
        · exact .inr (.inl ⟨_, h1, a', rfl, ⟨xs, s⟩, key _ _ w fun b hb => by cases hb⟩)
        · exact .inr (.inr ⟨_, h1, _, rfl, key _ _ w fun b hb => by cases hb⟩)
      | true =>
        obtain ⟨a, o, rfl, ha, ho, w⟩ := h3 rfl
        cases w with
        | lst t =>
          cases e2
          refine .inl ⟨_, h1, a, rfl, ⟨_, .of ho⟩, key _ [a] (wk_list (fun H' S' l k => .of ((k a List.mem_cons_self).trans ho)) t) fun b hb => ?_⟩
          cases (List.mem_singleton.mp hb)
          exact ⟨ok.live _ ha, i, List.mem_singleton.mpr rfl, _, e, h1⟩
        | dK t => cases e2
        | dT t => cases e2
theorem RpL.one {K : PySem.W.Frag} {H : Hp} {vs : List V} {d : Dt} (h : RpL K H vs [d]) : ∃ v, vs = [v] ∧ Rp K H v d := by
  cases h with
  | cons h t => cases t; exact ⟨_, rfl, h⟩
theorem RpL.two {K : PySem.W.Frag} {H : Hp} {vs : List V} {d e : Dt} (h : RpL K H vs [d, e]) : ∃ v u, vs = [v, u] ∧ Rp K H v d ∧ Rp K H u e := by
  cases h with
  | cons h t =>
    obtain ⟨u, rfl, hu⟩ := t.one
    exact ⟨_, _, rfl, h, hu⟩
theorem RpL.three {K : PySem.W.Frag} {H : Hp} {vs : List V} {d e f : Dt} (h : RpL K H vs [d, e, f]) : ∃ v u w, vs = [v, u, w] ∧ Rp K H v d ∧ Rp K H u e ∧ Rp K H w f := by
  cases h with
  | cons h t =>
    obtain ⟨u, w, rfl, hu, hw⟩ := t.two
    exact ⟨_, _, _, rfl, h, hu, hw⟩
/-- the argument list's reading, by the walk's -/
theorem it_args {es : Es} {lk : List Nat} {f : List Dt → De → R (List Dt)} {σ : L2.St} {H : Hp} {R0 : L2.It → Hp → Prop} {δ : De} {S : List Addr} (ok : StOk X.K S δ σ H) (q : Res X W (AIt X σ lk) δ S σ H ((evs cl es δ).bind f) R0)
    {Q1 : List V → Hp → Prop} (k : ∀ ds δ1 vs H1 S1, StOk X.K S1 δ1 σ H1 → RpL X.K (hid S1 H1) vs ds → Res X W (AIt X σ lk) δ1 S1 σ H1 (f ds δ1) R0 → Q1 vs H1) : tes cl X W es σ H Q1 :=
  ⟨δ, S, ok, Res.bind (P := ALs X) later_AIt q fun ds δ1 vs H1 S1 m rs q1 => k ds δ1 vs H1 S1 m.ok rs q1⟩
theorem big_ok {i : Int} (h : big i = true) : -(2 ^ 62) ≤ i ∧ i < 2 ^ 62 := by
  unfold big at h
  simpa only [Bool.and_eq_true, decide_eq_true_eq] using h
theorem ti_rng1 (g : Good X W cn) {a : E} {x tg : Expr} {p pos : Pos} (hn : glB cn "range" = true) (hs : isStar x = false) (h : PA X [x] (tes cl X W (.cons a .nil))) : PI X tg (.Call (.Name "range" p) [x] [] pos) (ti cl X W (.rng1 a)) := by
  obtain ⟨hg, _, _⟩ := glB_ok g hn
  refine PI.imp (pi_range1 hg (g.nob _ (by decide +kernel)) h (star_cons hs)) fun σ H R0 ⟨δ, S, ok, q⟩ => ?_
  refine it_args (es := .cons a .nil) (lk := []) (f := fun ds δ1 => match ds with
    | [.int j] => if big j = true then .ok (rngL 0 j.toNat) δ1 else .bad
    | _ => .bad) (R0 := R0) ok (by
      have e : eit cl (.rng1 a) δ = (evs cl (.cons a .nil) δ).bind fun ds δ1 => match ds with
        | [.int j] => if big j = true then .ok (rngL 0 j.toNat) δ1 else .bad
        | _ => .bad := by
        show ((ev cl a δ).bind _) = (((ev cl a δ).bind _).bind _)
        cases ev cl a δ with
        | ok y δ1 =>
          obtain ⟨d, w⟩ := y
          cases d <;> rfl
        | ex c y δ1 => rfl
        | bad => rfl
      rw [← e]; exact q) fun ds δ1 vs H1 S1 ok1 rs q1 => ?_
  split at q1
  · rename_i j
    split at q1
    · rename_i hb
      obtain ⟨v, rfl, r⟩ := rs.one
      cases r
      obtain ⟨b1, b2⟩ := big_ok hb
      exact ⟨j, rfl, b1, b2, q1 _ H1 S1 (.refl ok1) ⟨[], wk_range, fun b hb => by cases hb⟩⟩
    · exact q1.elim
  · exact q1.elim
theorem ti_rng2 (g : Good X W cn) {a b : E} {x y tg : Expr} {p pos : Pos} (hn : glB cn "range" = true) (hs : isStar x = false) (hs2 : isStar y = false) (h : PA X [x, y] (tes cl X W (.cons a (.cons b .nil)))) : PI X tg (.Call (.Name "range" p) [x, y] [] pos) (ti cl X W (.rng2 a b)) := by
  obtain ⟨hg, _, _⟩ := glB_ok g hn
  refine PI.imp (pi_range2 hg (g.nob _ (by decide +kernel)) h (by rw [star_cons hs, star_cons hs2]; rfl) (by rw [star_cons hs2]; rfl)) fun σ H R0 ⟨δ, S, ok, q⟩ => ?_
  refine it_args (es := .cons a (.cons b .nil)) (lk := []) (f := fun ds δ1 => match ds with
    | [.int i, .int j] => if big i = true ∧ big j = true then .ok (rngL i (j - i).toNat) δ1 else .bad
    | _ => .bad) (R0 := R0) ok (by
      have e : eit cl (.rng2 a b) δ = (evs cl (.cons a (.cons b .nil)) δ).bind fun ds δ1 => match ds with
        | [.int i, .int j] => if big i = true ∧ big j = true then .ok (rngL i (j - i).toNat) δ1 else .bad
        | _ => .bad := by
        show ((ev cl a δ).bind fun x δ1 => (ev cl b δ1).bind _) = (((ev cl a δ).bind fun x δ1 => (((ev cl b δ1).bind _).bind _)).bind _)
        cases ev cl a δ with
        | ok y δ1 =>
          obtain ⟨d, w⟩ := y
          simp only [R.bind]
          cases ev cl b δ1 with
          | ok z δ2 =>
            obtain ⟨d', w'⟩ := z
            cases d <;> cases d' <;> rfl
          | ex c y δ1 => rfl
          | bad => rfl
        | ex c y δ1 => rfl
        | bad => rfl
      rw [← e]; exact q) fun ds δ1 vs H1 S1 ok1 rs q1 => ?_
  split at q1
  · rename_i i j
    split at q1
    · rename_i hb
      obtain ⟨v, u, rfl, r, r2⟩ := rs.two
      cases r
      cases r2
      obtain ⟨b1, b2⟩ := big_ok hb.1
      obtain ⟨b3, b4⟩ := big_ok hb.2
      exact ⟨i, j, rfl, ⟨b1, b2, b3, b4⟩, q1 _ H1 S1 (.refl ok1) ⟨[], wk_range, fun b hb => by cases hb⟩⟩
    · exact q1.elim
  · exact q1.elim
theorem ti_rng3 (g : Good X W cn) {a b c : E} {x y z tg : Expr} {p pos : Pos} (hn : glB cn "range" = true) (hs : isStar x = false) (hs2 : isStar y = false) (hs3 : isStar z = false) (h : PA X [x, y, z] (tes cl X W (.cons a (.cons b (.cons c .nil))))) :
    PI X tg (.Call (.Name "range" p) [x, y, z] [] pos) (ti cl X W (.rng3 a b c)) := by
  obtain ⟨hg, _, _⟩ := glB_ok g hn
  refine PI.imp (pi_range3 hg (g.nob _ (by decide +kernel)) h (star_cons hs) (by rw [star_cons hs2, star_cons hs3]; rfl)) fun σ H R0 ⟨δ, S, ok, q⟩ => ?_
  refine it_args (es := .cons a (.cons b (.cons c .nil))) (lk := []) (f := fun ds δ1 => match ds with
    | [.int i, .int j, .int k] => if big i = true ∧ big j = true ∧ k = -1 then .ok (rngC i (-1) (i - j).toNat) δ1 else .bad
    | _ => .bad) (R0 := R0) ok (by
      have e : eit cl (.rng3 a b c) δ = (evs cl (.cons a (.cons b (.cons c .nil))) δ).bind fun ds δ1 => match ds with
        | [.int i, .int j, .int k] => if big i = true ∧ big j = true ∧ k = -1 then .ok (rngC i (-1) (i - j).toNat) δ1 else .bad
        | _ => .bad := by
        show ((ev cl a δ).bind fun x δ1 => (ev cl b δ1).bind fun y δ2 => (ev cl c δ2).bind _) = (((ev cl a δ).bind fun x δ1 => ((ev cl b δ1).bind fun y δ2 => (((ev cl c δ2).bind _).bind _)).bind _).bind _)
        cases ev cl a δ with
        | ok y δ1 =>
          obtain ⟨d, w⟩ := y
          simp only [R.bind]
          cases ev cl b δ1 with
          | ok z δ2 =>
            obtain ⟨d', w'⟩ := z
            simp only
            cases ev cl c δ2 with
            | ok z δ2 =>
              obtain ⟨d'', w''⟩ := z
              cases d <;> cases d' <;> cases d'' <;> rfl
            | ex c y δ1 => rfl
            | bad => rfl
          | ex c y δ1 => rfl
          | bad => rfl
        | ex c y δ1 => rfl
        | bad => rfl
      rw [← e]; exact q) fun ds δ1 vs H1 S1 ok1 rs q1 => ?_
  split at q1
  · rename_i i j k
    split at q1
    · rename_i hb
      obtain ⟨v, u, w, rfl, r, r2, r3⟩ := rs.three
      cases r
      cases r2
      cases r3
      obtain ⟨b1, b2⟩ := big_ok hb.1
      obtain ⟨b3, b4⟩ := big_ok hb.2.1
      have hk := hb.2.2
      subst hk
      exact ⟨i, j, -1, (i - j).toNat, rfl, RgC.neg b1 b2 b3 b4, q1 _ H1 S1 (.refl ok1) ⟨[], wk_rangeC, fun b hb => by cases hb⟩⟩
    · exact q1.elim
  · exact q1.elim
theorem ti_enum (g : Good X W cn) {a : E} {x : Expr} {ts : List Expr} {kk : Nat} {tpos p pos : Pos} (hn : glB cn "enumerate" = true) (hs : isStar x = false) (h : PA X [x] (tes cl X W (.cons a .nil))) : PI X (.Tuple ts kk tpos) (.Call (.Name "enumerate" p) [x] [] pos) (ti cl X W (.enum a)) := by
  obtain ⟨hg, _, _⟩ := glB_ok g hn
  refine PI.imp (pi_enumA hg (g.nob _ (by decide +kernel)) h (star_cons hs)) fun σ H R0 ⟨δ, S, ok, q⟩ => ?_
  refine it_args (es := .cons a .nil) (lk := []) (f := fun ds δ1 => match ds with
    | [.list xs] => .ok (enumL 0 xs) δ1
    | [.tuple xs] => .ok (enumL 0 xs) δ1
    | _ => .bad) (R0 := R0) ok (by
      have e : eit cl (.enum a) δ = (evs cl (.cons a .nil) δ).bind fun ds δ1 => match ds with
        | [.list xs] => .ok (enumL 0 xs) δ1
        | [.tuple xs] => .ok (enumL 0 xs) δ1
        | _ => .bad := by
        show ((ev cl a δ).bind _) = (((ev cl a δ).bind _).bind _)
        cases ev cl a δ with
        | ok y δ1 =>
          obtain ⟨d, w⟩ := y
          cases d <;> rfl
        | ex c y δ1 => rfl
        | bad => rfl
      rw [← e]; exact q) fun ds δ1 vs H1 S1 ok1 rs q1 => ?_
  split at q1
  · obtain ⟨v, rfl, r⟩ := rs.one
    cases r with
    | lst hh t => exact ⟨_, _, rfl, .inl ⟨.of (hid_back hh), q1 _ H1 S1 (.refl ok1) ⟨[], wk_enum (fun H' S' l => sq_list hh l) t, fun b hb => by cases hb⟩⟩⟩
  · obtain ⟨v, rfl, r⟩ := rs.one
    cases r with
    | tup hh t => exact ⟨_, _, rfl, .inr ⟨.of (hid_back hh), q1 _ H1 S1 (.refl ok1) ⟨[], wk_enumT (fun H' S' l => sq_tup hh l) t, fun b hb => by cases hb⟩⟩⟩
  · exact q1.elim
theorem ti_zip (g : Good X W cn) {a b : E} {x y : Expr} {ts : List Expr} {kk : Nat} {tpos p pos : Pos} (hn : glB cn "zip" = true) (hs : isStar x = false) (hs2 : isStar y = false) (h : PA X [x, y] (tes cl X W (.cons a (.cons b .nil)))) :
    PI X (.Tuple ts kk tpos) (.Call (.Name "zip" p) [x, y] [] pos) (ti cl X W (.zip a b)) := by
  obtain ⟨hg, _, _⟩ := glB_ok g hn
  refine PI.imp (pi_zip hg (g.nob _ (by decide +kernel)) h (star_cons hs) (by rw [star_cons hs2]; rfl)) fun σ H R0 ⟨δ, S, ok, q⟩ => ?_
  refine it_args (es := .cons a (.cons b .nil)) (lk := []) (f := fun ds δ1 => match ds with
    | [.list xs, .list ys] => .ok (zipL xs ys) δ1
    | _ => .bad) (R0 := R0) ok (by
      have e : eit cl (.zip a b) δ = (evs cl (.cons a (.cons b .nil)) δ).bind fun ds δ1 => match ds with
        | [.list xs, .list ys] => .ok (zipL xs ys) δ1
        | _ => .bad := by
        show ((ev cl a δ).bind fun x δ1 => (ev cl b δ1).bind _) = (((ev cl a δ).bind fun x δ1 => (((ev cl b δ1).bind _).bind _)).bind _)
        cases ev cl a δ with
        | ok y δ1 =>
          obtain ⟨d, w⟩ := y
          simp only [R.bind]
          cases ev cl b δ1 with
          | ok z δ2 =>
            obtain ⟨d', w'⟩ := z
            cases d <;> cases d' <;> rfl
          | ex c y δ1 => rfl
          | bad => rfl
        | ex c y δ1 => rfl
        | bad => rfl
      rw [← e]; exact q) fun ds δ1 vs H1 S1 ok1 rs q1 => ?_
  split at q1
  · obtain ⟨v, u, rfl, r, r2⟩ := rs.two
    cases r with
    | lst hh t =>
      cases r2 with
      | lst hh2 t2 => exact ⟨_, _, _, _, rfl, .of (hid_back hh), .of (hid_back hh2), q1 _ H1 S1 (.refl ok1) ⟨[], wk_zip (fun H' S' l => ⟨sq_list hh l, sq_list hh2 l⟩) t t2, fun b hb => by cases hb⟩⟩
  · exact q1.elim
end
end Bw

set_option maxRecDepth 100000
set_option maxHeartbeats 4000000
namespace Bw
open PySem PySem.Spec PyProof.Rows L2
/-! ### names that are set, forgotten, restored -/
section
variable {K : PySem.W.Frag} {δ0 δ δ' δ1 δw δe δr : De} {S0 S S' S1 Se : List Addr} {σ0 σ σ' σw : L2.St} {H0 H H' H1 He : Hp}
/-- a name is set -/
theorem mv_set (m : Mv K δ0 S0 σ0 H0 δ S σ H) {v : V} {d : Dt} {w : Bool} (q : Vl K H0 S δ σ H v d w) (i : Nat) : Mv K δ0 S0 σ0 H0 (st δ i (some (d, w))) S (σ.set i (some v)) H := by
  have ok := m.ok
  have hl := ok.len
  by_cases hi : i < δ.length
  · have hi' : i < σ.length := hl ▸ hi
    have old : ∀ {j : Nat} {x : Option (Dt × Bool)}, j ≠ i → (δ.set i (some (d, w)))[j]? = some x → δ[j]? = some x := fun {j x} hj g => by
      rw [List.getElem?_set_ne (Ne.symm hj)] at g; exact g
    have here : ∀ {x : Option (Dt × Bool)}, (δ.set i (some (d, w)))[i]? = some x → x = some (d, w) := fun {x} g => by
      rw [List.getElem?_set_self hi] at g; cases g; rfl
    have so : ∀ {j : Nat}, j ≠ i → (σ.set i (some v))[j]? = σ[j]? := fun {j} hj => List.getElem?_set_ne (Ne.symm hj)
    have sh : (σ.set i (some v))[i]? = some (some v) := List.getElem?_set_self hi'
    have own : ∀ b, Own (st δ i (some (d, w))) (σ.set i (some v)) b → Own δ σ b ∨ (w = true ∧ v = .ref b) := fun b ⟨j, c, g1, g2⟩ => by
      by_cases hj : j = i
      · subst hj
        have e := here g1
        cases e
        rw [sh] at g2
        cases g2
        exact .inr ⟨rfl, rfl⟩
      · exact .inl ⟨j, c, old hj g1, so hj ▸ g2⟩
    refine ⟨m.keep, m.sub, m.sup, fun b h => ?_, m.some, m.live, ?_⟩
    · rcases own b h with h | ⟨rfl, rfl⟩
      · exact m.own b h
      · obtain ⟨p, o, e, hp, _⟩ := q
        cases e; exact .inr hp
    · refine ⟨by show (δ.set i _).length = _; rw [List.length_set, List.length_set]; exact hl, fun j c g => ?_, fun j c g => ?_, fun j k c c' a g1 g2 h1 h2 => ?_, ok.live, ok.nt⟩
      · by_cases hj : j = i
        · subst hj
          have e := here g
          cases e
          exact ⟨v, sh, q⟩
        · obtain ⟨u, g1, g2⟩ := ok.val j c (old hj g)
          exact ⟨u, (so hj).trans g1, g2⟩
      · by_cases hj : j = i
        · subst hj
          have e := here g
          cases e
          obtain ⟨p, o, rfl, _, hs, _, ho, wo⟩ := q
          exact ⟨p, o, sh, hs, ho, wo⟩
        · obtain ⟨a, o, g1, g2⟩ := ok.own j c (old hj g)
          exact ⟨a, o, (so hj).trans g1, g2⟩
      · have no : ∀ {k : Nat} {c' : Dt}, k ≠ i → (st δ i (some (d, w)))[k]? = some (some (c', true)) → (σ.set i (some v))[k]? = some (some (V.ref a)) → w = true → v = .ref a → False := fun {k c'} hk g h e1 e2 => by
          subst e1
          obtain ⟨p, o, e, _, _, hn, _⟩ := q
          rw [e2] at e; cases e
          exact hn ⟨k, c', old hk g, so hk ▸ h⟩
        by_cases hj : j = i
        · by_cases hk : k = i
          · rw [hj, hk]
          · exfalso
            subst hj
            have e := here g1
            cases e
            rw [sh] at h1; cases h1
            exact no hk g2 h2 rfl rfl
        · by_cases hk : k = i
          · exfalso
            subst hk
            have e := here g2
            cases e
            rw [sh] at h2; cases h2
            exact no hj g1 h1 rfl rfl
          · exact ok.inj j k c c' a (old hj g1) (old hk g2) ((so hj).symm.trans h1) ((so hk).symm.trans h2)
  · have e1 : st δ i (some (d, w)) = δ := List.set_eq_of_length_le (by omega)
    have e2 : σ.set i (some v) = σ := List.set_eq_of_length_le (by omega)
    rw [e1, e2]; exact m
theorem wipeD_get : ∀ {is : List Nat} {δ : De} {j : Nat} {x : Dt × Bool}, (wipeD δ is)[j]? = some (some x) → j ∉ is ∧ δ[j]? = some (some x)
  | [], _, _, _, h => ⟨by simp, h⟩
  | i :: is, δ, j, x, h => by
    unfold wipeD at h
    by_cases hj : i = j
    · subst hj
      by_cases hl : i < (wipeD δ is).length
      · rw [List.getElem?_set_self hl] at h; cases h
      · rw [List.getElem?_eq_none (by simpa using hl)] at h; cases h
    · rw [List.getElem?_set_ne hj] at h
      obtain ⟨h1, h2⟩ := wipeD_get h
      exact ⟨by simp only [List.mem_cons, not_or]; exact ⟨fun e => hj e.symm, h1⟩, h2⟩
theorem wipeD_len : ∀ (is : List Nat) (δ : De), (wipeD δ is).length = δ.length
  | [], _ => rfl
  | i :: is, δ => by unfold wipeD; rw [List.length_set, wipeD_len is δ]
theorem wipe_out : ∀ {vs : List Nat} {σ : L2.St} {j : Nat}, j ∉ vs → (wipe σ vs)[j]? = σ[j]?
  | [], _, _, _ => rfl
  | v :: vs, σ, j, h => by
    simp only [List.mem_cons, not_or] at h
    unfold wipe
    rw [List.getElem?_set_ne (fun e => h.1 e.symm)]
    exact wipe_out h.2
theorem wipe_in : ∀ {vs : List Nat} {σ : L2.St} {j : Nat}, j ∈ vs → j < σ.length → (wipe σ vs)[j]? = some none
  | v :: vs, σ, j, h, hl => by
    unfold wipe
    by_cases e : v = j
    · subst e
      rw [List.getElem?_set_self (by rw [wipe_length]; exact hl)]
    · rw [List.getElem?_set_ne e]
      exact wipe_in (by rcases List.mem_cons.mp h with h | h; exact absurd h.symm e; exact h) hl
theorem wipe_ext {vs : List Nat} {σ τ : L2.St} (hl : σ.length = τ.length) (h : ∀ j, j ∉ vs → σ[j]? = τ[j]?) : wipe σ vs = wipe τ vs := by
  apply List.ext_getElem?
  intro j
  by_cases hj : j ∈ vs
  · by_cases hk : j < σ.length
    · rw [wipe_in hj hk, wipe_in hj (hl ▸ hk)]
    · rw [List.getElem?_eq_none (by rw [wipe_length]; omega), List.getElem?_eq_none (by rw [wipe_length]; omega)]
  · rw [wipe_out hj, wipe_out hj, h j hj]
/-- some names are forgotten -/
theorem mv_wipe (m : Mv K δ0 S0 σ0 H0 δ S σ H) {is : List Nat} (hl : σ'.length = σ.length) (h : ∀ j, j ∉ is → σ'[j]? = σ[j]?) : Mv K δ0 S0 σ0 H0 (wipeD δ is) S σ' H := by
  have ok := m.ok
  refine ⟨m.keep, m.sub, m.sup, fun b ⟨j, d, g1, g2⟩ => ?_, m.some, m.live, ?_⟩
  · obtain ⟨n, g⟩ := wipeD_get g1
    exact m.own b ⟨j, d, g, (h j n) ▸ g2⟩
  · refine ⟨by rw [wipeD_len, hl]; exact ok.len, fun j c g => ?_, fun j c g => ?_, fun j k c c' a g1 g2 h1 h2 => ?_, ok.live, ok.nt⟩
    · obtain ⟨n, g⟩ := wipeD_get g
      obtain ⟨u, e1, e2⟩ := ok.val j c g
      exact ⟨u, (h j n).trans e1, e2⟩
    · obtain ⟨n, g⟩ := wipeD_get g
      obtain ⟨a, o, e1, e2⟩ := ok.own j c g
      exact ⟨a, o, (h j n).trans e1, e2⟩
    · obtain ⟨n, g1⟩ := wipeD_get g1
      obtain ⟨n2, g2⟩ := wipeD_get g2
      exact ok.inj j k c c' a g1 g2 ((h j n).symm.trans h1) ((h k n2).symm.trans h2)
/-- a reserved thing is changed -/
theorem mv_poke (m : Mv K δ0 S0 σ0 H0 δ S σ H) {D : Addr} {ys : List V} (h0 : H0 D = none) (hD : D ∈ S) (hn : ¬ Own δ σ D) : Mv K δ0 S0 σ0 H0 δ S σ (upd H D (.lst ys)) := by
  have ok := m.ok
  have up : ∀ c, (H c).isSome = true → (upd H D (HO.lst ys) c).isSome = true := fun c h => by
    by_cases hc : c = D
    · rw [hc, upd_same]; rfl
    · rw [upd_ne hc]; exact h
  refine ⟨fun b o e n => ?_, m.sub, m.sup, m.own, fun b h => up b (m.some b h), m.live, ?_⟩
  · rw [upd_ne (ne_of_none e h0)]; exact m.keep b o e n
  · refine ⟨ok.len, fun j c g => ?_, fun j c g => ?_, ok.inj, fun b h => up b (ok.live b h), fun b h xs e => ?_⟩
    · rw [hid_in hD]; exact ok.val j c g
    · rw [hid_in hD]
      obtain ⟨a, o, e1, e2, e3, e4⟩ := ok.own j c g
      exact ⟨a, o, e1, e2, by rw [upd_ne fun z => hn ⟨j, c, g, by rw [← z]; exact e1⟩]; exact e3, e4⟩
    · by_cases hb : b = D
      · rw [hb, upd_same] at e; cases e
      · rw [upd_ne hb] at e; exact ok.nt b h xs e
/-- the forgotten names come back -/
theorem unwipe {vs : List Nat} (ok1 : StOk K S1 δ1 σ H1) (m : Mv K δw S1 σw H1 δe Se σw He) (hw : ∀ j x, δw[j]? = some (some x) → j ∉ vs ∧ δ1[j]? = some (some x)) (hσ : ∀ j, j ∉ vs → σw[j]? = σ[j]?)
    (hr1 : ∀ j x, j ∈ vs → δr[j]? = some (some x) → δ1[j]? = some (some x)) (hr2 : ∀ j, j ∉ vs → δr[j]? = δe[j]?) (hlen : δr.length = σ.length) :
    Mv K δ1 S1 σ H1 δr Se σ He ∧ ∀ b, Own δr σ b → Own δ1 σ b ∨ Own δe σw b := by
  have ow : ∀ b, Own δw σw b → Own δ1 σ b := fun b ⟨j, d, g1, g2⟩ => by
    obtain ⟨n, g⟩ := hw j _ g1
    exact ⟨j, d, g, (hσ j n) ▸ g2⟩
  have own2 : ∀ b, Own δr σ b → Own δ1 σ b ∨ Own δe σw b := fun b ⟨j, d, g1, g2⟩ => by
    by_cases hj : j ∈ vs
    · exact .inl ⟨j, d, hr1 j _ hj g1, g2⟩
    · exact .inr ⟨j, d, hr2 j hj ▸ g1, (hσ j hj).trans g2⟩
  have now : ∀ (j : Nat) (d : Dt) (a : Addr), j ∈ vs → δ1[j]? = some (some (d, true)) → σ[j]? = some (some (V.ref a)) → ¬ Own δw σw a := fun j d a hj g e ⟨k, c, g1, g2⟩ => by
    obtain ⟨n, g'⟩ := hw k _ g1
    have := ok1.inj j k d c a g g' e ((hσ k n).symm.trans g2)
    exact n (this ▸ hj)
  refine ⟨⟨fun b o e n => m.keep b o e fun z => n (ow b z), m.sub, fun b h => (m.sup b h).imp id (ow b), fun b h => ?_, m.some, m.live, ?_⟩, own2⟩
  · rcases own2 b h with h | h
    · exact .inl h
    · exact (m.own b h).imp (ow b) id
  · have okw : Le (hid S1 H1) (hid Se He) := hid_mono (fun b o q z => by
      rcases m.sub b z with z | z
      · exact z
      · rw [q] at z; cases z) fun b o h1 h2 => m.keep b o h2 fun z => h1 (ok1.own_mem (ow b z))
    refine ⟨hlen, fun j c g => ?_, fun j c g => ?_, fun j k c c' a g1 g2 h1 h2 => ?_, m.ok.live, m.ok.nt⟩
    · by_cases hj : j ∈ vs
      · obtain ⟨v, e1, e2⟩ := ok1.val j c (hr1 j _ hj g)
        exact ⟨v, e1, e2.mono okw⟩
      · obtain ⟨v, e1, e2⟩ := m.ok.val j c (hr2 j hj ▸ g)
        exact ⟨v, (hσ j hj).symm.trans e1, e2⟩
    · by_cases hj : j ∈ vs
      · have g' := hr1 j _ hj g
        obtain ⟨a, o, e1, e2, e3, e4⟩ := ok1.own j c g'
        have n := now j c a hj g' e1
        exact ⟨a, o, e1, (m.sup a e2).resolve_right n, m.keep a o e3 n, e4.mono okw⟩
      · obtain ⟨a, o, e1, e2⟩ := m.ok.own j c (hr2 j hj ▸ g)
        exact ⟨a, o, (hσ j hj).symm.trans e1, e2⟩
    · have mix : ∀ {j k : Nat} {c c' : Dt}, j ∈ vs → k ∉ vs → δr[j]? = some (some (c, true)) → δr[k]? = some (some (c', true)) → σ[j]? = some (some (V.ref a)) → σ[k]? = some (some (V.ref a)) → False := fun {j k c c'} hj hk g1 g2 h1 h2 => by
        have g' := hr1 j _ hj g1
        obtain ⟨a', o, e1, e2, e3, e4⟩ := ok1.own j c g'
        rw [h1] at e1; cases e1
        rcases m.own a ⟨k, c', hr2 k hk ▸ g2, (hσ k hk).trans h2⟩ with z | z
        · exact now j c a hj g' h1 z
        · rw [e3] at z; cases z
      by_cases hj : j ∈ vs
      · by_cases hk : k ∈ vs
        · exact ok1.inj j k c c' a (hr1 j _ hj g1) (hr1 k _ hk g2) h1 h2
        · exact (mix hj hk g1 g2 h1 h2).elim
      · by_cases hk : k ∈ vs
        · exact (mix hk hj g2 g1 h2 h1).elim
        · exact m.ok.inj j k c c' a (hr2 j hj ▸ g1) (hr2 k hk ▸ g2) ((hσ j hj).trans h1) ((hσ k hk).trans h2)
theorem backD_len : ∀ (is : List Nat) (δ0 δ : De), (backD δ0 δ is).length = δ.length
  | [], _, _ => rfl
  | i :: is, δ0, δ => by
    show ((backD δ0 δ is).set i _).length = _
    rw [List.length_set, backD_len is δ0 δ]
theorem backD_out : ∀ {is : List Nat} {δ0 δ : De} {j : Nat}, j ∉ is → (backD δ0 δ is)[j]? = δ[j]?
  | [], _, _, _, _ => rfl
  | i :: is, δ0, δ, j, h => by
    simp only [List.mem_cons, not_or] at h
    show ((backD δ0 δ is).set i _)[j]? = _
    rw [List.getElem?_set_ne (fun e => h.1 e.symm)]
    exact backD_out h.2
theorem backD_in : ∀ {is : List Nat} {δ0 δ : De} {j : Nat} {x : Dt × Bool}, j ∈ is → (backD δ0 δ is)[j]? = some (some x) → δ0[j]? = some (some x)
  | i :: is, δ0, δ, j, x, h, e => by
    change ((backD δ0 δ is).set i _)[j]? = _ at e
    by_cases hj : i = j
    · subst hj
      by_cases hl : i < (backD δ0 δ is).length
      · rw [List.getElem?_set_self hl] at e
        exact gt_some (Option.some.inj e)
      · rw [List.getElem?_eq_none (by simpa using hl)] at e; cases e
    · rw [List.getElem?_set_ne hj] at e
      exact backD_in (by rcases List.mem_cons.mp h with h | h; exact absurd h.symm hj; exact h) e
end
/-! ### targets -/
def tgsL : Tgs → Nat
  | .nil => 0
  | .cons _ ts => tgsL ts + 1
mutual
def gT (K : PySem.W.Frag) : Tg → TG
  | .nm i => gName i
  | .tp ts => gTup K (tgsL ts) (gTs K ts)
def gTs (K : PySem.W.Frag) : Tgs → TGs
  | .nil => gNil
  | .cons t ts => gCons (gT K t) (gTs K ts)
end
section
variable {cl : Cl} {X : Cx} {W : WX} {cn : Cn}
theorem ae_cons {t : Tg} {e : Expr} {es : List Expr} (m : mT cn t e = true) (env : Env) : assignEach (e :: es) env = (false, assign e env) :: assignEach es env := by
  cases t with
  | nm i => cases e <;> first | rfl | simp [mT] at m
  | tp ts => cases e <;> first | rfl | simp [mT] at m
mutual
theorem pg_T (g : Good X W cn) : ∀ (t : Tg) (e : Expr), mT cn t e = true → PG X e (gT X.K t)
  | .nm i, e, m => by
    cases e with
    | Name x pos =>
      simp only [mT, Bool.and_eq_true, decide_eq_true_eq] at m
      obtain ⟨h1, h2⟩ := g.sto x m.2
      exact pg_name (by rw [g.N]; exact g.nd) (by rw [g.N]; exact m.1) h1 h2
    | _ => simp [mT] at m
  | .tp ts, e, m => by
    cases e with
    | Tuple es k pos =>
      have m : mTs cn ts es = true := m
      obtain ⟨h1, h2, h3⟩ := pg_Ts g ts es m
      exact pg_tup g.calm h1 h2 h3
    | _ => simp [mT] at m
theorem pg_Ts (g : Good X W cn) : ∀ (ts : Tgs) (es : List Expr), mTs cn ts es = true → PGs X es (gTs X.K ts) ∧ (assignEach es X.env).length = tgsL ts ∧ (assignEach es X.env).findIdx? (·.1) = none
  | .nil, [], _ => ⟨pgs_nil, rfl, rfl⟩
  | .nil, _ :: _, m => by simp [mTs] at m
  | .cons _ _, [], m => by simp [mTs] at m
  | .cons t ts, e :: es, m => by
    simp only [mTs, Bool.and_eq_true] at m
    have a := ae_cons (es := es) m.1 X.env
    obtain ⟨h1, h2, h3⟩ := pg_Ts g ts es m.2
    refine ⟨pgs_cons (pg_T g t e m.1) h1 (by rw [a]; rfl), by rw [a, List.length_cons, h2]; rfl, ?_⟩
    rw [a, List.findIdx?_cons, h3]; rfl
end
mutual
theorem asg_T {K : PySem.W.Frag} : ∀ (t : Tg) {δ0 δ δ' : De} {S0 S : List Addr} {σ0 σ : L2.St} {H0 H : Hp} {v : V} {d : Dt} {Q : L2.St → Hp → Prop}, Mv K δ0 S0 σ0 H0 δ S σ H → Rp K (hid S H) v d → asgT t d δ = some δ' →
    (∀ σ', Mv K δ0 S0 σ0 H0 δ' S σ' H → σ'.length = σ.length → (∀ j, j ∉ tgN t → σ'[j]? = σ[j]?) → Q σ' H) → gT K t v σ H Q
  | .nm i, δ0, δ, δ', S0, S, σ0, σ, H0, H, v, d, Q, m, r, e, k => by
    cases e
    exact k _ (mv_set m (w := false) r i) (List.length_set ..) fun j hj => List.getElem?_set_ne fun z => hj (List.mem_singleton.mpr z.symm)
  | .tp ts, δ0, δ, δ', S0, S, σ0, σ, H0, H, v, d, Q, m, r, e, k => by
    cases d with
    | tuple xs =>
      have e : asgTs ts xs δ = some δ' := e
      cases r with
      | tup h t =>
        obtain ⟨hl, go⟩ := asg_Ts ts m t e k
        exact ⟨_, _, rfl, .of (hid_back h), hl, go⟩
    | _ => cases e
theorem asg_Ts {K : PySem.W.Frag} : ∀ (ts : Tgs) {δ0 δ δ' : De} {S0 S : List Addr} {σ0 σ : L2.St} {H0 H : Hp} {vs : List V} {ds : List Dt} {Q : L2.St → Hp → Prop}, Mv K δ0 S0 σ0 H0 δ S σ H → RpL K (hid S H) vs ds → asgTs ts ds δ = some δ' →
    (∀ σ', Mv K δ0 S0 σ0 H0 δ' S σ' H → σ'.length = σ.length → (∀ j, j ∉ tgsN ts → σ'[j]? = σ[j]?) → Q σ' H) → vs.length = tgsL ts ∧ gTs K ts vs σ H Q
  | .nil, δ0, δ, δ', S0, S, σ0, σ, H0, H, vs, ds, Q, m, t, e, k => by
    cases ds with
    | nil =>
      cases t
      cases e
      exact ⟨rfl, rfl, k σ m rfl fun _ _ => rfl⟩
    | cons => cases e
  | .cons u us, δ0, δ, δ', S0, S, σ0, σ, H0, H, vs, ds, Q, m, t, e, k => by
    cases ds with
    | nil => cases e
    | cons d ds =>
      change (match asgT u d δ with
        | some δ' => asgTs us ds δ'
        | none => none) = some δ' at e
      cases e1 : asgT u d δ with
      | none => rw [e1] at e; cases e
      | some δ1 =>
        rw [e1] at e
        cases t with
        | cons r t =>
          rename_i v vs
          have hl : vs.length = tgsL us := by
            have : ∀ (us : Tgs) (ds : List Dt) (δ δ' : De), asgTs us ds δ = some δ' → ds.length = tgsL us := by
              intro us
              induction us using Tgs.rec (motive_1 := fun _ => True) with
              | nm => trivial
              | tp => trivial
              | nil => intro ds δ δ' h; cases ds <;> first | rfl | cases h
              | cons t ts _ ih =>
                intro ds δ δ' h
                cases ds with
                | nil => cases h
                | cons d ds =>
                  change (match asgT t d δ with
                    | some δ' => asgTs ts ds δ'
                    | none => none) = some δ' at h
                  split at h
                  · show ds.length + 1 = _; rw [ih ds _ _ h]; rfl
                  · cases h
            rw [t.length]; exact this us ds _ _ e
          refine ⟨by show vs.length + 1 = _; rw [hl]; rfl, v, vs, rfl, asg_T u m r e1 fun σ1 m1 l1 a1 => ?_⟩
          exact (asg_Ts us m1 t e fun σ2 m2 l2 a2 => k σ2 m2 (l2.trans l1) fun j hj => by
            rw [show tgsN (.cons u us) = tgN u ++ tgsN us from rfl, List.mem_append, not_or] at hj
            exact (a2 j hj.2).trans (a1 j hj.1)).2
end
end
end Bw

set_option maxRecDepth 100000
set_option maxHeartbeats 4000000
namespace Bw
open PySem PySem.Spec PyProof.Rows L2
/-! ### comprehensions -/
def W0 : WX := fun _ _ _ _ => False
/-- an item, or none -/
def AO (X : Cx) : Ans (Option Dt) (Option V) := fun _ o _ S' H' v => match o, v with
  | some d, some y => Rp X.K (hid S' H') y d
  | none, none => True
  | _, _ => False
theorem later_AO {X : Cx} {σ : L2.St} : Later X σ (AO X) := fun _ _ _ _ _ _ _ _ _ _ _ _ _ q => q
section
variable {cl : Cl} {X : Cx} {W : WX} {cn : Cn}
/-- one turn -/
def lcT (tg : Tg) (own : List Nat) (body : De → R (Option Dt)) : Dt → De → R (Option Dt) := fun d δ2 => match asgT tg d (wipeD δ2 own) with
  | some δ3 => body δ3
  | none => .bad
def lcR (lk own : List Nat) (δ1 : De) (r : R (List Dt)) : R (Dt × Bool) := match r with
  | .ok r δ5 => if r.length ≤ lim then .ok (.list r, true) (backD δ1 (wipeD δ5 own) (lk ++ own)) else .bad
  | _ => .bad
theorem lcL_cons {f : Dt → De → R (Option Dt)} {d : Dt} {ds r : List Dt} {δ δ5 : De} (h : lcL f (d :: ds) δ = .ok r δ5) : ∃ o δ4 r', f d δ = .ok o δ4 ∧ lcL f ds δ4 = .ok r' δ5 ∧ r = (match o with | some x => x :: r' | none => r') := by
  change ((f d δ).bind fun o δ' => (lcL f ds δ').bind fun r δ'' => match o with
    | some x => .ok (x :: r) δ''
    | none => .ok r δ'') = .ok r δ5 at h
  cases e : f d δ with
  | ok o δ4 =>
    rw [e] at h
    change ((lcL f ds δ4).bind fun r δ'' => match o with
      | some x => .ok (x :: r) δ''
      | none => .ok r δ'') = .ok r δ5 at h
    cases e2 : lcL f ds δ4 with
    | ok r' δ6 =>
      rw [e2] at h
      cases o with
      | some x => cases h; exact ⟨some x, δ4, r', rfl, e2, rfl⟩
      | none => cases h; exact ⟨none, δ4, r, rfl, e2, rfl⟩
    | ex c x δ' => rw [e2] at h; cases h
    | bad => rw [e2] at h; cases h
  | ex c x δ' => rw [e] at h; cases h
  | bad => rw [e] at h; cases h
theorem lc_read {tg : Tg} {own : List Nat} {it : It} {body : De → R (Option Dt)} {tt : TT} {te' : TE} {X' : Cx} (hX : X'.K = X.K) (hsub : ∀ i ∈ tgN tg, i ∈ own)
    (hB : ∀ (σ2 : L2.St) (H2 : Hp) (δ3 : De) (S3 : List Addr) (Q : Option V → Hp → Prop), StOk X.K S3 δ3 σ2 H2 → Res X' W0 (AO X') δ3 S3 σ2 H2 (body δ3) Q → tt σ2 H2 fun b H3 => if b = true then te' σ2 H3 (fun y H4 => Q (some y) H4) else Q none H3)
    {σ : L2.St} {H : Hp} {Q : VK} {δ : De} {S : List Addr} (ok : StOk X.K S δ σ H) (q : Res X W (AV X σ) δ S σ H ((eit cl it δ).bind fun ds δ1 => lcR (lockI it) own δ1 (lcL (lcT tg own body) ds (wipeD δ1 (lockI it)))) Q) :
    tLc (ti cl X W it) (gT X.K tg) tt te' own σ H Q := by
  refine ⟨δ, S, ok, Res.bind (P := AIt X σ (lockI it)) later_AV q fun ds δ1 J H1 S1 m ⟨L, wk, hL⟩ q1 => fun D hD => ?_⟩
  have ok1 := m.ok
  generalize hf : lcT tg own body = f at q1
  cases e5 : lcL f ds (wipeD δ1 (lockI it)) with
  | ex c x δ' => rw [e5] at q1; exact q1.elim
  | bad => rw [e5] at q1; exact q1.elim
  | ok r δ5 =>
  rw [e5] at q1
  change Res X W (AV X σ) δ1 S1 σ H1 (if r.length ≤ lim then .ok (.list r, true) (backD δ1 (wipeD δ5 own) (lockI it ++ own)) else .bad) Q at q1
  rcases Nat.lt_or_ge lim r.length with hr | hr
  · rw [if_neg (Nat.not_le.mpr hr)] at q1; exact q1.elim
  rw [if_pos hr] at q1
  obtain ⟨G, Y, walk, step⟩ := wk
  have hσw : ∀ j, j ∉ own → (wipe σ own)[j]? = σ[j]? := fun j hj => wipe_out hj
  -- the frame in the block
  have mw0 : Mv X.K δ1 S1 σ H1 (wipeD δ1 (lockI it)) S1 σ H1 := mv_wipe (.refl ok1) rfl fun _ _ => rfl
  have mw : Mv X.K δ1 S1 σ H1 (wipeD (wipeD δ1 (lockI it)) own) S1 (wipe σ own) H1 := mv_wipe mw0 (wipe_length σ own) hσw
  have okw := mw.ok
  have hget : ∀ j x, (wipeD (wipeD δ1 (lockI it)) own)[j]? = some (some x) → j ∉ lockI it ++ own ∧ δ1[j]? = some (some x) := fun j x g => by
    obtain ⟨n, g⟩ := wipeD_get g
    obtain ⟨n2, g⟩ := wipeD_get g
    exact ⟨by rw [List.mem_append, not_or]; exact ⟨n2, n⟩, g⟩
  have nL : ∀ b ∈ L, (H1 b).isSome = true ∧ ¬ Own (wipeD (wipeD δ1 (lockI it)) own) (wipe σ own) b := fun b hb => by
    obtain ⟨h1, i, hi, d, h2, h3⟩ := hL b hb
    refine ⟨h1, fun ⟨j, c, g1, g2⟩ => ?_⟩
    obtain ⟨n, g⟩ := hget j _ g1
    rw [List.mem_append, not_or] at n
    have := ok1.inj i j d c b (gt_some h2) g h3 ((hσw j n.2).symm.trans g2)
    exact n.1 (this ▸ hi)
  refine lc_it walk (fun i H' => ∃ δi Si rs d1 d2, r = d1 ++ d2 ∧ lcL f (ds.drop i) δi = .ok d2 δ5 ∧ Mv X.K (wipeD (wipeD δ1 (lockI it)) own) S1 (wipe σ own) H1 (wipeD δi own) Si (wipe σ own) H' ∧ D ∈ Si ∧ ¬ Own (wipeD δi own) (wipe σ own) D ∧ H' D = some (.lst rs) ∧ RpL X.K (hid Si H') rs d1) ?_ ?_ ?_ ?_
  · obtain ⟨S', m', p, o, e, _, hs, hn, ho, w⟩ := Mv.laidOwn okw hD (Ow.lst (ds := []) .nil)
    cases e
    rw [upd_same] at ho
    cases ho
    exact ⟨wipeD δ1 (lockI it), S', [], [], r, rfl, e5, m', hs, hn, upd_same, .nil⟩
  · intro i H' hi ⟨δi, Si, rs, d1, d2, _, _, m', _⟩
    exact (step Si H' (m'.le okw) (fun b hb => by
      obtain ⟨h1, h2⟩ := nL b hb
      cases z : H1 b with
      | none => rw [z] at h1; cases h1
      | some o => exact m'.keep b o z h2) m'.ok.live m'.ok.nt).1
  · intro i x H' H'' hi ⟨δi, Si, rs, d1, d2, er, el, m', hDs, hDn, hDl, hrs⟩ y
    have hi' : i < ds.length := hi
    have hdd : ds.drop i = ds[i] :: ds.drop (i + 1) := List.drop_eq_getElem_cons hi'
    rw [hdd] at el
    obtain ⟨o, δ4, r', ef, el', er'⟩ := lcL_cons el
    obtain ⟨le, rx⟩ := (step Si H' (m'.le okw) (fun b hb => by
      obtain ⟨h1, h2⟩ := nL b hb
      cases z : H1 b with
      | none => rw [z] at h1; cases h1
      | some o => exact m'.keep b o z h2) m'.ok.live m'.ok.nt).2 i x H'' ds[i] (by simp [hi']) y
    have mg : Mv X.K (wipeD δi own) Si (wipe σ own) H' (wipeD δi own) Si (wipe σ own) H'' := .grow m'.ok le
    rw [← hf] at ef
    unfold lcT at ef
    cases ea : asgT tg ds[i] (wipeD δi own) with
    | none => rw [ea] at ef; cases ef
    | some δ3 =>
    rw [ea] at ef
    refine asg_T tg mg rx ea fun σ2 m3 l3 a3 => ?_
    have hw2 : wipe σ2 own = wipe σ own := by
      have : wipe σ2 own = wipe (wipe σ own) own := wipe_ext l3 fun j hj => a3 j fun z => hj (hsub j z)
      rw [this]
      exact wipe_ext (wipe_length σ own) hσw
    refine ⟨hw2, ?_⟩
    have hD2 : H'' D = some (.lst rs) := le _ _ hDl
    have nD2 : ¬ Own δ3 σ2 D := fun z => by
      rcases m3.own D z with z | z
      · exact hDn z
      · rw [hDl] at z; cases z
    have sD2 : D ∈ Si := hDs
    have := hB σ2 H'' δ3 Si (fun v H4 => match v with
      | some y => ∃ acc, H4 D = some (.lst acc) ∧ acc.length < sizeLine ∧ ∃ δi Si rs d1 d2, r = d1 ++ d2 ∧ lcL f (ds.drop (i + 1)) δi = .ok d2 δ5 ∧ Mv X.K (wipeD (wipeD δ1 (lockI it)) own) S1 (wipe σ own) H1 (wipeD δi own) Si (wipe σ own) (upd H4 D (.lst (acc ++ [y]))) ∧ D ∈ Si ∧ ¬ Own (wipeD δi own) (wipe σ own) D ∧ (upd H4 D (.lst (acc ++ [y]))) D = some (.lst rs) ∧ RpL X.K (hid Si (upd H4 D (.lst (acc ++ [y])))) rs d1
      | none => ∃ δi Si rs d1 d2, r = d1 ++ d2 ∧ lcL f (ds.drop (i + 1)) δi = .ok d2 δ5 ∧ Mv X.K (wipeD (wipeD δ1 (lockI it)) own) S1 (wipe σ own) H1 (wipeD δi own) Si (wipe σ own) H4 ∧ D ∈ Si ∧ ¬ Own (wipeD δi own) (wipe σ own) D ∧ H4 D = some (.lst rs) ∧ RpL X.K (hid Si H4) rs d1) m3.ok (by
      change body δ3 = _ at ef
      rw [ef]
      intro v H4 S4 m4 p
      rw [hX] at m4
      have nD4 : ¬ Own δ4 σ2 D := fun z => by
        rcases m4.own D z with z | z
        · exact nD2 z
        · rw [hD2] at z; cases z
      have sD4 : D ∈ S4 := (m4.sup D sD2).resolve_right nD2
      have hD4 : H4 D = some (.lst rs) := m4.keep D _ hD2 nD2
      have mAll : Mv X.K (wipeD (wipeD δ1 (lockI it)) own) S1 (wipe σ own) H1 δ4 S4 σ2 H4 := (m'.trans m3).trans m4
      have mW : Mv X.K (wipeD (wipeD δ1 (lockI it)) own) S1 (wipe σ own) H1 (wipeD δ4 own) S4 (wipe σ own) H4 := hw2 ▸ mv_wipe mAll (wipe_length σ2 own) fun j hj => wipe_out hj
      have nDW : ¬ Own (wipeD δ4 own) (wipe σ own) D := fun ⟨j, c, g1, g2⟩ => by
        obtain ⟨n, g⟩ := wipeD_get g1
        refine nD4 ⟨j, c, g, ?_⟩
        rw [← wipe_out (σ := σ2) n, hw2]; exact g2
      have hrs4 : RpL X.K (hid S4 H4) rs d1 := (m3.trans m4).rpl m'.ok hrs
      cases o with
      | none =>
        cases v with
        | some y => exact (show False from p).elim
        | none =>
          exact ⟨δ4, S4, rs, d1, r', by rw [er, er'], el', mW, sD4, nDW, hD4, hrs4⟩
      | some d =>
        cases v with
        | none => exact (show False from p).elim
        | some y =>
          have p : Rp X'.K (hid S4 H4) y d := p
          rw [hX] at p
          refine ⟨rs, hD4, ?_, δ4, S4, rs ++ [y], d1 ++ [d], r', by rw [er, er', List.append_assoc]; rfl, el', mv_poke mW hD sD4 nDW, sD4, nDW, upd_same, ?_⟩
          · rw [hrs4.length]
            have : r.length = d1.length + (r'.length + 1) := by rw [er, er', List.length_append]; rfl
            unfold lim at hr
            omega
          · rw [hid_in sD4]
            exact hrs4.append (.cons p .nil))
    exact this
  · intro H' ⟨δi, Si, rs, d1, d2, er, el, m', hDs, hDn, hDl, hrs⟩
    rw [List.drop_length] at el
    cases el
    rw [List.append_nil] at er
    subst er
    obtain ⟨mu, ow⟩ := unwipe (δr := backD δ1 (wipeD δ5 own) (lockI it ++ own)) ok1 m' hget (fun j hj => hσw j fun z => hj (List.mem_append.mpr (.inr z))) (fun j x hj g => backD_in hj g) (fun j hj => backD_out hj)
      (by rw [backD_len, m'.ok.len, wipe_length])
    refine q1 (.ref D) H' Si mu ⟨D, _, rfl, hD, hDs, fun z => ?_, hDl, .lst hrs⟩
    rcases ow D z with z | z
    · have := ok1.live D (ok1.own_mem z)
      rw [hD] at this; cases this
    · exact hDn z
end
end Bw

set_option maxRecDepth 100000
set_option maxHeartbeats 4000000
namespace Bw
open PySem PySem.Spec PyProof.Rows L2
section
variable {cl : Cl} {X : Cx} {W : WX} {cn : Cn}
theorem good_blk (g : Good X W cn) {scope : Scope} {own : List (Str × Nat)} (hb : blkC cn.N cn.sc scope own = true) (s : Shared) (H : Hp) (C : Addr) (l : List (Str × Addr)) (fp : List Addr) :
    Good (X.blk s H scope (compEnvC scope l C X.env) fp) W0 (cnIn cn scope) := by
  have bk := blkOk_by hb
  refine ⟨g.N, g.nd, ?_, fun x hx => ?_, bk.kind, g.calm, g.hu, fun u s' h => ?_, g.nob⟩
  · show relS scope X.env.scope = relS scope cn.sc
    rw [g.sc]
  · have hx : isLC (scope.names.lookup x) = true := hx
    cases e : scope.names.lookup x with
    | none => rw [e] at hx; cases hx
    | some k =>
      rw [e] at hx
      cases k <;> first | (cases hx; done) | skip
      · have : (relS scope X.env.scope).names.lookup x = some .local := lookup_relS_keep (by decide) e
        exact ⟨.inl this, .inr this⟩
      · have : (relS scope X.env.scope).names.lookup x = some .cell := lookup_relS_keep (by decide) e
        exact ⟨.inr this, .inl (by show (scope.names.lookup x == some .cell) = true; rw [e]; rfl)⟩
  · obtain ⟨a, B, sI, pins, σ, H', cls, d, e, I, nb, up, sky, na, os, ag, w⟩ := h
    exact w.elim
theorem own_snd (N : List Str) (own : List Nat) : (ownP N own).map (·.2) = own := by
  unfold ownP
  rw [List.map_map]
  exact List.map_id _
theorem all_in {tg : Tg} {own : List Nat} (h : (tgN tg).all own.contains = true) : ∀ i ∈ tgN tg, i ∈ own := fun i hi => by
  rw [List.all_eq_true] at h
  simpa using h i hi
theorem lc_imp {el : E} {tg : Tg} {it : It} {own : List Nat} (hsub : ∀ i ∈ tgN tg, i ∈ own) (N : List Str) (σ : L2.St) (H : Hp) (Q : VK) (h : te cl X W (.lc el tg it own) σ H Q) : tLc (ti cl X W it) (gT X.K tg) tYes (te cl X W0 el) ((ownP N own).map (·.2)) σ H Q := by
  obtain ⟨δ, S, ok, q⟩ := h
  rw [own_snd]
  refine lc_read (X' := X) (body := fun δ3 => (ev cl el δ3).bind fun x δ4 => .ok (some x.1) δ4) rfl hsub (fun σ2 H2 δ3 S3 Q ok3 q3 => ?_) ok (by
    have e : ev cl (.lc el tg it own) δ = (eit cl it δ).bind fun ds δ1 => lcR (lockI it) own δ1 (lcL (lcT tg own fun δ3 => (ev cl el δ3).bind fun x δ4 => .ok (some x.1) δ4) ds (wipeD δ1 (lockI it))) := rfl
    rw [← e]; exact q)
  show (if true = true then te cl X W0 el σ2 H2 (fun y H4 => Q (some y) H4) else Q none H2)
  rw [if_pos rfl]
  exact ⟨δ3, S3, ok3, frz (P := AO X) (f := fun d δ4 => R.ok (some d) δ4) q3 fun d δ1 v H1 S1 m r q1 => q1 (some v) H1 S1 m r⟩
theorem lcf_imp {el c : E} {tg : Tg} {it : It} {own : List Nat} (hsub : ∀ i ∈ tgN tg, i ∈ own) (N : List Str) (σ : L2.St) (H : Hp) (Q : VK) (h : te cl X W (.lcf el tg it c own) σ H Q) :
    tLc (ti cl X W it) (gT X.K tg) (tt cl X W0 c) (te cl X W0 el) ((ownP N own).map (·.2)) σ H Q := by
  obtain ⟨δ, S, ok, q⟩ := h
  rw [own_snd]
  refine lc_read (X' := X) (body := fun δ3 => (tb (ev cl c δ3)).bind fun b δ4 => if b = true then (ev cl el δ4).bind fun x δ5 => .ok (some x.1) δ5 else .ok none δ4) rfl hsub (fun σ2 H2 δ3 S3 Q ok3 q3 => ?_) ok (by
    have e : ev cl (.lcf el tg it c own) δ = (eit cl it δ).bind fun ds δ1 => lcR (lockI it) own δ1 (lcL (lcT tg own fun δ3 => (tb (ev cl c δ3)).bind fun b δ4 => if b = true then (ev cl el δ4).bind fun x δ5 => .ok (some x.1) δ5 else .ok none δ4) ds (wipeD δ1 (lockI it))) := rfl
    rw [← e]; exact q)
  refine ⟨δ3, S3, ok3, Res.bind (P := AB) later_AO q3 fun b δ4 v H4 S4 m p q4 => ?_⟩
  cases p
  cases b with
  | true =>
    rw [if_pos rfl]
    exact ⟨δ4, S4, m.ok, frz (P := AO X) (f := fun d δ4 => R.ok (some d) δ4) q4 fun d δ1 v H1 S1 m r q1 => q1 (some v) H1 S1 m r⟩
  | false =>
    rw [if_neg (by decide)]
    exact q4 none H4 S4 (.refl m.ok) trivial
theorem no_fold {it : It} {x : Expr} (m : mI cn it x = true) (env : Env) : ∀ y, foldedSetIterable x env y = pure y := by
  intro y
  cases x <;> first | rfl | skip
  exfalso
  cases it with
  | val e => cases e <;> simp [mI, mE] at m
  | _ => simp [mI] at m
section
variable {el c : E} {tg : Tg} {it : It} {own : List Nat} {elt d t iter : Expr} {scope : Scope} {pos : Pos}
theorem ok_lc (g : Good X W cn) (hb : blkC cn.N cn.sc scope (ownP cn.N own) = true) (mt : mT (cnIn cn scope) tg t = true) (hs : (tgN tg).all own.contains = true) (mi : mI cn it iter = true) (hi : PI X t iter (ti cl X W it))
    (he : ∀ (s : Shared) (H : Hp) (C : Addr) (l : List (Str × Addr)) (fp : List Addr), PE (X.blk s H scope (compEnvC scope l C X.env) fp) elt (te cl (X.blk s H scope (compEnvC scope l C X.env) fp) W0 el)) :
    PE X (.ListComp elt [⟨t, iter, [], 0⟩] scope pos) (te cl X W (.lc el tg it own)) := by
  refine PE.imp (pe_lc (own := ownP cn.N own) (te := te cl X W0 el) g.calm (by rw [g.N]; exact g.nd) hi (by rw [g.N, g.sc]; exact blkOk_by hb) (fun s H C l fp => pg_T (good_blk g hb s H C l fp) tg t mt) (fun s H C l fp => pts_nil) (fun s H C l fp => he s H C l fp) (no_fold mi X.env)) fun σ H Q h => lc_imp (all_in hs) cn.N σ H Q h
theorem ok_lcf (g : Good X W cn) (hb : blkC cn.N cn.sc scope (ownP cn.N own) = true) (mt : mT (cnIn cn scope) tg t = true) (hs : (tgN tg).all own.contains = true) (mi : mI cn it iter = true) (hi : PI X t iter (ti cl X W it))
    (hc : ∀ (s : Shared) (H : Hp) (C : Addr) (l : List (Str × Addr)) (fp : List Addr), PT (X.blk s H scope (compEnvC scope l C X.env) fp) d (tt cl (X.blk s H scope (compEnvC scope l C X.env) fp) W0 c))
    (he : ∀ (s : Shared) (H : Hp) (C : Addr) (l : List (Str × Addr)) (fp : List Addr), PE (X.blk s H scope (compEnvC scope l C X.env) fp) elt (te cl (X.blk s H scope (compEnvC scope l C X.env) fp) W0 el)) :
    PE X (.ListComp elt [⟨t, iter, [d], 0⟩] scope pos) (te cl X W (.lcf el tg it c own)) := by
  refine PE.imp (pe_lc (own := ownP cn.N own) (te := te cl X W0 el) (tt := tt cl X W0 c) g.calm (by rw [g.N]; exact g.nd) hi (by rw [g.N, g.sc]; exact blkOk_by hb) (fun s H C l fp => pg_T (good_blk g hb s H C l fp) tg t mt) (fun s H C l fp => pts_one (hc s H C l fp)) (fun s H C l fp => he s H C l fp) (no_fold mi X.env)) fun σ H Q h => lcf_imp (all_in hs) cn.N σ H Q h
/-- name = [..] on one line -/
theorem ok_setLc (g : Good X W cn) {i : Nat} {y : Str} {py spos : Pos} (hy : cn.N[i]? = some y) (hl : cn.sc.names.lookup y = some .local) (hln : (py.line == pos.line) = true) (hno : (scope.names.any fun (n, k) => n == y && (k == .local || k == .cell)) = false)
    (hb : blkC cn.N cn.sc scope (ownP cn.N own) = true) (mt : mT (cnIn cn scope) tg t = true) (hs : (tgN tg).all own.contains = true) (mi : mI cn it iter = true) (hi : PI X t iter (ti cl X W it))
    (he : ∀ (s : Shared) (H : Hp) (C : Addr) (l : List (Str × Addr)) (fp : List Addr), PE (X.blk s H scope (compEnvC scope l C X.env) fp) elt (te cl (X.blk s H scope (compEnvC scope l C X.env) fp) W0 el)) :
    PS X (.Assign [.Name y py] (.ListComp elt [⟨t, iter, [], 0⟩] scope pos) spos) (tAsg (te cl X W (.lc el tg it own)) (gName i)) := by
  have hl' : X.env.scope.names.lookup y = some .local := by rw [g.sc]; exact hl
  refine PS.imp (ps_setLc (own := ownP cn.N own) (te := te cl X W0 el) g.calm (by rw [g.N]; exact g.nd) (by rw [g.N]; exact hy) hl' (sw_true g.kd hl' hln hno) hi (by rw [g.N, g.sc]; exact blkOk_by hb) (fun s H C l fp => pg_T (good_blk g hb s H C l fp) tg t mt) (fun s H C l fp => pts_nil) (fun s H C l fp => he s H C l fp) (no_fold mi X.env))
    fun D σ H h => lc_imp (all_in hs) cn.N σ H _ h
theorem ok_setLcf (g : Good X W cn) {i : Nat} {y : Str} {py spos : Pos} (hy : cn.N[i]? = some y) (hl : cn.sc.names.lookup y = some .local) (hln : (py.line == pos.line) = true) (hno : (scope.names.any fun (n, k) => n == y && (k == .local || k == .cell)) = false)
    (hb : blkC cn.N cn.sc scope (ownP cn.N own) = true) (mt : mT (cnIn cn scope) tg t = true) (hs : (tgN tg).all own.contains = true) (mi : mI cn it iter = true) (hi : PI X t iter (ti cl X W it))
    (hc : ∀ (s : Shared) (H : Hp) (C : Addr) (l : List (Str × Addr)) (fp : List Addr), PT (X.blk s H scope (compEnvC scope l C X.env) fp) d (tt cl (X.blk s H scope (compEnvC scope l C X.env) fp) W0 c))
    (he : ∀ (s : Shared) (H : Hp) (C : Addr) (l : List (Str × Addr)) (fp : List Addr), PE (X.blk s H scope (compEnvC scope l C X.env) fp) elt (te cl (X.blk s H scope (compEnvC scope l C X.env) fp) W0 el)) :
    PS X (.Assign [.Name y py] (.ListComp elt [⟨t, iter, [d], 0⟩] scope pos) spos) (tAsg (te cl X W (.lcf el tg it c own)) (gName i)) := by
  have hl' : X.env.scope.names.lookup y = some .local := by rw [g.sc]; exact hl
  refine PS.imp (ps_setLc (own := ownP cn.N own) (te := te cl X W0 el) (tt := tt cl X W0 c) g.calm (by rw [g.N]; exact g.nd) (by rw [g.N]; exact hy) hl' (sw_true g.kd hl' hln hno) hi (by rw [g.N, g.sc]; exact blkOk_by hb) (fun s H C l fp => pg_T (good_blk g hb s H C l fp) tg t mt) (fun s H C l fp => pts_one (hc s H C l fp)) (fun s H C l fp => he s H C l fp) (no_fold mi X.env))
    fun D σ H h => lcf_imp (all_in hs) cn.N σ H _ h
end
end
end Bw

set_option maxRecDepth 100000
set_option maxHeartbeats 4000000
namespace Bw
open PySem PySem.Spec PyProof.Rows L2
/-! ### calls -/
/-- a callee's arguments as a frame: the first may be its own -/
def dArgs (b : Bool) : List Dt → De
  | [] => []
  | a :: r => some (a, b) :: r.map fun d => some (d, false)
/-- what the arguments have become -/
def dFin (b : Bool) (x : Dt) (as : List Dt) : De := match b with
  | true => dArgs true (x :: as.tail)
  | false => dArgs false as
/-- what a def promises -/
def spF (K : PySem.W.Frag) (mg : Str → Option Value) (np : Nat) (b : Bool) (cl : Cl) (f : Str) : Sp := fun vs H Q E => vs.length = np ∧ ∃ as S, StOk K S (dArgs b as) (vs.map some) H ∧ match cl f as with
  | .ok d w x => ∀ v H' S', Mv K (dArgs b as) S (vs.map some) H (dFin b x as) S' (vs.map some) H' → Vl K H S' (dFin b x as) (vs.map some) H' v d w → Q v H'
  | .ex c x _ => b = false ∧ ∀ H' S' cls dd, Mv K (dArgs b as) S (vs.map some) H (dArgs b as) S' (vs.map some) H' → ExM K mg S' H' c x cls dd → E cls dd H'
  | .bad => False
/-- the defs that may be called -/
structure Calls (io : Str → Option Bool) (cl : Cl) (X : Cx) : Prop where
  fn : ∀ x b, io x = some b → ∃ np k f fd ps, FnOk X.prog X.w X.K X.mg X.base (L2.CX X.prog X.w) k f fd ps (spF X.K X.mg np b cl x) ∧ Room k X.A ∧ X.mg x = some (.ref f) ∧ PySem.W.keepIn X.K (.ref f) = true ∧ Binds X.K fd ps [] ∧ (∀ as, cl x as ≠ .bad → as.length = np)
  nex : ∀ x as c y z, io x = some true → cl x as ≠ .ex c y z
theorem Calls.blk {io : Str → Option Bool} {cl : Cl} {X : Cx} (h : Calls io cl X) (s : Shared) (H : Hp) (scope : Scope) (e : Env) (fp : List Addr) : Calls io cl (X.blk s H scope e fp) := ⟨h.fn, h.nex⟩
section
variable {K : PySem.W.Frag} {δ0 δ δ' : De} {S0 S S' : List Addr} {σ0 σ : L2.St} {H0 H H' : Hp}
theorem call_mv {P : Addr → Prop} (m : Mv K δ0 S0 σ0 H0 δ S σ H) (hP : ∀ b, P b → b ∈ S ∧ ¬ Own δ σ b ∧ (H0 b = none ∨ Own δ0 σ0 b)) (k : ∀ b o, H b = some o → ¬ P b → H' b = some o) (hs : ∀ b, (H b).isSome = true → (H' b).isSome = true)
    (sub : ∀ b, b ∈ S' → b ∈ S ∨ H b = none) (sup : ∀ b, b ∈ S → b ∈ S') (live : ∀ b, b ∈ S' → (H' b).isSome = true) (nt : ∀ b, b ∈ S' → ∀ xs, H' b ≠ some (HO.tup xs)) : Mv K δ0 S0 σ0 H0 δ S' σ H' := by
  have ok := m.ok
  have l : Le (hid S H) (hid S' H') := hid_mono (fun b o q z => by
    rcases sub b z with z | z
    · exact z
    · rw [q] at z; cases z) fun b o h1 h2 => k b o h2 fun z => h1 (hP b z).1
  refine ⟨fun b o h1 h2 => k b o (m.keep b o h1 h2) fun z => ?_, fun b h => ?_, fun b h => (m.sup b h).imp (sup b) id, m.own, fun b h => hs b (m.some b h), m.live, ?_⟩
  · rcases (hP b z).2.2 with z | z
    · rw [h1] at z; cases z
    · exact h2 z
  · rcases sub b h with h | h
    · exact m.sub b h
    · exact .inr (none_back (m.some b) h)
  · refine ⟨ok.len, fun i d g => ?_, fun i d g => ?_, ok.inj, live, nt⟩
    · obtain ⟨v, e1, e2⟩ := ok.val i d g
      exact ⟨v, e1, e2.mono l⟩
    · obtain ⟨a, o, e1, e2, e3, e4⟩ := ok.own i d g
      exact ⟨a, o, e1, sup a e2, k a o e3 fun z => (hP a z).2.1 ⟨i, d, g, e1⟩, e4.mono l⟩
/-- a name is an owner again -/
theorem mv_own_back {i : Nat} {a : Addr} {o : HO} {b : Dt} (m : Mv K δ0 S0 σ0 H0 δ S σ H) (hi : σ[i]? = some (some (V.ref a))) (ha : a ∈ S) (hn : ¬ Own δ σ a) (ho : H a = some o) (w : Ow K (hid S H) o b) (h0 : Own δ0 σ0 a ∨ H0 a = none) :
    Mv K δ0 S0 σ0 H0 (st δ i (some (b, true))) S σ H := by
  have ok := m.ok
  have hil : i < δ.length := ok.len ▸ (List.getElem?_eq_some_iff.mp hi).1
  have old : ∀ {j : Nat} {x : Option (Dt × Bool)}, j ≠ i → (st δ i (some (b, true)))[j]? = some x → δ[j]? = some x := fun {j x} hj g => by
    change (δ.set i _)[j]? = _ at g
    rw [List.getElem?_set_ne (Ne.symm hj)] at g; exact g
  have here : ∀ {x : Option (Dt × Bool)}, (st δ i (some (b, true)))[i]? = some x → x = some (b, true) := fun {x} g => by
    change (δ.set i _)[i]? = _ at g
    rw [List.getElem?_set_self hil] at g; cases g; rfl
  have own : ∀ c, Own (st δ i (some (b, true))) σ c → Own δ σ c ∨ c = a := fun c ⟨j, d, g1, g2⟩ => by
    by_cases hj : j = i
    · subst hj
      rw [hi] at g2; cases g2; exact .inr rfl
    · exact .inl ⟨j, d, old hj g1, g2⟩
  refine ⟨m.keep, m.sub, m.sup, fun c h => ?_, m.some, m.live, ?_⟩
  · rcases own c h with h | rfl
    · exact m.own c h
    · exact h0
  · refine ⟨by show (δ.set i _).length = _; rw [List.length_set]; exact ok.len, fun j c g => ?_, fun j c g => ?_, fun j k c c' x g1 g2 h1 h2 => ?_, ok.live, ok.nt⟩
    · by_cases hj : j = i
      · subst hj
        have e := here g
        cases e
      · exact ok.val j c (old hj g)
    · by_cases hj : j = i
      · subst hj
        have e := here g
        cases e
        exact ⟨a, o, hi, ha, ho, w⟩
      · exact ok.own j c (old hj g)
    · by_cases hj : j = i
      · by_cases hk : k = i
        · rw [hj, hk]
        · subst hj
          rw [hi] at h1; cases h1
          exact (hn ⟨k, c', old hk g2, h2⟩).elim
      · by_cases hk : k = i
        · subst hk
          rw [hi] at h2; cases h2
          exact (hn ⟨j, c, old hj g1, h1⟩).elim
        · exact ok.inj j k c c' x (old hj g1) (old hk g2) h1 h2
theorem gt_st_ne {δ : De} {i j : Nat} {x : Option (Dt × Bool)} (h : i ≠ j) : gt (st δ i x) j = gt δ j := by
  unfold gt st
  rw [List.getElem?_set_ne h]
theorem gt_st_same {δ : De} {i : Nat} {x : Option (Dt × Bool)} (h : i < δ.length) : gt (st δ i x) i = x := by
  unfold gt st
  rw [List.getElem?_set_self h]
theorem gt_rls_ne {δ : De} {i j : Nat} (h : i ≠ j) : gt (rls δ i) j = gt δ j := by
  unfold rls
  split
  · exact gt_st_ne h
  · rfl
theorem gt_rls {δ : De} {i j : Nat} : (gt (rls δ i) j).map (·.1) = (gt δ j).map (·.1) := by
  by_cases h : i = j
  · subst h
    unfold rls
    split
    · rename_i d e
      rw [gt_st_same (List.getElem?_eq_some_iff.mp (gt_some e)).1, e]; rfl
    · rfl
  · rw [gt_rls_ne h]
theorem gt_rlsAll {δ : De} {j : Nat} : ∀ {os : List Od}, (gt (rlsAll δ os) j).map (·.1) = (gt δ j).map (·.1)
  | [] => rfl
  | .d _ :: os => gt_rlsAll (os := os)
  | .v i :: os => by
    show (gt (rls (rlsAll δ os) i) j).map (·.1) = _
    rw [gt_rls]; exact gt_rlsAll
theorem gt_noV {δ : De} {j : Nat} : ∀ {os : List Od}, noV j os = true → gt (rlsAll δ os) j = gt δ j
  | [], _ => rfl
  | .d _ :: os, h => gt_noV (os := os) h
  | .v i :: os, h => by
    simp only [noV, Bool.and_eq_true, decide_eq_true_eq] at h
    show gt (rls (rlsAll δ os) i) j = _
    rw [gt_rls_ne h.1]; exact gt_noV h.2
/-- operands as frozen things -/
theorem rlsAll_ok (ok : StOk K S δ σ H) : ∀ {os : List Od} {vs : List V} {ds : List Dt}, OdL K S σ H os vs → ods δ os = some ds → ∃ S2, Mv K δ S σ H (rlsAll δ os) S2 σ H ∧ RpL K (hid S2 H) vs ds ∧ ∀ b, b ∈ S2 → b ∈ S
  | _, _, _, .nil, e => by cases e; exact ⟨S, .refl ok, .nil, fun _ h => h⟩
  | _, _, _, .d (x := x) (os := os) r t, e => by
    unfold ods at e
    split at e
    · rename_i d ds e1 e2
      cases e
      cases e1
      obtain ⟨S2, m, rs, h⟩ := rlsAll_ok ok t e2
      exact ⟨S2, m, .cons (m.rp ok r) rs, h⟩
    · cases e
  | _, _, _, .v (i := i) (v := v) (os := os) r t, e => by
    unfold ods at e
    split at e
    · rename_i d ds e1 e2
      cases e
      obtain ⟨S2, m, rs, h⟩ := rlsAll_ok ok t e2
      have e3 : (gt (rlsAll δ os) i).map (·.1) = some d := gt_rlsAll.trans e1
      cases e4 : gt (rlsAll δ os) i with
      | none => rw [e4] at e3; cases e3
      | some p =>
        rw [e4] at e3
        obtain ⟨d', f⟩ := p
        cases e3
        obtain ⟨v', S3, g1, g2, g3, _⟩ := rls_ok m.ok e4
        rw [r] at g1; cases g1
        refine ⟨S3, m.trans g2, .cons g3 (g2.rpl m.ok rs), fun b hb => ?_⟩
        rcases g2.sub b hb with z | z
        · exact h b z
        · have := g2.ok.live b hb
          rw [z] at this; cases this
    · cases e
end
mutual
theorem rp_plain {K : PySem.W.Frag} {S S' : List Addr} {H : Hp} (hn : ∀ b xs, H b = some (HO.tup xs) → b ∉ S') : ∀ {v : V} {d : Dt}, Rp K (hid S H) v d → plain d = true → Rp K (hid S' H) v d
  | _, _, .non, _ => .non
  | _, _, .bl b, _ => .bl b
  | _, _, .int i, _ => .int i
  | _, _, .str x, _ => .str x
  | _, _, .lst h t, e => by cases e
  | _, _, .scr h, e => by cases e
  | _, _, .tup h t, e => .tup (by rw [hid_of (hn _ _ (hid_back h))]; exact hid_back h) (rpl_plain hn t e)
  | _, _, .dK h t, e => by cases e
  | _, _, .dT h t, e => by cases e
theorem rpl_plain {K : PySem.W.Frag} {S S' : List Addr} {H : Hp} (hn : ∀ b xs, H b = some (HO.tup xs) → b ∉ S') : ∀ {vs : List V} {ds : List Dt}, RpL K (hid S H) vs ds → plains ds = true → RpL K (hid S' H) vs ds
  | _, _, .nil, _ => .nil
  | _, _, .cons h t, e => by
    simp only [plains, Bool.and_eq_true] at e
    exact .cons (rp_plain hn h e.1) (rpl_plain hn t e.2)
end
theorem ow_np {K : PySem.W.Frag} {G : Hp} {o : HO} {d : Dt} (w : Ow K G o d) : plain d = false := by cases w <;> rfl
theorem rpl_ints {K : PySem.W.Frag} {G G' : Hp} : ∀ {vs : List V} {ds : List Dt}, RpL K G vs ds → (intsD ds).isSome = true → RpL K G' vs ds
  | _, _, .nil, _ => .nil
  | _, _, .cons (d := d) h t, e => by
    cases d with
    | int i =>
      cases h
      refine .cons (.int _) (rpl_ints t ?_)
      simp only [intsD, Option.isSome_map] at e
      exact e
    | _ => simp [intsD] at e
theorem ow_ints {K : PySem.W.Frag} {G G' : Hp} {o : HO} {b : Dt} (w : Ow K G o b) (h : isIntL b = true) : Ow K G' o b := by
  cases w with
  | lst t => exact .lst (rpl_ints t h)
  | dK t => cases h
  | dT t => cases h
theorem dA_get {b : Bool} {as : List Dt} {i : Nat} {d : Dt} {f : Bool} (h : (dArgs b as)[i]? = some (some (d, f))) : as[i]? = some d ∧ (f = true → i = 0 ∧ b = true) := by
  cases as with
  | nil => simp [dArgs] at h
  | cons a r =>
    cases i with
    | zero => simp [dArgs] at h; obtain ⟨rfl, rfl⟩ := h; exact ⟨rfl, fun e => ⟨rfl, e⟩⟩
    | succ i =>
      simp only [dArgs, List.getElem?_cons_succ, List.getElem?_map] at h
      cases e : r[i]? with
      | none => rw [e] at h; cases h
      | some x => rw [e] at h; cases h; exact ⟨by simpa using e, fun z => by cases z⟩
theorem dA_len (b : Bool) (as : List Dt) : (dArgs b as).length = as.length := by
  cases as with
  | nil => rfl
  | cons a r => simp [dArgs]
section
variable {K : PySem.W.Frag} {S : List Addr} {H : Hp}
/-- frozen arguments -/
theorem args_ok {vs : List V} {as : List Dt} (rs : RpL K (hid S H) vs as) (live : ∀ b, b ∈ S → (H b).isSome = true) (nt : ∀ b, b ∈ S → ∀ xs, H b ≠ some (HO.tup xs)) : StOk K S (dArgs false as) (vs.map some) H := by
  refine ⟨by rw [dA_len, List.length_map, rs.length], fun i d g => ?_, fun i d g => ?_, fun i j d e a g1 => ?_, live, nt⟩
  · obtain ⟨v, h1, h2⟩ := rs.get (dA_get g).1
    exact ⟨v, by rw [List.getElem?_map, h1]; rfl, h2⟩
  · obtain ⟨_, z⟩ := (dA_get g).2 rfl; cases z
  · obtain ⟨_, z⟩ := (dA_get g1).2 rfl; cases z
theorem no_own {as : List Dt} {σ : L2.St} {b : Addr} : ¬ Own (dArgs false as) σ b := fun ⟨i, d, g, _⟩ => by
  obtain ⟨_, z⟩ := (dA_get g).2 rfl; cases z
/-- the first argument its own -/
theorem args_own {a : Addr} {o : HO} {b : Dt} {vs : List V} {as : List Dt} (rs : RpL K (hid S H) vs as) (ha : a ∈ S) (ho : H a = some o) (w : Ow K (hid S H) o b) (live : ∀ b, b ∈ S → (H b).isSome = true) (nt : ∀ b, b ∈ S → ∀ xs, H b ≠ some (HO.tup xs)) :
    StOk K S (dArgs true (b :: as)) ((V.ref a :: vs).map some) H := by
  refine ⟨by rw [dA_len, List.length_map, List.length_cons, List.length_cons, rs.length], fun i d g => ?_, fun i d g => ?_, fun i j d e a' g1 g2 _ _ => ?_, live, nt⟩
  · cases i with
    | zero => simp [dArgs] at g
    | succ i =>
      have := (dA_get g).1
      obtain ⟨v, h1, h2⟩ := rs.get (by simpa using this)
      exact ⟨v, by simp [h1], h2⟩
  · obtain ⟨z, _⟩ := (dA_get g).2 rfl
    subst z
    simp [dArgs] at g
    subst g
    exact ⟨a, o, rfl, ha, ho, w⟩
  · rw [((dA_get g1).2 rfl).1, ((dA_get g2).2 rfl).1]
end
section
variable {cl : Cl} {X : Cx} {W : WX} {cn : Cn}
/-- a value given back, seen from the caller -/
theorem vl_back {K : PySem.W.Frag} {H1 H' : Hp} {S' S'' : List Addr} {δa δ2 : De} {σa σ : L2.St} {v : V} {d : Dt} {w : Bool} (q : Vl K H1 S' δa σa H' v d w) (h : S'' = S' ∨ (plain d = true ∧ ∀ b xs, H' b = some (HO.tup xs) → b ∉ S''))
    (hn : ∀ p, H1 p = none → ¬ Own δ2 σ p) : Vl K H1 S'' δ2 σ H' v d w := by
  rcases h with rfl | ⟨h1, h2⟩
  · cases w with
    | false => exact q
    | true =>
      obtain ⟨p, o, e, hp, hs, _, ho, wo⟩ := q
      exact ⟨p, o, e, hp, hs, hn p hp, ho, wo⟩
  · cases w with
    | false => exact rp_plain h2 q h1
    | true =>
      obtain ⟨p, o, e, hp, hs, _, ho, wo⟩ := q
      rw [ow_np wo] at h1; cases h1
theorem ex_back {H' : Hp} {S' : List Addr} {c : Str} {x : Option Dt} {cls : Value} {dd : Option Addr} (h : ExM X.K X.mg S' H' c x cls dd) : ExV X S' H' c x cls dd := h
/-- f(..) -/
theorem call_read {f : Str} {es : Es} {np : Nat} (hnp : ∀ as, cl f as ≠ .bad → as.length = np) (σ : L2.St) (H : Hp) (Q : VK) (h : te cl X W (.call f es) σ H Q) : tCallS (spF X.K X.mg np false cl f) (WE W) (tos cl X W es) σ H Q := by
  obtain ⟨δ, S, ok, q⟩ := h
  refine ⟨δ, S, ok, Res.bind (P := AOds X σ) later_AV q fun os δ1 vs H1 S1 m1 ps q1 => ?_⟩
  have ok1 := m1.ok
  cases e : ods δ1 os with
  | none => simp only [e] at q1; exact q1.elim
  | some ds =>
  simp only [e] at q1
  obtain ⟨S2, m2, rs, hsub⟩ := rlsAll_ok ok1 ps e
  have okA : StOk X.K S2 (dArgs false ds) (vs.map some) H1 := args_ok rs m2.ok.live m2.ok.nt
  have hne : cl f ds ≠ .bad := fun z => by rw [z] at q1; exact q1.elim
  refine ⟨rs.length.trans (hnp ds hne), ds, S2, okA, ?_⟩
  -- behind the call
  have back : ∀ {H' : Hp} {S' : List Addr}, Mv X.K (dArgs false ds) S2 (vs.map some) H1 (dArgs false ds) S' (vs.map some) H' →
      Mv X.K δ1 S1 σ H1 (rlsAll δ1 os) S' σ H' ∧ Mv X.K δ1 S1 σ H1 δ1 (S' ++ S1) σ H' ∧ ∀ b xs, H' b = some (HO.tup xs) → b ∈ S' ++ S1 → False := fun {H' S'} mc => by
    have kp : ∀ b o, H1 b = some o → H' b = some o := fun b o z => mc.keep b o z no_own
    have nt1 : ∀ b, b ∈ S1 → ∀ xs, H' b ≠ some (HO.tup xs) := fun b hb xs z => by
      cases z1 : H1 b with
      | none => have := ok1.live b hb; rw [z1] at this; cases this
      | some o => rw [kp b o z1] at z; cases z; exact ok1.nt b hb xs z1
    refine ⟨call_mv (P := fun _ => False) m2 (fun b z => z.elim) (fun b o z _ => kp b o z) mc.some mc.sub (fun b hb => (mc.sup b hb).resolve_right no_own) mc.ok.live mc.ok.nt,
      call_mv (P := fun _ => False) (.refl ok1) (fun b z => z.elim) (fun b o z _ => kp b o z) mc.some (fun b hb => ?_) (fun b hb => List.mem_append.mpr (.inr hb)) (fun b hb => ?_) (fun b hb => ?_), fun b xs z hb => ?_⟩
    · rcases List.mem_append.mp hb with hb | hb
      · exact (mc.sub b hb).imp (hsub b) id
      · exact .inl hb
    · rcases List.mem_append.mp hb with hb | hb
      · exact mc.ok.live b hb
      · exact mc.some b (ok1.live b hb)
    · rcases List.mem_append.mp hb with hb | hb
      · exact mc.ok.nt b hb
      · exact nt1 b hb
    · rcases List.mem_append.mp hb with hb | hb
      · exact mc.ok.nt b hb xs z
      · exact nt1 b hb xs z
  have now : ∀ {δ2 : De} {S3 : List Addr}, StOk X.K S3 δ2 σ H1 → ∀ p, H1 p = none → ¬ Own δ2 σ p := fun {δ2 S3} ok2 p hp z => by
    have := ok2.live p (ok2.own_mem z)
    rw [hp] at this; cases this
  cases ec : cl f ds with
  | bad => exact (hne ec).elim
  | ok d w x =>
    rw [ec] at q1
    intro v H' S' mc vl
    obtain ⟨b1, b2, b3⟩ := back mc
    change Res X W (AV X σ) δ1 S1 σ H1 (.ok (d, w) (if plain d = true then δ1 else rlsAll δ1 os)) Q at q1
    by_cases hp : plain d = true
    · rw [if_pos hp] at q1
      exact q1 v H' (S' ++ S1) b2 (vl_back vl (.inr ⟨hp, fun b xs z hb => b3 b xs z hb⟩) (now ok1))
    · rw [if_neg hp] at q1
      exact q1 v H' S' b1 (vl_back vl (.inl rfl) (now m2.ok))
  | ex c x y =>
    rw [ec] at q1
    refine ⟨rfl, fun H' S' cls dd mc ex => ?_⟩
    obtain ⟨b1, b2, b3⟩ := back mc
    exact q1 H' S' cls dd b1 ex
end
end Bw

set_option maxRecDepth 100000
set_option maxHeartbeats 4000000
namespace Bw
open PySem PySem.Spec PyProof.Rows L2
/-! ### a dict's entry is put -/
section
variable {κ : Type} [DecidableEq κ] {K : PySem.W.Frag} {G : Hp} (f : κ → Dt) (g : κ → Key ⊕ List Key)
theorem any_zip (hf : ∀ k, toK (f k) = some (g k)) (hg : ∀ a b, g a = g b → a = b) (k : κ) : ∀ {kvs : List (κ × V)} {ds : List Dt}, RpL K G (kvs.map (·.2)) ds →
    (((kvs.map fun p => f p.1).zip ds).any fun p => decide (toK p.1 = some (g k))) = kvs.any fun kv => decide (kv.1 = k)
  | [], _, .nil => rfl
  | (a, y) :: kvs, _, .cons (d := d) h t => by
    rw [List.map_cons, List.zip_cons_cons, List.any_cons, List.any_cons, any_zip hf hg k t]
    have : decide (toK (f a) = some (g k)) = decide (a = k) := by
      rw [hf]
      by_cases e : a = k
      · rw [e]; simp
      · rw [decide_eq_false e, decide_eq_false fun z => e (hg _ _ (Option.some.inj z))]
    show (decide (toK (f a) = some (g k)) || _) = (decide (a = k) || _)
    rw [this]
theorem map_zip (hf : ∀ k, toK (f k) = some (g k)) (hg : ∀ a b, g a = g b → a = b) (k : κ) {v : V} {d : Dt} (r : Rp K G v d) : ∀ {kvs : List (κ × V)} {ds : List Dt}, RpL K G (kvs.map (·.2)) ds →
    ∃ ds', RpL K G ((kvs.map fun kv => if kv.1 = k then (kv.1, v) else kv).map (·.2)) ds' ∧ ((kvs.map fun p => f p.1).zip ds).map (fun p => if toK p.1 = some (g k) then (p.1, d) else p) = ((kvs.map fun kv => if kv.1 = k then (kv.1, v) else kv).map fun p => f p.1).zip ds'
  | [], _, .nil => ⟨[], .nil, rfl⟩
  | (a, y) :: kvs, _, .cons (d := e) (ds := ds) h t => by
    obtain ⟨ds', h1, h2⟩ := map_zip hf hg k r t
    by_cases c : a = k
    · refine ⟨d :: ds', ?_, ?_⟩
      · rw [List.map_cons, if_pos c]; exact .cons r h1
      · rw [List.map_cons, List.zip_cons_cons, List.map_cons, List.map_cons, List.map_cons, if_pos c, h2, if_pos (by rw [hf, c]), List.zip_cons_cons]
    · refine ⟨e :: ds', ?_, ?_⟩
      · rw [List.map_cons, if_neg c]; exact .cons h h1
      · rw [List.map_cons, List.zip_cons_cons, List.map_cons, List.map_cons, List.map_cons, if_neg c, h2, if_neg (by rw [hf]; exact fun z => c (hg _ _ (Option.some.inj z))), List.zip_cons_cons]
theorem put_zip (hf : ∀ k, toK (f k) = some (g k)) (hg : ∀ a b, g a = g b → a = b) (k : κ) {v : V} {d : Dt} (r : Rp K G v d) {kvs : List (κ × V)} {ds : List Dt} (t : RpL K G (kvs.map (·.2)) ds) :
    ∃ ds', RpL K G ((putK kvs k v).map (·.2)) ds' ∧ putD (f k) d (g k) ((kvs.map fun p => f p.1).zip ds) = ((putK kvs k v).map fun p => f p.1).zip ds' := by
  unfold putD putK
  rw [any_zip f g hf hg k t]
  by_cases c : (kvs.any fun kv => decide (kv.1 = k)) = true
  · rw [if_pos c, if_pos c]
    exact map_zip f g hf hg k r t
  · rw [if_neg c, if_neg c]
    refine ⟨ds ++ [d], ?_, ?_⟩
    · rw [List.map_append]; exact t.append (.cons r .nil)
    · rw [List.map_append, List.zip_append (by rw [List.length_map, ← t.length, List.length_map])]; rfl
end
/-- entries that are put one behind the other -/
theorem dz_ok {K : PySem.W.Frag} {G : Hp} : ∀ {ks vs ds : List Dt} {xs ys : List V} {kvs : List (List Key × V)} {r : List (Dt × Dt)}, RpL K G xs ks → RpL K G ys vs → RpL K G (kvs.map (·.2)) ds → putZ ((kvs.map fun p => PyData.tuple (p.1.map keyD)).zip ds) ks vs = some r →
    ∃ bs : List (Addr × List Key), xs = bs.map (fun b => V.ref b.1) ∧ (∀ b ∈ bs, G b.1 = some (.tup (b.2.map kV))) ∧ bs.length = ys.length ∧ ∃ ds', RpL K G ((putAll kvs (bs.zip ys)).map (·.2)) ds' ∧ r = ((putAll kvs (bs.zip ys)).map fun p => PyData.tuple (p.1.map keyD)).zip ds'
  | [], [], ds, _, _, kvs, r, .nil, .nil, t0, e => by
    cases e
    exact ⟨[], rfl, (fun b h => nomatch h), rfl, ds, t0, rfl⟩
  | [], _ :: _, _, _, _, _, _, _, _, _, e => by cases e
  | _ :: _, [], _, _, _, _, _, _, _, _, e => by cases e
  | k :: ks, v :: vs, ds, _, _, kvs, r, .cons rk t, .cons rv t2, t0, e => by
    change (match toK k with
      | some (.inr x) => putZ (putD k v (.inr x) ((kvs.map fun p => PyData.tuple (p.1.map keyD)).zip ds)) ks vs
      | _ => none) = some r at e
    cases hk : toK k with
    | none => rw [hk] at e; cases e
    | some z =>
      rw [hk] at e
      rcases toK_cases hk with ⟨x, rfl, rfl⟩ | ⟨x, rfl, rfl⟩
      · cases e
      · cases rk with
        | tup hq tq =>
          have := tq.keyVs
          subst this
          obtain ⟨ds1, h1, h2⟩ := put_zip (κ := List Key) (fun ks => PyData.tuple (ks.map keyD)) .inr toK_t (fun a b z => by cases z; rfl) x rv t0
          have e : putZ (putD (PyData.tuple (x.map keyD)) v (.inr x) ((kvs.map fun p => PyData.tuple (p.1.map keyD)).zip ds)) ks vs = some r := e
          rw [h2] at e
          obtain ⟨bs, e1, e2, e3, ds2, e4, e5⟩ := dz_ok t t2 h1 e
          refine ⟨(_, x) :: bs, by rw [e1]; rfl, fun b hb => ?_, by rw [List.length_cons, List.length_cons, e3], ds2, e4, e5⟩
          rcases List.mem_cons.mp hb with rfl | hb
          · exact hq
          · exact e2 b hb
section
variable {cl : Cl} {X : Cx} {W : WX} {cn : Cn}
theorem Res.bindB {α β γ ε : Type} {P : Ans α β} {P2 : Ans γ ε} {δ δ0 : De} {S S0 : List Addr} {σ : L2.St} {H H0 : Hp} {r : R α} {f : α → De → R γ} {Q : ε → Hp → Prop} {Q1 : β → Hp → Prop} (m : Mv X.K δ S σ H δ0 S0 σ H0) (h : Res X W P2 δ S σ H (r.bind f) Q)
    (k : ∀ a δ1 v H1 S1, Mv X.K δ0 S0 σ H0 δ1 S1 σ H1 → P H0 a δ1 S1 H1 v → Res X W P2 δ S σ H (f a δ1) Q → Q1 v H1) : Res X W P δ0 S0 σ H0 r Q1 := by
  cases r with
  | ok a δ' => exact fun v H' S' m2 p => k a δ' v H' S' m2 p h
  | ex c x δ' => exact fun H' S' cls dd m2 e => h H' S' cls dd (m.trans m2) e
  | bad => exact h
theorem own0 {a c : Addr} {b : Dt} {as : List Dt} {vs : List V} (h : Own (dArgs true (b :: as)) ((V.ref a :: vs).map some) c) : c = a := by
  obtain ⟨i, d, g1, g2⟩ := h
  obtain ⟨z, _⟩ := (dA_get g1).2 rfl
  subst z
  cases g2; rfl
/-- behind a call whose first argument, at a, was the callee's own -/
theorem callO_back {δ0 : De} {S0 S1 S2 S' : List Addr} {σ : L2.St} {H0 H1 H' : Hp} {a : Addr} {b x : Dt} {ds : List Dt} {vs : List V} {δ1' δ2' : De}
    (m1 : Mv X.K δ0 S0 σ H0 δ1' S1 σ H1) (m2 : Mv X.K δ0 S0 σ H0 δ2' S2 σ H1) (n1 : ¬ Own δ1' σ a) (n2 : ¬ Own δ2' σ a) (a1 : a ∈ S1) (a2 : a ∈ S2) (h0 : H0 a = none ∨ Own δ0 σ a) (hsub : ∀ b, b ∈ S2 → b ∈ S1)
    (mc : Mv X.K (dArgs true (b :: ds)) S2 ((V.ref a :: vs).map some) H1 (dArgs true (x :: ds)) S' ((V.ref a :: vs).map some) H') :
    (∃ o, H' a = some o ∧ Ow X.K (hid S' H') o x ∧ a ∈ S') ∧ Mv X.K δ0 S0 σ H0 δ2' S' σ H' ∧ Mv X.K δ0 S0 σ H0 δ1' (S' ++ S1) σ H' ∧ ∀ b xs, H' b = some (HO.tup xs) → b ∈ S' ++ S1 → False := by
  obtain ⟨a', o, e1, e2, e3, e4⟩ := mc.ok.own 0 x (by simp [dArgs])
  cases e1
  have kp : ∀ b o, H1 b = some o → ¬ b = a → H' b = some o := fun b o z n => mc.keep b o z fun y => n (own0 y)
  have nt1 : ∀ b, b ∈ S1 → ∀ xs, H' b ≠ some (HO.tup xs) := fun b hb xs z => by
    by_cases hba : b = a
    · subst hba; exact mc.ok.nt b e2 xs z
    · cases z1 : H1 b with
      | none => have := m1.ok.live b hb; rw [z1] at this; cases this
      | some o => rw [kp b o z1 hba] at z; cases z; exact m1.ok.nt b hb xs z1
  refine ⟨⟨o, e3, e4, e2⟩, call_mv (P := fun b => b = a) m2 (fun b z => z ▸ ⟨a2, n2, h0⟩) kp mc.some mc.sub (fun b hb => ?_) mc.ok.live mc.ok.nt,
    call_mv (P := fun b => b = a) m1 (fun b z => z ▸ ⟨a1, n1, h0⟩) kp mc.some (fun b hb => ?_) (fun b hb => List.mem_append.mpr (.inr hb)) (fun b hb => ?_) (fun b hb => ?_), fun b xs z hb => ?_⟩
  · rcases mc.sup b hb with z | z
    · exact z
    · rw [own0 z]; exact e2
  · rcases List.mem_append.mp hb with hb | hb
    · exact (mc.sub b hb).imp (hsub b) id
    · exact .inl hb
  · rcases List.mem_append.mp hb with hb | hb
    · exact mc.ok.live b hb
    · exact mc.some b (m1.ok.live b hb)
  · rcases List.mem_append.mp hb with hb | hb
    · exact mc.ok.nt b hb
    · exact nt1 b hb
  · rcases List.mem_append.mp hb with hb | hb
    · exact mc.ok.nt b hb xs z
    · exact nt1 b hb xs z
theorem st_wipe {δ : De} {i : Nat} {x : Option (Dt × Bool)} : st (wipeD δ [i]) i x = st δ i x := by
  show (δ.set i none).set i x = δ.set i x
  rw [List.set_set]
theorem wipe_own {K : PySem.W.Frag} {δ : De} {S : List Addr} {σ : L2.St} {H : Hp} (ok : StOk K S δ σ H) {i : Nat} {b : Dt} {a : Addr} (e : gt δ i = some (b, true)) (hi : σ[i]? = some (some (V.ref a))) : ¬ Own (wipeD δ [i]) σ a := fun ⟨j, c, g1, g2⟩ => by
  obtain ⟨n, g⟩ := wipeD_get g1
  exact n (List.mem_singleton.mpr (ok.inj i j b c a (gt_some e) g hi g2).symm)
theorem own_st {δ : De} {i : Nat} {b : Dt} {a c : Addr} {σ : L2.St} (hi : σ[i]? = some (some (V.ref a))) (h : Own (st δ i (some (b, true))) σ c) : c = a ∨ Own δ σ c := by
  obtain ⟨j, d, g1, g2⟩ := h
  by_cases hj : i = j
  · subst hj
    rw [hi] at g2; cases g2; exact .inl rfl
  · change (δ.set i _)[j]? = _ at g1
    rw [List.getElem?_set_ne hj] at g1
    exact .inr ⟨j, d, g1, g2⟩
/-- f(box, ..), the box a name's own -/
theorem callM_read {f : Str} {i : Nat} {es : Es} {np : Nat} (hnp : ∀ as, cl f as ≠ .bad → as.length = np) (σ : L2.St) (H : Hp) (Q : VK) (h : te cl X W (.callM f i es) σ H Q) :
    tCallS (spF X.K X.mg np true cl f) (WE W) (tCons (tVar i) (tos cl X W es)) σ H Q := by
  obtain ⟨δ, S, ok, q⟩ := h
  change Res X W (AV X σ) δ S σ H (if ownL δ i = true then ((eos cl es δ).bind fun os δ1 => match gt δ1 i, ods δ1 os with
    | some (b, true), some ds => match cl f (b :: ds) with
      | .ok d w b' => if isIntL b' = true ∧ noV i os = true then .ok (d, w) (st (if plain d = true then δ1 else rlsAll δ1 os) i (some (b', true))) else .bad
      | _ => .bad
    | _, _ => .bad) else .bad) Q at q
  rcases Classical.em (¬ (ownL δ i = true)) with hol | hol
  · rw [if_neg hol] at q; exact q.elim
  replace hol := Classical.not_not.mp hol
  rw [if_pos hol] at q
  obtain ⟨a, xs, hi, _⟩ := ownL_at ok hol
  refine ⟨_, hi, δ, S, ok, Res.bind (P := AOds X σ) later_AV q fun os δ1 vs H1 S1 m1 ps q1 => ?_⟩
  have ok1 := m1.ok
  cases eg : gt δ1 i with
  | none => simp only [eg] at q1; exact q1.elim
  | some p =>
  obtain ⟨b, fl⟩ := p
  cases fl with
  | false => simp only [eg] at q1; exact q1.elim
  | true =>
  cases e : ods δ1 os with
  | none => simp only [eg, e] at q1; exact q1.elim
  | some ds =>
  simp only [eg, e] at q1
  obtain ⟨S2, m2, rs, hsub⟩ := rlsAll_ok ok1 ps e
  cases ec : cl f (b :: ds) with
  | bad => rw [ec] at q1; exact q1.elim
  | ex c x y => rw [ec] at q1; exact q1.elim
  | ok d w x =>
  rw [ec] at q1
  change Res X W (AV X σ) δ1 S1 σ H1 (if isIntL x = true ∧ noV i os = true then .ok (d, w) (st (if plain d = true then δ1 else rlsAll δ1 os) i (some (x, true))) else .bad) Q at q1
  rcases Classical.em (¬ (isIntL x = true ∧ noV i os = true)) with hx | hx
  · rw [if_neg hx] at q1; exact q1.elim
  replace hx := Classical.not_not.mp hx
  rw [if_pos hx] at q1
  obtain ⟨hx1, hx2⟩ := hx
  have eg2 : gt (rlsAll δ1 os) i = some (b, true) := (gt_noV hx2).trans eg
  obtain ⟨a', o, g1, ha1, ho, wo1⟩ := ok1.own i b (gt_some eg)
  rw [hi] at g1; cases g1
  obtain ⟨a', o', g1, ha2, ho', wo2⟩ := m2.ok.own i b (gt_some eg2)
  rw [hi] at g1; cases g1
  rw [ho] at ho'; cases ho'
  have okA : StOk X.K S2 (dArgs true (b :: ds)) ((V.ref a :: vs).map some) H1 := args_own rs ha2 ho wo2 m2.ok.live m2.ok.nt
  refine ⟨?_, b :: ds, S2, okA, ?_⟩
  · have := hnp (b :: ds) (by rw [ec]; exact fun z => by cases z)
    rw [← this, List.length_cons, List.length_cons, rs.length]
  rw [ec]
  intro v H' S' mc vl
  have mw1 : Mv X.K δ1 S1 σ H1 (wipeD δ1 [i]) S1 σ H1 := mv_wipe (.refl ok1) rfl fun _ _ => rfl
  have mw2 : Mv X.K δ1 S1 σ H1 (wipeD (rlsAll δ1 os) [i]) S2 σ H1 := mv_wipe m2 rfl fun _ _ => rfl
  have own1 : Own δ1 σ a := ⟨i, b, gt_some eg, hi⟩
  obtain ⟨⟨o', ho', wo', ha'⟩, B, A, nt⟩ := callO_back mw1 mw2 (wipe_own ok1 eg hi) (wipe_own m2.ok eg2 hi) ha1 ha2 (.inr own1) hsub mc
  have now : ∀ {δ2 : De} {S3 : List Addr}, StOk X.K S3 δ2 σ H1 → ∀ p, H1 p = none → ¬ Own (st δ2 i (some (x, true))) σ p := fun {δ2 S3} ok2 p hp z => by
    rcases own_st hi z with z | z
    · rw [z, ho] at hp; cases hp
    · have := ok2.live p (ok2.own_mem z)
      rw [hp] at this; cases this
  by_cases hp : plain d = true
  · rw [if_pos hp] at q1
    have M := mv_own_back A hi (List.mem_append.mpr (.inr ha1)) (wipe_own ok1 eg hi) ho' (ow_ints wo' hx1) (.inl own1)
    rw [st_wipe] at M
    exact q1 v H' (S' ++ S1) M (vl_back vl (.inr ⟨hp, fun b xs z hb => nt b xs z hb⟩) (now ok1))
  · rw [if_neg hp] at q1
    have M := mv_own_back B hi ha' (wipe_own m2.ok eg2 hi) ho' wo' (.inl own1)
    rw [st_wipe] at M
    exact q1 v H' S' M (vl_back vl (.inl rfl) (now m2.ok))
/-- f([..], ..), the list new -/
theorem callT_read {f : Str} {a0 : E} {es : Es} {np : Nat} (hnp : ∀ as, cl f as ≠ .bad → as.length = np) (σ : L2.St) (H : Hp) (Q : VK) (h : te cl X W (.callT f a0 es) σ H Q) :
    tCallS (spF X.K X.mg np true cl f) (WE W) (tCons (te cl X W a0) (tos cl X W es)) σ H Q := by
  obtain ⟨δ, S, ok, q⟩ := h
  refine ⟨δ, S, ok, Res.bindB (P := AV X σ) (P2 := AV X σ) (.refl ok) q fun p δ0 v0 H0 S0 m0 vl0 q0 => ⟨δ0, S0, m0.ok, Res.bindB (P := AOds X σ) (P2 := AV X σ) m0 q0 fun os δ1 vs H1 S1 m1 ps q1 => ?_⟩⟩
  have ok1 := m1.ok
  obtain ⟨b, fl⟩ := p
  cases fl with
  | false => exact q1.elim
  | true =>
  cases e : ods δ1 os with
  | none => simp only [e] at q1; exact q1.elim
  | some ds =>
  simp only [e] at q1
  obtain ⟨S2, m2, rs, hsub⟩ := rlsAll_ok ok1 ps e
  obtain ⟨t, o, rfl, ht, hs, hn, ho, wo⟩ := vl0
  cases ec : cl f (b :: ds) with
  | bad => rw [ec] at q1; exact q1.elim
  | ex c x y => rw [ec] at q1; exact q1.elim
  | ok d w x =>
  rw [ec] at q1
  change Res X W (AV X σ) δ S σ H (if isIntL x = true then .ok (d, w) (if plain d = true then δ1 else rlsAll δ1 os) else .bad) Q at q1
  rcases Classical.em (¬ (isIntL x = true)) with hx | hx
  · rw [if_neg hx] at q1; exact q1.elim
  replace hx := Classical.not_not.mp hx
  rw [if_pos hx] at q1
  have ho1 : H1 t = some o := m1.keep t o ho hn
  have n1 : ¬ Own δ1 σ t := fun z => by
    rcases m1.own t z with z | z
    · exact hn z
    · rw [ho] at z; cases z
  have t1 : t ∈ S1 := (m1.sup t hs).resolve_right hn
  have n2 : ¬ Own (rlsAll δ1 os) σ t := fun z => by
    rcases m2.own t z with z | z
    · exact n1 z
    · rw [ho1] at z; cases z
  have t2 : t ∈ S2 := (m2.sup t t1).resolve_right n1
  have wo2 : Ow X.K (hid S2 H1) o b := wo.mono ((m1.trans m2).le m0.ok)
  have okA : StOk X.K S2 (dArgs true (b :: ds)) ((V.ref t :: vs).map some) H1 := args_own rs t2 ho1 wo2 m2.ok.live m2.ok.nt
  refine ⟨?_, b :: ds, S2, okA, ?_⟩
  · have := hnp (b :: ds) (by rw [ec]; exact fun z => by cases z)
    rw [← this, List.length_cons, List.length_cons, rs.length]
  rw [ec]
  intro v H' S' mc vl
  obtain ⟨_, B, A, nt⟩ := callO_back (m0.trans m1) ((m0.trans m1).trans m2) n1 n2 t1 t2 (.inl ht) hsub mc
  have now : ∀ {δ2 : De} {S3 : List Addr}, StOk X.K S3 δ2 σ H1 → ∀ p, H1 p = none → ¬ Own δ2 σ p := fun {δ2 S3} ok2 p hp z => by
    have := ok2.live p (ok2.own_mem z)
    rw [hp] at this; cases this
  have up : ∀ {δ2 : De} {S3 : List Addr}, Vl X.K H1 S3 δ2 σ H' v d w → Vl X.K H S3 δ2 σ H' v d w := fun {δ2 S3} z => by
    cases w with
    | false => exact z
    | true =>
      obtain ⟨p, o, e, hp, r⟩ := z
      exact ⟨p, o, e, none_back ((m0.trans m1).some p) hp, r⟩
  by_cases hp : plain d = true
  · rw [if_pos hp] at q1
    exact q1 v H' (S' ++ S1) A (up (vl_back vl (.inr ⟨hp, fun b xs z hb => nt b xs z hb⟩) (now ok1)))
  · rw [if_neg hp] at q1
    exact q1 v H' S' B (up (vl_back vl (.inl rfl) (now m2.ok)))
theorem ok_lset (g : Good X W cn) {a : E} {x : Expr} {p p2 q pos : Pos} (hn : glB cn "len" = true) (hn2 : glB cn "set" = true) (ma : mE cn a x = true) (ha : PE X x (te cl X W a)) : PE X (.Call (.Name "len" p) [.Call (.Name "set" p2) [x] [] q] [] pos) (te cl X W (.lset a)) := by
  obtain ⟨hg, _, _⟩ := glB_ok g hn
  obtain ⟨hg2, _, _⟩ := glB_ok g hn2
  refine PE.imp (pe_lset hg (g.nob _ (by decide +kernel)) hg2 (g.nob _ (by decide +kernel)) ha g.calm (star_cons (not_star ma))) fun σ H Q ⟨δ, S, ok, h⟩ => ⟨δ, S, ok, ?_⟩
  refine frz (P := AV X σ) (f := fun d δ1 => (match lsD d with
    | some n => .ok (.int n, false) δ1
    | none => .bad : R (Dt × Bool))) h fun d δ1 v H1 S1 m r q1 => ?_
  cases e : lsD d with
  | none => simp only [e] at q1; exact q1.elim
  | some n =>
    simp only [e] at q1
    cases d with
    | list xs =>
      have e : (match intsD xs with
        | some ns => if ns.length ≤ 4000 then some ((metI ns).length : Int) else none
        | none => none) = some n := e
      cases e2 : intsD xs with
      | none => rw [e2] at e; cases e
      | some ns =>
        rw [e2] at e
        change (if ns.length ≤ 4000 then some ((metI ns).length : Int) else none) = some n at e
        split at e
        · rename_i hc
          cases e
          cases r with
          | lst hh t =>
            obtain ⟨rfl, _⟩ := t.intsOf e2
            exact ⟨_, ns, rfl, .of (hid_back hh), hc, q1 _ H1 S1 m (.int _)⟩
        · cases e
    | _ => cases e
theorem noSup_ok {e : Expr} (h : noSup e = true) (n : Str) (env : Env) (w : Sem Value) : attributeBase e n env w = w := by
  unfold attributeBase
  split
  · cases h
  · rfl
theorem vals_zip {α : Type} : ∀ {ks : List α} {ds : List Dt}, ks.length = ds.length → (ks.zip ds).map (·.2) = ds
  | [], [], _ => rfl
  | k :: ks, d :: ds, h => by
    show d :: (ks.zip ds).map (·.2) = _
    rw [vals_zip (by simpa using h)]
theorem ok_mxv (g : Good X W cn) {a : E} {e : Expr} {p pos apos mpos : Pos} (hn : glB cn "max" = true) (hl : (apos.endLine == mpos.line) = true) (hs : noSup e = true) (ha : PE X e (te cl X W a)) : PE X (.Call (.Name "max" p) [.Call (.Attribute e "values" apos) [] [] mpos] [] pos) (te cl X W (.mxv a)) := by
  obtain ⟨hg, _, _⟩ := glB_ok g hn
  refine PE.imp (pe_maxV g.calm hg (g.nob _ (by decide +kernel)) ha (noSup_ok hs _ _ _) hl (star_cons rfl)) fun σ H Q ⟨δ, S, ok, h⟩ => ⟨δ, S, ok, ?_⟩
  refine frz (P := AV X σ) (f := fun d δ1 => (match mxD d with
    | some n => .ok (.int n, false) δ1
    | none => .bad : R (Dt × Bool))) h fun d δ1 v H1 S1 m r q1 => ?_
  cases e : mxD d with
  | none => simp only [e] at q1; exact q1.elim
  | some n =>
    simp only [e] at q1
    unfold mxD at e
    split at e
    · rename_i kvs
      split at e
      · rename_i ns e2
        rcases (Rd1.dict (.inl r : Rd1 X.K S1 H1 v _)) with ⟨_, ns', _, z, _⟩ | ⟨b, rfl, w⟩
        · unfold scr at z
          injection z with z
          injection z with z _
          injection z with z _
          cases z
        · generalize hm : ((PyData.bool true, PyData.none) :: kvs) = mk at w
          cases w with
          | k h t =>
            injection hm with hm _
            injection hm with hm _
            injection hm with hm
            cases hm
          | @t kvs' ds h t =>
            injection hm with _ hm
            have hlen : (kvs'.map fun p => PyData.tuple (p.1.map keyD)).length = ds.length := by
              rw [List.length_map, ← t.length, List.length_map]
            have hds : kvs.map (·.2) = ds := by rw [hm]; exact vals_zip hlen
            rw [hds] at e2
            obtain ⟨hi, _⟩ := t.intsOf e2
            obtain ⟨h1, h2⟩ := maxI_spec e
            refine ⟨b, kvs', ns, rfl, h, hi, fun z => (by rw [z] at h1; cases h1), fun k hk hall => ?_⟩
            have : k = n := by
              have a1 := h2 k hk
              have a2 := hall n h1
              omega
            rw [this]
            exact q1 _ H1 S1 m (.int _)
      · cases e
    · cases e
theorem rgV_rngL (j : Int) (h : 0 ≤ j) {K : PySem.W.Frag} {G : Hp} : RpL K G (rgV 0 j) (rngL 0 j.toNat) := by
  have e : rgV 0 j = (List.range' 0 j.toNat).map fun (i : Nat) => V.int (i : Int) := by
    unfold rgV
    rw [Int.sub_zero, List.range_eq_range']
    apply List.map_congr_left
    intro i _
    rw [Int.zero_add]
  rw [e]
  have : ∀ (n lo : Nat), RpL K G ((List.range' lo n).map fun (i : Nat) => V.int (i : Int)) (rngL (lo : Int) n) := by
    intro n
    induction n with
    | zero => intro lo; exact .nil
    | succ n ih =>
      intro lo
      rw [List.range'_succ, List.map_cons]
      refine .cons (.int _) ?_
      have := ih (lo + 1)
      rw [show ((lo + 1 : Nat) : Int) = (lo : Int) + 1 by omega] at this
      exact this
  exact this j.toNat 0
theorem ok_lrng (g : Good X W cn) {a : E} {e : Expr} {p pos p2 pos2 : Pos} (hn : glB cn "list" = true) (hn2 : glB cn "range" = true) (ma : mE cn a e = true) (ha : PE X e (te cl X W a)) : PE X (.Call (.Name "list" p) [.Call (.Name "range" p2) [e] [] pos2] [] pos) (te cl X W (.lrng a)) := by
  obtain ⟨hg, _, _⟩ := glB_ok g hn
  obtain ⟨hg2, _, _⟩ := glB_ok g hn2
  refine PE.imp (pe_listRg g.calm hg (g.nob _ (by decide +kernel)) (prg_1 hg2 (g.nob _ (by decide +kernel)) ha (star_cons (not_star ma))) (star_cons rfl)) fun σ H Q ⟨δ, S, ok, h⟩ => ⟨δ, S, ok, ?_⟩
  refine frz (P := AV X σ) (f := fun d δ1 => (match lrD d with
    | some d => .ok (d, true) δ1
    | none => .bad : R (Dt × Bool))) h fun d δ1 v H1 S1 m r q1 => ?_
  cases e : lrD d with
  | none => simp only [e] at q1; exact q1.elim
  | some d' =>
    simp only [e] at q1
    unfold lrD at e
    split at e
    · rename_i j
      split at e
      · rename_i hj
        cases e
        cases r
        refine ⟨j, rfl, ⟨by omega, by omega, by omega, by omega, by omega⟩, fun q hq => ?_⟩
        refine out_fin m q1 (v := .ref q) (H' := upd H1 q (.lst (rgV 0 j))) ⟨le_upd hq, q, _, rfl, hq, rfl, ?_⟩
        by_cases h0 : 0 ≤ j
        · exact .lst (rgV_rngL j h0)
        · have e1 : rgV 0 j = [] := by
            unfold rgV
            rw [show (j - 0).toNat = 0 by omega]; rfl
          have e2 : rngL 0 j.toNat = [] := by
            rw [show j.toNat = 0 by omega]; rfl
          rw [e1, e2]
          exact .lst .nil
      · cases e
    · cases e
theorem ok_cnt (g : Good X W cn) {i : Nat} {b : E} {y : Str} {e : Expr} {p apos pos : Pos} (hy : nmB cn i y = true) (hl : (apos.endLine == pos.line) = true) (mb : mE cn b e = true) (hb : PE X e (te cl X W b)) : PE X (.Call (.Attribute (.Name y p) "count" apos) [e] [] pos) (te cl X W (.cnt i b)) := by
  have hfew : ((backTo pos (starEach [e] X.env)).all (fun x => !x.1) && (backToKw pos (keywordEach [] X.env)).all (fun x => x.1.isSome) && decide (([e] : List Expr).length + ([] : List Keyword).length + (if ([] : List Keyword).isEmpty then 0 else 1) < 30)) = true := by
    rw [star_cons (not_star mb)]; rfl
  refine PE.imp (pe_bm PySem.F.plainAttrs_list PySem.F.slot_list_count PySem.F.type_list_count mt_lcount (nmB_ok (pos := p) g hy) (pa_cons hb pa_nil (star_cons (not_star mb))) rfl hfew hl (star_cons (not_star mb)) rfl) fun σ H Q ⟨δ, S, ok, h⟩ => ?_
  change Res X W (AV X σ) δ S σ H (if isLs (gt δ i) = true then ((ev cl b δ).bind fun y δ1 => match gt δ1 i with
    | some (d, _) => match cntD d y.1 with
      | some n => .ok (.int n, false) δ1
      | none => .bad
    | none => .bad) else .bad) Q at h
  split at h
  · rename_i hls
    have ha : ∃ a xs, σ[i]? = some (some (V.ref a)) ∧ SqL X.K H a xs := by
      unfold isLs at hls
      split at hls
      · rename_i ds w e1
        obtain ⟨v, h1, h2, _⟩ := ok.at e1
        obtain ⟨a, ys, rfl, ha, _⟩ := h2.list
        exact ⟨a, ys, h1, .of ha⟩
      · cases hls
    obtain ⟨a, xs, h1, h2⟩ := ha
    refine ⟨_, h1, .inl ⟨rfl, xs, h2⟩, ⟨δ, S, ok, ?_⟩⟩
    refine frz (P := AV X σ) (f := fun d δ1 => (match gt δ1 i with
      | some (d0, _) => match cntD d0 d with
        | some n => .ok (.int n, false) δ1
        | none => .bad
      | none => .bad : R (Dt × Bool))) h fun d δ1 v H1 S1 m r q1 => ?_
    cases e1 : gt δ1 i with
    | none => rw [e1] at q1; exact q1.elim
    | some x =>
      obtain ⟨d0, w⟩ := x
      rw [e1] at q1
      simp only at q1
      cases e2 : cntD d0 d with
      | none => simp only [e2] at q1; exact q1.elim
      | some n =>
        simp only [e2] at q1
        unfold cntD at e2
        split at e2
        · rename_i ds k
          obtain ⟨v', g1, g2, _⟩ := m.ok.at e1
          rw [h1] at g1; cases g1
          obtain ⟨a', ys, ea, ha, t⟩ := g2.list
          cases ea
          cases r
          split at e2
          · rename_i ns e3
            cases e2
            obtain ⟨rfl, _⟩ := t.intsOf e3
            exact ⟨_, ns, k, rfl, rfl, .of ha, q1 _ H1 S1 m (.int _)⟩
          · cases e2
        · cases e2
  · exact h.elim
theorem ok_dzip (g : Good X W cn) {a b : E} {x y : Expr} {p p2 q pos : Pos} (hn : glB cn "dict" = true) (hn2 : glB cn "zip" = true) (hs : isStar x = false) (hs2 : isStar y = false) (h : PA X [x, y] (tes cl X W (.cons a (.cons b .nil)))) :
    PE X (.Call (.Name "dict" p) [.Call (.Name "zip" p2) [x, y] [] q] [] pos) (te cl X W (.dzip a b)) := by
  obtain ⟨hg, _, _⟩ := glB_ok g hn
  obtain ⟨hg2, _, _⟩ := glB_ok g hn2
  refine PE.imp (pe_dzip hg (g.nob _ (by decide +kernel)) hg2 (g.nob _ (by decide +kernel)) h (by have := g.hu; omega) g.calm (star_cons hs) (by rw [star_cons hs2]; rfl)) fun σ H Q ⟨δ, S, ok, q⟩ => ⟨δ, S, ok, ?_⟩
  have ee : ev cl (.dzip a b) δ = (evs cl (.cons a (.cons b .nil)) δ).bind fun ds δ1 => match ds with
      | [d, e] => match dzD d e with
        | some r => .ok (r, true) δ1
        | none => .bad
      | _ => .bad := by
    show ((ev cl a δ).bind fun x δ1 => (ev cl b δ1).bind _) = (((ev cl a δ).bind fun x δ1 => (((ev cl b δ1).bind _).bind _)).bind _)
    cases ev cl a δ with
    | ok y δ1 =>
      obtain ⟨d, w⟩ := y
      simp only [R.bind]
      cases ev cl b δ1 with
      | ok z δ2 => rfl
      | ex c y δ1 => rfl
      | bad => rfl
    | ex c y δ1 => rfl
    | bad => rfl
  rw [ee] at q
  refine Res.bind (P := ALs X) later_AV q fun ds δ1 vs H1 S1 m1 rs q1 => ?_
  split at q1
  · rename_i d e
    cases e1 : dzD d e with
    | none => rw [e1] at q1; exact q1.elim
    | some r =>
      rw [e1] at q1
      obtain ⟨v, u, rfl, r1, r2⟩ := rs.two
      unfold dzD at e1
      split at e1
      · rename_i ks vs
        split at e1
        · rename_i hl
          cases e2 : putZ [] ks vs with
          | none => rw [e2] at e1; cases e1
          | some kvs =>
            rw [e2] at e1
            cases e1
            cases r1 with
            | lst hh t =>
              cases r2 with
              | tup hh2 t2 =>
                obtain ⟨bs, e3, e4, e5, ds', t3, e6⟩ := dz_ok (kvs := []) (ds := []) t t2 .nil e2
                subst e3
                have hlen : bs.length ≤ lim := by
                  have := t.length
                  rw [List.length_map] at this
                  omega
                refine ⟨_, _, bs, _, rfl, .of (hid_back hh), .of (hid_back hh2), e5, hlen, fun b hb => hid_back (e4 b hb), fun p hp => ?_⟩
                refine out_fin (.refl m1.ok) q1 ⟨le_upd hp, p, _, rfl, hp, rfl, ?_⟩
                rw [e6]
                exact .dT t3
        · cases e1
      · cases e1
  · exact q1.elim
theorem ok_call (g : Good X W cn) (C : Calls cn.io cl X) {f : Str} {es : Es} {x : Expr} {l : List Expr} {p pos : Pos} (hn : glB cn f = true) (hio : cn.io f = some false) (hs : isStar x = false) (hl : (starEach l X.env).all (fun x => !x.1) = true) (h : PA X (x :: l) (tos cl X W es)) :
    PE X (.Call (.Name f p) (x :: l) [] pos) (te cl X W (.call f es)) := by
  obtain ⟨hg, hdb, hnn⟩ := glB_ok g hn
  obtain ⟨np, k, a, fd, ps, F, hr, hm, hk, hb, hnp⟩ := C.fn f false hio
  exact PE.imp (pe_callS F hr hg hm hk hb (fun σ => passAt g.tk σ) h hdb (star_cons hs) (back_any hl)) (call_read hnp)
theorem ok_callM (g : Good X W cn) (C : Calls cn.io cl X) {f y : Str} {i : Nat} {es : Es} {l : List Expr} {p p2 pos : Pos} (hn : glB cn f = true) (hio : cn.io f = some true) (hy : nmB cn i y = true) (hl : (starEach l X.env).all (fun x => !x.1) = true) (h : PA X l (tos cl X W es)) :
    PE X (.Call (.Name f p) (.Name y p2 :: l) [] pos) (te cl X W (.callM f i es)) := by
  obtain ⟨hg, hdb, hnn⟩ := glB_ok g hn
  obtain ⟨np, k, a, fd, ps, F, hr, hm, hk, hb, hnp⟩ := C.fn f true hio
  exact PE.imp (pe_callS F hr hg hm hk hb (fun σ => passAt g.tk σ) (pa_cons (nmB_ok g hy) h (star_cons rfl)) hdb (star_cons rfl) (back_any hl)) (callM_read hnp)
theorem ok_callT (g : Good X W cn) (C : Calls cn.io cl X) {f : Str} {a0 : E} {es : Es} {x : Expr} {l : List Expr} {p pos : Pos} (hn : glB cn f = true) (hio : cn.io f = some true) (hs : isStar x = false) (ha : PE X x (te cl X W a0)) (hl : (starEach l X.env).all (fun x => !x.1) = true) (h : PA X l (tos cl X W es)) :
    PE X (.Call (.Name f p) (x :: l) [] pos) (te cl X W (.callT f a0 es)) := by
  obtain ⟨hg, hdb, hnn⟩ := glB_ok g hn
  obtain ⟨np, k, a, fd, ps, F, hr, hm, hk, hb, hnp⟩ := C.fn f true hio
  exact PE.imp (pe_callS F hr hg hm hk hb (fun σ => passAt g.tk σ) (pa_cons ha h (star_cons hs)) hdb (star_cons hs) (back_any hl)) (callT_read hnp)
end
end Bw

set_option maxRecDepth 100000
set_option maxHeartbeats 4000000
namespace Bw
open PySem PySem.Spec PyProof.Rows L2
/-- the module's constants -/
def Consts (gc : Str → Option Const) (X : Cx) : Prop := ∀ x k, gc x = some k → (∃ i t, k = .int i ∧ X.mg x = some (.int i t)) ∨ ∃ s t, k = .str s ∧ X.mg x = some (.str s t)
/-- all that is known of a frame -/
structure All (cl : Cl) (X : Cx) (W : WX) (cn : Cn) : Prop where
  g : Good X W cn
  c : Calls cn.io cl X
  k : Consts cn.gc X
theorem All.blk {cl : Cl} {X : Cx} {W : WX} {cn : Cn} (h : All cl X W cn) {scope : Scope} {own : List (Str × Nat)} (hb : blkC cn.N cn.sc scope own = true) (s : Shared) (H : Hp) (C : Addr) (l : List (Str × Addr)) (fp : List Addr) :
    All cl (X.blk s H scope (compEnvC scope l C X.env) fp) W0 (cnIn cn scope) := ⟨good_blk h.g hb s H C l fp, h.c.blk s H scope _ fp, h.k⟩
theorem isTup_of {cn : Cn} {ts : Tgs} {t : Expr} (m : mT cn (.tp ts) t = true) : ∃ es k pos, t = .Tuple es k pos := by
  cases t <;> first | exact ⟨_, _, _, rfl⟩ | simp [mT] at m
theorem decE {p : Prop} [Decidable p] (h : decide p = true) : p := of_decide_eq_true h
mutual
theorem snd_e (cl : Cl) : ∀ (e : E) (x : Expr) (X : Cx) (W : WX) (cn : Cn), All cl X W cn → mE cn e x = true → PE X x (te cl X W e) ∧ PT X x (tt cl X W e)
  | .cst c, x, X, W, cn, h, m => by
    cases x <;> try (cases m; done)
    rename_i k n pos
    have p : PE X (.Constant k n pos) (te cl X W (.cst c)) := ok_cst m
    exact ⟨p, pt_plain p rfl⟩
  | .var i, x, X, W, cn, h, m => by
    cases x <;> try (cases m; done)
    rename_i y pos
    have p : PE X (.Name y pos) (te cl X W (.var i)) := ok_var h.g m
    exact ⟨p, pt_plain p rfl⟩
  | .gl y c, x, X, W, cn, h, m => by
    cases x <;> try (cases m; done)
    rename_i z pos
    have m : (decide (y = z) && glB cn y && (match cn.gc y with | some k => cstM c k | none => false)) = true := m
    simp only [Bool.and_eq_true, decide_eq_true_eq] at m
    obtain ⟨⟨rfl, m1⟩, m2⟩ := m
    cases e : cn.gc y with
    | none => rw [e] at m2; cases m2
    | some k =>
      rw [e] at m2
      have p : PE X (.Name y pos) (te cl X W (.gl y c)) := by
        rcases h.k y k e with ⟨i, t, rfl, hm⟩ | ⟨s, t, rfl, hm⟩
        · cases c <;> simp only [cstM, Bool.false_eq_true, decide_eq_true_eq] at m2
          subst m2
          exact ok_gl (v := .int _) h.g m1 hm ⟨t, rfl⟩ fun S H => .int _
        · cases c <;> simp only [cstM, Bool.false_eq_true, decide_eq_true_eq] at m2
          subst m2
          exact ok_gl (v := .str _) h.g m1 hm ⟨t, rfl⟩ fun S H => .str _
      exact ⟨p, pt_plain p rfl⟩
  | .bin o a b, x, X, W, cn, h, m => by
    cases x <;> try (cases m; done)
    rename_i l p r pos
    have m : (isBin o p && mE cn a l && mE cn b r) = true := m
    simp only [Bool.and_eq_true] at m
    obtain ⟨⟨m0, m1⟩, m2⟩ := m
    have e := decE m0
    subst e
    have q : PE X (.BinOp l (bopP o) r pos) (te cl X W (.bin o a b)) := ok_bin h.g m1 m2 (snd_e cl a l X W cn h m1).1 (snd_e cl b r X W cn h m2).1
    exact ⟨q, pt_plain q rfl⟩
  | .cmp o a b, x, X, W, cn, h, m => by
    cases x <;> try (cases m; done)
    rename_i l ops rs pos
    cases ops <;> try (cases m; done)
    rename_i p ops
    cases ops <;> try (cases m; done)
    cases rs <;> try (cases m; done)
    rename_i r rs
    cases rs <;> try (cases m; done)
    have m : (decide (copP o = p) && mE cn a l && mE cn b r && !(behindInMarks p r)) = true := m
    simp only [Bool.and_eq_true, decide_eq_true_eq, Bool.not_eq_true'] at m
    obtain ⟨⟨⟨rfl, m1⟩, m2⟩, m3⟩ := m
    exact ok_cmp h.g m1 m2 m3 (snd_e cl a l X W cn h m1).1 (snd_e cl b r X W cn h m2).1
  | .chain o o' a b c, x, X, W, cn, h, m => by
    cases x <;> try (cases m; done)
    rename_i l ops rs pos
    cases ops <;> try (cases m; done)
    rename_i p ops
    cases ops <;> try (cases m; done)
    rename_i p' ops
    cases ops <;> try (cases m; done)
    cases rs <;> try (cases m; done)
    rename_i r rs
    cases rs <;> try (cases m; done)
    rename_i r' rs
    cases rs <;> try (cases m; done)
    have m : (decide (copP o = p) && decide (copP o' = p') && mE cn a l && mE cn b r && mE cn c r' && !(lastMarks [p, p'] [r, r'])) = true := m
    simp only [Bool.and_eq_true, decide_eq_true_eq, Bool.not_eq_true'] at m
    obtain ⟨⟨⟨⟨⟨rfl, rfl⟩, m1⟩, m2⟩, m3⟩, m4⟩ := m
    exact ok_chain h.g m1 m2 m3 m4 (snd_e cl a l X W cn h m1).1 (snd_e cl b r X W cn h m2).1 (snd_e cl c r' X W cn h m3).1
  | .isN a, x, X, W, cn, h, m => by
    cases x <;> try (cases m; done)
    rename_i l ops rs pos
    cases ops <;> try (cases m; done)
    rename_i p ops
    cases p <;> try (cases m; done)
    cases ops <;> try (cases m; done)
    cases rs <;> try (cases m; done)
    rename_i r rs
    cases r <;> try (cases m; done)
    rename_i k n p2
    cases k <;> try (cases m; done)
    cases rs <;> try (cases m; done)
    exact ok_isN h.g m (snd_e cl a l X W cn h m).1
  | .notN a, x, X, W, cn, h, m => by
    cases x <;> try (cases m; done)
    rename_i l ops rs pos
    cases ops <;> try (cases m; done)
    rename_i p ops
    cases p <;> try (cases m; done)
    cases ops <;> try (cases m; done)
    cases rs <;> try (cases m; done)
    rename_i r rs
    cases r <;> try (cases m; done)
    rename_i k n p2
    cases k <;> try (cases m; done)
    cases rs <;> try (cases m; done)
    exact ok_notN h.g m (snd_e cl a l X W cn h m).1
  | .neg a, x, X, W, cn, h, m => by
    cases x <;> try (cases m; done)
    rename_i op e pos
    cases op <;> try (cases m; done)
    have q : PE X (.UnaryOp .USub e pos) (te cl X W (.neg a)) := ok_neg h.g m (snd_e cl a e X W cn h m).1
    exact ⟨q, pt_plain q rfl⟩
  | .nt a, x, X, W, cn, h, m => by
    cases x <;> try (cases m; done)
    rename_i op e pos
    cases op <;> try (cases m; done)
    have i := snd_e cl a e X W cn h m
    exact ok_nt h.g i.1 i.2
  | .an es, x, X, W, cn, h, m => by
    cases x <;> try (cases m; done)
    rename_i op l pos
    cases op <;> try (cases m; done)
    have m : (mEs cn es l && !l.isEmpty) = true := m
    simp only [Bool.and_eq_true, Bool.not_eq_true'] at m
    exact ok_an ((snd_es cl es l X W cn h m.1).2.2.1 pos m.2)
  | .orr es, x, X, W, cn, h, m => by
    cases x <;> try (cases m; done)
    rename_i op l pos
    cases op <;> try (cases m; done)
    have m : (mEs cn es l && !l.isEmpty) = true := m
    simp only [Bool.and_eq_true, Bool.not_eq_true'] at m
    exact ok_orr ((snd_es cl es l X W cn h m.1).2.2.2 pos m.2)
  | .ife c a b, x, X, W, cn, h, m => by
    cases x <;> try (cases m; done)
    rename_i t y z pos
    have m : (mE cn c t && mE cn a y && mE cn b z) = true := m
    simp only [Bool.and_eq_true] at m
    obtain ⟨⟨m0, m1⟩, m2⟩ := m
    have i0 := snd_e cl c t X W cn h m0
    have i1 := snd_e cl a y X W cn h m1
    have i2 := snd_e cl b z X W cn h m2
    exact ok_ife i0.2 i1.1 i1.2 i2.1 i2.2
  | .ix a i, x, X, W, cn, h, m => by
    cases x <;> try (cases m; done)
    rename_i e s pos
    have m : (mE cn a e && mE cn i s && !(isSlice s)) = true := m
    simp only [Bool.and_eq_true, Bool.not_eq_true'] at m
    obtain ⟨⟨m0, m1⟩, m2⟩ := m
    have q : PE X (.Subscript e s pos) (te cl X W (.ix a i)) := ok_ix h.g m0 m1 m2 (snd_e cl a e X W cn h m0).1 (snd_e cl i s X W cn h m1).1
    exact ⟨q, pt_plain q rfl⟩
  | .sl a lo hi, x, X, W, cn, h, m => by
    cases x <;> try (cases m; done)
    rename_i e s pos
    cases s <;> try (cases m; done)
    rename_i l u st p2
    cases st <;> try (cases m; done)
    have m : (mE cn a e && mEo cn lo l && mEo cn hi u) = true := m
    simp only [Bool.and_eq_true] at m
    obtain ⟨⟨m0, m1⟩, m2⟩ := m
    have q : PE X (.Subscript e (.Slice l u none p2) pos) (te cl X W (.sl a lo hi)) := ok_sl h.g m0 (snd_e cl a e X W cn h m0).1 (snd_eo cl lo l X W cn h m1) (snd_eo cl hi u X W cn h m2)
    exact ⟨q, pt_plain q rfl⟩
  | .rev a, x, X, W, cn, h, m => by cases x <;> cases m
  | .tup es, x, X, W, cn, h, m => by
    cases x <;> try (cases m; done)
    rename_i l k pos
    have q : PE X (.Tuple l k pos) (te cl X W (.tup es)) := ok_tup (snd_es cl es l X W cn h m).2.1
    exact ⟨q, pt_plain q rfl⟩
  | .lst es, x, X, W, cn, h, m => by
    cases x <;> try (cases m; done)
    rename_i l pos
    have q : PE X (.List l pos) (te cl X W (.lst es)) := ok_lst (snd_es cl es l X W cn h m).2.1
    exact ⟨q, pt_plain q rfl⟩
  | .dct t ks vs, x, X, W, cn, h, m => by
    cases ks <;> try (cases x <;> cases m; done)
    cases vs <;> try (cases x <;> cases m; done)
    cases x <;> try (cases m; done)
    rename_i a b pos
    cases a <;> try (cases m; done)
    cases b <;> try (cases m; done)
    have q : PE X (.Dict [] [] pos) (te cl X W (.dct t .nil .nil)) := ok_dct
    exact ⟨q, pt_plain q rfl⟩
  | .bi b es, x, X, W, cn, h, m => by
    cases x <;> try (cases m; done)
    rename_i f l kws pos
    cases f <;> try (cases m; done)
    rename_i y p
    cases kws <;> try (cases m; done)
    have m : (decide (y = biN b) && hasBi b && glB cn y && mEs cn es l && !l.isEmpty) = true := m
    simp only [Bool.and_eq_true, decide_eq_true_eq, Bool.not_eq_true'] at m
    obtain ⟨⟨⟨⟨rfl, m0⟩, m1⟩, m2⟩, m3⟩ := m
    have i := (snd_es cl es l X W cn h m2).1
    cases l with
    | nil => cases m3
    | cons x l =>
      cases es with
      | nil => simp [mEs] at m2
      | cons e es =>
        simp only [mEs, Bool.and_eq_true] at m2
        have q : PE X (.Call (.Name (biN b) p) (x :: l) [] pos) (te cl X W (.bi b (.cons e es))) := ok_bi h.g m0 m1 (not_star m2.1) (star_all m2.2) i
        exact ⟨q, pt_plain q rfl⟩
  | .isi a t, x, X, W, cn, h, m => by
    cases x <;> try (cases m; done)
    rename_i f l kws pos
    cases f <;> try (cases m; done)
    rename_i y p
    cases l <;> try (cases m; done)
    rename_i e l
    cases l <;> try (cases m; done)
    rename_i z l
    cases z <;> try (cases m; done)
    rename_i z p2
    cases l <;> try (cases m; done)
    cases kws <;> try (cases m; done)
    have m : (decide (y = ("isinstance" : Str)) && decide (z = Str.ofString t) && tysL.contains t && glB cn y && glB cn z && mE cn a e) = true := m
    simp only [Bool.and_eq_true, decide_eq_true_eq] at m
    obtain ⟨⟨⟨⟨⟨rfl, rfl⟩, m0⟩, m1⟩, m2⟩, m3⟩ := m
    have q : PE X (.Call (.Name "isinstance" p) [e, .Name (Str.ofString t) p2] [] pos) (te cl X W (.isi a t)) := ok_isi h.g m0 m1 m2 m3 (snd_e cl a e X W cn h m3).1
    exact ⟨q, pt_plain q rfl⟩
  | .lset a, x, X, W, cn, h, m => by
    cases x <;> try (cases m; done)
    rename_i fe l kws pos
    cases fe <;> try (cases m; done)
    rename_i y p
    cases l <;> try (cases m; done)
    rename_i z l
    cases z <;> try (cases m; done)
    rename_i fe2 l2 kws2 pos2
    cases fe2 <;> try (cases m; done)
    rename_i y2 p2
    cases l2 <;> try (cases m; done)
    rename_i e l2
    cases l2 <;> try (cases m; done)
    cases kws2 <;> try (cases m; done)
    cases l <;> try (cases m; done)
    cases kws <;> try (cases m; done)
    have m : (decide (y = ("len" : Str)) && decide (y2 = ("set" : Str)) && glB cn y && glB cn y2 && mE cn a e) = true := m
    simp only [Bool.and_eq_true, decide_eq_true_eq] at m
    obtain ⟨⟨⟨⟨rfl, rfl⟩, m1⟩, m2⟩, m3⟩ := m
    have q : PE X (.Call (.Name "len" p) [.Call (.Name "set" p2) [e] [] pos2] [] pos) (te cl X W (.lset a)) := ok_lset h.g m1 m2 m3 (snd_e cl a e X W cn h m3).1
    exact ⟨q, pt_plain q rfl⟩
  | .mxv a, x, X, W, cn, h, m => by
    cases x <;> try (cases m; done)
    rename_i fe l kws pos
    cases fe <;> try (cases m; done)
    rename_i y p
    cases l <;> try (cases m; done)
    rename_i z l
    cases z <;> try (cases m; done)
    rename_i fe2 l2 kws2 pos2
    cases fe2 <;> try (cases m; done)
    rename_i e n apos
    cases l2 <;> try (cases m; done)
    cases kws2 <;> try (cases m; done)
    cases l <;> try (cases m; done)
    cases kws <;> try (cases m; done)
    have m : (decide (y = ("max" : Str)) && decide (n = ("values" : Str)) && glB cn y && (apos.endLine == pos2.line) && noSup e && mE cn a e) = true := m
    simp only [Bool.and_eq_true, decide_eq_true_eq] at m
    obtain ⟨⟨⟨⟨⟨rfl, rfl⟩, m1⟩, m2⟩, m3⟩, m4⟩ := m
    have q : PE X (.Call (.Name "max" p) [.Call (.Attribute e "values" apos) [] [] pos2] [] pos) (te cl X W (.mxv a)) := ok_mxv h.g m1 m2 m3 (snd_e cl a e X W cn h m4).1
    exact ⟨q, pt_plain q rfl⟩
  | .lrng a, x, X, W, cn, h, m => by
    cases x <;> try (cases m; done)
    rename_i fe l kws pos
    cases fe <;> try (cases m; done)
    rename_i y p
    cases l <;> try (cases m; done)
    rename_i z l
    cases z <;> try (cases m; done)
    rename_i fe2 l2 kws2 pos2
    cases fe2 <;> try (cases m; done)
    rename_i y2 p2
    cases l2 <;> try (cases m; done)
    rename_i e l2
    cases l2 <;> try (cases m; done)
    cases kws2 <;> try (cases m; done)
    cases l <;> try (cases m; done)
    cases kws <;> try (cases m; done)
    have m : (decide (y = ("list" : Str)) && decide (y2 = ("range" : Str)) && glB cn y && glB cn y2 && mE cn a e) = true := m
    simp only [Bool.and_eq_true, decide_eq_true_eq] at m
    obtain ⟨⟨⟨⟨rfl, rfl⟩, m1⟩, m2⟩, m3⟩ := m
    have q : PE X (.Call (.Name "list" p) [.Call (.Name "range" p2) [e] [] pos2] [] pos) (te cl X W (.lrng a)) := ok_lrng h.g m1 m2 m3 (snd_e cl a e X W cn h m3).1
    exact ⟨q, pt_plain q rfl⟩
  | .cnt i b, x, X, W, cn, h, m => by
    cases x <;> try (cases m; done)
    rename_i fe l kws pos
    cases fe <;> try (cases m; done)
    rename_i z n apos
    cases z <;> try (cases m; done)
    rename_i y p
    cases l <;> try (cases m; done)
    rename_i e l
    cases l <;> try (cases m; done)
    cases kws <;> try (cases m; done)
    have m : (decide (n = ("count" : Str)) && nmB cn i y && (apos.endLine == pos.line) && mE cn b e) = true := m
    simp only [Bool.and_eq_true, decide_eq_true_eq] at m
    obtain ⟨⟨⟨rfl, m1⟩, m2⟩, m3⟩ := m
    have q : PE X (.Call (.Attribute (.Name y p) "count" apos) [e] [] pos) (te cl X W (.cnt i b)) := ok_cnt h.g m1 m2 m3 (snd_e cl b e X W cn h m3).1
    exact ⟨q, pt_plain q rfl⟩
  | .dzip a b, x, X, W, cn, h, m => by
    cases x <;> try (cases m; done)
    rename_i fe l kws pos
    cases fe <;> try (cases m; done)
    rename_i y p
    cases l <;> try (cases m; done)
    rename_i z l
    cases z <;> try (cases m; done)
    rename_i fe2 l2 kws2 pos2
    cases fe2 <;> try (cases m; done)
    rename_i y2 p2
    cases l2 <;> try (cases m; done)
    rename_i e l2
    cases l2 <;> try (cases m; done)
    rename_i e2 l2
    cases l2 <;> try (cases m; done)
    cases kws2 <;> try (cases m; done)
    cases l <;> try (cases m; done)
    cases kws <;> try (cases m; done)
    have m : (decide (y = ("dict" : Str)) && decide (y2 = ("zip" : Str)) && glB cn y && glB cn y2 && mE cn a e && mE cn b e2) = true := m
    simp only [Bool.and_eq_true, decide_eq_true_eq] at m
    obtain ⟨⟨⟨⟨⟨rfl, rfl⟩, m1⟩, m2⟩, m3⟩, m4⟩ := m
    have q : PE X (.Call (.Name "dict" p) [.Call (.Name "zip" p2) [e, e2] [] pos2] [] pos) (te cl X W (.dzip a b)) := ok_dzip h.g m1 m2 (not_star m3) (not_star m4) (pd_one m3 (snd_e cl a e X W cn h m3).1 (pd_one m4 (snd_e cl b e2 X W cn h m4).1 pd_zero))
    exact ⟨q, pt_plain q rfl⟩
  | .call f es, x, X, W, cn, h, m => by
    cases x <;> try (cases m; done)
    rename_i fe l kws pos
    cases fe <;> try (cases m; done)
    rename_i y p
    cases kws <;> try (cases m; done)
    have m : (decide (y = f) && glB cn y && mEs cn es l && !l.isEmpty && (cn.io f == some false)) = true := m
    simp only [Bool.and_eq_true, decide_eq_true_eq, Bool.not_eq_true', beq_iff_eq] at m
    obtain ⟨⟨⟨⟨rfl, m1⟩, m2⟩, m3⟩, m4⟩ := m
    have i := (snd_es cl es l X W cn h m2).1
    cases l with
    | nil => cases m3
    | cons x l =>
      cases es with
      | nil => simp [mEs] at m2
      | cons e es =>
        simp only [mEs, Bool.and_eq_true] at m2
        have q : PE X (.Call (.Name y p) (x :: l) [] pos) (te cl X W (.call y (.cons e es))) := ok_call h.g h.c m1 m4 (not_star m2.1) (star_all m2.2) i
        exact ⟨q, pt_plain q rfl⟩
  | .callM f i es, x, X, W, cn, h, m => by
    cases x <;> try (cases m; done)
    rename_i fe l kws pos
    cases fe <;> try (cases m; done)
    rename_i y p
    cases l <;> try (cases m; done)
    rename_i z l
    cases z <;> try (cases m; done)
    rename_i z p2
    cases kws <;> try (cases m; done)
    have m : (decide (y = f) && glB cn y && nmB cn i z && mEs cn es l && (cn.io f == some true)) = true := m
    simp only [Bool.and_eq_true, decide_eq_true_eq, beq_iff_eq] at m
    obtain ⟨⟨⟨⟨rfl, m1⟩, m2⟩, m3⟩, m4⟩ := m
    have q : PE X (.Call (.Name y p) (.Name z p2 :: l) [] pos) (te cl X W (.callM y i es)) := ok_callM h.g h.c m1 m4 m2 (star_all m3) (snd_es cl es l X W cn h m3).1
    exact ⟨q, pt_plain q rfl⟩
  | .callT f a es, x, X, W, cn, h, m => by
    cases x <;> try (cases m; done)
    rename_i fe l kws pos
    cases fe <;> try (cases m; done)
    rename_i y p
    cases l <;> try (cases m; done)
    rename_i z l
    cases kws <;> try (cases m; done)
    have m : (decide (y = f) && glB cn y && mE cn a z && mEs cn es l && (cn.io f == some true)) = true := m
    simp only [Bool.and_eq_true, decide_eq_true_eq, beq_iff_eq] at m
    obtain ⟨⟨⟨⟨rfl, m1⟩, m2⟩, m3⟩, m4⟩ := m
    have q : PE X (.Call (.Name y p) (z :: l) [] pos) (te cl X W (.callT y a es)) := ok_callT h.g h.c m1 m4 (not_star m2) (snd_e cl a z X W cn h m2).1 (star_all m3) (snd_es cl es l X W cn h m3).1
    exact ⟨q, pt_plain q rfl⟩
  | .mu u i es, x, X, W, cn, h, m => by
    cases x <;> try (cases m; done)
    rename_i fe l kws pos
    cases fe <;> try (cases m; done)
    rename_i o n apos
    cases o <;> try (cases m; done)
    rename_i y p
    cases kws <;> try (cases m; done)
    have m : (decide (n = muN u) && nmB cn i y && mEs cn es l && (apos.endLine == pos.line) && decide (l.length < 29)) = true := m
    simp only [Bool.and_eq_true, decide_eq_true_eq] at m
    obtain ⟨⟨⟨⟨rfl, m1⟩, m2⟩, m3⟩, m4⟩ := m
    have ih := (snd_es cl es l X W cn h m2).2.1
    cases l with
    | nil =>
      cases es with
      | nil =>
        have q : PE X (.Call (.Attribute (.Name y p) (muN u) apos) [] [] pos) (te cl X W (.mu u i .nil)) := ok_mu0 h.g m1 m3
        exact ⟨q, pt_plain q rfl⟩
      | cons e es => simp [mEs] at m2
    | cons x l =>
      have q : PE X (.Call (.Attribute (.Name y p) (muN u) apos) (x :: l) [] pos) (te cl X W (.mu u i es)) := ok_mu1 h.g m1 m3 m4 m2 ih
      exact ⟨q, pt_plain q rfl⟩
  | .lc el tg it own, x, X, W, cn, h, m => by
    cases x <;> try (cases m; done)
    rename_i elt gs scope pos
    cases gs <;> try (cases m; done)
    rename_i ge gs
    obtain ⟨t, iter, ifs, as⟩ := ge
    cases ifs <;> cases gs <;> try (cases m; done)
    have m : (decide (as = 0) && blkC cn.N cn.sc scope (ownP cn.N own) && mE (cnIn cn scope) el elt && mT (cnIn cn scope) tg t && mI cn it iter && tgOk it tg && (tgN tg).all own.contains) = true := m
    simp only [Bool.and_eq_true] at m
    obtain ⟨⟨⟨⟨⟨⟨ma, m0⟩, m1⟩, m2⟩, m3⟩, m4⟩, m5⟩ := m
    have ma := decE ma
    subst ma
    have q : PE X (.ListComp elt [⟨t, iter, [], 0⟩] scope pos) (te cl X W (.lc el tg it own)) := ok_lc h.g m0 m2 m5 m3 (snd_i cl it tg t iter X W cn (cnIn cn scope) h m2 m4 m3) fun s H C l fp => (snd_e cl el elt _ W0 (cnIn cn scope) (h.blk m0 s H C l fp) m1).1
    exact ⟨q, pt_plain q rfl⟩
  | .lcf el tg it c own, x, X, W, cn, h, m => by
    cases x <;> try (cases m; done)
    rename_i elt gs scope pos
    cases gs <;> try (cases m; done)
    rename_i ge gs
    obtain ⟨t, iter, ifs, as⟩ := ge
    cases ifs <;> try (cases gs <;> cases m; done)
    rename_i d ifs
    cases ifs <;> cases gs <;> try (cases m; done)
    have m : (decide (as = 0) && blkC cn.N cn.sc scope (ownP cn.N own) && mE (cnIn cn scope) el elt && mE (cnIn cn scope) c d && mT (cnIn cn scope) tg t && mI cn it iter && tgOk it tg && (tgN tg).all own.contains) = true := m
    simp only [Bool.and_eq_true] at m
    obtain ⟨⟨⟨⟨⟨⟨⟨ma, m0⟩, m1⟩, mc⟩, m2⟩, m3⟩, m4⟩, m5⟩ := m
    have ma := decE ma
    subst ma
    have q : PE X (.ListComp elt [⟨t, iter, [d], 0⟩] scope pos) (te cl X W (.lcf el tg it c own)) := ok_lcf h.g m0 m2 m5 m3 (snd_i cl it tg t iter X W cn (cnIn cn scope) h m2 m4 m3) (fun s H C l fp => (snd_e cl c d _ W0 (cnIn cn scope) (h.blk m0 s H C l fp) mc).2) fun s H C l fp => (snd_e cl el elt _ W0 (cnIn cn scope) (h.blk m0 s H C l fp) m1).1
    exact ⟨q, pt_plain q rfl⟩
theorem snd_eo (cl : Cl) : ∀ (e : Eo) (x : Option Expr) (X : Cx) (W : WX) (cn : Cn), All cl X W cn → mEo cn e x = true → PO X x (too cl X W e)
  | .non, x, X, W, cn, h, m => po_of (fun e' x' z _ => by cases z) m
  | .som e, x, X, W, cn, h, m => po_of (fun e' x' z1 z2 => by
    cases z1
    subst z2
    exact (snd_e cl e x' X W cn h m).1) m
theorem snd_es (cl : Cl) : ∀ (es : Es) (l : List Expr) (X : Cx) (W : WX) (cn : Cn), All cl X W cn → mEs cn es l = true → PA X l (tos cl X W es) ∧ PA X l (tes cl X W es) ∧
    (∀ pos, l.isEmpty = false → PE X (.BoolOp .And l pos) (teA cl X W es) ∧ PW X (.BoolOp .And l pos) (ttA cl X W es)) ∧ (∀ pos, l.isEmpty = false → PE X (.BoolOp .Or l pos) (teO cl X W es) ∧ PW X (.BoolOp .Or l pos) (ttO cl X W es))
  | .nil, l, X, W, cn, h, m => by
    cases l <;> try (cases m; done)
    exact ⟨pa_zero, pd_zero, (fun _ z => nomatch z), fun _ z => nomatch z⟩
  | .cons e es, l, X, W, cn, h, m => by
    cases l <;> try (cases m; done)
    rename_i x l
    have m : (mE cn e x && mEs cn es l) = true := m
    simp only [Bool.and_eq_true] at m
    obtain ⟨i1, i2⟩ := snd_e cl e x X W cn h m.1
    obtain ⟨j1, j2, j3, j4⟩ := snd_es cl es l X W cn h m.2
    refine ⟨pa_one h.g m.1 i1 j1, pd_one m.1 i1 j2, fun pos _ => ?_, fun pos _ => ?_⟩
    · cases es with
      | nil =>
        cases l with
        | nil => exact and_one i1 i2
        | cons y l => have := m.2; simp [mEs] at this
      | cons e2 es =>
        cases l with
        | nil => have := m.2; simp [mEs] at this
        | cons y l => exact and_more i1 i2 (j3 pos rfl)
    · cases es with
      | nil =>
        cases l with
        | nil => exact or_one i1 i2
        | cons y l => have := m.2; simp [mEs] at this
      | cons e2 es =>
        cases l with
        | nil => have := m.2; simp [mEs] at this
        | cons y l => exact or_more i1 i2 (j4 pos rfl)
theorem snd_i (cl : Cl) : ∀ (it : It) (tg : Tg) (t x : Expr) (X : Cx) (W : WX) (cn cn2 : Cn), All cl X W cn → mT cn2 tg t = true → tgOk it tg = true → mI cn it x = true → PI X t x (ti cl X W it)
  | .val e, tg, t, x, X, W, cn, cn2, h, mt, mo, m => ti_val (snd_e cl e x X W cn h m).1
  | .bor i, tg, t, x, X, W, cn, cn2, h, mt, mo, m => by
    cases x <;> try (cases m; done)
    exact ti_bor h.g m
  | .rng1 a, tg, t, x, X, W, cn, cn2, h, mt, mo, m => by
    cases x <;> try (cases m; done)
    rename_i f l kws pos
    cases f <;> try (cases m; done)
    rename_i y p
    cases l <;> try (cases m; done)
    rename_i e l
    cases l <;> try (cases m; done)
    cases kws <;> try (cases m; done)
    have m : (decide (y = ("range" : Str)) && glB cn y && mE cn a e) = true := m
    simp only [Bool.and_eq_true, decide_eq_true_eq] at m
    obtain ⟨⟨rfl, m0⟩, m1⟩ := m
    exact ti_rng1 h.g m0 (not_star m1) (pd_one m1 (snd_e cl a e X W cn h m1).1 pd_zero)
  | .rng2 a b, tg, t, x, X, W, cn, cn2, h, mt, mo, m => by
    cases x <;> try (cases m; done)
    rename_i f l kws pos
    cases f <;> try (cases m; done)
    rename_i y p
    cases l <;> try (cases m; done)
    rename_i e l
    cases l <;> try (cases m; done)
    rename_i e2 l
    cases l <;> try (cases m; done)
    cases kws <;> try (cases m; done)
    have m : (decide (y = ("range" : Str)) && glB cn y && mE cn a e && mE cn b e2) = true := m
    simp only [Bool.and_eq_true, decide_eq_true_eq] at m
    obtain ⟨⟨⟨rfl, m0⟩, m1⟩, m2⟩ := m
    exact ti_rng2 h.g m0 (not_star m1) (not_star m2) (pd_one m1 (snd_e cl a e X W cn h m1).1 (pd_one m2 (snd_e cl b e2 X W cn h m2).1 pd_zero))
  | .rng3 a b c, tg, t, x, X, W, cn, cn2, h, mt, mo, m => by
    cases x <;> try (cases m; done)
    rename_i f l kws pos
    cases f <;> try (cases m; done)
    rename_i y p
    cases l <;> try (cases m; done)
    rename_i e l
    cases l <;> try (cases m; done)
    rename_i e2 l
    cases l <;> try (cases m; done)
    rename_i e3 l
    cases l <;> try (cases m; done)
    cases kws <;> try (cases m; done)
    have m : (decide (y = ("range" : Str)) && glB cn y && mE cn a e && mE cn b e2 && mE cn c e3) = true := m
    simp only [Bool.and_eq_true, decide_eq_true_eq] at m
    obtain ⟨⟨⟨⟨rfl, m0⟩, m1⟩, m2⟩, m3⟩ := m
    exact ti_rng3 h.g m0 (not_star m1) (not_star m2) (not_star m3) (pd_one m1 (snd_e cl a e X W cn h m1).1 (pd_one m2 (snd_e cl b e2 X W cn h m2).1 (pd_one m3 (snd_e cl c e3 X W cn h m3).1 pd_zero)))
  | .enum a, tg, t, x, X, W, cn, cn2, h, mt, mo, m => by
    cases tg with
    | nm i => cases mo
    | tp ts =>
    obtain ⟨es, kk, tpos, rfl⟩ := isTup_of mt
    cases x <;> try (cases m; done)
    rename_i f l kws pos
    cases f <;> try (cases m; done)
    rename_i y p
    cases l <;> try (cases m; done)
    rename_i e l
    cases l <;> try (cases m; done)
    cases kws <;> try (cases m; done)
    have m : (decide (y = ("enumerate" : Str)) && glB cn y && mE cn a e) = true := m
    simp only [Bool.and_eq_true, decide_eq_true_eq] at m
    obtain ⟨⟨rfl, m0⟩, m1⟩ := m
    exact ti_enum h.g m0 (not_star m1) (pd_one m1 (snd_e cl a e X W cn h m1).1 pd_zero)
  | .zip a b, tg, t, x, X, W, cn, cn2, h, mt, mo, m => by
    cases tg with
    | nm i => cases mo
    | tp ts =>
    obtain ⟨es, kk, tpos, rfl⟩ := isTup_of mt
    cases x <;> try (cases m; done)
    rename_i f l kws pos
    cases f <;> try (cases m; done)
    rename_i y p
    cases l <;> try (cases m; done)
    rename_i e l
    cases l <;> try (cases m; done)
    rename_i e2 l
    cases l <;> try (cases m; done)
    cases kws <;> try (cases m; done)
    have m : (decide (y = ("zip" : Str)) && glB cn y && mE cn a e && mE cn b e2) = true := m
    simp only [Bool.and_eq_true, decide_eq_true_eq] at m
    obtain ⟨⟨⟨rfl, m0⟩, m1⟩, m2⟩ := m
    exact ti_zip h.g m0 (not_star m1) (not_star m2) (pd_one m1 (snd_e cl a e X W cn h m1).1 (pd_one m2 (snd_e cl b e2 X W cn h m2).1 pd_zero))
  | .items e, tg, t, x, X, W, cn, cn2, h, mt, mo, m => by cases x <;> cases m
end
end Bw

set_option maxRecDepth 100000
set_option maxHeartbeats 4000000
namespace Bw
open PySem PySem.Spec PyProof.Rows L2
section
variable {K : PySem.W.Frag} {S : List Addr} {H : Hp}
/-- what putX says of an owned thing -/
theorem put_ow {a : Addr} {o : HO} {b k d b' : Dt} {vk v : V} (ho : H a = some o) (ha : a ∈ S) (w : Ow K (hid S H) o b) (rk : Rp K (hid S H) vk k) (r : Rp K (hid S H) v d) (e : putX b k d = some b') :
    ∃ o', Ow K (hid S H) o' b' ∧ ((∃ xs ks j, H a = some (.lst xs) ∧ vk = .int ks ∧ ixN xs.length ks = some j ∧ o' = .lst (xs.set j v)) ∨ DPut H a vk v (upd H a o')) := by
  unfold putX at e
  split at e
  · rename_i xs ks
    cases w with
    | lst t =>
      cases rk
      split at e
      · rename_i j hj
        cases e
        exact ⟨_, .lst (t.set r j), .inl ⟨_, _, j, ho, rfl, by rw [t.length]; exact hj, rfl⟩⟩
      · cases e
  · rename_i m kvs _
    split at e
    · rename_i kk hk
      split at e
      · rename_i hg
        split at e
        · rename_i hl
          cases e
          cases w with
          | dK t =>
            rename_i kvs' ds'
            rcases toK_cases hk with ⟨x, rfl, rfl⟩ | ⟨xs, rfl, rfl⟩
            · obtain ⟨ds2, h1, h2⟩ := put_zip (κ := Key) keyD .inl toK_k (fun a b z => by cases z; rfl) x r t
              rw [h2]
              refine ⟨_, .dK h1, .inr ?_⟩
              rw [rk.keyV]
              refine DPut.k ho ?_
              have := t.length
              rw [List.length_map] at this
              rw [List.length_zip, List.length_map, ← this, Nat.min_self] at hl
              exact hl
            · cases hg
          | dT t =>
            rename_i kvs' ds'
            rcases toK_cases hk with ⟨x, rfl, rfl⟩ | ⟨xs, rfl, rfl⟩
            · cases hg
            · obtain ⟨ds2, h1, h2⟩ := put_zip (κ := List Key) (fun ks => PyData.tuple (ks.map keyD)) .inr toK_t (fun a b z => by cases z; rfl) xs r t
              rw [h2]
              refine ⟨_, .dT h1, .inr ?_⟩
              cases rk with
              | tup hq tq =>
                have := tq.keyVs
                subst this
                refine DPut.t ho (hid_back hq) ?_
                have := t.length
                rw [List.length_map] at this
                rw [List.length_zip, List.length_map, ← this, Nat.min_self] at hl
                exact hl
        · cases e
      · cases e
    · cases e
  · cases e
end
/-! ### a dict that is walked is locked -/
section
variable {K : PySem.W.Frag} {G : Hp} {a : Addr} {u : HO} {od : Obj}
/-- it is a dict -/
def isD : HO → Bool
  | .dK _ => true
  | .dT _ => true
  | _ => false
theorem rd_lock (hG : G a = some u) (hu : isD u = true) {b : Addr} {v : HO} (h : Rd G b v) : Rd (upd G a (.frz od u)) b v := by
  by_cases hb : b = a
  · subst hb
    rcases h with h | ⟨o, h⟩
    · rw [hG] at h; cases h; exact .inr ⟨od, upd_same⟩
    · rw [hG] at h; cases h; cases hu
  · rcases h with h | ⟨o, h⟩
    · exact .inl (by rw [upd_ne hb]; exact h)
    · exact .inr ⟨o, by rw [upd_ne hb]; exact h⟩
theorem rd_unlock (hG : G a = some (.frz od u)) (hu : isD u = true) {b : Addr} {v : HO} (hv : ∀ o x, v ≠ .frz o x) (h : Rd G b v) : Rd (upd G a u) b v := by
  by_cases hb : b = a
  · subst hb
    rcases h with h | ⟨o, h⟩
    · rw [hG] at h; cases h; exact absurd rfl (hv _ _)
    · rw [hG] at h; cases h; exact .inl upd_same
  · rcases h with h | ⟨o, h⟩
    · exact .inl (by rw [upd_ne hb]; exact h)
    · exact .inr ⟨o, by rw [upd_ne hb]; exact h⟩
/-- the heaps agree, but for a lock -/
structure Lk (G G' : Hp) : Prop where
  l : ∀ b xs, G b = some (.lst xs) → G' b = some (.lst xs)
  t : ∀ b xs, G b = some (.tup xs) → G' b = some (.tup xs)
  r : ∀ b v, (∀ o x, v ≠ .frz o x) → Rd G b v → Rd G' b v
theorem lk_lock (hG : G a = some u) (hu : isD u = true) : Lk G (upd G a (.frz od u)) :=
  ⟨fun b xs h => by rw [upd_ne fun z => by rw [z, hG] at h; cases h; cases hu]; exact h, fun b xs h => by rw [upd_ne fun z => by rw [z, hG] at h; cases h; cases hu]; exact h, fun b v _ h => rd_lock hG hu h⟩
theorem lk_unlock (hG : G a = some (.frz od u)) (hu : isD u = true) : Lk G (upd G a u) :=
  ⟨fun b xs h => by rw [upd_ne fun z => by rw [z, hG] at h; cases h]; exact h, fun b xs h => by rw [upd_ne fun z => by rw [z, hG] at h; cases h]; exact h, fun b v hv h => rd_unlock hG hu hv h⟩
mutual
theorem rp_lk {K : PySem.W.Frag} {G G' : Hp} (l : Lk G G') : ∀ {v : V} {d : Dt}, Rp K G v d → Rp K G' v d
  | _, _, .non => .non
  | _, _, .bl b => .bl b
  | _, _, .int i => .int i
  | _, _, .str x => .str x
  | _, _, .lst h t => .lst (l.l _ _ h) (rpl_lk l t)
  | _, _, .scr h => .scr (h.elim (fun z => .inl (l.r _ _ (fun _ _ e => nomatch e) z)) .inr)
  | _, _, .tup h t => .tup (l.t _ _ h) (rpl_lk l t)
  | _, _, .dK h t => .dK (l.r _ _ (fun _ _ e => nomatch e) h) (rpl_lk l t)
  | _, _, .dT h t => .dT (l.r _ _ (fun _ _ e => nomatch e) h) (rpl_lk l t)
theorem rpl_lk {K : PySem.W.Frag} {G G' : Hp} (l : Lk G G') : ∀ {vs : List V} {ds : List Dt}, RpL K G vs ds → RpL K G' vs ds
  | _, _, .nil => .nil
  | _, _, .cons h t => .cons (rp_lk l h) (rpl_lk l t)
end
theorem ow_lk {G G' : Hp} (l : Lk G G') {o : HO} {d : Dt} (h : Ow K G o d) : Ow K G' o d := by
  cases h with
  | lst t => exact .lst (rpl_lk l t)
  | dK t => exact .dK (rpl_lk l t)
  | dT t => exact .dT (rpl_lk l t)
theorem hid_out {S : List Addr} {H : Hp} {a : Addr} {o : HO} (ha : a ∉ S) : hid S (upd H a o) = upd (hid S H) a o := by
  funext b
  by_cases hb : b = a
  · subst hb
    rw [hid_of ha, upd_same, upd_same]
  · rw [upd_ne hb]
    unfold hid
    split
    · rfl
    · exact upd_ne hb
/-- a frame beside a lock -/
theorem ok_lk {δ : De} {S : List Addr} {σ : L2.St} {H : Hp} {x : HO} (ok : StOk K S δ σ H) (ha : a ∉ S) (hs : (H a).isSome = true) (hx : ∀ xs, x ≠ .tup xs) (l : Lk (hid S H) (hid S (upd H a x))) : StOk K S δ σ (upd H a x) := by
  have ne : ∀ b, b ∈ S → b ≠ a := fun b hb z => ha (z ▸ hb)
  refine ⟨ok.len, fun i d g => ?_, fun i d g => ?_, ok.inj, fun b hb => by rw [upd_ne (ne b hb)]; exact ok.live b hb, fun b hb => by rw [upd_ne (ne b hb)]; exact ok.nt b hb⟩
  · obtain ⟨v, e1, e2⟩ := ok.val i d g
    exact ⟨v, e1, rp_lk l e2⟩
  · obtain ⟨p, o, e1, e2, e3, e4⟩ := ok.own i d g
    exact ⟨p, o, e1, e2, by rw [upd_ne (ne p e2)]; exact e3, ow_lk l e4⟩
/-- behind a loop over a locked dict -/
theorem mv_unlock {δ δe : De} {S Se : List Addr} {σ σe : L2.St} {H He : Hp} (ok0 : StOk K S δ σ H) (m : Mv K δ S σ (upd H a (.frz od u)) δe Se σe He) (hH : H a = some u) (hu : isD u = true) (ha : a ∉ S) :
    He a = some (.frz od u) ∧ Mv K δ S σ H δe Se σe (upd He a u) ∧ a ∉ Se ∧ Lk (hid Se He) (hid Se (upd He a u)) := by
  have n : ¬ Own δ σ a := fun z => ha (ok0.own_mem z)
  have hHe : He a = some (.frz od u) := m.keep a _ upd_same n
  have none_of : ∀ b, (upd H a (.frz od u)) b = none → H b = none := fun b z => by
    by_cases hb : b = a
    · rw [hb, upd_same] at z; cases z
    · rw [upd_ne hb] at z; exact z
  have haS : a ∉ Se := fun z => by
    rcases m.sub a z with z | z
    · exact ha z
    · rw [upd_same] at z; cases z
  have lk : Lk (hid Se He) (hid Se (upd He a u)) := by
    rw [hid_out haS]
    exact lk_unlock (by rw [hid_of haS]; exact hHe) hu
  refine ⟨hHe, ⟨fun b o h1 h2 => ?_, fun b h => (m.sub b h).imp id (none_of b), m.sup, fun b h => (m.own b h).imp id (none_of b), fun b h => ?_, ok0.live, ok_lk m.ok haS (by rw [hHe]; rfl) (fun xs z => by rw [z] at hu; cases hu) lk⟩, haS, lk⟩
  · by_cases hb : b = a
    · subst hb
      rw [hH] at h1; cases h1; exact upd_same
    · rw [upd_ne hb]
      exact m.keep b o (by rw [upd_ne hb]; exact h1) h2
  · by_cases hb : b = a
    · rw [hb, upd_same]; rfl
    · rw [upd_ne hb]
      exact m.some b (by rw [upd_ne hb]; exact h)
theorem wk_keys {S : List Addr} {H : Hp} {o : Obj} {kvs : List (Key × V)} (h : hid S H a = some (.frz o (.dK kvs))) : WkAt K (Itk a o kvs) [] S H (kvs.map fun p => keyD p.1) := by
  refine ⟨_, _, by rw [List.length_map]; exact walk_keys, fun S' H' l k _ _ => ⟨hid_back (l _ _ h), fun i x H'' d e y => ?_⟩⟩
  obtain ⟨rfl, k, v, h1, rfl⟩ := y
  rw [List.getElem?_map, h1] at e
  cases e
  refine ⟨.refl _, ?_⟩
  cases k with
  | inl i => exact .int i
  | inr z => exact .str z
theorem wk_keysT {S : List Addr} {H : Hp} {o : Obj} {kvs : List (List Key × V)} (h : hid S H a = some (.frz o (.dT kvs))) : WkAt K (Itkt a o kvs) [] S H (kvs.map fun p => PyData.tuple (p.1.map keyD)) := by
  refine ⟨_, _, by rw [List.length_map]; exact walk_keysT, fun S' H' l k _ nt => ⟨hid_back (l _ _ h), fun i x H'' d e y => ?_⟩⟩
  obtain ⟨rfl, k, v, q, h1, rfl, hq⟩ := y
  rw [List.getElem?_map, h1] at e
  cases e
  refine ⟨.refl _, .tup (by rw [hid_of fun z => nt q z _ hq]; exact hq) ?_⟩
  clear h1
  induction k with
  | nil => exact .nil
  | cons k ks ih =>
    refine .cons ?_ (by
      clear ih hq
      induction ks with
      | nil => exact .nil
      | cons k ks ih => exact .cons (by cases k with
        | inl i => exact .int i
        | inr z => exact .str z) ih)
    cases k with
    | inl i => exact .int i
    | inr z => exact .str z
end
end Bw

set_option maxRecDepth 100000
set_option maxHeartbeats 4000000
namespace Bw
open PySem PySem.Spec PyProof.Rows L2
/-! ### statements -/
/-- what return gives: frozen, or a thing that nobody else holds -/
def VlR (K : PySem.W.Frag) (δ0 : De) (σ0 : L2.St) (H0 : Hp) (S' : List Addr) (δ' : De) (σ' : L2.St) (H' : Hp) (v : V) (d : Dt) : Bool → Prop
  | false => Rp K (hid S' H') v d
  | true => ∃ p o, v = .ref p ∧ (H0 p = none ∨ Own δ0 σ0 p) ∧ p ∈ S' ∧ ¬ Own δ' σ' p ∧ H' p = some o ∧ Ow K (hid S' H') o d
structure Bs where
  δ : De
  S : List Addr
  σ : L2.St
  H : Hp
def ResS (X : Cx) (W : WX) (fx : Bool) (B : Bs) (r : R Fl) (D : Ends) : Prop :=
  match r with
  | .ok .nx δ' => ∀ σ' H' S', Mv X.K B.δ B.S B.σ B.H δ' S' σ' H' → (fx = true → σ'[0]? = B.σ[0]?) → D.nx σ' H'
  | .ok .brk δ' => ∀ σ' H' S', Mv X.K B.δ B.S B.σ B.H δ' S' σ' H' → (fx = true → σ'[0]? = B.σ[0]?) → D.bk σ' H'
  | .ok (.ret d w) δ' => ∀ v σ' H' S', Mv X.K B.δ B.S B.σ B.H δ' S' σ' H' → (fx = true → σ'[0]? = B.σ[0]?) → VlR X.K B.δ B.σ B.H S' δ' σ' H' v d w → D.rt v H'
  | .ex c x δ' => ∀ σ' H' S' cls dd, Mv X.K B.δ B.S B.σ B.H δ' S' σ' H' → ExV X S' H' c x cls dd → W cls dd σ' H'
  | .bad => False
def ts (cl : Cl) (X : Cx) (W : WX) (fx : Bool) (s : S) : TS := fun D σ H => ∃ B δ S, Mv X.K B.δ B.S B.σ B.H δ S σ H ∧ (fx = true → σ[0]? = B.σ[0]?) ∧ ResS X W fx B (xs cl s δ) D
def tss (cl : Cl) (X : Cx) (W : WX) (fx : Bool) (s : Ss) : TS := fun D σ H => ∃ B δ S, Mv X.K B.δ B.S B.σ B.H δ S σ H ∧ (fx = true → σ[0]? = B.σ[0]?) ∧ ResS X W fx B (xss cl s δ) D
section
variable {cl : Cl} {X : Cx} {W : WX} {cn : Cn} {fx : Bool} {B : Bs} {δ : De} {S : List Addr} {σ : L2.St} {H : Hp} {D : Ends}
theorem ResS.bind {α β : Type} {P : Ans α β} {r : R α} {f : α → De → R Fl} {Q : β → Hp → Prop} (m : Mv X.K B.δ B.S B.σ B.H δ S σ H) (hq : ResS X W fx B (r.bind f) D)
    (k : ∀ a δ1 v H1 S1, Mv X.K δ S σ H δ1 S1 σ H1 → P H a δ1 S1 H1 v → ResS X W fx B (f a δ1) D → Q v H1) : Res X W P δ S σ H r Q := by
  cases r with
  | ok a δ' => exact fun v H' S' m2 p => k a δ' v H' S' m2 p hq
  | ex c x δ' => exact fun H' S' cls dd m2 e => hq σ H' S' cls dd (m.trans m2) e
  | bad => exact hq
/-- an expression's value that is given away -/
theorem frzS {r : R (Dt × Bool)} {f : Dt → De → R Fl} {Q : VK} (m : Mv X.K B.δ B.S B.σ B.H δ S σ H) (hq : ResS X W fx B (r.bind fun x δ1 => f x.1 δ1) D)
    (k : ∀ d δ1 v H1 S1, Mv X.K δ S σ H δ1 S1 σ H1 → Rp X.K (hid S1 H1) v d → ResS X W fx B (f d δ1) D → Q v H1) : Res X W (AV X σ) δ S σ H r Q :=
  ResS.bind (P := AV X σ) m hq fun a δ1 v H1 S1 m2 vl q => by
    obtain ⟨S2, m3, r⟩ := Vl.freeze m2 vl
    exact k a.1 δ1 v H1 S2 m3 r q
/-- from a later start -/
theorem ResS.re {δ1 : De} {S1 : List Addr} {σ1 : L2.St} {H1 : Hp} {r : R Fl} (m1 : Mv X.K B.δ B.S B.σ B.H δ1 S1 σ1 H1) (hf : fx = true → σ1[0]? = B.σ[0]?) (q : ResS X W fx B r D) : ResS X W fx ⟨δ1, S1, σ1, H1⟩ r D := by
  cases r with
  | ok o δ' =>
    cases o with
    | nx => exact fun σ' H' S' m f => q σ' H' S' (m1.trans m) fun z => (f z).trans (hf z)
    | brk => exact fun σ' H' S' m f => q σ' H' S' (m1.trans m) fun z => (f z).trans (hf z)
    | ret d w =>
      refine fun v σ' H' S' m f vl => q v σ' H' S' (m1.trans m) (fun z => (f z).trans (hf z)) ?_
      cases w with
      | false => exact vl
      | true =>
        obtain ⟨p, o, e, hp, r⟩ := vl
        refine ⟨p, o, e, ?_, r⟩
        rcases hp with hp | hp
        · exact .inl (none_back (m1.some p) hp)
        · exact (m1.own p hp).symm
  | ex c x δ' => exact fun σ' H' S' cls dd m e => q σ' H' S' cls dd (m1.trans m) e
  | bad => exact q
theorem VlR.of (m : Mv X.K B.δ B.S B.σ B.H δ S σ H) {δ1 : De} {S1 : List Addr} {H1 : Hp} {v : V} {d : Dt} {w : Bool} (vl : Vl X.K H S1 δ1 σ H1 v d w) : VlR X.K B.δ B.σ B.H S1 δ1 σ H1 v d w := by
  cases w with
  | false => exact vl
  | true =>
    obtain ⟨p, o, e, hp, r⟩ := vl
    exact ⟨p, o, e, .inl (none_back (m.some p) hp), r⟩
theorem st_set {x : Option (Dt × Bool)} {δ : De} {i : Nat} (a : Dt × Bool) : st δ i (some a) = st δ i (some (a.1, a.2)) := rfl
theorem fx_set {i : Nat} {x : Option V} {σ0 : L2.St} (hi : fx = true → i ≠ 0) (hf : fx = true → σ[0]? = σ0[0]?) : fx = true → (σ.set i x)[0]? = σ0[0]? := fun z => by
  rw [List.getElem?_set_ne (hi z)]; exact hf z
theorem r_asg {i : Nat} {e : E} (hi : fx = true → i ≠ 0) (h : ts cl X W fx (.asg i e) D σ H) : tAsg (te cl X W e) (gName i) D σ H := by
  obtain ⟨B, δ, S, m, hf, q⟩ := h
  refine ⟨δ, S, m.ok, ResS.bind (P := AV X σ) m q fun a δ1 v H1 S1 m2 vl q1 => ?_⟩
  exact q1 _ H1 S1 (mv_set (m.trans m2) (d := a.1) (w := a.2) (Vl.later m m2 vl) i) (fx_set hi hf)
theorem r_unp {ts' : Tgs} {e : E} (hi : fx = true → 0 ∉ tgN (.tp ts')) (h : ts cl X W fx (.unp ts' e) D σ H) : tAsg (te cl X W e) (gT X.K (.tp ts')) D σ H := by
  obtain ⟨B, δ, S, m, hf, q⟩ := h
  refine ⟨δ, S, m.ok, frzS (f := fun d δ1 => match asgT (.tp ts') d δ1 with
    | some δ2 => .ok .nx δ2
    | none => .bad) m q fun d δ1 v H1 S1 m2 r q1 => ?_⟩
  cases e1 : asgT (.tp ts') d δ1 with
  | none => rw [e1] at q1; exact q1.elim
  | some δ2 =>
    rw [e1] at q1
    exact asg_T (.tp ts') (m.trans m2) r e1 fun σ' m' l' a' => q1 σ' H1 S1 m' fun z => (a' 0 (hi z)).trans (hf z)
theorem r_put {i : Nat} {k v : E} (h : ts cl X W fx (.put i k v) D σ H) : tAsg (te cl X W v) (gSub (tVar i) (te cl X W k) (fun o i v H Q => rSetL o i v H Q ∨ rSetD o i v H Q)) D σ H := by
  obtain ⟨B, δ, S, m, hf, q⟩ := h
  refine ⟨δ, S, m.ok, frzS (f := fun d δ1 => if (gt δ1 i).isSome = true then ((ev cl k δ1).bind fun x δ2 => match gt δ2 i with
    | some (b, true) => match putX b x.1 d with
      | some b' => .ok .nx (st δ2 i (some (b', true)))
      | none => .bad
    | _ => .bad) else .bad) m q fun d δ1 x H1 S1 m1 r q1 => ?_⟩
  cases e : gt δ1 i with
  | none => simp only [e, Option.isSome_none, Bool.false_eq_true, if_false] at q1; exact q1.elim
  | some p =>
    simp only [e, Option.isSome_some, if_true] at q1
    obtain ⟨c, fl⟩ := p
    obtain ⟨u, hu, _⟩ := m1.ok.at e
    refine ⟨u, hu, δ1, S1, m1.ok, frzS (f := fun kd δ2 => match gt δ2 i with
      | some (b, true) => match putX b kd d with
        | some b' => .ok .nx (st δ2 i (some (b', true)))
        | none => .bad
      | _ => .bad) (m.trans m1) q1 fun kd δ2 vk H2 S2 m2 rk q2 => ?_⟩
    cases e2 : gt δ2 i with
    | none => simp only [e2] at q2; exact q2.elim
    | some p =>
      obtain ⟨b, fl⟩ := p
      cases fl with
      | false => simp only [e2] at q2; exact q2.elim
      | true =>
        simp only [e2] at q2
        cases e3 : putX b kd d with
        | none => simp only [e3] at q2; exact q2.elim
        | some b' =>
          simp only [e3] at q2
          obtain ⟨a, o, g1, ha, ho, w⟩ := m2.ok.own i b (gt_some e2)
          rw [hu] at g1; cases g1
          obtain ⟨o', w', cs⟩ := put_ow ho ha w rk (m2.rp m1.ok r) e3
          have mp := own_put m2.ok e2 hu w'
          have fin := q2 σ (upd H2 a o') S2 (((m.trans m1).trans m2).trans mp) hf
          rcases cs with ⟨xs, ks, j, h1, rfl, h3, rfl⟩ | dp
          · exact .inl ⟨a, xs, ks, j, rfl, rfl, h1, h3, fin⟩
          · exact .inr ⟨a, _, rfl, dp, fin⟩
theorem r_ret {e : E} (he : ∀ i, e ≠ .var i) (h : ts cl X W fx (.ret e) D σ H) : tRet (te cl X W e) D σ H := by
  obtain ⟨B, δ, S, m, hf, q⟩ := h
  have q : ResS X W fx B ((ev cl e δ).bind fun x δ1 => .ok (.ret x.1 x.2) δ1) D := by
    cases e <;> first | exact q | exact absurd rfl (he _)
  refine ⟨δ, S, m.ok, ResS.bind (P := AV X σ) m q fun a δ1 v H1 S1 m2 vl q1 => ?_⟩
  exact q1 v σ H1 S1 (m.trans m2) hf (VlR.of m vl)
theorem r_retV {i : Nat} (h : ts cl X W fx (.ret (.var i)) D σ H) : tRet (tVar i) D σ H := by
  obtain ⟨B, δ, S, m, hf, q⟩ := h
  change ResS X W fx B (match gt δ i with
    | some (d, w) => .ok (.ret d w) (drp δ i)
    | none => .bad) D at q
  cases e : gt δ i with
  | none => rw [e] at q; exact q.elim
  | some p =>
    obtain ⟨d, w⟩ := p
    rw [e] at q
    obtain ⟨v, h1, _, h2, h3⟩ := m.ok.at e
    refine ⟨v, h1, ?_⟩
    cases w with
    | false =>
      have : drp δ i = δ := by unfold drp; rw [e]
      change ResS X W fx B (.ok (.ret d false) (drp δ i)) D at q
      rw [this] at q
      exact q v σ H S m hf (h2 rfl)
    | true =>
      have : drp δ i = wipeD δ [i] := by unfold drp; rw [e]; rfl
      change ResS X W fx B (.ok (.ret d true) (drp δ i)) D at q
      rw [this] at q
      obtain ⟨a, o, rfl, ha, ho, w⟩ := h3 rfl
      refine q _ σ H S (mv_wipe m rfl fun _ _ => rfl) hf ⟨a, o, rfl, ?_, ha, wipe_own m.ok e h1, ho, w⟩
      exact (m.own a ⟨i, d, gt_some e, h1⟩).symm
theorem r_retN (h : ts cl X W fx .retN D σ H) : tRetN D σ H := by
  obtain ⟨B, δ, S, m, hf, q⟩ := h
  exact q .non σ H S m hf .non
theorem r_ifs {c : E} {t f : Ss} (h : ts cl X W fx (.ifs c t f) D σ H) : tIfS (tt cl X W c) (tss cl X W fx t) (tss cl X W fx f) D σ H := by
  obtain ⟨B, δ, S, m, hf, q⟩ := h
  refine ⟨δ, S, m.ok, ResS.bind (P := AB) m q fun b δ1 v H1 S1 m2 p q1 => ?_⟩
  cases p
  cases b with
  | true => rw [if_pos rfl]; exact ⟨B, δ1, S1, m.trans m2, hf, q1⟩
  | false => rw [if_neg (by decide)]; exact ⟨B, δ1, S1, m.trans m2, hf, q1⟩
theorem r_ex {e : E} (h : ts cl X W fx (.ex e) D σ H) : tDrop (te cl X W e) D σ H := by
  obtain ⟨B, δ, S, m, hf, q⟩ := h
  refine ⟨δ, S, m.ok, ResS.bind (P := AV X σ) m q fun a δ1 v H1 S1 m2 vl q1 => ?_⟩
  exact q1 σ H1 S1 (m.trans m2) hf
theorem r_seq {s : Bw.S} {ss : Ss} (h : tss cl X W fx (.cons s ss) D σ H) : tSeq (ts cl X W fx s) (tss cl X W fx ss) D σ H := by
  obtain ⟨B, δ, S, m, hf, q⟩ := h
  refine ⟨B, δ, S, m, hf, ?_⟩
  have q : ResS X W fx B ((xs cl s δ).bind fun o δ1 => match o with
    | .nx => xss cl ss δ1
    | .brk => .ok .brk δ1
    | .ret d w => .ok (.ret d w) δ1) D := q
  cases e : xs cl s δ with
  | ok o δ1 =>
    rw [e] at q
    cases o with
    | nx => exact fun σ' H' S' m' f' => ⟨B, δ1, S', m', f', q⟩
    | brk => exact q
    | ret d w => exact q
  | ex c x δ1 => rw [e] at q; exact q
  | bad => rw [e] at q; exact q
theorem frL_cons {f : Dt → De → R Fl} {d : Dt} {ds : List Dt} {δ : De} : frL f (d :: ds) δ = (f d δ).bind fun o δ' => match o with
    | .nx => frL f ds δ'
    | .brk => .ok .nx δ'
    | .ret d w => .ok (.ret d w) δ' := rfl
/-- a loop over what is walked -/
theorem for_read {tg : Tg} {b : Ss} {J : L2.It} {ds : List Dt} (m1 : Mv X.K B.δ B.S B.σ B.H δ S σ H) (hf : fx = true → σ[0]? = B.σ[0]?) (h0 : fx = true → 0 ∉ tgN tg) (wk : WkAt X.K J [] S H ds)
    (q : ResS X W fx B (frL (fun d δ2 => match asgT tg d δ2 with
      | some δ3 => xss cl b δ3
      | none => .bad) ds δ) D) :
    ∃ Wv : Nat → Nat → L2.St → Hp → Prop, (∃ m, Wv 0 m σ H) ∧ ∀ i m σ H, Wv i m σ H → (J.stop i H ∧ D.nx σ H) ∨ (J.go i H ∧ ∃ N : L2.St → Hp → Prop, (∀ σ' H', N σ' H' → ∃ m', m' < m ∧ Wv (i + 1) m' σ' H') ∧
      ∀ x H', J.yld i H x H' → gT X.K tg x σ H' fun σ2 H2 => tss cl X W fx b { D with nx := N, ct := N, bk := D.nx } σ2 H2) := by
  obtain ⟨G, Y, walk, step⟩ := wk
  have q0 := ResS.re m1 hf q
  generalize hF : (fun (d : Dt) (δ2 : De) => match asgT tg d δ2 with
      | some δ3 => xss cl b δ3
      | none => R.bad) = F at q0
  refine for_it walk (fun i σi Hi => ∃ δi Si, Mv X.K δ S σ H δi Si σi Hi ∧ (fx = true → σi[0]? = σ[0]?) ∧ ResS X W fx ⟨δ, S, σ, H⟩ (frL F (ds.drop i) δi) D) ?_ ?_ ?_ ?_
  · exact ⟨δ, S, .refl m1.ok, fun _ => rfl, q0⟩
  · rintro i σi Hi hi ⟨δi, Si, m, f, r⟩
    exact (step Si Hi (m.le m1.ok) (fun b hb => by cases hb) m.ok.live m.ok.nt).1
  · rintro i x σi Hi H' hi ⟨δi, Si, m, f, r⟩ y
    have hi' : i < ds.length := hi
    obtain ⟨le, rx⟩ := (step Si Hi (m.le m1.ok) (fun b hb => by cases hb) m.ok.live m.ok.nt).2 i x H' ds[i] (by simp [hi']) y
    rw [List.drop_eq_getElem_cons hi', frL_cons, ← hF] at r
    have mg : Mv X.K δ S σ H δi Si σi H' := m.trans (.grow m.ok le)
    simp only at r
    cases ea : asgT tg ds[i] δi with
    | none => rw [ea] at r; exact r.elim
    | some δ3 =>
    rw [ea] at r
    simp only at r
    refine asg_T tg mg rx ea fun σ2 m3 l3 a3 => ⟨⟨δ, S, σ, H⟩, δ3, Si, m3, fun z => (a3 0 (h0 z)).trans (f z), ?_⟩
    cases er : xss cl b δ3 with
    | ok o δ4 =>
      rw [er] at r
      cases o with
      | nx => exact fun σ' H' S' m' f' => ⟨δ4, S', m', f', by rw [← hF]; exact r⟩
      | brk => exact r
      | ret d w => exact r
    | ex c x δ4 => rw [er] at r; exact r
    | bad => rw [er] at r; exact r
  · rintro σi Hi ⟨δi, Si, m, f, r⟩
    rw [List.drop_length] at r
    exact r σi Hi Si m f
theorem r_wh {c : E} {b : Ss} (h : ts cl X W fx (.wh c b) D σ H) : tWhile (tt cl X W c) (tss cl X W fx b) D σ H := by
  obtain ⟨B, δ, S, m1, hf, q⟩ := h
  have q0 : ResS X W fx ⟨δ, S, σ, H⟩ (whL (fun δ1 => tb (ev cl c δ1)) (fun δ1 => xss cl b δ1) most δ) D := ResS.re m1 hf q
  generalize most = n at q0
  refine ⟨fun n σi Hi => ∃ δi Si, Mv X.K δ S σ H δi Si σi Hi ∧ (fx = true → σi[0]? = σ[0]?) ∧ ResS X W fx ⟨δ, S, σ, H⟩ (whL (fun δ1 => tb (ev cl c δ1)) (fun δ1 => xss cl b δ1) n δi) D, ⟨n, δ, S, .refl m1.ok, fun _ => rfl, q0⟩, ?_⟩
  rintro n σi Hi ⟨δi, Si, m, f, r⟩
  cases n with
  | zero => exact r.elim
  | succ n =>
    have r : ResS X W fx ⟨δ, S, σ, H⟩ ((tb (ev cl c δi)).bind fun b1 δ' => if b1 = true then (xss cl b δ').bind fun o δ'' => match o with
      | .nx => whL (fun δ1 => tb (ev cl c δ1)) (fun δ1 => xss cl b δ1) n δ''
      | .brk => .ok .nx δ''
      | .ret d w => .ok (.ret d w) δ'' else .ok .nx δ') D := r
    refine ⟨δi, Si, m.ok, ResS.bind (P := AB) m r fun b1 δ1 v H1 S1 m2 p q1 => ?_⟩
    cases p
    cases b1 with
    | false => rw [if_neg (by decide)]; exact q1 σi H1 S1 (m.trans m2) f
    | true =>
      rw [if_pos rfl]
      refine ⟨fun σ' H' => ∃ δi Si, Mv X.K δ S σ H δi Si σ' H' ∧ (fx = true → σ'[0]? = σ[0]?) ∧ ResS X W fx ⟨δ, S, σ, H⟩ (whL (fun δ1 => tb (ev cl c δ1)) (fun δ1 => xss cl b δ1) n δi) D, fun σ' H' z => ⟨n, Nat.lt_succ_self n, z⟩, ⟨δ, S, σ, H⟩, δ1, S1, m.trans m2, f, ?_⟩
      rw [if_pos rfl] at q1
      cases er : xss cl b δ1 with
      | ok o δ4 =>
        rw [er] at q1
        cases o with
        | nx => exact fun σ' H' S' m' f' => ⟨δ4, S', m', f', q1⟩
        | brk => exact q1
        | ret d w => exact q1
      | ex c x δ4 => rw [er] at q1; exact q1
      | bad => rw [er] at q1; exact q1
theorem PS.or {st : Stmt} {t t' : TS} (h : PS X st t) (h' : PS X st t') : PS X st (fun D σ H => t D σ H ∨ t' D σ H) :=
  ⟨fun pins s σ H D I q => q.elim (h.run pins s σ H D I) (h'.run pins s σ H D I)⟩
theorem r_for {tg : Tg} {it : It} {b : Ss} (h0 : fx = true → 0 ∉ tgN tg) {δ : De} {S : List Addr} {B : Bs} (m : Mv X.K B.δ B.S B.σ B.H δ S σ H) (hf : fx = true → σ[0]? = B.σ[0]?) (hl : (lockI it).isEmpty = true)
    (q : ResS X W fx B ((eit cl it δ).bind fun ds δ1 => frL (fun d δ2 => match asgT tg d δ2 with
      | some δ3 => xss cl b δ3
      | none => .bad) ds δ1) D) : tFor (ti cl X W it) (gT X.K tg) (tss cl X W fx b) D σ H := by
  refine ⟨δ, S, m.ok, ResS.bind (P := AIt X σ (lockI it)) m q fun ds δ1 J H1 S1 m2 ⟨L, wk, hL⟩ q1 => ?_⟩
  cases L with
  | nil => exact for_read (m.trans m2) hf h0 wk q1
  | cons c L =>
    obtain ⟨_, i, hi, _⟩ := hL c List.mem_cons_self
    rw [List.isEmpty_iff.mp hl] at hi; cases hi
/-- a for: over what is walked -/
theorem r_frN {tg : Tg} {it : It} {b : Ss} (h0 : fx = true → 0 ∉ tgN tg) (hn : ∀ δ, dkOf it δ = none) (h : ts cl X W fx (.fr tg it b) D σ H) : tFor (ti cl X W it) (gT X.K tg) (tss cl X W fx b) D σ H := by
  obtain ⟨B, δ, S, m, hf, q⟩ := h
  change ResS X W fx B (if (lockI it).isEmpty = true then (match dkOf it δ with
    | some (i, ds) => frD (frL (fun d δ2 => match asgT tg d δ2 with
      | some δ3 => xss cl b δ3
      | none => .bad) ds (rls δ i))
    | none => (eit cl it δ).bind fun ds δ1 => frL (fun d δ2 => match asgT tg d δ2 with
      | some δ3 => xss cl b δ3
      | none => .bad) ds δ1) else .bad) D at q
  by_cases hl : (lockI it).isEmpty = true
  · rw [if_pos hl, hn δ] at q
    exact r_for h0 m hf hl q
  · rw [if_neg hl] at q; exact q.elim
theorem frD_ok {r : R Fl} {o : Fl} {δ : De} (h : r = .ok o δ) : frD r = .ok o δ := by rw [h]; rfl
/-- over a dict's keys, the dict locked meanwhile, or locked already -/
theorem r_frV {tg : Tg} {i : Nat} {b : Ss} (h0 : fx = true → 0 ∉ tgN tg) (h : ts cl X W fx (.fr tg (.val (.var i)) b) D σ H) :
    tFor (ti cl X W (.val (.var i))) (gT X.K tg) (tss cl X W fx b) D σ H ∨ tLock (tFor (iKeys (tVar i)) (gT X.K tg) (tss cl X W0 fx b)) D σ H ∨ tFor (iKeys (tVar i)) (gT X.K tg) (tss cl X W0 fx b) D σ H := by
  obtain ⟨B, δ, S, m, hf, q⟩ := h
  generalize hF : (fun (d : Dt) (δ2 : De) => match asgT tg d δ2 with
      | some δ3 => xss cl b δ3
      | none => R.bad) = F
  have q : ResS X W fx B (match dkOf (.val (.var i)) δ with
    | some (i, ds) => frD (frL F ds (rls δ i))
    | none => (eit cl (.val (.var i)) δ).bind fun ds δ1 => frL F ds δ1) D := by rw [← hF]; exact q
  cases e : dkOf (.val (.var i)) δ with
  | none =>
    rw [e] at q
    exact .inl (r_for h0 m hf rfl (by rw [hF]; exact q))
  | some p =>
    obtain ⟨i', ks⟩ := p
    rw [e] at q
    change ResS X W fx B (frD (frL F ks (rls δ i'))) D at q
    change (match gt δ i with
      | some (.dict ((.bool _, _) :: kvs), _) => some (i, kvs.map (·.1))
      | _ => none) = some (i', ks) at e
    split at e
    · rename_i c y kvs fl eg
      cases e
      obtain ⟨v, S1, h1, m1, r, _⟩ := rls_ok m.ok eg
      have mB := m.trans m1
      have rd := Rd1.dict (.inl r)
      rcases rd with ⟨a, ns, _, ez, _⟩ | ⟨a, rfl, dk⟩
      · unfold scr at ez; cases ez
      -- the keys, by the dict's object
      have key : ∃ u, isD u = true ∧ Rd (hid S1 H) a u ∧ ∀ (od : Obj) (H2 : Hp), H2 a = some (.frz od u) → hid S1 H2 a = some (.frz od u) → ∃ J, WkAt X.K J [] S1 H2 (kvs.map (·.1)) ∧ ∀ (R : L2.It → Hp → Prop), R J H2 → iKeys (tVar i) σ H2 R := by
        cases r with
        | dK hr t =>
          rename_i kvs' ds
          refine ⟨.dK kvs', rfl, hr, fun od H2 e1 e2 => ⟨Itk a od kvs', ?_, fun R hR => ⟨_, h1, a, od, rfl, .inl ⟨kvs', e1, hR⟩⟩⟩⟩
          have : ((kvs'.map fun p => keyD p.1).zip ds).map (·.1) = kvs'.map fun p => keyD p.1 := by
            rw [List.map_fst_zip]
            rw [List.length_map, ← t.length, List.length_map]; exact Nat.le_refl _
          rw [this]
          exact wk_keys e2
        | dT hr t =>
          rename_i kvs' ds
          refine ⟨.dT kvs', rfl, hr, fun od H2 e1 e2 => ⟨Itkt a od kvs', ?_, fun R hR => ⟨_, h1, a, od, rfl, .inr ⟨kvs', e1, hR⟩⟩⟩⟩
          have : ((kvs'.map fun p => PyData.tuple (p.1.map keyD)).zip ds).map (·.1) = kvs'.map fun p => PyData.tuple (p.1.map keyD) := by
            rw [List.map_fst_zip]
            rw [List.length_map, ← t.length, List.length_map]; exact Nat.le_refl _
          rw [this]
          exact wk_keysT e2
      obtain ⟨u, hu, hr, go⟩ := key
      rcases hr with hr | ⟨od, hr⟩
      · -- locked here
        refine .inr (.inl ?_)
        obtain ⟨na, ha⟩ := hid_some hr
        refine ⟨a, u, ha, (by cases u <;> first | exact trivial | cases hu), fun od => ?_⟩
        have lk : Lk (hid S1 H) (hid S1 (upd H a (.frz od u))) := by
          rw [hid_out na]; exact lk_lock hr hu
        have okl : StOk X.K S1 (rls δ i) σ (upd H a (.frz od u)) := ok_lk m1.ok na (by rw [ha]; rfl) (fun xs z => nomatch z) lk
        obtain ⟨J, wk, gk⟩ := go od (upd H a (.frz od u)) upd_same (by rw [hid_of na]; exact upd_same)
        refine gk _ ?_
        refine for_read (B := ⟨rls δ i, S1, σ, upd H a (.frz od u)⟩) (.refl okl) (fun _ => rfl) h0 wk ?_
        rw [hF]
        cases er : frL F (kvs.map (·.1)) (rls δ i) with
        | ok o δ4 =>
          rw [frD_ok er] at q
          cases o with
          | nx =>
            intro σ' H' S' m' f'
            obtain ⟨g1, g2, g3, g4⟩ := mv_unlock m1.ok m' ha hu na
            exact ⟨g1, q σ' _ S' (mB.trans g2) fun z => (f' z).trans (hf z)⟩
          | brk =>
            intro σ' H' S' m' f'
            obtain ⟨g1, g2, g3, g4⟩ := mv_unlock m1.ok m' ha hu na
            exact ⟨g1, q σ' _ S' (mB.trans g2) fun z => (f' z).trans (hf z)⟩
          | ret d w =>
            intro v σ' H' S' m' f' vl
            obtain ⟨g1, g2, g3, g4⟩ := mv_unlock m1.ok m' ha hu na
            refine ⟨g1, q v σ' _ S' (mB.trans g2) (fun z => (f' z).trans (hf z)) ?_⟩
            cases w with
            | false => exact rp_lk g4 vl
            | true =>
              obtain ⟨p, o, e1, hp, hs, hn, ho, wo⟩ := vl
              refine ⟨p, o, e1, ?_, hs, hn, by rw [upd_ne fun z => g3 (by rw [← z]; exact hs)]; exact ho, ow_lk g4 wo⟩
              have none_of : (upd H a (.frz od u)) p = none → H p = none := fun z => by
                by_cases hb : p = a
                · rw [hb, upd_same] at z; cases z
                · rw [upd_ne hb] at z; exact z
              rcases hp with hp | hp
              · exact .inl (none_back (mB.some p) (none_of hp))
              · exact (mB.own p hp).symm
        | ex c x δ4 => rw [er] at q; exact q.elim
        | bad => rw [er] at q; exact q.elim
      · -- locked already
        refine .inr (.inr ?_)
        obtain ⟨J, wk, gk⟩ := go od H (hid_back hr) hr
        refine gk _ (for_read mB hf h0 wk ?_)
        rw [hF]
        cases er : frL F (kvs.map (·.1)) (rls δ i) with
        | ok o δ4 =>
          rw [frD_ok er] at q
          cases o with
          | nx => exact q
          | brk => exact q
          | ret d w => exact q
        | ex c x δ4 => rw [er] at q; exact q.elim
        | bad => rw [er] at q; exact q.elim
    · cases e
/-- the forgotten names come back, others have been set -/
theorem unwipe2 {K : PySem.W.Frag} {δ1 δw δe δr : De} {S1 Se : List Addr} {σ σe : L2.St} {H1 He : Hp} {vs : List Nat} (ok1 : StOk K S1 δ1 σ H1) (m : Mv K δw S1 σ H1 δe Se σe He) (hw : ∀ j x, δw[j]? = some (some x) → j ∉ vs ∧ δ1[j]? = some (some x)) (hσ : ∀ j, j ∈ vs → σe[j]? = σ[j]?)
    (hr1 : ∀ j x, j ∈ vs → δr[j]? = some (some x) → δ1[j]? = some (some x)) (hr2 : ∀ j, j ∉ vs → δr[j]? = δe[j]?) (hlen : δr.length = σe.length) :
    Mv K δ1 S1 σ H1 δr Se σe He := by
  have ow : ∀ b, Own δw σ b → Own δ1 σ b := fun b ⟨j, d, g1, g2⟩ => ⟨j, d, (hw j _ g1).2, g2⟩
  have own2 : ∀ b, Own δr σe b → Own δ1 σ b ∨ Own δe σe b := fun b ⟨j, d, g1, g2⟩ => by
    by_cases hj : j ∈ vs
    · exact .inl ⟨j, d, hr1 j _ hj g1, (hσ j hj) ▸ g2⟩
    · exact .inr ⟨j, d, hr2 j hj ▸ g1, g2⟩
  have now : ∀ (j : Nat) (d : Dt) (a : Addr), j ∈ vs → δ1[j]? = some (some (d, true)) → σ[j]? = some (some (V.ref a)) → ¬ Own δw σ a := fun j d a hj g e ⟨k, c, g1, g2⟩ => by
    obtain ⟨n, g'⟩ := hw k _ g1
    have := ok1.inj j k d c a g g' e g2
    exact n (this ▸ hj)
  refine ⟨fun b o e n => m.keep b o e fun z => n (ow b z), m.sub, fun b h => (m.sup b h).imp id (ow b), fun b h => ?_, m.some, m.live, ?_⟩
  · rcases own2 b h with h | h
    · exact .inl h
    · exact (m.own b h).imp (ow b) id
  · have okw : Le (hid S1 H1) (hid Se He) := hid_mono (fun b o q z => by
      rcases m.sub b z with z | z
      · exact z
      · rw [q] at z; cases z) fun b o h1 h2 => m.keep b o h2 fun z => h1 (ok1.own_mem (ow b z))
    refine ⟨hlen, fun j c g => ?_, fun j c g => ?_, fun j k c c' a g1 g2 h1 h2 => ?_, m.ok.live, m.ok.nt⟩
    · by_cases hj : j ∈ vs
      · obtain ⟨v, e1, e2⟩ := ok1.val j c (hr1 j _ hj g)
        exact ⟨v, (hσ j hj).trans e1, e2.mono okw⟩
      · exact m.ok.val j c (hr2 j hj ▸ g)
    · by_cases hj : j ∈ vs
      · have g' := hr1 j _ hj g
        obtain ⟨a, o, e1, e2, e3, e4⟩ := ok1.own j c g'
        have n := now j c a hj g' e1
        exact ⟨a, o, (hσ j hj).trans e1, (m.sup a e2).resolve_right n, m.keep a o e3 n, e4.mono okw⟩
      · exact m.ok.own j c (hr2 j hj ▸ g)
    · have mix : ∀ {j k : Nat} {c c' : Dt}, j ∈ vs → k ∉ vs → δr[j]? = some (some (c, true)) → δr[k]? = some (some (c', true)) → σe[j]? = some (some (V.ref a)) → σe[k]? = some (some (V.ref a)) → False := fun {j k c c'} hj hk g1 g2 h1 h2 => by
        have g' := hr1 j _ hj g1
        obtain ⟨a', o, e1, e2, e3, e4⟩ := ok1.own j c g'
        rw [hσ j hj, e1] at h1; cases h1
        rcases m.own a ⟨k, c', hr2 k hk ▸ g2, h2⟩ with z | z
        · exact now j c a hj g' e1 z
        · rw [e3] at z; cases z
      by_cases hj : j ∈ vs
      · by_cases hk : k ∈ vs
        · exact ok1.inj j k c c' a (hr1 j _ hj g1) (hr1 k _ hk g2) ((hσ j hj).symm.trans h1) ((hσ k hk).symm.trans h2)
        · exact (mix hj hk g1 g2 h1 h2).elim
      · by_cases hk : k ∈ vs
        · exact (mix hk hj g2 g1 h2 h1).elim
        · exact m.ok.inj j k c c' a (hr2 j hj ▸ g1) (hr2 k hk ▸ g2) h1 h2
/-- a loop over a name's own list that asks each item one thing -/
theorem r_frc {tg : Tg} {i : Nat} {c : E} {d : Bool} (h0 : fx = true → 0 ∉ tgN tg) (hi : i ∉ tgN tg) (h : ts cl X W fx (.frc tg i c d) D σ H) :
    tFor (ti cl X W (.bor i)) (gT X.K tg) (tSeq (tIfS (tt cl X W c) (tSeq (tRet (te cl X W (.cst (.bool d)))) tNext) tNext) tNext) D σ H := by
  obtain ⟨B, δ, S, m, hf, q⟩ := h
  generalize hF : (fun (x : Dt) (δ2 : De) => match asgT tg x δ2 with
      | some δ3 => tb (ev cl c δ3)
      | none => R.bad) = F
  have q : ResS X W fx B ((eit cl (.bor i) δ).bind fun ds δ1 => frR i δ1 (frcL F d ds (wipeD δ1 [i]))) D := by rw [← hF]; exact q
  refine ⟨δ, S, m.ok, ResS.bind (P := AIt X σ (lockI (.bor i))) m q fun ds δ1 J H1 S1 m2 ⟨L, wk, hL⟩ q1 => ?_⟩
  obtain ⟨G, Y, walk, step⟩ := wk
  have ok1 := m2.ok
  have mw : Mv X.K δ1 S1 σ H1 (wipeD δ1 [i]) S1 σ H1 := mv_wipe (.refl ok1) rfl fun _ _ => rfl
  have nL : ∀ b ∈ L, (H1 b).isSome = true ∧ ¬ Own (wipeD δ1 [i]) σ b := fun b hb => by
    obtain ⟨h1, j, hj, dd, h2, h3⟩ := hL b hb
    refine ⟨h1, fun ⟨k, c', g1, g2⟩ => ?_⟩
    obtain ⟨n, g⟩ := wipeD_get g1
    have := ok1.inj j k dd c' b (gt_some h2) g h3 g2
    exact n (this ▸ hj)
  have keepL : ∀ {δk : De} {Sk : List Addr} {σk : L2.St} {Hk : Hp}, Mv X.K (wipeD δ1 [i]) S1 σ H1 δk Sk σk Hk → ∀ b ∈ L, Hk b = H1 b := fun {δk Sk σk Hk} m' b hb => by
    obtain ⟨h1, h2⟩ := nL b hb
    cases z : H1 b with
    | none => rw [z] at h1; cases h1
    | some o => exact m'.keep b o z h2
  refine for_it walk (fun k σk Hk => ∃ δk Sk, Mv X.K (wipeD δ1 [i]) S1 σ H1 δk Sk σk Hk ∧ (∀ j, j ∉ tgN tg → σk[j]? = σ[j]?) ∧ ResS X W fx B (frR i δ1 (frcL F d (ds.drop k) δk)) D) ?_ ?_ ?_ ?_
  · exact ⟨wipeD δ1 [i], S1, .refl mw.ok, fun _ _ => rfl, q1⟩
  · rintro k σk Hk hk ⟨δk, Sk, m', f, r⟩
    exact (step Sk Hk (m'.le mw.ok) (keepL m') m'.ok.live m'.ok.nt).1
  · rintro k x σk Hk H' hk ⟨δk, Sk, m', f, r⟩ y
    have hk' : k < ds.length := hk
    obtain ⟨le, rx⟩ := (step Sk Hk (m'.le mw.ok) (keepL m') m'.ok.live m'.ok.nt).2 k x H' ds[k] (by simp [hk']) y
    rw [List.drop_eq_getElem_cons hk'] at r
    have r : ResS X W fx B (frR i δ1 ((F ds[k] δk).bind fun b δ' => if b = true then .ok (.ret (.bool d) false) δ' else frcL F d (ds.drop (k + 1)) δ')) D := r
    have mg : Mv X.K (wipeD δ1 [i]) S1 σ H1 δk Sk σk H' := m'.trans (.grow m'.ok le)
    have eF : F ds[k] δk = (match asgT tg ds[k] δk with
      | some δ3 => tb (ev cl c δ3)
      | none => R.bad) := by rw [← hF]
    cases ea : asgT tg ds[k] δk with
    | none => rw [eF, ea] at r; exact r.elim
    | some δ3 =>
      rw [eF, ea] at r
      refine asg_T tg mg rx ea fun σ2 m3 l3 a3 => ⟨δ3, Sk, m3.ok, ?_⟩
      have fx2 : ∀ j, j ∉ tgN tg → σ2[j]? = σ[j]? := fun j hj => (a3 j hj).trans (f j hj)
      have fx0 : fx = true → σ2[0]? = B.σ[0]? := fun z => (fx2 0 (h0 z)).trans (hf z)
      cases er : tb (ev cl c δ3) with
      | ok b δ4 =>
        have r : ResS X W fx B (frR i δ1 ((tb (ev cl c δ3)).bind fun b δ' => if b = true then .ok (.ret (.bool d) false) δ' else frcL F d (ds.drop (k + 1)) δ')) D := r
        rw [er] at r
        have r : ResS X W fx B (frR i δ1 (if b = true then .ok (.ret (.bool d) false) δ4 else frcL F d (ds.drop (k + 1)) δ4)) D := r
        intro v H4 S4 m4 p
        cases p
        have m5 : Mv X.K (wipeD δ1 [i]) S1 σ H1 δ4 S4 σ2 H4 := m3.trans m4
        cases b with
        | true =>
          rw [if_pos rfl] at r ⊢
          have mB : Mv X.K B.δ B.S B.σ B.H δ4 S4 σ2 H4 := ((m.trans m2).trans mw).trans m5
          exact ⟨δ4, S4, m4.ok, fun v H5 S5 m6 vl => r v σ2 H5 S5 (mB.trans m6) fx0 vl⟩
        | false =>
          rw [if_neg (by decide)] at r ⊢
          exact ⟨δ4, S4, m5, fx2, r⟩
      | ex c' x' δ4 =>
        have r : ResS X W fx B (frR i δ1 ((tb (ev cl c δ3)).bind fun b δ' => if b = true then .ok (.ret (.bool d) false) δ' else frcL F d (ds.drop (k + 1)) δ')) D := r
        rw [er] at r; exact r.elim
      | bad =>
        have r : ResS X W fx B (frR i δ1 ((tb (ev cl c δ3)).bind fun b δ' => if b = true then .ok (.ret (.bool d) false) δ' else frcL F d (ds.drop (k + 1)) δ')) D := r
        rw [er] at r; exact r.elim
  · rintro σk Hk ⟨δk, Sk, m', f, r⟩
    rw [List.drop_length] at r
    have r : ResS X W fx B (.ok .nx (backD δ1 δk [i])) D := r
    refine r σk Hk Sk ((m.trans m2).trans (unwipe2 ok1 m' (fun j x g => wipeD_get g) (fun j hj => ?_) (fun j x hj g => backD_in hj g) (fun j hj => backD_out hj) (by rw [backD_len, m'.ok.len]))) fun z => (f 0 (h0 z)).trans (hf z)
    rw [List.mem_singleton] at hj
    subst hj
    exact f j hi
end
end Bw

set_option maxRecDepth 100000
set_option maxHeartbeats 4000000
namespace Bw
open PySem PySem.Spec PyProof.Rows L2
section
variable {K : PySem.W.Frag} {δ1 δ2 δ : De} {S1 S2 : List Addr} {σ σ2 : L2.St} {H H1 H2 : Hp} {v : V} {d : Dt} {w : Bool}
/-- a value that is held while the frame goes on -/
theorem vl_move (ok : StOk K S1 δ1 σ H1) (q : Vl K H S1 δ1 σ H1 v d w) (m : Mv K δ1 S1 σ H1 δ2 S2 σ2 H2) : Vl K H S2 δ2 σ2 H2 v d w := by
  cases w with
  | false => exact m.rp ok q
  | true =>
    obtain ⟨p, o, e, hp, hs, hn, ho, wo⟩ := q
    refine ⟨p, o, e, hp, (m.sup p hs).resolve_right hn, fun z => ?_, m.keep p o ho hn, wo.mono (m.le ok)⟩
    rcases m.own p z with z | z
    · exact hn z
    · rw [ho] at z; cases z
theorem own_set {i : Nat} {b : Addr} (h : Own (st δ i (some (d, w))) (σ.set i (some v)) b) : Own δ σ b ∨ (w = true ∧ v = .ref b) := by
  obtain ⟨j, c, g1, g2⟩ := h
  change (δ.set i _)[j]? = _ at g1
  by_cases hj : i = j
  · subst hj
    by_cases hl : i < δ.length
    · rw [List.getElem?_set_self hl] at g1
      cases g1
      by_cases hl2 : i < σ.length
      · rw [List.getElem?_set_self hl2] at g2; cases g2; exact .inr ⟨rfl, rfl⟩
      · rw [List.getElem?_eq_none (by rw [List.length_set]; omega)] at g2; cases g2
    · rw [List.getElem?_eq_none (by rw [List.length_set]; omega)] at g1; cases g1
  · rw [List.getElem?_set_ne hj] at g1 g2
    exact .inl ⟨j, c, g1, g2⟩
end
section
variable {cl : Cl} {X : Cx} {W : WX} {cn : Cn} {fx : Bool} {σ : L2.St} {H : Hp} {D : Ends}
theorem r_par {i j : Nat} {a b : E} (hi : fx = true → i ≠ 0) (hj : fx = true → j ≠ 0) (h : ts cl X W fx (.par i j a b) D σ H) : tPar i j (tCons (te cl X W a) (tCons (te cl X W b) tNil)) D σ H := by
  obtain ⟨B, δ, S, m, hf, q⟩ := h
  refine ⟨δ, S, m.ok, ResS.bind (P := AV X σ) m q fun x δ1 v H1 S1 m1 vl1 q1 => ⟨δ1, S1, m1.ok, ResS.bind (P := AV X σ) (m.trans m1) q1 fun y δ2 u H2 S2 m2 vl2 q2 => ⟨v, u, rfl, ?_⟩⟩⟩
  obtain ⟨xd, xw⟩ := x
  obtain ⟨yd, yw⟩ := y
  have mB := (m.trans m1).trans m2
  have v1 : Vl X.K B.H S2 δ2 σ H2 v xd xw := Vl.later m (m1.trans m2) (vl_move m1.ok vl1 m2)
  have mA := mv_set mB v1 i
  have v2 : Vl X.K B.H S2 (st δ2 i (some (xd, xw))) (σ.set i (some v)) H2 u yd yw := by
    cases yw with
    | false => exact vl2
    | true =>
      obtain ⟨p, o, e, hp, hs, hn, ho, wo⟩ := vl2
      refine ⟨p, o, e, none_back ((m.trans m1).some p) hp, hs, fun z => ?_, ho, wo⟩
      rcases own_set z with z | ⟨rfl, rfl⟩
      · exact hn z
      · obtain ⟨p', o', e', _, _, _, ho', _⟩ := vl1
        cases e'
        rw [hp] at ho'; cases ho'
  exact q2 _ H2 S2 (mv_set mA v2 j) (fx_set hj (fx_set hi hf))
end
/-! ### what is asked of a statement's text -/
def okI (fx : Bool) (i : Nat) : Bool := !fx || decide (i ≠ 0)
theorem okI_ok {fx : Bool} {i : Nat} (h : okI fx i = true) : fx = true → i ≠ 0 := fun e => by
  subst e
  simpa [okI] using h
theorem okI_all {fx : Bool} {is : List Nat} (h : is.all (okI fx) = true) : fx = true → 0 ∉ is := fun e z => by
  rw [List.all_eq_true] at h
  exact okI_ok (h 0 z) e rfl
def isComp : Expr → Bool
  | .ListComp .. => true
  | .SetComp .. => true
  | .DictComp .. => true
  | _ => false
/-- such stores of a tuple display are not swapped -/
def swN (sc : Scope) (ts vs : List Expr) : Bool :=
  let line := (ts.head?.map (·.pos.line)).getD 0
  let names := ts.filterMap fun
    | .Name id pos => if sc.names.lookup id == some .local && pos.line == line then some id else none
    | _ => none
  !(ts.length == 2 || ts.length == 3) || vs.length != ts.length || (names.length != ts.length || names.eraseDups.length != names.length) || vs.all (foldedForSure 8)
def unpB (sc : Scope) (ts : List Expr) : Expr → Bool
  | .Tuple vs _ _ => swN sc ts vs
  | _ => true
def parB (x y : Str) (px py : Pos) (a b : Expr) : Bool := decide (x ≠ y) && (py.line == px.line) && !(isStar a) && !(isStar b) && !([a, b].all (foldedForSure 8)) && !([a, b].all (constantsAlone 8))
mutual
def mS (cn : Cn) (fx : Bool) : S → Stmt → Bool
  | .asg i e, .Assign [.Name x _] v _ => decide (cn.N[i]? = some x) && isLC (cn.so.names.lookup x) && mE cn e v && okI fx i
  | .unp ts e, .Assign [.Tuple es k p] v _ => mTs cn ts es && mE cn e v && unpB cn.sc es v && (tgsN ts).all (okI fx)
  | .par i j a b, .Assign [.Tuple [.Name x px, .Name y py] _ _] (.Tuple [l, r] _ _) _ => decide (cn.N[i]? = some x) && decide (cn.N[j]? = some y) && decide (i ≠ j) && decide (cn.sc.names.lookup x = some .local) && decide (cn.sc.names.lookup y = some .local) && mE cn a l && mE cn b r && parB x y px py l r && okI fx i && okI fx j
  | .put i k v, .Assign [.Subscript (.Name x _) s _] e _ => nmB cn i x && mE cn k s && mE cn v e
  | .ret e, .Return (some x) _ => mE cn e x
  | .retN, .Return none _ => true
  | .ifs c t f, .If x a b _ => mE cn c x && mSs cn fx t a && mSs cn fx f b
  | .fr tg it b, .For t x body [] _ => mT cn tg t && mI cn it x && tgOk it tg && (tgN tg).all (okI fx) && mSs cn fx b body
  | .wh c b, .While x body [] _ => mE cn c x && mSs cn fx b body
  | .ex e, .Expr x _ => mE cn e x && !(isComp x)
  | .brk, .Break _ => true
  | .nev, _ => true
  | .frc tg i c d, .For t (.Name x p) [.If cx [.Return (some rx) _] [] _] [] _ => mT cn tg t && mI cn (.bor i) (.Name x p) && tgOk (.bor i) tg && (tgN tg).all (okI fx) && !((tgN tg).contains i) && mE cn c cx && mE cn (.cst (.bool d)) rx
  | _, _ => false
def mSs (cn : Cn) (fx : Bool) : Ss → List Stmt → Bool
  | .nil, [] => true
  | .cons s ss, x :: xs => mS cn fx s x && mSs cn fx ss xs
  | _, _ => false
end
section
variable {env : Env}
theorem sw_no {v : Expr} (h : isComp v = false) (t : Option Expr) (l : Nat) : swapsWith v t l env = pure false := by
  cases v <;> first | rfl | cases h
theorem sw_tup {v : Expr} {t : Expr} (h : ∀ x p, t ≠ .Name x p) (l : Nat) : swapsWith v (some t) l env = pure false := by
  cases v <;> cases t <;> first | rfl | exact absurd rfl (h _ _)
theorem sw_false {elt : Expr} {gs : List Comprehension} {scope : Scope} {pos py : Pos} {y : Str} {l : Nat} (h : (decide (env.scope.names.lookup y = some .local) && (py.line == pos.line) && !(scope.names.any fun (n, k) => n == y && (k == .local || k == .cell))) = false) :
    swapsWith (.ListComp elt gs scope pos) (some (.Name y py)) l env = pure false := by
  unfold swapsWith
  simp only
  have ky : env.kindOf y = env.scope.names.lookup y := rfl
  rw [ky]
  have e : (env.scope.names.lookup y == some NameKind.local) = decide (env.scope.names.lookup y = some .local) := by
    cases env.scope.names.lookup y with
    | none => rfl
    | some k => cases k <;> rfl
  rw [e]
  have : (env.blockKind == .function && decide (env.scope.names.lookup y = some .local) && py.line == (Expr.ListComp elt gs scope pos).pos.line && !(scope.names.any fun (n, k) => n == y && (k == .local || k == .cell))) = false := by
    show (env.blockKind == .function && decide (env.scope.names.lookup y = some .local) && py.line == pos.line && !(scope.names.any fun (n, k) => n == y && (k == .local || k == .cell))) = false
    have aux : ∀ a b c d : Bool, (b && c && d) = false → (a && b && c && d) = false := by decide
    exact aux _ _ _ _ h
  exact congrArg pure this
theorem sw_none {ts : List Expr} {k : Nat} {p : Pos} {v : Expr} (hb : env.blockKind = .function) (h : unpB env.scope ts v = true) : swappedStores [.Tuple ts k p] v env = pure none := by
  cases v with
  | Tuple vs k2 p2 =>
    have h : swN env.scope ts vs = true := h
    unfold swN at h
    unfold swappedStores
    simp only
    have e : (ts.filterMap fun
      | .Name id pos => if env.kindOf id == some .local && pos.line == (ts.head?.map (·.pos.line)).getD 0 then some id else none
      | _ => none) = ts.filterMap fun
      | .Name id pos => if env.scope.names.lookup id == some .local && pos.line == (ts.head?.map (·.pos.line)).getD 0 then some id else none
      | _ => none := rfl
    split
    · rfl
    · rename_i h1
      split
      · rfl
      · split
        · rfl
        · rename_i h3
          split
          · rfl
          · rename_i h4
            exfalso
            simp only [Bool.or_eq_true] at h h1 h3
            rcases h with (⟨h | h⟩ | h) | h
            · exact h1 (.inl (.inl h))
            · exact h1 (.inl (.inr h))
            · exact h3 h
            · exact h4 h
  | _ => rfl
theorem sw_two {a b : Expr} {x y : Str} {px py pt pt2 : Pos} {kt k2 : Nat} (hb : env.blockKind = .function) (hx : env.scope.names.lookup x = some .local) (hy : env.scope.names.lookup y = some .local) (h : parB x y px py a b = true) :
    swappedStores [.Tuple [.Name x px, .Name y py] kt pt] (.Tuple [a, b] k2 pt2) env = pure (some [x, y]) := by
  unfold parB at h
  simp only [Bool.and_eq_true, decide_eq_true_eq, Bool.not_eq_true', beq_iff_eq] at h
  obtain ⟨⟨⟨⟨⟨h1, h2⟩, h3⟩, h4⟩, h5⟩, h6⟩ := h
  have kx : env.kindOf x = some .local := hx
  have ky : env.kindOf y = some .local := hy
  have s3 : ∀ {e : Expr}, isStar e = false → (match e with | .Starred .. => true | _ => false) = false := fun {e} z => by cases e <;> first | rfl | cases z
  have hne : ¬ y = x := fun z => h1 z.symm
  have kk : (some NameKind.local == some NameKind.local) = true := rfl
  have hnames : ([Expr.Name x px, Expr.Name y py].filterMap fun
      | .Name id pos => if env.kindOf id == some .local && pos.line == (([Expr.Name x px, Expr.Name y py].head?.map (·.pos.line)).getD 0) then some id else none
      | _ => none) = [x, y] := by
    show ([Expr.Name x px, Expr.Name y py].filterMap fun
      | .Name id pos => if env.kindOf id == some .local && pos.line == px.line then some id else none
      | _ => none) = [x, y]
    have e1 : (env.kindOf x == some NameKind.local && px.line == px.line) = true := by rw [kx, kk]; simp
    have e2 : (env.kindOf y == some NameKind.local && py.line == px.line) = true := by rw [ky, kk, h2]; simp
    simp only [List.filterMap_cons, e1, e2, if_true, List.filterMap_nil]
  have hdup : [x, y].eraseDups = [x, y] := by
    simp [List.eraseDups_cons, hne]
  unfold swappedStores
  simp only
  split
  · rename_i z
    exfalso; revert z; rw [hb]; simp
  · split
    · rename_i z
      have z2 : (isStar a || (isStar b || false)) = true := z
      rw [h3, h4] at z2
      cases z2
    · split
      · rename_i z
        exfalso
        have z' : ((([Expr.Name x px, Expr.Name y py].filterMap fun
            | .Name id pos => if env.kindOf id == some .local && pos.line == (([Expr.Name x px, Expr.Name y py].head?.map (·.pos.line)).getD 0) then some id else none
            | _ => none).length != 2) || ((([Expr.Name x px, Expr.Name y py].filterMap fun
            | .Name id pos => if env.kindOf id == some .local && pos.line == (([Expr.Name x px, Expr.Name y py].head?.map (·.pos.line)).getD 0) then some id else none
            | _ => none).eraseDups.length != ([Expr.Name x px, Expr.Name y py].filterMap fun
            | .Name id pos => if env.kindOf id == some .local && pos.line == (([Expr.Name x px, Expr.Name y py].head?.map (·.pos.line)).getD 0) then some id else none
            | _ => none).length))) = true := z
        rw [hnames, hdup] at z'
        simp at z'
      · split
        · rename_i z
          exact absurd z (by rw [h5]; decide)
        · split
          · rename_i z
            exact absurd z (by rw [h6]; decide)
          · exact congrArg (fun l => pure (some l)) hnames
end
end Bw

set_option maxRecDepth 100000
set_option maxHeartbeats 4000000
namespace Bw
open PySem PySem.Spec PyProof.Rows L2
structure AllS (cl : Cl) (X : Cx) (W : WX) (cn : Cn) : Prop where
  a : All cl X W cn
  hp : PassesOwn (model X.prog X.w) X.A X.env X.xe
theorem takes0 (X : Cx) : Takes X W0 := fun u s' h => by
  obtain ⟨a, B, sI, pins, σ, H', cls, d, e, I, nb, up, sky, na, os, ag, w⟩ := h
  exact w.elim
theorem AllS.w0 {cl : Cl} {X : Cx} {W : WX} {cn : Cn} (h : AllS cl X W cn) : AllS cl X W0 cn :=
  ⟨⟨⟨h.a.g.N, h.a.g.nd, h.a.g.sc, h.a.g.sto, h.a.g.kd, h.a.g.calm, h.a.g.hu, takes0 X, h.a.g.nob⟩, h.a.c, h.a.k⟩, h.hp⟩
section
variable {X : Cx}
theorem set_both (hu : X.A.units + 1 < cLine) : PSet X (fun o i v H Q => rSetL o i v H Q ∨ rSetD o i v H Q) := fun pins s σ H o i v ov iv u Q I ro ri rv h =>
  h.elim (set_list pins s σ H o i v ov iv u Q I ro ri rv) (set_dict hu pins s σ H o i v ov iv u Q I ro ri rv)
end
theorem blk_fn {env : Env} (h : env.scope.kind = .function) : env.blockKind = .function := by unfold Env.blockKind; rw [h]; rfl
theorem sw_sole {env : Env} {v : Expr} (t : Expr) (h : ∀ x p, t ≠ .Name x p) (l : Nat) : swapsWithSole [t] v l env = pure false := sw_tup h l
theorem name_of {cn : Cn} {i : Nat} {v : Expr} (m : mE cn (.var i) v = true) : ∃ y p, v = .Name y p := by
  cases v <;> first | exact ⟨_, _, rfl⟩ | cases m
theorem no_slice {cn : Cn} {k : E} {a b c : Option Expr} {p : Pos} : mE cn k (.Slice a b c p) = false := by
  cases k <;> first | rfl | simp [mE]
/-- name = .. -/
theorem snd_set (cl : Cl) {e : E} {v : Expr} {X : Cx} {W : WX} {cn : Cn} (h : All cl X W cn) (m : mE cn e v = true) {i : Nat} {y : Str} {py pos : Pos} (hi : cn.N[i]? = some y) (hy : isLC (cn.so.names.lookup y) = true) : PS X (.Assign [.Name y py] v pos) (tAsg (te cl X W e) (gName i)) := by
  obtain ⟨l1, l2⟩ := h.g.sto y hy
  have plain : swapsWith v (some (.Name y py)) pos.line X.env = pure false → PS X (.Assign [.Name y py] v pos) (tAsg (te cl X W e) (gName i)) := fun hs =>
    ps_set (by rw [h.g.N]; exact h.g.nd) (by rw [h.g.N]; exact hi) l1 (snd_e cl e v X W cn h m).1 hs l2
  cases v with
  | ListComp elt gs scope lp =>
    cases hsw : (decide (X.env.scope.names.lookup y = some .local) && (py.line == lp.line) && !(scope.names.any fun (n, k) => n == y && (k == .local || k == .cell))) with
    | false => exact plain (sw_false hsw)
    | true =>
      simp only [Bool.and_eq_true, decide_eq_true_eq, Bool.not_eq_true'] at hsw
      obtain ⟨⟨w1, w2⟩, w3⟩ := hsw
      rw [h.g.sc] at w1
      cases e with
      | dct t ks vs => cases ks <;> cases vs <;> cases m
      | lc el tg it own =>
        cases gs <;> try (cases m; done)
        rename_i ge gs
        obtain ⟨t, iter, ifs, as⟩ := ge
        cases ifs <;> cases gs <;> try (cases m; done)
        have m : (decide (as = 0) && blkC cn.N cn.sc scope (ownP cn.N own) && mE (cnIn cn scope) el elt && mT (cnIn cn scope) tg t && mI cn it iter && tgOk it tg && (tgN tg).all own.contains) = true := m
        simp only [Bool.and_eq_true] at m
        obtain ⟨⟨⟨⟨⟨⟨ma, m0⟩, m1⟩, m2⟩, m3⟩, m4⟩, m5⟩ := m
        have ma := decE ma
        subst ma
        exact ok_setLc h.g hi w1 w2 w3 m0 m2 m5 m3 (snd_i cl it tg t iter X W cn (cnIn cn scope) h m2 m4 m3) fun s H C l fp => (snd_e cl el elt _ W0 (cnIn cn scope) (h.blk m0 s H C l fp) m1).1
      | lcf el tg it c own =>
        cases gs <;> try (cases m; done)
        rename_i ge gs
        obtain ⟨t, iter, ifs, as⟩ := ge
        cases ifs <;> try (cases gs <;> cases m; done)
        rename_i d ifs
        cases ifs <;> cases gs <;> try (cases m; done)
        have m : (decide (as = 0) && blkC cn.N cn.sc scope (ownP cn.N own) && mE (cnIn cn scope) el elt && mE (cnIn cn scope) c d && mT (cnIn cn scope) tg t && mI cn it iter && tgOk it tg && (tgN tg).all own.contains) = true := m
        simp only [Bool.and_eq_true] at m
        obtain ⟨⟨⟨⟨⟨⟨⟨ma, m0⟩, m1⟩, mc⟩, m2⟩, m3⟩, m4⟩, m5⟩ := m
        have ma := decE ma
        subst ma
        exact ok_setLcf h.g hi w1 w2 w3 m0 m2 m5 m3 (snd_i cl it tg t iter X W cn (cnIn cn scope) h m2 m4 m3) (fun s H C l fp => (snd_e cl c d _ W0 (cnIn cn scope) (h.blk m0 s H C l fp) mc).2) fun s H C l fp => (snd_e cl el elt _ W0 (cnIn cn scope) (h.blk m0 s H C l fp) m1).1
      | _ => cases m
  | SetComp a b c d =>
    cases e with
    | dct t ks vs => cases ks <;> cases vs <;> cases m
    | _ => cases m
  | DictComp a b c d e' =>
    cases e with
    | dct t ks vs => cases ks <;> cases vs <;> cases m
    | _ => cases m
  | _ => exact plain (sw_no rfl _ _)
theorem dk_val {it : It} (h : ∀ i, it ≠ .val (.var i)) (δ : De) : dkOf it δ = none := by
  cases it with
  | val e => cases e <;> first | rfl | exact absurd rfl (h _)
  | _ => rfl
mutual
theorem snd_s (cl : Cl) (fx : Bool) : ∀ (s : S) (x : Stmt) (X : Cx) (W : WX) (cn : Cn), AllS cl X W cn → mS cn fx s x = true → PS X x (ts cl X W fx s)
  | .asg i e, x, X, W, cn, h, m => by
    cases x <;> try (cases m; done)
    rename_i tgs v pos
    cases tgs <;> try (cases m; done)
    rename_i t tgs
    cases t <;> try (cases m; done)
    rename_i y py
    cases tgs <;> try (cases m; done)
    have m : (decide (cn.N[i]? = some y) && isLC (cn.so.names.lookup y) && mE cn e v && okI fx i) = true := m
    simp only [Bool.and_eq_true, decide_eq_true_eq] at m
    obtain ⟨⟨⟨m0, m1⟩, m2⟩, m3⟩ := m
    exact PS.imp (snd_set cl h.a m2 m0 m1) fun D σ H z => r_asg (okI_ok m3) z
  | .unp ts' e, x, X, W, cn, h, m => by
    cases x <;> try (cases m; done)
    rename_i tgs v pos
    cases tgs <;> try (cases m; done)
    rename_i t tgs
    cases t <;> try (cases m; done)
    rename_i es k p
    cases tgs <;> try (cases m; done)
    have m : (mTs cn ts' es && mE cn e v && unpB cn.sc es v && (tgsN ts').all (okI fx)) = true := m
    simp only [Bool.and_eq_true] at m
    obtain ⟨⟨⟨m0, m1⟩, m2⟩, m3⟩ := m
    have pt : PG X (.Tuple es k p) (gT X.K (.tp ts')) := pg_T h.a.g (.tp ts') (.Tuple es k p) m0
    exact PS.imp (ps_asg (snd_e cl e v X W cn h.a m1).1 pt (sw_sole (.Tuple es k p) (fun _ _ z => nomatch z) _) (sw_none (blk_fn h.a.g.kd) (by rw [h.a.g.sc]; exact m2))) fun D σ H z => r_unp (okI_all m3) z
  | .par i j a b, x, X, W, cn, h, m => by
    cases x <;> try (cases m; done)
    rename_i tgs v pos
    cases tgs <;> try (cases m; done)
    rename_i t tgs
    cases t <;> try (cases m; done)
    rename_i es k p
    cases es <;> try (cases m; done)
    rename_i e1 es
    cases e1 <;> try (cases m; done)
    rename_i y py
    cases es <;> try (cases m; done)
    rename_i e2 es
    cases e2 <;> try (cases m; done)
    rename_i y2 py2
    cases es <;> try (cases m; done)
    cases tgs <;> try (cases m; done)
    cases v <;> try (cases m; done)
    rename_i vs k2 p2
    cases vs <;> try (cases m; done)
    rename_i l vs
    cases vs <;> try (cases m; done)
    rename_i r vs
    cases vs <;> try (cases m; done)
    have m : (decide (cn.N[i]? = some y) && decide (cn.N[j]? = some y2) && decide (i ≠ j) && decide (cn.sc.names.lookup y = some .local) && decide (cn.sc.names.lookup y2 = some .local) && mE cn a l && mE cn b r && parB y y2 py py2 l r && okI fx i && okI fx j) = true := m
    simp only [Bool.and_eq_true, decide_eq_true_eq] at m
    obtain ⟨⟨⟨⟨⟨⟨⟨⟨⟨m0, m1⟩, m2⟩, m3⟩, m4⟩, m5⟩, m6⟩, m7⟩, m8⟩, m9⟩ := m
    have lx : X.env.scope.names.lookup y = some .local := by rw [h.a.g.sc]; exact m3
    have ly : X.env.scope.names.lookup y2 = some .local := by rw [h.a.g.sc]; exact m4
    exact PS.imp (ps_par h.a.g.calm (by rw [h.a.g.N]; exact h.a.g.nd) (by rw [h.a.g.N]; exact m0) (by rw [h.a.g.N]; exact m1) m2 lx ly
      (pa_cons (snd_e cl a l X W cn h.a m5).1 (pa_cons (snd_e cl b r X W cn h.a m6).1 pa_nil (star_cons (not_star m6))) (star_cons (not_star m5))) (sw_two (blk_fn h.a.g.kd) lx ly m7)) fun D σ H z => r_par (okI_ok m8) (okI_ok m9) z
  | .par3 i j k a b c, x, X, W, cn, h, m => by cases x <;> cases m
  | .put i k v, x, X, W, cn, h, m => by
    cases x <;> try (cases m; done)
    rename_i tgs e pos
    cases tgs <;> try (cases m; done)
    rename_i t tgs
    cases t <;> try (cases m; done)
    rename_i o s tp
    cases o <;> try (cases m; done)
    rename_i y py
    cases tgs <;> try (cases m; done)
    have m : (nmB cn i y && mE cn k s && mE cn v e) = true := m
    simp only [Bool.and_eq_true] at m
    obtain ⟨⟨m0, m1⟩, m2⟩ := m
    have ha : ∀ u, assign (.Subscript (.Name y py) s tp) X.env u = (do
      let ov ← holding [u] (eval (.Name y py) X.env)
      let iv ← holding [u, ov] (eval s X.env)
      standAt tp
      holding [u, ov, iv] (setItem ov iv u)
      release [u, ov, iv] []) := by
      intro u
      cases s <;> first | rfl | (rw [no_slice] at m1; cases m1)
    have pg : PG X (.Subscript (.Name y py) s tp) _ := pg_sub (nmB_ok (pos := py) h.a.g m0) (snd_e cl k s X W cn h.a m1).1 (set_both (by have := h.a.g.hu; omega)) ha
    exact PS.imp (ps_asg (snd_e cl v e X W cn h.a m2).1 pg (sw_sole (.Subscript (.Name y py) s tp) (fun _ _ z => nomatch z) _)) fun D σ H z => r_put z
  | .ret e, x, X, W, cn, h, m => by
    cases x <;> try (cases m; done)
    rename_i v pos
    cases v <;> try (cases m; done)
    rename_i v
    have m : mE cn e v = true := m
    by_cases hv : ∃ i, e = .var i
    · obtain ⟨i, rfl⟩ := hv
      obtain ⟨y, p, rfl⟩ := name_of m
      exact PS.imp (ps_ret (nmB_ok (pos := p) h.a.g m)) fun D σ H z => r_retV z
    · exact PS.imp (ps_ret (snd_e cl e v X W cn h.a m).1) fun D σ H z => r_ret (fun i e => hv ⟨i, e⟩) z
  | .retN, x, X, W, cn, h, m => by
    cases x <;> try (cases m; done)
    rename_i v pos
    cases v <;> try (cases m; done)
    exact PS.imp ps_retN fun D σ H z => r_retN z
  | .ifs c t f, x, X, W, cn, h, m => by
    cases x <;> try (cases m; done)
    rename_i y a b pos
    have m : (mE cn c y && mSs cn fx t a && mSs cn fx f b) = true := m
    simp only [Bool.and_eq_true] at m
    obtain ⟨⟨m0, m1⟩, m2⟩ := m
    exact PS.imp (ps_if (snd_e cl c y X W cn h.a m0).2 (snd_ss cl fx t a X W cn h m1) (snd_ss cl fx f b X W cn h m2)) fun D σ H z => r_ifs z
  | .fr tg it b, x, X, W, cn, h, m => by
    cases x <;> try (cases m; done)
    rename_i t y body oe pos
    cases oe <;> try (cases m; done)
    have m : (mT cn tg t && mI cn it y && tgOk it tg && (tgN tg).all (okI fx) && mSs cn fx b body) = true := m
    simp only [Bool.and_eq_true] at m
    obtain ⟨⟨⟨⟨m0, m1⟩, m2⟩, m3⟩, m4⟩ := m
    have p1 := ps_for (pos := pos) h.hp h.a.g.calm (snd_i cl it tg t y X W cn cn h.a m0 m2 m1) (pg_T h.a.g tg t m0) (snd_ss cl fx b body X W cn h m4) (no_fold m1 X.env)
    by_cases hv : ∃ i, it = .val (.var i)
    · obtain ⟨i, rfl⟩ := hv
      have p2 := ps_for (pos := pos) h.hp h.a.g.calm (pi_keys (tg := t) (by
        obtain ⟨z, p, rfl⟩ := name_of m1
        exact nmB_ok (pos := p) h.a.g m1)) (pg_T h.a.g tg t m0) (snd_ss cl fx b body X W0 cn h.w0 m4) (no_fold m1 X.env)
      exact PS.imp (PS.or p1 (PS.or (ps_lock p2) p2)) fun D σ H z => r_frV (okI_all m3) z
    · exact PS.imp p1 fun D σ H z => r_frN (okI_all m3) (dk_val fun i e => hv ⟨i, e⟩) z
  | .wh c b, x, X, W, cn, h, m => by
    cases x <;> try (cases m; done)
    rename_i y body oe pos
    cases oe <;> try (cases m; done)
    have m : (mE cn c y && mSs cn fx b body) = true := m
    simp only [Bool.and_eq_true] at m
    exact PS.imp (ps_while h.hp (snd_e cl c y X W cn h.a m.1).2 (snd_ss cl fx b body X W cn h m.2)) fun D σ H z => r_wh z
  | .ex e, x, X, W, cn, h, m => by
    cases x <;> try (cases m; done)
    rename_i y pos
    have m : (mE cn e y && !(isComp y)) = true := m
    simp only [Bool.and_eq_true, Bool.not_eq_true'] at m
    exact PS.imp (ps_expr (snd_e cl e y X W cn h.a m.1).1 (sw_no m.2 _ _)) fun D σ H z => r_ex z
  | .brk, x, X, W, cn, h, m => by
    cases x <;> try (cases m; done)
    refine PS.imp ps_break fun D σ H z => ?_
    obtain ⟨B, δ, S, m, hf, q⟩ := z
    exact q σ H S m hf
  | .nev, x, X, W, cn, h, m => PS.imp ps_never fun D σ H z => by
    obtain ⟨B, δ, S, m, hf, q⟩ := z
    exact q
  | .rs c, x, X, W, cn, h, m => by cases x <;> cases m
  | .rsA c f e, x, X, W, cn, h, m => by cases x <;> cases m
  | .frc tg i c d, x, X, W, cn, h, m => by
    unfold mS at m
    split at m <;> (rename_i heq; first | (cases m; done) | (cases heq; done) | skip)
    cases heq
    simp only [Bool.and_eq_true, Bool.not_eq_true'] at m
    obtain ⟨⟨⟨⟨⟨⟨m0, m1⟩, m2⟩, m3⟩, m4⟩, m5⟩, m6⟩ := m
    have hi : i ∉ tgN tg := fun z => by
      rw [List.contains_iff_mem.mpr z] at m4; cases m4
    exact PS.imp (ps_for h.hp h.a.g.calm (snd_i cl (.bor i) tg _ _ X W cn cn h.a m0 m2 m1) (pg_T h.a.g tg _ m0)
      (pss_cons (ps_if (snd_e cl c _ X W cn h.a m5).2 (pss_cons (ps_ret (snd_e cl (.cst (.bool d)) _ X W cn h.a m6).1) pss_nil) pss_nil) pss_nil) (no_fold m1 X.env)) fun D σ H z => r_frc (okI_all m3) hi z
theorem snd_ss (cl : Cl) (fx : Bool) : ∀ (s : Ss) (x : List Stmt) (X : Cx) (W : WX) (cn : Cn), AllS cl X W cn → mSs cn fx s x = true → PSs X x (tss cl X W fx s)
  | .nil, x, X, W, cn, h, m => by
    cases x <;> try (cases m; done)
    refine PSs.imp pss_nil fun D σ H z => ?_
    obtain ⟨B, δ, S, m, hf, q⟩ := z
    exact q σ H S m hf
  | .cons s ss, x, X, W, cn, h, m => by
    cases x <;> try (cases m; done)
    rename_i y l
    have m : (mS cn fx s y && mSs cn fx ss l) = true := m
    simp only [Bool.and_eq_true] at m
    exact PSs.imp (pss_cons (snd_s cl fx s y X W cn h m.1) (snd_ss cl fx ss l X W cn h m.2)) fun D σ H z => r_seq z
end
end Bw

set_option maxRecDepth 100000
set_option maxHeartbeats 4000000
namespace Bw
open PySem PySem.Spec PyProof.Rows L2
/-! ### a def -/
theorem entry_eq (df : Df) (as : List Dt) : entry df as = dArgs df.io as ++ List.replicate (df.nm - as.length) none := by
  cases as with
  | nil => rfl
  | cons a r => rfl
section
variable {K : PySem.W.Frag} {δ : De} {S S' : List Addr} {σ σ' : L2.St} {H H' : Hp} {n : Nat}
theorem get_app {α : Type} {l : List (Option α)} {n i : Nat} {x : α} (h : (l ++ List.replicate n none)[i]? = some (some x)) : l[i]? = some (some x) := by
  by_cases hi : i < l.length
  · rw [List.getElem?_append_left hi] at h; exact h
  · rw [List.getElem?_append_right (by omega), List.getElem?_replicate] at h
    split at h <;> cases h
theorem app_get {α : Type} {l r : List (Option α)} {i : Nat} {x : Option α} (h : l[i]? = some x) : (l ++ r)[i]? = some x := by
  rw [List.getElem?_append_left (List.getElem?_eq_some_iff.mp h).1]; exact h
theorem own_app {b : Addr} : Own (δ ++ List.replicate n none) (σ ++ List.replicate n none) b ↔ Own δ σ b :=
  ⟨fun ⟨i, d, g1, g2⟩ => ⟨i, d, get_app g1, get_app g2⟩, fun ⟨i, d, g1, g2⟩ => ⟨i, d, app_get g1, app_get g2⟩⟩
theorem ok_app (ok : StOk K S δ σ H) : StOk K S (δ ++ List.replicate n none) (σ ++ List.replicate n none) H := by
  refine ⟨by rw [List.length_append, List.length_append, ok.len, List.length_replicate, List.length_replicate], fun i d g => ?_, fun i d g => ?_, fun i j d e a g1 g2 h1 h2 => ok.inj i j d e a (get_app g1) (get_app g2) (get_app h1) (get_app h2), ok.live, ok.nt⟩
  · obtain ⟨v, e1, e2⟩ := ok.val i d (get_app g)
    exact ⟨v, app_get e1, e2⟩
  · obtain ⟨a, o, e1, e2⟩ := ok.own i d (get_app g)
    exact ⟨a, o, app_get e1, e2⟩
/-- the body's run as the call's: nothing of the arguments changed -/
theorem fin_false {as : List Dt} {vs : List V} (okA : StOk K S (dArgs false as) (vs.map some) H) (m : Mv K (dArgs false as ++ List.replicate n none) S (vs.map some ++ List.replicate n none) H δ S' σ' H') : Mv K (dArgs false as) S (vs.map some) H (dArgs false as) S' (vs.map some) H' := by
  have le : Le (hid S H) (hid S' H') := m.le (ok_app okA)
  refine ⟨fun b o h _ => m.keep b o h fun z => no_own (own_app.mp z), m.sub, fun b h => (m.sup b h).imp id fun z => own_app.mp z, fun b z => (no_own z).elim, m.some, m.live, ?_⟩
  refine ⟨okA.len, fun i d g => ?_, fun i d g => ?_, okA.inj, m.ok.live, m.ok.nt⟩
  · obtain ⟨v, e1, e2⟩ := okA.val i d g
    exact ⟨v, e1, e2.mono le⟩
  · obtain ⟨_, z⟩ := (dA_get g).2 rfl; cases z
/-- the first argument its own -/
theorem fin_true {a : Dt} {r : List Dt} {vs : List V} {b' : Dt} (okA : StOk K S (dArgs true (a :: r)) (vs.map some) H) (m : Mv K (dArgs true (a :: r) ++ List.replicate n none) S (vs.map some ++ List.replicate n none) H δ S' σ' H')
    (h0 : σ'[0]? = (vs.map some ++ List.replicate n none)[0]?) (hb : gt δ 0 = some (b', true)) : Mv K (dArgs true (a :: r)) S (vs.map some) H (dFin true b' (a :: r)) S' (vs.map some) H' ∧ ∃ p, (vs.map some)[0]? = some (some (V.ref p)) ∧ Own δ σ' p ∧ (H p).isSome = true := by
  have le : Le (hid S H) (hid S' H') := m.le (ok_app okA)
  obtain ⟨p, o, e1, e2, e3, e4⟩ := okA.own 0 a (by simp [dArgs])
  obtain ⟨p', o', g1, g2, g3, g4⟩ := m.ok.own 0 b' (gt_some hb)
  have z0 : (vs.map some ++ List.replicate n none)[0]? = some (some (V.ref p)) := app_get e1
  rw [h0, z0] at g1
  cases g1
  have owns : ∀ {c : Dt} {q : Addr}, Own (dArgs true (c :: r)) (vs.map some) q → q = p := fun {c q} ⟨i, d, f1, f2⟩ => by
    obtain ⟨z, _⟩ := (dA_get f1).2 rfl
    subst z
    rw [e1] at f2; cases f2; rfl
  have own : Own (dArgs true (a :: r)) (vs.map some) p := ⟨0, a, by simp [dArgs], e1⟩
  refine ⟨⟨fun b o h hn => m.keep b o h fun z => hn (own_app.mp z), m.sub, fun b h => (m.sup b h).imp id fun z => own_app.mp z, fun b z => .inl (owns z ▸ own), m.some, m.live, ?_⟩, p, e1, ⟨0, b', gt_some hb, by rw [h0, z0]⟩, by rw [e3]; rfl⟩
  refine ⟨by rw [← okA.len]; show (dArgs true (b' :: r)).length = _; rw [dA_len, dA_len]; rfl, fun i d g => ?_, fun i d g => ?_, fun i j d e c f1 f2 _ _ => ?_, m.ok.live, m.ok.nt⟩
  · cases i with
    | zero => simp [dFin, dArgs] at g
    | succ i =>
      obtain ⟨v, e1, e2⟩ := okA.val (i + 1) d (by simpa [dFin, dArgs] using g)
      exact ⟨v, e1, e2.mono le⟩
  · obtain ⟨z, _⟩ := (dA_get (as := b' :: r) g).2 rfl
    subst z
    simp [dFin, dArgs] at g
    subst g
    exact ⟨p, o', e1, g2, g3, g4⟩
  · rw [((dA_get (as := b' :: r) f1).2 rfl).1, ((dA_get (as := b' :: r) f2).2 rfl).1]
end
/-- what is known of a def's text -/
structure DefOk (K : PySem.W.Frag) (t : Tb) (io : Str → Option Bool) (gc : Str → Option Const) (x : Str) (df : Df) (f : Addr) (fd : FuncData) (ps : List Str) : Prop where
  ex : ∃ (q : Str) (st : Stmt) (N : List Str), Fun K x q st f fd ∧ FnScope N ps (defScope st) ∧ df.nm = N.length ∧ mSs ⟨N, defScope st, defScope st, io, gc⟩ df.io df.body (defBody st) = true
  np : df.np = ps.length
  io1 : df.io = true → df.np ≠ 0
section
variable {P : Program} {w : World} {K : PySem.W.Frag} {mg : Str → Option Value} {base : Heap} {t : Tb} {io : Str → Option Bool} {gc : Str → Option Const}
/-- all defs that are called, so many calls one in another -/
def Lvl (P : Program) (w : World) (K : PySem.W.Frag) (mg : Str → Option Value) (base : Heap) (t : Tb) (io : Str → Option Bool) (n : Nat) : Prop :=
  ∀ x b, io x = some b → ∃ df f fd ps, t x = some df ∧ df.io = b ∧ df.np = ps.length ∧ FnOk P w K mg base (L2.CX P w) n f fd ps (spF K mg df.np b (run t n) x) ∧ mg x = some (.ref f) ∧ PySem.W.keepIn K (.ref f) = true ∧ Binds K fd ps []
theorem run_np {n : Nat} {x : Str} {df : Df} {as : List Dt} (ht : t x = some df) (h : run t n x as ≠ .bad) : as.length = df.np := by
  cases n with
  | zero => exact absurd rfl h
  | succ n =>
    by_cases e : as.length = df.np
    · exact e
    · refine absurd ?_ h
      show (match t x with
        | none => CR.bad
        | some d => if as.length = d.np then _ else .bad) = .bad
      rw [ht]
      simp only [if_neg e]
theorem run_nex {n : Nat} {x : Str} {df : Df} {as : List Dt} {c : Str} {y : Option Dt} {z : Dt} (ht : t x = some df) (hio : df.io = true) : run t n x as ≠ .ex c y z := fun h => by
  cases n with
  | zero => cases h
  | succ n =>
    unfold run at h
    rw [ht] at h
    simp only [hio, if_true] at h
    split at h
    · split at h
      · split at h <;> cases h
      · split at h <;> cases h
      · cases h
      · cases h
      · cases h
    · cases h
/-- a def, once: if all that it calls keep their promise with n calls, it keeps its own with n + 1 -/
theorem def_ok {n : Nat} (L : Lvl P w K mg base t io n) (nob : ∀ x ∈ bnames, mg x = none) (hk : ∀ x k, gc x = some k → (∃ i t, k = .int i ∧ mg x = some (.int i t)) ∨ ∃ s t, k = .str s ∧ mg x = some (.str s t))
    {y x : Str} {df : Df} {f : Addr} {fd : FuncData} {ps : List Str} (D : DefOk K t io gc x df f fd ps) (ht : t y = some df) : FnOk P w K mg base (L2.CX P w) (n + 1) f fd ps (spF K mg df.np df.io (run t (n + 1)) y) := by
  obtain ⟨q, st, N, F, sc, hN, hm⟩ := D.ex
  refine F.okX sc (fun vs H Q E h => h.1.trans D.np) fun cdv A outer s H vs Q E hr h => ?_
  generalize hX : cxOf (L2.CX P w) P w K mg base N q (defScope st) f cdv A outer s H E = X
  have eP : X.prog = P := by rw [← hX]; rfl
  have ew : X.w = w := by rw [← hX]; rfl
  have eK : X.K = K := by rw [← hX]; rfl
  have em : X.mg = mg := by rw [← hX]; rfl
  have eb : X.base = base := by rw [← hX]; rfl
  have G : Good X (fun cls d _ H => E cls d H) ⟨N, defScope st, defScope st, io, gc⟩ := by
    rw [← hX]
    refine ⟨rfl, sc.nd, rfl, fun x hx => ⟨?_, .inl rfl⟩, sc.kind, rfl, hr.units, takes_of rfl rfl rfl rfl, nob⟩
    show _ ∨ _
    have hx : isLC ((defScope st).names.lookup x) = true := hx
    cases e : (defScope st).names.lookup x with
    | none => rw [e] at hx; cases hx
    | some k =>
      rw [e] at hx
      cases k <;> first | (cases hx; done) | skip
      · exact .inl e
      · exact .inr e
  have C : Calls io (run t n) X := by
    rw [← hX]
    refine ⟨fun z b hz => ?_, fun z as c u v hz => ?_⟩
    · obtain ⟨dz, fz, fdz, pz, h1, h2, h3, h4, h5, h6, h7⟩ := L z b hz
      exact ⟨dz.np, n, fz, fdz, pz, h4, hr, h5, h6, h7, fun as hb => run_np h1 hb⟩
    · obtain ⟨dz, fz, fdz, pz, h1, h2, h3, h4, h5, h6, h7⟩ := L z true hz
      exact run_nex h1 h2
  have AS : AllS (run t n) X (fun cls d _ H => E cls d H) ⟨N, defScope st, defScope st, io, gc⟩ := ⟨⟨G, C, by rw [← hX]; exact hk⟩, by rw [← hX]; exact passes_of rfl⟩
  refine ⟨_, snd_ss (run t n) df.io df.body (defBody st) X _ _ AS hm, ?_⟩
  obtain ⟨hl, as, S, okA, h⟩ := h
  have hla : as.length = vs.length := by
    have := okA.len
    rw [dA_len, List.length_map] at this; exact this
  have hnl : df.nm - as.length = N.length - vs.length := by rw [hN, hla]
  have hlen : as.length = df.np := hla.trans hl
  have est : start N vs = vs.map some ++ List.replicate (N.length - vs.length) none := rfl
  have een : entry df as = dArgs df.io as ++ List.replicate (N.length - vs.length) none := by rw [entry_eq, hnl]
  rw [est]
  refine ⟨⟨entry df as, S, vs.map some ++ List.replicate (N.length - vs.length) none, H⟩, entry df as, S, .refl (by rw [een, eK]; exact ok_app okA), fun _ => rfl, ?_⟩
  have er : run t (n + 1) y as = (match xss (run t n) df.body (entry df as) with
      | .ok (.ret r w) δ => if df.io = true then (match gt δ 0 with
          | some (b, true) => .ok r w b
          | _ => .bad) else .ok r w .none
      | .ok .nx δ => if df.io = true then (match gt δ 0 with
          | some (b, true) => .ok .none false b
          | _ => .bad) else .ok .none false .none
      | .ok .brk _ => .bad
      | .ex c x δ => if df.io = true then .bad else .ex c x .none
      | .bad => .bad) := by
    show (match t y with
      | none => CR.bad
      | some d => if as.length = d.np then _ else .bad) = _
    rw [ht]
    (simp only [if_pos hlen]) <;> rfl
  rw [er] at h
  have nz : df.io = true → ∃ a r, as = a :: r := fun z => by
    cases as with
    | nil => exact absurd hlen.symm (D.io1 z)
    | cons a r => exact ⟨a, r, rfl⟩
  cases ex : xss (run t n) df.body (entry df as) with
  | bad => rw [ex] at h; exact h.elim
  | ex c x' δ =>
    rw [ex] at h
    intro σ' H' S' cls dd m em'
    rw [eK] at m
    change Mv K (entry df as) S _ H δ S' σ' H' at m
    rw [een] at m
    change (match (if df.io = true then CR.bad else .ex c x' .none) with
      | .ok d w x => _
      | .ex c x _ => _
      | .bad => False) at h
    cases hio : df.io with
    | true => simp only [hio, if_true] at h
    | false =>
      simp only [hio, Bool.false_eq_true, if_false] at h
      rw [hio] at okA m
      refine h.2 H' S' cls dd (fin_false okA m) ?_
      have em' : ExM X.K X.mg S' H' c x' cls dd := em'
      rw [eK, em] at em'
      exact em'
  | ok o δ =>
    rw [ex] at h
    have go : ∀ (v : V) (σ' : L2.St) (H' : Hp) (S' : List Addr) (r : Dt) (w' : Bool), Mv X.K (entry df as) S (vs.map some ++ List.replicate (N.length - vs.length) none) H δ S' σ' H' → (df.io = true → σ'[0]? = (vs.map some ++ List.replicate (N.length - vs.length) none)[0]?) →
        VlR X.K (entry df as) (vs.map some ++ List.replicate (N.length - vs.length) none) H S' δ σ' H' v r w' → (match (if df.io = true then (match gt δ 0 with
          | some (b, true) => CR.ok r w' b
          | _ => .bad) else .ok r w' .none) with
        | .ok d w x => ∀ v H' S', Mv K (dArgs df.io as) S (vs.map some) H (dFin df.io x as) S' (vs.map some) H' → Vl K H S' (dFin df.io x as) (vs.map some) H' v d w → Q v H'
        | .ex c x _ => df.io = false ∧ ∀ H' S' cls dd, Mv K (dArgs df.io as) S (vs.map some) H (dArgs df.io as) S' (vs.map some) H' → ExM K mg S' H' c x cls dd → E cls dd H'
        | .bad => False) → Q v H' := fun v σ' H' S' r w' m f vl h => by
      rw [eK] at m vl
      rw [een] at m vl
      cases hio : df.io with
      | false =>
        simp only [hio, Bool.false_eq_true, if_false] at h
        rw [hio] at okA m vl
        refine h v H' S' (fin_false okA m) ?_
        cases w' with
        | false => exact vl
        | true =>
          obtain ⟨p, o, e, hp, hs, hn, ho, wo⟩ := vl
          exact ⟨p, o, e, hp.resolve_right fun z => no_own (own_app.mp z), hs, no_own, ho, wo⟩
      | true =>
        simp only [hio, if_true] at h
        obtain ⟨a, r', rfl⟩ := nz hio
        rw [hio] at okA m vl
        cases eg : gt δ 0 with
        | none => simp only [eg] at h
        | some z =>
          obtain ⟨b', fl⟩ := z
          cases fl with
          | false => simp only [eg] at h
          | true =>
            simp only [eg] at h
            obtain ⟨mm, p0, hp0, hown, hsome⟩ := fin_true okA m (f hio) eg
            refine h v H' S' mm ?_
            cases w' with
            | false => exact vl
            | true =>
              obtain ⟨p, o, e, hp, hs, hn, ho, wo⟩ := vl
              have eq0 : ∀ {c : Dt} {q : Addr}, Own (dArgs true (c :: r')) (vs.map some) q → q = p0 := fun {c q} ⟨i, d, f1, f2⟩ => by
                obtain ⟨z, _⟩ := (dA_get f1).2 rfl
                subst z
                rw [hp0] at f2; cases f2; rfl
              have hp' : H p = none := by
                rcases hp with hp | hp
                · exact hp
                · exact absurd hown (eq0 (own_app.mp hp) ▸ hn)
              refine ⟨p, o, e, hp', hs, fun z => ?_, ho, wo⟩
              rw [← eq0 z, hp'] at hsome; cases hsome
    cases o with
    | brk => exact h.elim
    | nx => exact fun σ' H' S' m f => go .non σ' H' S' .none false m f .non h
    | ret r w' => exact fun v σ' H' S' m f vl => go v σ' H' S' r w' m f vl h
end
end Bw

set_option maxRecDepth 100000
set_option maxHeartbeats 4000000
namespace Bw
open PySem PySem.Spec PyProof.Rows L2
/-! ### the end -/
/-- a program's defs, by their names -/
abbrev Ts := List (Str × Df)
def tabOf (l : Ts) : Tb := fun x => l.lookup x
def ioOf (l : Ts) : Str → Option Bool := fun x => (l.lookup x).map (·.io)
def gcOf (l : List (Str × Const)) : Str → Option Const := fun x => l.lookup x
section
variable {P : Program} {w : World} {K : PySem.W.Frag} {mg : Str → Option Value} {base : Heap} {t : Ts} {gc : List (Str × Const)}
/-- where a def stands, and its text -/
def DefAt (K : PySem.W.Frag) (mg : Str → Option Value) (t : Ts) (gc : List (Str × Const)) (x : Str) (df : Df) : Prop :=
  ∃ f fd ps, DefOk K (tabOf t) (ioOf t) (gcOf gc) x df f fd ps ∧ mg x = some (.ref f) ∧ PySem.W.keepIn K (.ref f) = true ∧ Binds K fd ps []
theorem lvl_all (h : ∀ p ∈ t, DefAt K mg t gc p.1 p.2) (nob : ∀ x ∈ bnames, mg x = none) (hk : ∀ x k, gcOf gc x = some k → (∃ i t, k = .int i ∧ mg x = some (.int i t)) ∨ ∃ s t, k = .str s ∧ mg x = some (.str s t)) :
    ∀ n, Lvl P w K mg base (tabOf t) (ioOf t) n
  | 0 => fun x b e => by
    unfold ioOf at e
    cases e2 : t.lookup x with
    | none => rw [e2] at e; cases e
    | some df =>
      rw [e2] at e
      cases e
      obtain ⟨f, fd, ps, D, h1, h2, h3⟩ := h _ (PySem.mem_of_lookup e2)
      refine ⟨df, f, fd, ps, e2, rfl, D.np, ?_, h1, h2, h3⟩
      have no : ∀ vs H Q E, ¬ spF K mg df.np df.io (run (tabOf t) 0) x vs H Q E := fun vs H Q E h => by
        obtain ⟨_, as, S, _, z⟩ := h
        exact z
      exact ⟨fun vs H Q E h => absurd h (no vs H Q E), fun A outer s H args us vs Q E _ _ _ _ h => absurd h (no vs H Q E)⟩
  | n + 1 => fun x b e => by
    have L := lvl_all h nob hk n
    unfold ioOf at e
    cases e2 : t.lookup x with
    | none => rw [e2] at e; cases e
    | some df =>
      rw [e2] at e
      cases e
      obtain ⟨f, fd, ps, D, h1, h2, h3⟩ := h _ (PySem.mem_of_lookup e2)
      exact ⟨df, f, fd, ps, e2, rfl, D.np, def_ok L nob hk D e2, h1, h2, h3⟩
/-- what law(script) promises -/
def spLaw (K : PySem.W.Frag) : Sp := fun vs H Q _ => ∃ (a : Addr) (ns : List Int), vs = [.ref a] ∧ SqL K H a (ns.map V.int) ∧ ns.length ≤ 63 ∧ (∀ z ∈ ns, Builtin.Int.intBits z ≤ 1048576) ∧ ∀ H', Q (.bl true) H'
/-- the law's truth, by the small interpreter -/
def LawTrue (t : Ts) (n : Nat) : Prop := ∀ ns : List Int, ns.length ≤ 63 → (∀ z ∈ ns, Builtin.Int.intBits z ≤ 1048576) → ∃ x, run (tabOf t) n (Str.ofString "law") [scr ns] = .ok (.bool true) false x
theorem law_fn {n : Nat} {x : Str} {df : Df} {f : Addr} {fd : FuncData} (h : ∀ p ∈ t, DefAt K mg t gc p.1 p.2) (nob : ∀ x ∈ bnames, mg x = none) (hk : ∀ x k, gcOf gc x = some k → (∃ i t, k = .int i ∧ mg x = some (.int i t)) ∨ ∃ s t, k = .str s ∧ mg x = some (.str s t))
    (D : DefOk K (tabOf t) (ioOf t) (gcOf gc) (Str.ofString "law") df f fd [x]) (hl : t.lookup (Str.ofString "law") = some df) (hio : df.io = false) (tr : LawTrue t (n + 1)) : FnOk P w K mg base (L2.CX P w) (n + 1) f fd [x] (spLaw K) := by
  refine (def_ok (lvl_all h nob hk n) nob hk D hl).imp fun vs H Q E z => ?_
  obtain ⟨a, ns, rfl, hs, hn, hb, q⟩ := z
  have hnp : df.np = 1 := D.np
  rw [hnp, hio]
  have hH : hid [] H = H := by funext b; unfold hid; rw [if_neg (by simp)]
  refine ⟨rfl, [scr ns], [], args_ok (vs := [.ref a]) (.cons (.scr (by rw [hH]; exact hs)) .nil) (fun b z => by cases z) (fun b z => by cases z), ?_⟩
  obtain ⟨y, e⟩ := tr ns hn hb
  rw [e]
  intro v H' S' m vl
  cases (show Rp K (hid S' H') v (.bool true) from vl)
  exact q H'
theorem cx_no {H : Hp} {s : Shared} {e : Value} {s' : Shared} (h : L2.CX P w [] H s (fun _ _ _ => False) e s') : False := by
  obtain ⟨a, B, H', cls, d, _, _, _, _, _, _, _, z⟩ := h
  exact z
theorem nob_of {h : Heap} (X : K.In h) (G : h.Ns mainGlobals mg) (z : ∀ x ∈ bnames, PySem.W.nsIn K mainGlobals x = some none) : ∀ x ∈ bnames, mg x = none := fun x hx => PySem.W.mg_none_of X G (z x hx)
end
/-- the row, from the facts of the program's top -/
theorem law_walk {l : PySem.W.OpenLaw} {q : Program} {loose : List Str} {XP : (Str → Option Value) → Heap → Prop} {YP : World → Heap → Prop} {d : DefRec} {K : Params → PySem.W.Frag} {n : Nat} {x : Str} (hn : l.most = some 63) (hdf : d.params.defaults = []) (hr : Room n callerA)
    (hY : ∀ (w : World) (h : Heap), YP w h → (K w.params).In h)
    (F : ∀ (w : World) (mg : Str → Option Value) (fa : Addr) (h : Heap), (K w.params).In h → h.Ns mainGlobals mg → mg d.name = some (.ref fa) →
      ∃ fd : FuncData, (∀ (s : Shared) (u : Value), BindsTo s fd ⟨[u], []⟩ [(x, u)]) ∧ ∀ base : Heap, FnOk l.prog w (K w.params) mg base (L2.CX l.prog w) n fa fd [x] (spLaw (K w.params))) :
    PySem.W.WalkO q loose XP YP l.row.toRowW d [] (fun f vs => PySem.call f vs) :=
  L2.walk_ofB (n := 63) (k := n) (x := x) (CX := fun w => L2.CX l.prog w) (sp := fun w => spLaw (K w.params)) hn (by decide) hdf hr hY (fun w mg fa h KX G hmg => by
    obtain ⟨fd, h1, h2⟩ := F w mg fa h KX G hmg
    exact ⟨fd, h1, fun base _ _ => h2 base⟩) (fun w H a ns hl hb hO hS => ⟨a, ns, rfl, hS, hl, hb, fun _ => rfl⟩) fun _ _ _ _ _ z => cx_no z
end Bw

set_option maxRecDepth 100000
namespace Bw
open PySem PySem.Spec PyProof.Rows L2
/-! ### the evaluator step by step -/
def R.bd {α β : Type} (r : R α) (f : α → De → R β) : R β := r.bind f
theorem rb_ok {α β : Type} (a : α) (δ : De) (f : α → De → R β) : (R.ok a δ).bd f = f a δ := (rfl)
theorem rb_ex {α β : Type} (c : Str) (x : Option Dt) (δ : De) (f : α → De → R β) : (R.ex c x δ).bd f = .ex c x δ := (rfl)
theorem rb_congr {α β : Type} {r r' : R α} {f : α → De → R β} (h : r = r') : r.bd f = r'.bd f := by rw [h]
def o1 (δ : De) : Option (Dt × Bool) → R (Dt × Bool)
  | some r => .ok r δ
  | none => .bad
def o1b (δ : De) : Option Bool → R (Dt × Bool)
  | some r => .ok (.bool r, false) δ
  | none => .bad
def o1i (δ : De) : Option Dt → R (Dt × Bool)
  | some r => .ok (r, false) δ
  | none => .bad
def f2 {α : Type} (f : Dt → Dt → Option α) : Option Dt → Option Dt → Option α
  | some d, some e => f d e
  | _, _ => none
theorem o1_some (δ : De) (r : Dt × Bool) : o1 δ (some r) = .ok r δ := (rfl)
theorem o1b_some (δ : De) (r : Bool) : o1b δ (some r) = .ok (.bool r, false) δ := (rfl)
theorem o1i_some (δ : De) (r : Dt) : o1i δ (some r) = .ok (r, false) δ := (rfl)
theorem f2_some {α : Type} (f : Dt → Dt → Option α) (d e : Dt) : f2 f (some d) (some e) = f d e := (rfl)
def rvK (δ : De) (i : Nat) : Option (Dt × Bool) → R (Dt × Bool)
  | some (d, _) => .ok (d, false) (rls δ i)
  | none => .bad
theorem rvK_some (δ : De) (i : Nat) (d : Dt) (w : Bool) : rvK δ i (some (d, w)) = .ok (d, false) (rls δ i) := (rfl)
def opK (δ : De) (i : Nat) : Option (Dt × Bool) → R Od
  | some _ => .ok (.v i) δ
  | none => .bad
theorem opK_some (δ : De) (i : Nat) (p : Dt × Bool) : opK δ i (some p) = .ok (.v i) δ := (rfl)
def rlK (δ : De) (i : Nat) : Option (Dt × Bool) → De
  | some (d, true) => st δ i (some (d, false))
  | _ => δ
theorem rlK_t (δ : De) (i : Nat) (d : Dt) : rlK δ i (some (d, true)) = st δ i (some (d, false)) := (rfl)
theorem rlK_f (δ : De) (i : Nat) (d : Dt) : rlK δ i (some (d, false)) = δ := (rfl)
def drK (δ : De) (i : Nat) : Option (Dt × Bool) → De
  | some (_, true) => st δ i none
  | _ => δ
theorem drK_t (δ : De) (i : Nat) (d : Dt) : drK δ i (some (d, true)) = st δ i none := (rfl)
theorem drK_f (δ : De) (i : Nat) (d : Dt) : drK δ i (some (d, false)) = δ := (rfl)
section
variable (cl : Cl) (δ : De)
theorem rls_e (i : Nat) : rls δ i = rlK δ i (gt δ i) := by
  unfold rls
  cases gt δ i with
  | none => rfl
  | some p => obtain ⟨d, w⟩ := p; cases w <;> rfl
theorem drp_e (i : Nat) : drp δ i = drK δ i (gt δ i) := by
  unfold drp
  cases gt δ i with
  | none => rfl
  | some p => obtain ⟨d, w⟩ := p; cases w <;> rfl
theorem ev_cst (c : Dt) : ev cl (.cst c) δ = .ok (c, false) δ := (rfl)
theorem ev_gl (x : Str) (c : Dt) : ev cl (.gl x c) δ = .ok (c, false) δ := (rfl)
theorem ev_var (i : Nat) : ev cl (.var i) δ = rvK δ i (gt δ i) := by
  show (match gt δ i with
    | some (d, _) => R.ok (d, false) (rls δ i)
    | none => R.bad) = _
  cases gt δ i with
  | none => rfl
  | some p => rfl
theorem opd_var (i : Nat) (r : R (Dt × Bool)) : opd (.var i) r δ = opK δ i (gt δ i) := by
  show (match gt δ i with
    | some _ => R.ok (Od.v i) δ
    | none => R.bad) = _
  cases gt δ i <;> rfl
/-- no name -/
def nv : E → Bool
  | .var _ => false
  | _ => true
theorem opd0_cst {a} (r : R (Dt × Bool)) : opd (.cst a) r δ = r.bd fun x δ1 => .ok (.d x.1) δ1 := (rfl)
theorem opd0_gl {a b} (r : R (Dt × Bool)) : opd (.gl a b) r δ = r.bd fun x δ1 => .ok (.d x.1) δ1 := (rfl)
theorem opd0_bin {a b c} (r : R (Dt × Bool)) : opd (.bin a b c) r δ = r.bd fun x δ1 => .ok (.d x.1) δ1 := (rfl)
theorem opd0_cmp {a b c} (r : R (Dt × Bool)) : opd (.cmp a b c) r δ = r.bd fun x δ1 => .ok (.d x.1) δ1 := (rfl)
theorem opd0_chain {a b c d e} (r : R (Dt × Bool)) : opd (.chain a b c d e) r δ = r.bd fun x δ1 => .ok (.d x.1) δ1 := (rfl)
theorem opd0_isN {a} (r : R (Dt × Bool)) : opd (.isN a) r δ = r.bd fun x δ1 => .ok (.d x.1) δ1 := (rfl)
theorem opd0_notN {a} (r : R (Dt × Bool)) : opd (.notN a) r δ = r.bd fun x δ1 => .ok (.d x.1) δ1 := (rfl)
theorem opd0_neg {a} (r : R (Dt × Bool)) : opd (.neg a) r δ = r.bd fun x δ1 => .ok (.d x.1) δ1 := (rfl)
theorem opd0_nt {a} (r : R (Dt × Bool)) : opd (.nt a) r δ = r.bd fun x δ1 => .ok (.d x.1) δ1 := (rfl)
theorem opd0_an {a} (r : R (Dt × Bool)) : opd (.an a) r δ = r.bd fun x δ1 => .ok (.d x.1) δ1 := (rfl)
theorem opd0_orr {a} (r : R (Dt × Bool)) : opd (.orr a) r δ = r.bd fun x δ1 => .ok (.d x.1) δ1 := (rfl)
theorem opd0_ife {a b c} (r : R (Dt × Bool)) : opd (.ife a b c) r δ = r.bd fun x δ1 => .ok (.d x.1) δ1 := (rfl)
theorem opd0_ix {a b} (r : R (Dt × Bool)) : opd (.ix a b) r δ = r.bd fun x δ1 => .ok (.d x.1) δ1 := (rfl)
theorem opd0_sl {a b c} (r : R (Dt × Bool)) : opd (.sl a b c) r δ = r.bd fun x δ1 => .ok (.d x.1) δ1 := (rfl)
theorem opd0_rev {a} (r : R (Dt × Bool)) : opd (.rev a) r δ = r.bd fun x δ1 => .ok (.d x.1) δ1 := (rfl)
theorem opd0_tup {a} (r : R (Dt × Bool)) : opd (.tup a) r δ = r.bd fun x δ1 => .ok (.d x.1) δ1 := (rfl)
theorem opd0_lst {a} (r : R (Dt × Bool)) : opd (.lst a) r δ = r.bd fun x δ1 => .ok (.d x.1) δ1 := (rfl)
theorem opd0_dct {a b c} (r : R (Dt × Bool)) : opd (.dct a b c) r δ = r.bd fun x δ1 => .ok (.d x.1) δ1 := (rfl)
theorem opd0_bi {a b} (r : R (Dt × Bool)) : opd (.bi a b) r δ = r.bd fun x δ1 => .ok (.d x.1) δ1 := (rfl)
theorem opd0_isi {a b} (r : R (Dt × Bool)) : opd (.isi a b) r δ = r.bd fun x δ1 => .ok (.d x.1) δ1 := (rfl)
theorem opd0_call {a b} (r : R (Dt × Bool)) : opd (.call a b) r δ = r.bd fun x δ1 => .ok (.d x.1) δ1 := (rfl)
theorem opd0_callM {a b c} (r : R (Dt × Bool)) : opd (.callM a b c) r δ = r.bd fun x δ1 => .ok (.d x.1) δ1 := (rfl)
theorem opd0_callT {a b c} (r : R (Dt × Bool)) : opd (.callT a b c) r δ = r.bd fun x δ1 => .ok (.d x.1) δ1 := (rfl)
theorem opd0_mu {a b c} (r : R (Dt × Bool)) : opd (.mu a b c) r δ = r.bd fun x δ1 => .ok (.d x.1) δ1 := (rfl)
theorem opd0_lc {a b c d} (r : R (Dt × Bool)) : opd (.lc a b c d) r δ = r.bd fun x δ1 => .ok (.d x.1) δ1 := (rfl)
theorem opd0_lcf {a b c d e} (r : R (Dt × Bool)) : opd (.lcf a b c d e) r δ = r.bd fun x δ1 => .ok (.d x.1) δ1 := (rfl)
theorem od_d (x : Dt) : od δ (.d x) = some x := (rfl)
theorem od_v (i : Nat) : od δ (.v i) = (gt δ i).map (·.1) := (rfl)
theorem ev_bin_0 (o : BOp) (a b : E) : ev cl (.bin o a b) δ = (opd a (ev cl a δ) δ).bd fun x δ1 => (opd b (ev cl b δ1) δ1).bd fun y δ2 => o1 δ2 (f2 (bop o) (od δ2 x) (od δ2 y)) := by
  show (opd a (ev cl a δ) δ).bind _ = _
  refine congrArg (R.bind _) (funext fun x => funext fun δ1 => ?_)
  refine congrArg (R.bind _) (funext fun y => funext fun δ2 => ?_)
  cases od δ2 x <;> cases od δ2 y <;> first | rfl | (rename_i d e; show (match bop o d e with | some r => R.ok r δ2 | none => R.bad) = o1 δ2 (bop o d e); cases bop o d e <;> rfl)
theorem ev_cmp_0 (o : COp) (a b : E) : ev cl (.cmp o a b) δ = (opd a (ev cl a δ) δ).bd fun x δ1 => (opd b (ev cl b δ1) δ1).bd fun y δ2 => o1b δ2 (f2 (cop o) (od δ2 x) (od δ2 y)) := by
  show (opd a (ev cl a δ) δ).bind _ = _
  refine congrArg (R.bind _) (funext fun x => funext fun δ1 => ?_)
  refine congrArg (R.bind _) (funext fun y => funext fun δ2 => ?_)
  cases od δ2 x <;> cases od δ2 y <;> first | rfl | (rename_i d e; show (match cop o d e with | some r => R.ok (.bool r, false) δ2 | none => R.bad) = o1b δ2 (cop o d e); cases cop o d e <;> rfl)
theorem ev_ix_0 (a b : E) : ev cl (.ix a b) δ = (opd a (ev cl a δ) δ).bd fun x δ1 => (opd b (ev cl b δ1) δ1).bd fun y δ2 => o1i δ2 (f2 ixD (od δ2 x) (od δ2 y)) := by
  show (opd a (ev cl a δ) δ).bind _ = _
  refine congrArg (R.bind _) (funext fun x => funext fun δ1 => ?_)
  refine congrArg (R.bind _) (funext fun y => funext fun δ2 => ?_)
  cases od δ2 x <;> cases od δ2 y <;> first | rfl | (rename_i d e; show (match ixD d e with | some r => R.ok (r, false) δ2 | none => R.bad) = o1i δ2 (ixD d e); cases ixD d e <;> rfl)
def isNK (δ : De) (b : Bool) : Option Dt → R (Dt × Bool)
  | some .none => .ok (.bool b, false) δ
  | some _ => .ok (.bool (!b), false) δ
  | none => .bad
theorem ev_isN_0 (a : E) : ev cl (.isN a) δ = (opd a (ev cl a δ) δ).bd fun x δ1 => isNK δ1 true (od δ1 x) := by
  show (opd a (ev cl a δ) δ).bind _ = _
  refine congrArg (R.bind _) (funext fun x => funext fun δ1 => ?_)
  cases od δ1 x with
  | none => rfl
  | some d => cases d <;> rfl
theorem ev_notN_0 (a : E) : ev cl (.notN a) δ = (opd a (ev cl a δ) δ).bd fun x δ1 => isNK δ1 false (od δ1 x) := by
  show (opd a (ev cl a δ) δ).bind _ = _
  refine congrArg (R.bind _) (funext fun x => funext fun δ1 => ?_)
  cases od δ1 x with
  | none => rfl
  | some d => cases d <;> rfl
def negK (δ : De) : Option Dt → R (Dt × Bool)
  | some (.int i) => .ok (.int (-i), false) δ
  | _ => .bad
theorem negK_i (i : Int) : negK δ (some (.int i)) = .ok (.int (-i), false) δ := (rfl)
theorem ev_neg_0 (a : E) : ev cl (.neg a) δ = (opd a (ev cl a δ) δ).bd fun x δ1 => negK δ1 (od δ1 x) := by
  show (opd a (ev cl a δ) δ).bind _ = _
  refine congrArg (R.bind _) (funext fun x => funext fun δ1 => ?_)
  cases od δ1 x with
  | none => rfl
  | some d => cases d <;> rfl
theorem ev_nt_0 (a : E) : ev cl (.nt a) δ = (tb (ev cl a δ)).bd fun b δ1 => .ok (.bool (!b), false) δ1 := (rfl)
theorem ev_an_0 (es : Es) : ev cl (.an es) δ = (tAnd cl es δ).bd fun b δ1 => .ok (.bool b, false) δ1 := (rfl)
theorem ev_orr_0 (es : Es) : ev cl (.orr es) δ = (tOr cl es δ).bd fun b δ1 => .ok (.bool b, false) δ1 := (rfl)
theorem tAnd_1 (e : E) : tAnd cl (.cons e .nil) δ = tb (ev cl e δ) := (rfl)
theorem tAnd_2_0 (e e2 : E) (es : Es) : tAnd cl (.cons e (.cons e2 es)) δ = (tb (ev cl e δ)).bd fun b δ1 => if b = true then tAnd cl (.cons e2 es) δ1 else .ok false δ1 := (rfl)
theorem tOr_1 (e : E) : tOr cl (.cons e .nil) δ = tb (ev cl e δ) := (rfl)
theorem tOr_2_0 (e e2 : E) (es : Es) : tOr cl (.cons e (.cons e2 es)) δ = (tb (ev cl e δ)).bd fun b δ1 => if b = true then .ok true δ1 else tOr cl (.cons e2 es) δ1 := (rfl)
theorem tb_ok (b w : Bool) : tb (.ok (.bool b, w) δ) = .ok b δ := (rfl)
theorem ev_ife_0 (c a b : E) : ev cl (.ife c a b) δ = (tb (ev cl c δ)).bd fun t δ1 => if t = true then ev cl a δ1 else ev cl b δ1 := (rfl)
theorem ev_tup_0 (es : Es) : ev cl (.tup es) δ = (evs cl es δ).bd fun ds δ1 => if ds.length ≤ lim then .ok (.tuple ds, false) δ1 else .bad := (rfl)
theorem ev_lst_0 (es : Es) : ev cl (.lst es) δ = (evs cl es δ).bd fun ds δ1 => if ds.length ≤ lim then .ok (.list ds, true) δ1 else .bad := (rfl)
theorem ev_dct (t : Bool) : ev cl (.dct t .nil .nil) δ = .ok (.dict [(.bool t, .none)], true) δ := (rfl)
theorem evs_nil : evs cl .nil δ = .ok [] δ := (rfl)
theorem evs_cons_0 (e : E) (es : Es) : evs cl (.cons e es) δ = (ev cl e δ).bd fun x δ1 => (evs cl es δ1).bd fun xs δ2 => .ok (x.1 :: xs) δ2 := (rfl)
theorem eos_nil : eos cl .nil δ = .ok [] δ := (rfl)
theorem eos_cons_0 (e : E) (es : Es) : eos cl (.cons e es) δ = (opd e (ev cl e δ) δ).bd fun x δ1 => (eos cl es δ1).bd fun xs δ2 => .ok (x :: xs) δ2 := (rfl)
def f1 {α : Type} (f : List Dt → Option α) : Option (List Dt) → Option α
  | some ds => f ds
  | none => none
theorem f1_some {α : Type} (f : List Dt → Option α) (ds : List Dt) : f1 f (some ds) = f ds := (rfl)
def oc : Option Dt → Option (List Dt) → Option (List Dt)
  | some d, some ds => some (d :: ds)
  | _, _ => none
theorem oc_some (d : Dt) (ds : List Dt) : oc (some d) (some ds) = some (d :: ds) := (rfl)
theorem ods_nil : ods δ [] = some [] := (rfl)
theorem ods_cons (o : Od) (os : List Od) : ods δ (o :: os) = oc (od δ o) (ods δ os) := by
  show (match od δ o, ods δ os with
    | some d, some ds => some (d :: ds)
    | _, _ => none) = _
  cases od δ o <;> cases ods δ os <;> rfl
theorem ev_bi_0 (b : Bi) (es : Es) : ev cl (.bi b es) δ = (eos cl es δ).bd fun os δ1 => o1 δ1 (f1 (biD b) (ods δ1 os)) := by
  show (eos cl es δ).bind _ = _
  refine congrArg (R.bind _) (funext fun os => funext fun δ1 => ?_)
  cases ods δ1 os with
  | none => rfl
  | some ds => show (match biD b ds with | some r => R.ok r δ1 | none => R.bad) = o1 δ1 (biD b ds); cases biD b ds <;> rfl
def isiK (t : String) : Option Dt → Option Bool
  | some d => isiO d t
  | none => none
theorem isiK_some (t : String) (d : Dt) : isiK t (some d) = isiO d t := (rfl)
theorem ev_isi_0 (a : E) (t : String) : ev cl (.isi a t) δ = (opd a (ev cl a δ) δ).bd fun x δ1 => o1b δ1 (isiK t (od δ1 x)) := by
  show (opd a (ev cl a δ) δ).bind _ = _
  refine congrArg (R.bind _) (funext fun x => funext fun δ1 => ?_)
  cases od δ1 x with
  | none => rfl
  | some d => show (match isiO d t with | some b => R.ok (.bool b, false) δ1 | none => R.bad) = o1b δ1 (isiO d t); cases isiO d t <;> rfl
/-- behind a call -/
def clK (os : List Od) (δ : De) : CR → R (Dt × Bool)
  | .ok d w _ => .ok (d, w) (if plain d = true then δ else rlsAll δ os)
  | .ex c x _ => .ex c x (rlsAll δ os)
  | .bad => .bad
theorem clK_ok (os : List Od) (d x : Dt) (w : Bool) : clK os δ (.ok d w x) = .ok (d, w) (if plain d = true then δ else rlsAll δ os) := (rfl)
def ca (f : Str) : Option (List Dt) → CR
  | some ds => cl f ds
  | none => .bad
theorem ca_some (f : Str) (ds : List Dt) : ca cl f (some ds) = cl f ds := (rfl)
theorem ev_call_0 (f : Str) (es : Es) : ev cl (.call f es) δ = (eos cl es δ).bd fun os δ1 => clK os δ1 (ca cl f (ods δ1 os)) := by
  show (eos cl es δ).bind _ = _
  refine congrArg (R.bind _) (funext fun os => funext fun δ1 => ?_)
  cases ods δ1 os with
  | none => rfl
  | some ds => show (match cl f ds with | .ok d w _ => _ | .ex c x _ => _ | .bad => _) = clK os δ1 (cl f ds); cases cl f ds <;> rfl
/-- behind a call that changes its first argument -/
def cmK (i : Nat) (os : List Od) (δ : De) : CR → R (Dt × Bool)
  | .ok d w b' => if isIntL b' = true ∧ noV i os = true then .ok (d, w) (st (if plain d = true then δ else rlsAll δ os) i (some (b', true))) else .bad
  | _ => .bad
theorem cmK_ok (i : Nat) (os : List Od) (d x : Dt) (w : Bool) : cmK i os δ (.ok d w x) = if isIntL x = true ∧ noV i os = true then .ok (d, w) (st (if plain d = true then δ else rlsAll δ os) i (some (x, true))) else .bad := (rfl)
def cm (f : Str) : Option (Dt × Bool) → Option (List Dt) → CR
  | some (b, true), some ds => cl f (b :: ds)
  | _, _ => .bad
theorem cm_some (f : Str) (b : Dt) (ds : List Dt) : cm cl f (some (b, true)) (some ds) = cl f (b :: ds) := (rfl)
theorem ev_callM_0 (f : Str) (i : Nat) (es : Es) : ev cl (.callM f i es) δ = if ownL δ i = true then (eos cl es δ).bd fun os δ1 => cmK i os δ1 (cm cl f (gt δ1 i) (ods δ1 os)) else .bad := by
  show (if ownL δ i = true then (eos cl es δ).bind _ else .bad) = _
  refine ite_congr rfl (fun _ => congrArg (R.bind _) (funext fun os => funext fun δ1 => ?_)) (fun _ => rfl)
  cases gt δ1 i with
  | none => rfl
  | some p =>
    obtain ⟨b, fl⟩ := p
    cases fl with
    | false => rfl
    | true =>
      cases ods δ1 os with
      | none => rfl
      | some ds => show (match cl f (b :: ds) with | .ok d w b' => _ | _ => _) = cmK i os δ1 (cl f (b :: ds)); cases cl f (b :: ds) <;> rfl
def ctK (os : List Od) (δ : De) : CR → R (Dt × Bool)
  | .ok d w b' => if isIntL b' = true then .ok (d, w) (if plain d = true then δ else rlsAll δ os) else .bad
  | _ => .bad
theorem ctK_ok (os : List Od) (d x : Dt) (w : Bool) : ctK os δ (.ok d w x) = if isIntL x = true then .ok (d, w) (if plain d = true then δ else rlsAll δ os) else .bad := (rfl)
def ctC (f : Str) (p : Dt) : Bool → Option (List Dt) → CR
  | true, some ds => cl f (p :: ds)
  | _, _ => .bad
theorem ctC_some (f : Str) (p : Dt) (ds : List Dt) : ctC cl f p true (some ds) = cl f (p :: ds) := (rfl)
theorem ev_callT_0 (f : Str) (a : E) (es : Es) : ev cl (.callT f a es) δ = (ev cl a δ).bd fun p δ0 => (eos cl es δ0).bd fun os δ1 => ctK os δ1 (ctC cl f p.1 p.2 (ods δ1 os)) := by
  show (ev cl a δ).bind _ = _
  refine congrArg (R.bind _) (funext fun p => funext fun δ0 => ?_)
  refine congrArg (R.bind _) (funext fun os => funext fun δ1 => ?_)
  obtain ⟨p, fl⟩ := p
  cases fl with
  | false => rfl
  | true =>
    cases ods δ1 os with
    | none => rfl
    | some ds => show (match cl f (p :: ds) with | .ok d w b' => _ | _ => _) = ctK os δ1 (cl f (p :: ds)); cases cl f (p :: ds) <;> rfl
def muK (δ : De) (i : Nat) : Option (Dt × Dt) → R (Dt × Bool)
  | some (d, b') => .ok (d, false) (st δ i (some (b', true)))
  | none => .bad
theorem muK_some (i : Nat) (d b : Dt) : muK δ i (some (d, b)) = .ok (d, false) (st δ i (some (b, true))) := (rfl)
def muF2 (m : Mu) (ds : List Dt) : Option (Dt × Bool) → Option (Dt × Dt)
  | some (b, true) => muD m b ds
  | _ => none
theorem muF2_some (m : Mu) (ds : List Dt) (b : Dt) : muF2 m ds (some (b, true)) = muD m b ds := (rfl)
theorem ev_mu_0 (m : Mu) (i : Nat) (es : Es) : ev cl (.mu m i es) δ = if ownL δ i = true then (evs cl es δ).bd fun ds δ1 => muK δ1 i (muF2 m ds (gt δ1 i)) else .bad := by
  show (if ownL δ i = true then (evs cl es δ).bind _ else .bad) = _
  refine ite_congr rfl (fun _ => congrArg (R.bind _) (funext fun ds => funext fun δ1 => ?_)) (fun _ => rfl)
  cases gt δ1 i with
  | none => rfl
  | some p =>
    obtain ⟨b, fl⟩ := p
    cases fl with
    | false => rfl
    | true => show (match muD m b ds with | some (d, b') => _ | none => _) = muK δ1 i (muD m b ds); cases muD m b ds <;> rfl
def ownK : Option (Dt × Bool) → Bool
  | some (.list _, true) => true
  | _ => false
theorem ownK_l (xs : List Dt) : ownK (some (.list xs, true)) = true := (rfl)
theorem ownL_e (i : Nat) : ownL δ i = ownK (gt δ i) := (rfl)
theorem eoo_non : eoo cl .non δ = .ok none δ := (rfl)
def intK (δ : De) : Dt → R (Option Int)
  | .int i => .ok (some i) δ
  | _ => .bad
theorem intK_i (i : Int) : intK δ (.int i) = .ok (some i) δ := (rfl)
theorem eoo_som_0 (e : E) : eoo cl (.som e) δ = (ev cl e δ).bd fun x δ1 => intK δ1 x.1 := by
  show (ev cl e δ).bind _ = _
  refine congrArg (R.bind _) (funext fun x => funext fun δ1 => ?_)
  obtain ⟨d, w⟩ := x
  cases d <;> rfl
def slK (l h : Option Int) : Option Dt → Option (Dt × Bool)
  | some d => slD d l h
  | none => none
theorem slK_some (l h : Option Int) (d : Dt) : slK l h (some d) = slD d l h := (rfl)
theorem ev_sl_0 (a : E) (lo hi : Eo) : ev cl (.sl a lo hi) δ = (opd a (ev cl a δ) δ).bd fun x δ1 => (eoo cl lo δ1).bd fun l δ2 => (eoo cl hi δ2).bd fun h δ3 => o1 δ3 (slK l h (od δ3 x)) := by
  show (opd a (ev cl a δ) δ).bind _ = _
  refine congrArg (R.bind _) (funext fun x => funext fun δ1 => ?_)
  refine congrArg (R.bind _) (funext fun l => funext fun δ2 => ?_)
  refine congrArg (R.bind _) (funext fun h => funext fun δ3 => ?_)
  cases od δ3 x with
  | none => rfl
  | some d => show (match slD d l h with | some r => R.ok r δ3 | none => R.bad) = o1 δ3 (slD d l h); cases slD d l h <;> rfl
/-! walks -/
def wkK (δ : De) : Option (List Dt) → R (List Dt)
  | some ds => .ok ds δ
  | none => .bad
theorem wkK_some (ds : List Dt) : wkK δ (some ds) = .ok ds δ := (rfl)
theorem eit_val_0 (e : E) : eit cl (.val e) δ = (ev cl e δ).bd fun x δ1 => wkK δ1 (walkD x.1) := by
  show (ev cl e δ).bind _ = _
  refine congrArg (R.bind _) (funext fun x => funext fun δ1 => ?_)
  show (match walkD x.1 with | some ds => R.ok ds δ1 | none => R.bad) = wkK δ1 (walkD x.1)
  cases walkD x.1 <;> rfl
def bwK : Option (Dt × Bool) → Option (List Dt)
  | some (d, _) => walkD d
  | none => none
theorem bwK_some (d : Dt) (w : Bool) : bwK (some (d, w)) = walkD d := (rfl)
theorem eit_bor (i : Nat) : eit cl (.bor i) δ = wkK δ (bwK (gt δ i)) := by
  show (match gt δ i with | some (d, _) => (match walkD d with | some ds => R.ok ds δ | none => R.bad) | none => R.bad) = _
  cases gt δ i with
  | none => rfl
  | some p => obtain ⟨d, w⟩ := p; show (match walkD d with | some ds => R.ok ds δ | none => R.bad) = wkK δ (walkD d); cases walkD d <;> rfl
def r1K (δ : De) : Dt → R (List Dt)
  | .int j => if big j = true then .ok (rngL 0 j.toNat) δ else .bad
  | _ => .bad
theorem r1K_i (j : Int) : r1K δ (.int j) = if big j = true then .ok (rngL 0 j.toNat) δ else .bad := (rfl)
theorem eit_rng1_0 (a : E) : eit cl (.rng1 a) δ = (ev cl a δ).bd fun x δ1 => r1K δ1 x.1 := by
  show (ev cl a δ).bind _ = _
  refine congrArg (R.bind _) (funext fun x => funext fun δ1 => ?_)
  obtain ⟨d, w⟩ := x
  cases d <;> rfl
def r2K (δ : De) : Dt → Dt → R (List Dt)
  | .int i, .int j => if big i = true ∧ big j = true then .ok (rngL i (j - i).toNat) δ else .bad
  | _, _ => .bad
theorem r2K_i (i j : Int) : r2K δ (.int i) (.int j) = if big i = true ∧ big j = true then .ok (rngL i (j - i).toNat) δ else .bad := (rfl)
theorem eit_rng2_0 (a b : E) : eit cl (.rng2 a b) δ = (ev cl a δ).bd fun x δ1 => (ev cl b δ1).bd fun y δ2 => r2K δ2 x.1 y.1 := by
  show (ev cl a δ).bind _ = _
  refine congrArg (R.bind _) (funext fun x => funext fun δ1 => ?_)
  refine congrArg (R.bind _) (funext fun y => funext fun δ2 => ?_)
  obtain ⟨d, w⟩ := x
  obtain ⟨e, w'⟩ := y
  cases d <;> cases e <;> rfl
def enK (δ : De) : Dt → R (List Dt)
  | .list xs => .ok (enumL 0 xs) δ
  | .tuple xs => .ok (enumL 0 xs) δ
  | _ => .bad
theorem enK_t (xs : List Dt) : enK δ (.tuple xs) = .ok (enumL 0 xs) δ := (rfl)
theorem enK_l (xs : List Dt) : enK δ (.list xs) = .ok (enumL 0 xs) δ := (rfl)
theorem eit_enum_0 (a : E) : eit cl (.enum a) δ = (ev cl a δ).bd fun x δ1 => enK δ1 x.1 := by
  show (ev cl a δ).bind _ = _
  refine congrArg (R.bind _) (funext fun x => funext fun δ1 => ?_)
  obtain ⟨d, w⟩ := x
  cases d <;> rfl
/-! comprehensions -/
def lcB (tg : Tg) (own : List Nat) (body : De → R (Option Dt)) : Dt → De → R (Option Dt) := fun d δ2 => (match asgT tg d (wipeD δ2 own) with
  | some δ3 => body δ3
  | none => .bad)
def lcE (el : E) : De → R (Option Dt) := fun δ3 => (ev cl el δ3).bd fun x δ4 => .ok (some x.1) δ4
def lcC (c el : E) : De → R (Option Dt) := fun δ3 => (tb (ev cl c δ3)).bd fun b δ4 => if b = true then (ev cl el δ4).bd fun x δ5 => .ok (some x.1) δ5 else .ok none δ4
def lcX (δ1 : De) (lk own : List Nat) : R (List Dt) → R (Dt × Bool)
  | .ok r δ5 => if r.length ≤ lim then .ok (.list r, true) (backD δ1 (wipeD δ5 own) (lk ++ own)) else .bad
  | _ => .bad
theorem lcX_ok (δ1 : De) (lk own : List Nat) (r : List Dt) (δ5 : De) : lcX δ1 lk own (.ok r δ5) = if r.length ≤ lim then .ok (.list r, true) (backD δ1 (wipeD δ5 own) (lk ++ own)) else .bad := (rfl)
theorem ev_lc_0 (el : E) (tg : Tg) (it : It) (own : List Nat) : ev cl (.lc el tg it own) δ = (eit cl it δ).bd fun ds δ1 => lcX δ1 (lockI it) own (lcL (lcB tg own (lcE cl el)) ds (wipeD δ1 (lockI it))) := (rfl)
theorem ev_lcf_0 (el : E) (tg : Tg) (it : It) (c : E) (own : List Nat) : ev cl (.lcf el tg it c own) δ = (eit cl it δ).bd fun ds δ1 => lcX δ1 (lockI it) own (lcL (lcB tg own (lcC cl c el)) ds (wipeD δ1 (lockI it))) := (rfl)
theorem lockI_val (e : E) : lockI (.val e) = [] := (rfl)
theorem lockI_bor (i : Nat) : lockI (.bor i) = [i] := (rfl)
theorem lockI_rng1 (a : E) : lockI (.rng1 a) = [] := (rfl)
theorem lockI_rng2 (a b : E) : lockI (.rng2 a b) = [] := (rfl)
theorem lockI_enum (a : E) : lockI (.enum a) = [] := (rfl)
/-! statements -/
def flK (k : De → R Fl) (δ : De) : Fl → R Fl
  | .nx => k δ
  | .brk => .ok .brk δ
  | .ret d w => .ok (.ret d w) δ
theorem flK_nx (k : De → R Fl) : flK k δ .nx = k δ := (rfl)
theorem flK_ret (k : De → R Fl) (d : Dt) (w : Bool) : flK k δ (.ret d w) = .ok (.ret d w) δ := (rfl)
theorem flK_brk (k : De → R Fl) : flK k δ .brk = .ok .brk δ := (rfl)
theorem xss_nil : xss cl .nil δ = .ok .nx δ := (rfl)
theorem xss_cons_0 (s : S) (ss : Ss) : xss cl (.cons s ss) δ = (xs cl s δ).bd fun o δ1 => flK (xss cl ss) δ1 o := by
  show (xs cl s δ).bind _ = _
  refine congrArg (R.bind _) (funext fun o => funext fun δ1 => ?_)
  cases o <;> rfl
theorem xs_asg_0 (i : Nat) (e : E) : xs cl (.asg i e) δ = (ev cl e δ).bd fun x δ1 => .ok .nx (st δ1 i (some x)) := (rfl)
def upK : Option De → R Fl
  | some δ => .ok .nx δ
  | none => .bad
theorem upK_some : upK (some δ) = .ok .nx δ := (rfl)
theorem xs_unp_0 (ts : Tgs) (e : E) : xs cl (.unp ts e) δ = (ev cl e δ).bd fun x δ1 => upK (asgT (.tp ts) x.1 δ1) := by
  show (ev cl e δ).bind _ = _
  refine congrArg (R.bind _) (funext fun x => funext fun δ1 => ?_)
  show (match asgT (.tp ts) x.1 δ1 with | some δ2 => R.ok .nx δ2 | none => R.bad) = upK (asgT (.tp ts) x.1 δ1)
  cases asgT (.tp ts) x.1 δ1 <;> rfl
theorem xs_par_0 (i j : Nat) (a b : E) : xs cl (.par i j a b) δ = (ev cl a δ).bd fun x δ1 => (ev cl b δ1).bd fun y δ2 => .ok .nx (st (st δ2 i (some x)) j (some y)) := (rfl)
def ptF (x y : Dt) : Option (Dt × Bool) → Option Dt
  | some (b, true) => putX b x y
  | _ => none
theorem ptF_some (x y b : Dt) : ptF x y (some (b, true)) = putX b x y := (rfl)
def ptK (δ : De) (i : Nat) : Option Dt → R Fl
  | some b' => .ok .nx (st δ i (some (b', true)))
  | none => .bad
theorem ptK_some (i : Nat) (b : Dt) : ptK δ i (some b) = .ok .nx (st δ i (some (b, true))) := (rfl)
theorem xs_put_0 (i : Nat) (k v : E) : xs cl (.put i k v) δ = (ev cl v δ).bd fun y δ1 => if (gt δ1 i).isSome = true then (ev cl k δ1).bd fun x δ2 => ptK δ2 i (ptF x.1 y.1 (gt δ2 i)) else .bad := by
  show (ev cl v δ).bind _ = _
  refine congrArg (R.bind _) (funext fun y => funext fun δ1 => ?_)
  refine ite_congr rfl (fun _ => congrArg (R.bind _) (funext fun x => funext fun δ2 => ?_)) (fun _ => rfl)
  cases gt δ2 i with
  | none => rfl
  | some p =>
    obtain ⟨b, fl⟩ := p
    cases fl with
    | false => rfl
    | true => show (match putX b x.1 y.1 with | some b' => _ | none => _) = ptK δ2 i (putX b x.1 y.1); cases putX b x.1 y.1 <;> rfl
def rtK (δ : De) (i : Nat) : Option (Dt × Bool) → R Fl
  | some (d, w) => .ok (.ret d w) (drp δ i)
  | none => .bad
theorem rtK_some (i : Nat) (d : Dt) (w : Bool) : rtK δ i (some (d, w)) = .ok (.ret d w) (drp δ i) := (rfl)
theorem xs_retV (i : Nat) : xs cl (.ret (.var i)) δ = rtK δ i (gt δ i) := by
  show (match gt δ i with | some (d, w) => R.ok (Fl.ret d w) (drp δ i) | none => R.bad) = _
  cases gt δ i <;> rfl
theorem xs_ret0_cst {a} : xs cl (.ret (.cst a)) δ = (ev cl (.cst a) δ).bd fun x δ1 => .ok (.ret x.1 x.2) δ1 := (rfl)
theorem xs_ret0_gl {a b} : xs cl (.ret (.gl a b)) δ = (ev cl (.gl a b) δ).bd fun x δ1 => .ok (.ret x.1 x.2) δ1 := (rfl)
theorem xs_ret0_bin {a b c} : xs cl (.ret (.bin a b c)) δ = (ev cl (.bin a b c) δ).bd fun x δ1 => .ok (.ret x.1 x.2) δ1 := (rfl)
theorem xs_ret0_cmp {a b c} : xs cl (.ret (.cmp a b c)) δ = (ev cl (.cmp a b c) δ).bd fun x δ1 => .ok (.ret x.1 x.2) δ1 := (rfl)
theorem xs_ret0_chain {a b c d e} : xs cl (.ret (.chain a b c d e)) δ = (ev cl (.chain a b c d e) δ).bd fun x δ1 => .ok (.ret x.1 x.2) δ1 := (rfl)
theorem xs_ret0_isN {a} : xs cl (.ret (.isN a)) δ = (ev cl (.isN a) δ).bd fun x δ1 => .ok (.ret x.1 x.2) δ1 := (rfl)
theorem xs_ret0_notN {a} : xs cl (.ret (.notN a)) δ = (ev cl (.notN a) δ).bd fun x δ1 => .ok (.ret x.1 x.2) δ1 := (rfl)
theorem xs_ret0_neg {a} : xs cl (.ret (.neg a)) δ = (ev cl (.neg a) δ).bd fun x δ1 => .ok (.ret x.1 x.2) δ1 := (rfl)
theorem xs_ret0_nt {a} : xs cl (.ret (.nt a)) δ = (ev cl (.nt a) δ).bd fun x δ1 => .ok (.ret x.1 x.2) δ1 := (rfl)
theorem xs_ret0_an {a} : xs cl (.ret (.an a)) δ = (ev cl (.an a) δ).bd fun x δ1 => .ok (.ret x.1 x.2) δ1 := (rfl)
theorem xs_ret0_orr {a} : xs cl (.ret (.orr a)) δ = (ev cl (.orr a) δ).bd fun x δ1 => .ok (.ret x.1 x.2) δ1 := (rfl)
theorem xs_ret0_ife {a b c} : xs cl (.ret (.ife a b c)) δ = (ev cl (.ife a b c) δ).bd fun x δ1 => .ok (.ret x.1 x.2) δ1 := (rfl)
theorem xs_ret0_ix {a b} : xs cl (.ret (.ix a b)) δ = (ev cl (.ix a b) δ).bd fun x δ1 => .ok (.ret x.1 x.2) δ1 := (rfl)
theorem xs_ret0_sl {a b c} : xs cl (.ret (.sl a b c)) δ = (ev cl (.sl a b c) δ).bd fun x δ1 => .ok (.ret x.1 x.2) δ1 := (rfl)
theorem xs_ret0_rev {a} : xs cl (.ret (.rev a)) δ = (ev cl (.rev a) δ).bd fun x δ1 => .ok (.ret x.1 x.2) δ1 := (rfl)
theorem xs_ret0_tup {a} : xs cl (.ret (.tup a)) δ = (ev cl (.tup a) δ).bd fun x δ1 => .ok (.ret x.1 x.2) δ1 := (rfl)
theorem xs_ret0_lst {a} : xs cl (.ret (.lst a)) δ = (ev cl (.lst a) δ).bd fun x δ1 => .ok (.ret x.1 x.2) δ1 := (rfl)
theorem xs_ret0_dct {a b c} : xs cl (.ret (.dct a b c)) δ = (ev cl (.dct a b c) δ).bd fun x δ1 => .ok (.ret x.1 x.2) δ1 := (rfl)
theorem xs_ret0_bi {a b} : xs cl (.ret (.bi a b)) δ = (ev cl (.bi a b) δ).bd fun x δ1 => .ok (.ret x.1 x.2) δ1 := (rfl)
theorem xs_ret0_isi {a b} : xs cl (.ret (.isi a b)) δ = (ev cl (.isi a b) δ).bd fun x δ1 => .ok (.ret x.1 x.2) δ1 := (rfl)
theorem xs_ret0_call {a b} : xs cl (.ret (.call a b)) δ = (ev cl (.call a b) δ).bd fun x δ1 => .ok (.ret x.1 x.2) δ1 := (rfl)
theorem xs_ret0_callM {a b c} : xs cl (.ret (.callM a b c)) δ = (ev cl (.callM a b c) δ).bd fun x δ1 => .ok (.ret x.1 x.2) δ1 := (rfl)
theorem xs_ret0_callT {a b c} : xs cl (.ret (.callT a b c)) δ = (ev cl (.callT a b c) δ).bd fun x δ1 => .ok (.ret x.1 x.2) δ1 := (rfl)
theorem xs_ret0_mu {a b c} : xs cl (.ret (.mu a b c)) δ = (ev cl (.mu a b c) δ).bd fun x δ1 => .ok (.ret x.1 x.2) δ1 := (rfl)
theorem xs_ret0_lc {a b c d} : xs cl (.ret (.lc a b c d)) δ = (ev cl (.lc a b c d) δ).bd fun x δ1 => .ok (.ret x.1 x.2) δ1 := (rfl)
theorem xs_ret0_lcf {a b c d e} : xs cl (.ret (.lcf a b c d e)) δ = (ev cl (.lcf a b c d e) δ).bd fun x δ1 => .ok (.ret x.1 x.2) δ1 := (rfl)
theorem xs_ifs_0 (c : E) (t f : Ss) : xs cl (.ifs c t f) δ = (tb (ev cl c δ)).bd fun b δ1 => if b = true then xss cl t δ1 else xss cl f δ1 := (rfl)
theorem xs_ex_0 (e : E) : xs cl (.ex e) δ = (ev cl e δ).bd fun _ δ1 => .ok .nx δ1 := (rfl)
theorem xs_brk : xs cl .brk δ = .ok .brk δ := (rfl)
def asK (k : De → R Fl) : Option De → R Fl
  | some δ => k δ
  | none => .bad
theorem asK_some (k : De → R Fl) : asK k (some δ) = k δ := (rfl)
/-- a loop's turn -/
def frB (tg : Tg) (b : Ss) : Dt → De → R Fl := fun d δ2 => asK (xss cl b) (asgT tg d δ2)
theorem frB_e (tg : Tg) (b : Ss) (d : Dt) : frB cl tg b d δ = asK (xss cl b) (asgT tg d δ) := (rfl)
def dkK (i : Nat) : Option (Dt × Bool) → Option (Nat × List Dt)
  | some (.dict ((.bool _, _) :: kvs), _) => some (i, kvs.map (·.1))
  | _ => none
theorem frB_fun (tg : Tg) (b : Ss) : (fun (d : Dt) (δ2 : De) => match asgT tg d δ2 with
      | some δ3 => xss cl b δ3
      | none => R.bad) = frB cl tg b := by
  funext d δ2
  unfold frB
  cases asgT tg d δ2 <;> rfl
def frK (tg : Tg) (it : It) (b : Ss) (δ : De) : Option (Nat × List Dt) → R Fl
  | some (i, ds) => frD (frL (frB cl tg b) ds (rls δ i))
  | none => (eit cl it δ).bd fun ds δ1 => frL (frB cl tg b) ds δ1
theorem frK_none_0 (tg : Tg) (it : It) (b : Ss) : frK cl tg it b δ none = (eit cl it δ).bd fun ds δ1 => frL (frB cl tg b) ds δ1 := (rfl)
theorem frK_some (tg : Tg) (it : It) (b : Ss) (i : Nat) (ds : List Dt) : frK cl tg it b δ (some (i, ds)) = frD (frL (frB cl tg b) ds (rls δ i)) := (rfl)
theorem xs_frA (tg : Tg) (it : It) (b : Ss) (h : (lockI it).isEmpty = true) : xs cl (.fr tg it b) δ = frK cl tg it b δ (dkOf it δ) := by
  show (if (lockI it).isEmpty = true then _ else _) = _
  rw [if_pos h]
  cases dkOf it δ with
  | none => exact congrArg (R.bind _) (funext fun ds => funext fun δ1 => congrArg (fun F => frL F ds δ1) (frB_fun cl tg b))
  | some p => exact congrArg (fun F => frD (frL F p.2 (rls δ p.1))) (frB_fun cl tg b)
theorem xs_fr_val {e} (tg : Tg) (b : Ss) : xs cl (.fr tg (.val e) b) δ = frK cl tg (.val e) b δ (dkOf (.val e) δ) := xs_frA cl δ tg _ b rfl
theorem xs_fr_rng1 {e} (tg : Tg) (b : Ss) : xs cl (.fr tg (.rng1 e) b) δ = frK cl tg (.rng1 e) b δ (dkOf (.rng1 e) δ) := xs_frA cl δ tg _ b rfl
theorem xs_fr_rng2 {e f} (tg : Tg) (b : Ss) : xs cl (.fr tg (.rng2 e f) b) δ = frK cl tg (.rng2 e f) b δ (dkOf (.rng2 e f) δ) := xs_frA cl δ tg _ b rfl
theorem xs_fr_rng3 {e f g} (tg : Tg) (b : Ss) : xs cl (.fr tg (.rng3 e f g) b) δ = frK cl tg (.rng3 e f g) b δ (dkOf (.rng3 e f g) δ) := xs_frA cl δ tg _ b rfl
theorem xs_fr_enum {e} (tg : Tg) (b : Ss) : xs cl (.fr tg (.enum e) b) δ = frK cl tg (.enum e) b δ (dkOf (.enum e) δ) := xs_frA cl δ tg _ b rfl
theorem xs_fr_zip {e f} (tg : Tg) (b : Ss) : xs cl (.fr tg (.zip e f) b) δ = frK cl tg (.zip e f) b δ (dkOf (.zip e f) δ) := xs_frA cl δ tg _ b rfl
theorem dk_rng1 (a : E) : dkOf (.rng1 a) δ = none := (rfl)
theorem dk_rng2 (a b : E) : dkOf (.rng2 a b) δ = none := (rfl)
theorem dk_enum (a : E) : dkOf (.enum a) δ = none := (rfl)
theorem dk_var (i : Nat) : dkOf (.val (.var i)) δ = dkK i (gt δ i) := (rfl)
theorem dk_cst {a} : dkOf (.val (.cst a)) δ = none := (rfl)
theorem dk_gl {a b} : dkOf (.val (.gl a b)) δ = none := (rfl)
theorem dk_bin {a b c} : dkOf (.val (.bin a b c)) δ = none := (rfl)
theorem dk_cmp {a b c} : dkOf (.val (.cmp a b c)) δ = none := (rfl)
theorem dk_chain {a b c d e} : dkOf (.val (.chain a b c d e)) δ = none := (rfl)
theorem dk_isN {a} : dkOf (.val (.isN a)) δ = none := (rfl)
theorem dk_notN {a} : dkOf (.val (.notN a)) δ = none := (rfl)
theorem dk_neg {a} : dkOf (.val (.neg a)) δ = none := (rfl)
theorem dk_nt {a} : dkOf (.val (.nt a)) δ = none := (rfl)
theorem dk_an {a} : dkOf (.val (.an a)) δ = none := (rfl)
theorem dk_orr {a} : dkOf (.val (.orr a)) δ = none := (rfl)
theorem dk_ife {a b c} : dkOf (.val (.ife a b c)) δ = none := (rfl)
theorem dk_ix {a b} : dkOf (.val (.ix a b)) δ = none := (rfl)
theorem dk_sl {a b c} : dkOf (.val (.sl a b c)) δ = none := (rfl)
theorem dk_rev {a} : dkOf (.val (.rev a)) δ = none := (rfl)
theorem dk_tup {a} : dkOf (.val (.tup a)) δ = none := (rfl)
theorem dk_lst {a} : dkOf (.val (.lst a)) δ = none := (rfl)
theorem dk_dct {a b c} : dkOf (.val (.dct a b c)) δ = none := (rfl)
theorem dk_bi {a b} : dkOf (.val (.bi a b)) δ = none := (rfl)
theorem dk_isi {a b} : dkOf (.val (.isi a b)) δ = none := (rfl)
theorem dk_call {a b} : dkOf (.val (.call a b)) δ = none := (rfl)
theorem dk_callM {a b c} : dkOf (.val (.callM a b c)) δ = none := (rfl)
theorem dk_callT {a b c} : dkOf (.val (.callT a b c)) δ = none := (rfl)
theorem dk_mu {a b c} : dkOf (.val (.mu a b c)) δ = none := (rfl)
theorem dk_lc {a b c d} : dkOf (.val (.lc a b c d)) δ = none := (rfl)
theorem dk_lcf {a b c d e} : dkOf (.val (.lcf a b c d e)) δ = none := (rfl)
def whC (c : E) : De → R Bool := fun δ1 => tb (ev cl c δ1)
theorem whC_a (c : E) : whC cl c δ = tb (ev cl c δ) := (rfl)
def whB (b : Ss) : De → R Fl := fun δ1 => xss cl b δ1
theorem whB_a (b : Ss) : whB cl b δ = xss cl b δ := (rfl)
theorem xs_wh (c : E) (b : Ss) : xs cl (.wh c b) δ = whL (whC cl c) (whB cl b) most δ := (rfl)
end
/-! the same, what comes behind as a word -/
section
variable (cl : Cl) (δ : De)
def opK0 : Dt × Bool → De → R Od := fun x δ1 => .ok (.d x.1) δ1
theorem opK0_a (x : Dt × Bool) : opK0 x δ = .ok (.d x.1) δ := (rfl)
theorem opd_cst {a} (r : R (Dt × Bool)) : opd (.cst a) r δ = r.bd opK0 := (rfl)
theorem opd_gl {a b} (r : R (Dt × Bool)) : opd (.gl a b) r δ = r.bd opK0 := (rfl)
theorem opd_bin {a b c} (r : R (Dt × Bool)) : opd (.bin a b c) r δ = r.bd opK0 := (rfl)
theorem opd_cmp {a b c} (r : R (Dt × Bool)) : opd (.cmp a b c) r δ = r.bd opK0 := (rfl)
theorem opd_chain {a b c d e} (r : R (Dt × Bool)) : opd (.chain a b c d e) r δ = r.bd opK0 := (rfl)
theorem opd_isN {a} (r : R (Dt × Bool)) : opd (.isN a) r δ = r.bd opK0 := (rfl)
theorem opd_notN {a} (r : R (Dt × Bool)) : opd (.notN a) r δ = r.bd opK0 := (rfl)
theorem opd_neg {a} (r : R (Dt × Bool)) : opd (.neg a) r δ = r.bd opK0 := (rfl)
theorem opd_nt {a} (r : R (Dt × Bool)) : opd (.nt a) r δ = r.bd opK0 := (rfl)
theorem opd_an {a} (r : R (Dt × Bool)) : opd (.an a) r δ = r.bd opK0 := (rfl)
theorem opd_orr {a} (r : R (Dt × Bool)) : opd (.orr a) r δ = r.bd opK0 := (rfl)
theorem opd_ife {a b c} (r : R (Dt × Bool)) : opd (.ife a b c) r δ = r.bd opK0 := (rfl)
theorem opd_ix {a b} (r : R (Dt × Bool)) : opd (.ix a b) r δ = r.bd opK0 := (rfl)
theorem opd_sl {a b c} (r : R (Dt × Bool)) : opd (.sl a b c) r δ = r.bd opK0 := (rfl)
theorem opd_rev {a} (r : R (Dt × Bool)) : opd (.rev a) r δ = r.bd opK0 := (rfl)
theorem opd_tup {a} (r : R (Dt × Bool)) : opd (.tup a) r δ = r.bd opK0 := (rfl)
theorem opd_lst {a} (r : R (Dt × Bool)) : opd (.lst a) r δ = r.bd opK0 := (rfl)
theorem opd_dct {a b c} (r : R (Dt × Bool)) : opd (.dct a b c) r δ = r.bd opK0 := (rfl)
theorem opd_bi {a b} (r : R (Dt × Bool)) : opd (.bi a b) r δ = r.bd opK0 := (rfl)
theorem opd_isi {a b} (r : R (Dt × Bool)) : opd (.isi a b) r δ = r.bd opK0 := (rfl)
theorem opd_call {a b} (r : R (Dt × Bool)) : opd (.call a b) r δ = r.bd opK0 := (rfl)
theorem opd_callM {a b c} (r : R (Dt × Bool)) : opd (.callM a b c) r δ = r.bd opK0 := (rfl)
theorem opd_callT {a b c} (r : R (Dt × Bool)) : opd (.callT a b c) r δ = r.bd opK0 := (rfl)
theorem opd_mu {a b c} (r : R (Dt × Bool)) : opd (.mu a b c) r δ = r.bd opK0 := (rfl)
theorem opd_lc {a b c d} (r : R (Dt × Bool)) : opd (.lc a b c d) r δ = r.bd opK0 := (rfl)
theorem opd_lcf {a b c d e} (r : R (Dt × Bool)) : opd (.lcf a b c d e) r δ = r.bd opK0 := (rfl)
def twoL (g : De → Option Dt → Option Dt → R (Dt × Bool)) (x : Od) : Od → De → R (Dt × Bool) := fun y δ2 => g δ2 (od δ2 x) (od δ2 y)
theorem twoL_a (g : De → Option Dt → Option Dt → R (Dt × Bool)) (x y : Od) : twoL g x y δ = g δ (od δ x) (od δ y) := (rfl)
def twoK (b : E) (g : De → Option Dt → Option Dt → R (Dt × Bool)) : Od → De → R (Dt × Bool) := fun x δ1 => (opd b (ev cl b δ1) δ1).bd (twoL g x)
theorem twoK_a (b : E) (g : De → Option Dt → Option Dt → R (Dt × Bool)) (x : Od) : twoK cl b g x δ = (opd b (ev cl b δ) δ).bd (twoL g x) := (rfl)
def binG (o : BOp) : De → Option Dt → Option Dt → R (Dt × Bool) := fun δ p q => o1 δ (f2 (bop o) p q)
theorem binG_a (o : BOp) (p q : Option Dt) : binG o δ p q = o1 δ (f2 (bop o) p q) := (rfl)
def cmpG (o : COp) : De → Option Dt → Option Dt → R (Dt × Bool) := fun δ p q => o1b δ (f2 (cop o) p q)
theorem cmpG_a (o : COp) (p q : Option Dt) : cmpG o δ p q = o1b δ (f2 (cop o) p q) := (rfl)
def ixG : De → Option Dt → Option Dt → R (Dt × Bool) := fun δ p q => o1i δ (f2 ixD p q)
theorem ixG_a (p q : Option Dt) : ixG δ p q = o1i δ (f2 ixD p q) := (rfl)
theorem ev_bin (o : BOp) (a b : E) : ev cl (.bin o a b) δ = (opd a (ev cl a δ) δ).bd (twoK cl b (binG o)) := ev_bin_0 cl δ o a b
theorem ev_cmp (o : COp) (a b : E) : ev cl (.cmp o a b) δ = (opd a (ev cl a δ) δ).bd (twoK cl b (cmpG o)) := ev_cmp_0 cl δ o a b
theorem ev_ix (a b : E) : ev cl (.ix a b) δ = (opd a (ev cl a δ) δ).bd (twoK cl b ixG) := ev_ix_0 cl δ a b
def oneK (g : De → Option Dt → R (Dt × Bool)) : Od → De → R (Dt × Bool) := fun x δ1 => g δ1 (od δ1 x)
theorem oneK_a (g : De → Option Dt → R (Dt × Bool)) (x : Od) : oneK g x δ = g δ (od δ x) := (rfl)
def isNG (b : Bool) : De → Option Dt → R (Dt × Bool) := fun δ p => isNK δ b p
theorem isNG_a (b : Bool) (p : Option Dt) : isNG b δ p = isNK δ b p := (rfl)
def negG : De → Option Dt → R (Dt × Bool) := fun δ p => negK δ p
theorem negG_a (p : Option Dt) : negG δ p = negK δ p := (rfl)
def isiG (t : String) : De → Option Dt → R (Dt × Bool) := fun δ p => o1b δ (isiK t p)
theorem isiG_a (t : String) (p : Option Dt) : isiG t δ p = o1b δ (isiK t p) := (rfl)
theorem ev_isN (a : E) : ev cl (.isN a) δ = (opd a (ev cl a δ) δ).bd (oneK (isNG true)) := ev_isN_0 cl δ a
theorem ev_notN (a : E) : ev cl (.notN a) δ = (opd a (ev cl a δ) δ).bd (oneK (isNG false)) := ev_notN_0 cl δ a
theorem ev_neg (a : E) : ev cl (.neg a) δ = (opd a (ev cl a δ) δ).bd (oneK negG) := ev_neg_0 cl δ a
theorem ev_isi (a : E) (t : String) : ev cl (.isi a t) δ = (opd a (ev cl a δ) δ).bd (oneK (isiG t)) := ev_isi_0 cl δ a t
def ntK : Bool → De → R (Dt × Bool) := fun b δ1 => .ok (.bool (!b), false) δ1
theorem ntK_a (b : Bool) : ntK b δ = .ok (.bool (!b), false) δ := (rfl)
def boK : Bool → De → R (Dt × Bool) := fun b δ1 => .ok (.bool b, false) δ1
theorem boK_a (b : Bool) : boK b δ = .ok (.bool b, false) δ := (rfl)
theorem ev_nt (a : E) : ev cl (.nt a) δ = (tb (ev cl a δ)).bd ntK := (rfl)
theorem ev_an (es : Es) : ev cl (.an es) δ = (tAnd cl es δ).bd boK := (rfl)
theorem ev_orr (es : Es) : ev cl (.orr es) δ = (tOr cl es δ).bd boK := (rfl)
def anK (e2 : E) (es : Es) : Bool → De → R Bool := fun b δ1 => if b = true then tAnd cl (.cons e2 es) δ1 else .ok false δ1
theorem anK_t (e2 : E) (es : Es) : anK cl e2 es true δ = tAnd cl (.cons e2 es) δ := (rfl)
theorem anK_f (e2 : E) (es : Es) : anK cl e2 es false δ = .ok false δ := (rfl)
def orK (e2 : E) (es : Es) : Bool → De → R Bool := fun b δ1 => if b = true then .ok true δ1 else tOr cl (.cons e2 es) δ1
theorem orK_t (e2 : E) (es : Es) : orK cl e2 es true δ = .ok true δ := (rfl)
theorem orK_f (e2 : E) (es : Es) : orK cl e2 es false δ = tOr cl (.cons e2 es) δ := (rfl)
theorem tAnd_2 (e e2 : E) (es : Es) : tAnd cl (.cons e (.cons e2 es)) δ = (tb (ev cl e δ)).bd (anK cl e2 es) := (rfl)
theorem tOr_2 (e e2 : E) (es : Es) : tOr cl (.cons e (.cons e2 es)) δ = (tb (ev cl e δ)).bd (orK cl e2 es) := (rfl)
def ifK (a b : E) : Bool → De → R (Dt × Bool) := fun t δ1 => if t = true then ev cl a δ1 else ev cl b δ1
theorem ifK_t (a b : E) : ifK cl a b true δ = ev cl a δ := (rfl)
theorem ifK_f (a b : E) : ifK cl a b false δ = ev cl b δ := (rfl)
theorem ev_ife (c a b : E) : ev cl (.ife c a b) δ = (tb (ev cl c δ)).bd (ifK cl a b) := (rfl)
def tupK : List Dt → De → R (Dt × Bool) := fun ds δ1 => if ds.length ≤ lim then .ok (.tuple ds, false) δ1 else .bad
theorem tupK_a (ds : List Dt) : tupK ds δ = if ds.length ≤ lim then .ok (.tuple ds, false) δ else .bad := (rfl)
def lstK : List Dt → De → R (Dt × Bool) := fun ds δ1 => if ds.length ≤ lim then .ok (.list ds, true) δ1 else .bad
theorem lstK_a (ds : List Dt) : lstK ds δ = if ds.length ≤ lim then .ok (.list ds, true) δ else .bad := (rfl)
theorem ev_tup (es : Es) : ev cl (.tup es) δ = (evs cl es δ).bd tupK := (rfl)
theorem ev_lst (es : Es) : ev cl (.lst es) δ = (evs cl es δ).bd lstK := (rfl)
def evsL (x : Dt × Bool) : List Dt → De → R (List Dt) := fun xs δ2 => .ok (x.1 :: xs) δ2
theorem evsL_a (x : Dt × Bool) (xs : List Dt) : evsL x xs δ = .ok (x.1 :: xs) δ := (rfl)
def evsK (es : Es) : Dt × Bool → De → R (List Dt) := fun x δ1 => (evs cl es δ1).bd (evsL x)
theorem evsK_a (es : Es) (x : Dt × Bool) : evsK cl es x δ = (evs cl es δ).bd (evsL x) := (rfl)
theorem evs_cons (e : E) (es : Es) : evs cl (.cons e es) δ = (ev cl e δ).bd (evsK cl es) := (rfl)
def eosL (x : Od) : List Od → De → R (List Od) := fun xs δ2 => .ok (x :: xs) δ2
theorem eosL_a (x : Od) (xs : List Od) : eosL x xs δ = .ok (x :: xs) δ := (rfl)
def eosK (es : Es) : Od → De → R (List Od) := fun x δ1 => (eos cl es δ1).bd (eosL x)
theorem eosK_a (es : Es) (x : Od) : eosK cl es x δ = (eos cl es δ).bd (eosL x) := (rfl)
theorem eos_cons (e : E) (es : Es) : eos cl (.cons e es) δ = (opd e (ev cl e δ) δ).bd (eosK cl es) := (rfl)
def biK (b : Bi) : List Od → De → R (Dt × Bool) := fun os δ1 => o1 δ1 (f1 (biD b) (ods δ1 os))
theorem biK_a (b : Bi) (os : List Od) : biK b os δ = o1 δ (f1 (biD b) (ods δ os)) := (rfl)
theorem ev_bi (b : Bi) (es : Es) : ev cl (.bi b es) δ = (eos cl es δ).bd (biK b) := ev_bi_0 cl δ b es
def callK (f : Str) : List Od → De → R (Dt × Bool) := fun os δ1 => clK os δ1 (ca cl f (ods δ1 os))
theorem callK_a (f : Str) (os : List Od) : callK cl f os δ = clK os δ (ca cl f (ods δ os)) := (rfl)
theorem ev_call (f : Str) (es : Es) : ev cl (.call f es) δ = (eos cl es δ).bd (callK cl f) := ev_call_0 cl δ f es
def cmKK (f : Str) (i : Nat) : List Od → De → R (Dt × Bool) := fun os δ1 => cmK i os δ1 (cm cl f (gt δ1 i) (ods δ1 os))
theorem cmKK_a (f : Str) (i : Nat) (os : List Od) : cmKK cl f i os δ = cmK i os δ (cm cl f (gt δ i) (ods δ os)) := (rfl)
def lsK (δ : De) : Option Int → R (Dt × Bool)
  | some n => .ok (.int n, false) δ
  | none => .bad
theorem lsK_some (n : Int) : lsK δ (some n) = .ok (.int n, false) δ := (rfl)
def lsK1 : Dt × Bool → De → R (Dt × Bool) := fun x δ1 => lsK δ1 (lsD x.1)
theorem lsK1_a (x : Dt × Bool) : lsK1 x δ = lsK δ (lsD x.1) := (rfl)
theorem ev_lset (a : E) : ev cl (.lset a) δ = (ev cl a δ).bd lsK1 := by
  show (ev cl a δ).bind _ = _
  refine congrArg (R.bind _) (funext fun x => funext fun δ1 => ?_)
  show (match lsD x.1 with | some n => R.ok (.int n, false) δ1 | none => R.bad) = lsK δ1 (lsD x.1)
  cases lsD x.1 <;> rfl
def mxK1 : Dt × Bool → De → R (Dt × Bool) := fun x δ1 => lsK δ1 (mxD x.1)
theorem mxK1_a (x : Dt × Bool) : mxK1 x δ = lsK δ (mxD x.1) := (rfl)
theorem ev_mxv (a : E) : ev cl (.mxv a) δ = (ev cl a δ).bd mxK1 := by
  show (ev cl a δ).bind _ = _
  refine congrArg (R.bind _) (funext fun x => funext fun δ1 => ?_)
  show (match mxD x.1 with | some n => R.ok (.int n, false) δ1 | none => R.bad) = lsK δ1 (mxD x.1)
  cases mxD x.1 <;> rfl
theorem opd_mxv {a} (r : R (Dt × Bool)) : opd (.mxv a) r δ = r.bd opK0 := (rfl)
theorem dk_mxv {a} : dkOf (.val (.mxv a)) δ = none := (rfl)
def lrK (δ : De) : Option Dt → R (Dt × Bool)
  | some d => .ok (d, true) δ
  | none => .bad
theorem lrK_some (d : Dt) : lrK δ (some d) = .ok (d, true) δ := (rfl)
def lrK1 : Dt × Bool → De → R (Dt × Bool) := fun x δ1 => lrK δ1 (lrD x.1)
theorem lrK1_a (x : Dt × Bool) : lrK1 x δ = lrK δ (lrD x.1) := (rfl)
theorem ev_lrng (a : E) : ev cl (.lrng a) δ = (ev cl a δ).bd lrK1 := by
  show (ev cl a δ).bind _ = _
  refine congrArg (R.bind _) (funext fun x => funext fun δ1 => ?_)
  show (match lrD x.1 with | some d => R.ok (d, true) δ1 | none => R.bad) = lrK δ1 (lrD x.1)
  cases lrD x.1 <;> rfl
theorem opd_lrng {a} (r : R (Dt × Bool)) : opd (.lrng a) r δ = r.bd opK0 := (rfl)
theorem dk_lrng {a} : dkOf (.val (.lrng a)) δ = none := (rfl)
def cnF (y : Dt) : Option (Dt × Bool) → Option Int
  | some (d, _) => cntD d y
  | none => none
theorem cnF_some (y d : Dt) (w : Bool) : cnF y (some (d, w)) = cntD d y := (rfl)
def cnK (i : Nat) : Dt × Bool → De → R (Dt × Bool) := fun y δ1 => lsK δ1 (cnF y.1 (gt δ1 i))
theorem cnK_a (i : Nat) (y : Dt × Bool) : cnK i y δ = lsK δ (cnF y.1 (gt δ i)) := (rfl)
theorem isLs_l (xs : List Dt) (w : Bool) : isLs (some (.list xs, w)) = true := (rfl)
theorem ev_cnt (i : Nat) (b : E) : ev cl (.cnt i b) δ = if isLs (gt δ i) = true then (ev cl b δ).bd (cnK i) else .bad := by
  show (if isLs (gt δ i) = true then (ev cl b δ).bind _ else .bad) = _
  refine ite_congr rfl (fun _ => congrArg (R.bind _) (funext fun y => funext fun δ1 => ?_)) (fun _ => rfl)
  show _ = lsK δ1 (cnF y.1 (gt δ1 i))
  cases gt δ1 i with
  | none => rfl
  | some p =>
    obtain ⟨d, w⟩ := p
    show (match cntD d y.1 with | some n => R.ok (.int n, false) δ1 | none => R.bad) = lsK δ1 (cntD d y.1)
    cases cntD d y.1 <;> rfl
theorem opd_cnt {a b} (r : R (Dt × Bool)) : opd (.cnt a b) r δ = r.bd opK0 := (rfl)
theorem dk_cnt {a b} : dkOf (.val (.cnt a b)) δ = none := (rfl)
def dzK2 (x : Dt × Bool) : Dt × Bool → De → R (Dt × Bool) := fun y δ2 => lrK δ2 (dzD x.1 y.1)
theorem dzK2_a (x y : Dt × Bool) : dzK2 x y δ = lrK δ (dzD x.1 y.1) := (rfl)
def dzK1 (b : E) : Dt × Bool → De → R (Dt × Bool) := fun x δ1 => (ev cl b δ1).bd (dzK2 x)
theorem dzK1_a (b : E) (x : Dt × Bool) : dzK1 cl b x δ = (ev cl b δ).bd (dzK2 x) := (rfl)
theorem ev_dzip (a b : E) : ev cl (.dzip a b) δ = (ev cl a δ).bd (dzK1 cl b) := by
  show (ev cl a δ).bind _ = _
  refine congrArg (R.bind _) (funext fun x => funext fun δ1 => ?_)
  show (ev cl b δ1).bind _ = (ev cl b δ1).bind _
  refine congrArg (R.bind _) (funext fun y => funext fun δ2 => ?_)
  show (match dzD x.1 y.1 with | some d => R.ok (d, true) δ2 | none => R.bad) = lrK δ2 (dzD x.1 y.1)
  cases dzD x.1 y.1 <;> rfl
theorem opd_dzip {a b} (r : R (Dt × Bool)) : opd (.dzip a b) r δ = r.bd opK0 := (rfl)
theorem dk_dzip {a b} : dkOf (.val (.dzip a b)) δ = none := (rfl)
theorem opd_lset {a} (r : R (Dt × Bool)) : opd (.lset a) r δ = r.bd opK0 := (rfl)
theorem dk_lset {a} : dkOf (.val (.lset a)) δ = none := (rfl)
theorem ev_callM (f : Str) (i : Nat) (es : Es) : ev cl (.callM f i es) δ = if ownL δ i = true then (eos cl es δ).bd (cmKK cl f i) else .bad := ev_callM_0 cl δ f i es
def ctK2 (f : Str) (p : Dt × Bool) : List Od → De → R (Dt × Bool) := fun os δ1 => ctK os δ1 (ctC cl f p.1 p.2 (ods δ1 os))
theorem ctK2_a (f : Str) (p : Dt × Bool) (os : List Od) : ctK2 cl f p os δ = ctK os δ (ctC cl f p.1 p.2 (ods δ os)) := (rfl)
def ctK1 (f : Str) (es : Es) : Dt × Bool → De → R (Dt × Bool) := fun p δ0 => (eos cl es δ0).bd (ctK2 cl f p)
theorem ctK1_a (f : Str) (es : Es) (p : Dt × Bool) : ctK1 cl f es p δ = (eos cl es δ).bd (ctK2 cl f p) := (rfl)
theorem ev_callT (f : Str) (a : E) (es : Es) : ev cl (.callT f a es) δ = (ev cl a δ).bd (ctK1 cl f es) := ev_callT_0 cl δ f a es
def muKK (m : Mu) (i : Nat) : List Dt → De → R (Dt × Bool) := fun ds δ1 => muK δ1 i (muF2 m ds (gt δ1 i))
theorem muKK_a (m : Mu) (i : Nat) (ds : List Dt) : muKK m i ds δ = muK δ i (muF2 m ds (gt δ i)) := (rfl)
theorem ev_mu (m : Mu) (i : Nat) (es : Es) : ev cl (.mu m i es) δ = if ownL δ i = true then (evs cl es δ).bd (muKK m i) else .bad := ev_mu_0 cl δ m i es
def eoK : Dt × Bool → De → R (Option Int) := fun x δ1 => intK δ1 x.1
theorem eoK_a (x : Dt × Bool) : eoK x δ = intK δ x.1 := (rfl)
theorem eoo_som (e : E) : eoo cl (.som e) δ = (ev cl e δ).bd eoK := eoo_som_0 cl δ e
def slK3 (x : Od) (l : Option Int) : Option Int → De → R (Dt × Bool) := fun h δ3 => o1 δ3 (slK l h (od δ3 x))
theorem slK3_a (x : Od) (l h : Option Int) : slK3 x l h δ = o1 δ (slK l h (od δ x)) := (rfl)
def slK2 (hi : Eo) (x : Od) : Option Int → De → R (Dt × Bool) := fun l δ2 => (eoo cl hi δ2).bd (slK3 x l)
theorem slK2_a (hi : Eo) (x : Od) (l : Option Int) : slK2 cl hi x l δ = (eoo cl hi δ).bd (slK3 x l) := (rfl)
def slK1 (lo hi : Eo) : Od → De → R (Dt × Bool) := fun x δ1 => (eoo cl lo δ1).bd (slK2 cl hi x)
theorem slK1_a (lo hi : Eo) (x : Od) : slK1 cl lo hi x δ = (eoo cl lo δ).bd (slK2 cl hi x) := (rfl)
theorem ev_sl (a : E) (lo hi : Eo) : ev cl (.sl a lo hi) δ = (opd a (ev cl a δ) δ).bd (slK1 cl lo hi) := ev_sl_0 cl δ a lo hi
def wvK : Dt × Bool → De → R (List Dt) := fun x δ1 => wkK δ1 (walkD x.1)
theorem wvK_a (x : Dt × Bool) : wvK x δ = wkK δ (walkD x.1) := (rfl)
theorem eit_val (e : E) : eit cl (.val e) δ = (ev cl e δ).bd wvK := eit_val_0 cl δ e
def r1K1 : Dt × Bool → De → R (List Dt) := fun x δ1 => r1K δ1 x.1
theorem r1K1_a (x : Dt × Bool) : r1K1 x δ = r1K δ x.1 := (rfl)
theorem eit_rng1 (a : E) : eit cl (.rng1 a) δ = (ev cl a δ).bd r1K1 := eit_rng1_0 cl δ a
def r2K2 (x : Dt × Bool) : Dt × Bool → De → R (List Dt) := fun y δ2 => r2K δ2 x.1 y.1
theorem r2K2_a (x y : Dt × Bool) : r2K2 x y δ = r2K δ x.1 y.1 := (rfl)
def r2K1 (b : E) : Dt × Bool → De → R (List Dt) := fun x δ1 => (ev cl b δ1).bd (r2K2 x)
theorem r2K1_a (b : E) (x : Dt × Bool) : r2K1 cl b x δ = (ev cl b δ).bd (r2K2 x) := (rfl)
theorem eit_rng2 (a b : E) : eit cl (.rng2 a b) δ = (ev cl a δ).bd (r2K1 cl b) := eit_rng2_0 cl δ a b
def enK1 : Dt × Bool → De → R (List Dt) := fun x δ1 => enK δ1 x.1
theorem enK1_a (x : Dt × Bool) : enK1 x δ = enK δ x.1 := (rfl)
theorem eit_enum (a : E) : eit cl (.enum a) δ = (ev cl a δ).bd enK1 := eit_enum_0 cl δ a
def lcEK : Dt × Bool → De → R (Option Dt) := fun x δ4 => .ok (some x.1) δ4
theorem lcEK_a (x : Dt × Bool) : lcEK x δ = .ok (some x.1) δ := (rfl)
theorem lcE_a (el : E) : lcE cl el δ = (ev cl el δ).bd lcEK := (rfl)
def lcCK (el : E) : Bool → De → R (Option Dt) := fun b δ4 => if b = true then (ev cl el δ4).bd lcEK else .ok none δ4
theorem lcCK_t (el : E) : lcCK cl el true δ = (ev cl el δ).bd lcEK := (rfl)
theorem lcCK_f (el : E) : lcCK cl el false δ = .ok none δ := (rfl)
theorem lcC_a (c el : E) : lcC cl c el δ = (tb (ev cl c δ)).bd (lcCK cl el) := (rfl)
def aoK (k : De → R (Option Dt)) : Option De → R (Option Dt)
  | some δ => k δ
  | none => .bad
theorem aoK_some (k : De → R (Option Dt)) : aoK k (some δ) = k δ := (rfl)
theorem lcB_a (tg : Tg) (own : List Nat) (body : De → R (Option Dt)) (d : Dt) : lcB tg own body d δ = aoK body (asgT tg d (wipeD δ own)) := by
  unfold lcB
  cases asgT tg d (wipeD δ own) <;> rfl
def lcK1 (el : E) (tg : Tg) (it : It) (own : List Nat) : List Dt → De → R (Dt × Bool) := fun ds δ1 => lcX δ1 (lockI it) own (lcL (lcB tg own (lcE cl el)) ds (wipeD δ1 (lockI it)))
theorem lcK1_a (el : E) (tg : Tg) (it : It) (own : List Nat) (ds : List Dt) : lcK1 cl el tg it own ds δ = lcX δ (lockI it) own (lcL (lcB tg own (lcE cl el)) ds (wipeD δ (lockI it))) := (rfl)
theorem ev_lc (el : E) (tg : Tg) (it : It) (own : List Nat) : ev cl (.lc el tg it own) δ = (eit cl it δ).bd (lcK1 cl el tg it own) := (rfl)
def lcK2 (el : E) (tg : Tg) (it : It) (c : E) (own : List Nat) : List Dt → De → R (Dt × Bool) := fun ds δ1 => lcX δ1 (lockI it) own (lcL (lcB tg own (lcC cl c el)) ds (wipeD δ1 (lockI it)))
theorem lcK2_a (el : E) (tg : Tg) (it : It) (c : E) (own : List Nat) (ds : List Dt) : lcK2 cl el tg it c own ds δ = lcX δ (lockI it) own (lcL (lcB tg own (lcC cl c el)) ds (wipeD δ (lockI it))) := (rfl)
theorem ev_lcf (el : E) (tg : Tg) (it : It) (c : E) (own : List Nat) : ev cl (.lcf el tg it c own) δ = (eit cl it δ).bd (lcK2 cl el tg it c own) := (rfl)
def flC (ss : Ss) : Fl → De → R Fl := fun o δ1 => flK (xss cl ss) δ1 o
theorem flC_nx (ss : Ss) : flC cl ss .nx δ = xss cl ss δ := (rfl)
theorem flC_ret (ss : Ss) (d : Dt) (w : Bool) : flC cl ss (.ret d w) δ = .ok (.ret d w) δ := (rfl)
theorem flC_brk (ss : Ss) : flC cl ss .brk δ = .ok .brk δ := (rfl)
theorem xss_cons (s : S) (ss : Ss) : xss cl (.cons s ss) δ = (xs cl s δ).bd (flC cl ss) := xss_cons_0 cl δ s ss
def asgK (i : Nat) : Dt × Bool → De → R Fl := fun x δ1 => .ok .nx (st δ1 i (some x))
theorem asgK_a (i : Nat) (x : Dt × Bool) : asgK i x δ = .ok .nx (st δ i (some x)) := (rfl)
theorem xs_asg (i : Nat) (e : E) : xs cl (.asg i e) δ = (ev cl e δ).bd (asgK i) := (rfl)
def unpK (ts : Tgs) : Dt × Bool → De → R Fl := fun x δ1 => upK (asgT (.tp ts) x.1 δ1)
theorem unpK_a (ts : Tgs) (x : Dt × Bool) : unpK ts x δ = upK (asgT (.tp ts) x.1 δ) := (rfl)
theorem xs_unp (ts : Tgs) (e : E) : xs cl (.unp ts e) δ = (ev cl e δ).bd (unpK ts) := xs_unp_0 cl δ ts e
def parK2 (i j : Nat) (x : Dt × Bool) : Dt × Bool → De → R Fl := fun y δ2 => .ok .nx (st (st δ2 i (some x)) j (some y))
theorem parK2_a (i j : Nat) (x y : Dt × Bool) : parK2 i j x y δ = .ok .nx (st (st δ i (some x)) j (some y)) := (rfl)
def parK1 (i j : Nat) (b : E) : Dt × Bool → De → R Fl := fun x δ1 => (ev cl b δ1).bd (parK2 i j x)
theorem parK1_a (i j : Nat) (b : E) (x : Dt × Bool) : parK1 cl i j b x δ = (ev cl b δ).bd (parK2 i j x) := (rfl)
theorem xs_par (i j : Nat) (a b : E) : xs cl (.par i j a b) δ = (ev cl a δ).bd (parK1 cl i j b) := (rfl)
def putK2 (i : Nat) (y : Dt × Bool) : Dt × Bool → De → R Fl := fun x δ2 => ptK δ2 i (ptF x.1 y.1 (gt δ2 i))
theorem putK2_a (i : Nat) (x y : Dt × Bool) : putK2 i y x δ = ptK δ i (ptF x.1 y.1 (gt δ i)) := (rfl)
def putK1 (i : Nat) (k : E) : Dt × Bool → De → R Fl := fun y δ1 => if (gt δ1 i).isSome = true then (ev cl k δ1).bd (putK2 i y) else .bad
theorem putK1_a (i : Nat) (k : E) (y : Dt × Bool) : putK1 cl i k y δ = if (gt δ i).isSome = true then (ev cl k δ).bd (putK2 i y) else .bad := (rfl)
theorem xs_put (i : Nat) (k v : E) : xs cl (.put i k v) δ = (ev cl v δ).bd (putK1 cl i k) := xs_put_0 cl δ i k v
def retK : Dt × Bool → De → R Fl := fun x δ1 => .ok (.ret x.1 x.2) δ1
theorem retK_a (x : Dt × Bool) : retK x δ = .ok (.ret x.1 x.2) δ := (rfl)
theorem xs_ret_mxv {a} : xs cl (.ret (.mxv a)) δ = (ev cl (.mxv a) δ).bd retK := (rfl)
theorem xs_ret_lrng {a} : xs cl (.ret (.lrng a)) δ = (ev cl (.lrng a) δ).bd retK := (rfl)
theorem xs_ret_dzip {a b} : xs cl (.ret (.dzip a b)) δ = (ev cl (.dzip a b) δ).bd retK := (rfl)
theorem xs_ret_cnt {a b} : xs cl (.ret (.cnt a b)) δ = (ev cl (.cnt a b) δ).bd retK := (rfl)
theorem xs_ret_lset {a} : xs cl (.ret (.lset a)) δ = (ev cl (.lset a) δ).bd retK := (rfl)
theorem xs_ret_cst {a} : xs cl (.ret (.cst a)) δ = (ev cl (.cst a) δ).bd retK := (rfl)
theorem xs_ret_gl {a b} : xs cl (.ret (.gl a b)) δ = (ev cl (.gl a b) δ).bd retK := (rfl)
theorem xs_ret_bin {a b c} : xs cl (.ret (.bin a b c)) δ = (ev cl (.bin a b c) δ).bd retK := (rfl)
theorem xs_ret_cmp {a b c} : xs cl (.ret (.cmp a b c)) δ = (ev cl (.cmp a b c) δ).bd retK := (rfl)
theorem xs_ret_chain {a b c d e} : xs cl (.ret (.chain a b c d e)) δ = (ev cl (.chain a b c d e) δ).bd retK := (rfl)
theorem xs_ret_isN {a} : xs cl (.ret (.isN a)) δ = (ev cl (.isN a) δ).bd retK := (rfl)
theorem xs_ret_notN {a} : xs cl (.ret (.notN a)) δ = (ev cl (.notN a) δ).bd retK := (rfl)
theorem xs_ret_neg {a} : xs cl (.ret (.neg a)) δ = (ev cl (.neg a) δ).bd retK := (rfl)
theorem xs_ret_nt {a} : xs cl (.ret (.nt a)) δ = (ev cl (.nt a) δ).bd retK := (rfl)
theorem xs_ret_an {a} : xs cl (.ret (.an a)) δ = (ev cl (.an a) δ).bd retK := (rfl)
theorem xs_ret_orr {a} : xs cl (.ret (.orr a)) δ = (ev cl (.orr a) δ).bd retK := (rfl)
theorem xs_ret_ife {a b c} : xs cl (.ret (.ife a b c)) δ = (ev cl (.ife a b c) δ).bd retK := (rfl)
theorem xs_ret_ix {a b} : xs cl (.ret (.ix a b)) δ = (ev cl (.ix a b) δ).bd retK := (rfl)
theorem xs_ret_sl {a b c} : xs cl (.ret (.sl a b c)) δ = (ev cl (.sl a b c) δ).bd retK := (rfl)
theorem xs_ret_rev {a} : xs cl (.ret (.rev a)) δ = (ev cl (.rev a) δ).bd retK := (rfl)
theorem xs_ret_tup {a} : xs cl (.ret (.tup a)) δ = (ev cl (.tup a) δ).bd retK := (rfl)
theorem xs_ret_lst {a} : xs cl (.ret (.lst a)) δ = (ev cl (.lst a) δ).bd retK := (rfl)
theorem xs_ret_dct {a b c} : xs cl (.ret (.dct a b c)) δ = (ev cl (.dct a b c) δ).bd retK := (rfl)
theorem xs_ret_bi {a b} : xs cl (.ret (.bi a b)) δ = (ev cl (.bi a b) δ).bd retK := (rfl)
theorem xs_ret_isi {a b} : xs cl (.ret (.isi a b)) δ = (ev cl (.isi a b) δ).bd retK := (rfl)
theorem xs_ret_call {a b} : xs cl (.ret (.call a b)) δ = (ev cl (.call a b) δ).bd retK := (rfl)
theorem xs_ret_callM {a b c} : xs cl (.ret (.callM a b c)) δ = (ev cl (.callM a b c) δ).bd retK := (rfl)
theorem xs_ret_callT {a b c} : xs cl (.ret (.callT a b c)) δ = (ev cl (.callT a b c) δ).bd retK := (rfl)
theorem xs_ret_mu {a b c} : xs cl (.ret (.mu a b c)) δ = (ev cl (.mu a b c) δ).bd retK := (rfl)
theorem xs_ret_lc {a b c d} : xs cl (.ret (.lc a b c d)) δ = (ev cl (.lc a b c d) δ).bd retK := (rfl)
theorem xs_ret_lcf {a b c d e} : xs cl (.ret (.lcf a b c d e)) δ = (ev cl (.lcf a b c d e) δ).bd retK := (rfl)
def ifsK (t f : Ss) : Bool → De → R Fl := fun b δ1 => if b = true then xss cl t δ1 else xss cl f δ1
theorem ifsK_t (t f : Ss) : ifsK cl t f true δ = xss cl t δ := (rfl)
theorem ifsK_f (t f : Ss) : ifsK cl t f false δ = xss cl f δ := (rfl)
theorem xs_ifs (c : E) (t f : Ss) : xs cl (.ifs c t f) δ = (tb (ev cl c δ)).bd (ifsK cl t f) := (rfl)
def exK : Dt × Bool → De → R Fl := fun _ δ1 => .ok .nx δ1
theorem exK_a (x : Dt × Bool) : exK x δ = .ok .nx δ := (rfl)
theorem xs_ex (e : E) : xs cl (.ex e) δ = (ev cl e δ).bd exK := (rfl)
def frK1 (tg : Tg) (b : Ss) : List Dt → De → R Fl := fun ds δ1 => frL (frB cl tg b) ds δ1
theorem frK1_a (tg : Tg) (b : Ss) (ds : List Dt) : frK1 cl tg b ds δ = frL (frB cl tg b) ds δ := (rfl)
theorem frK_none (tg : Tg) (it : It) (b : Ss) : frK cl tg it b δ none = (eit cl it δ).bd (frK1 cl tg b) := (rfl)
end
/-! chains -/
section
variable (cl : Cl) (δ : De)
def chK4 (p : COp) (y : Od) : Od → De → R (Dt × Bool) := fun z δ3 => o1b δ3 (f2 (cop p) (od δ3 y) (od δ3 z))
theorem chK4_a (p : COp) (y z : Od) : chK4 p y z δ = o1b δ (f2 (cop p) (od δ y) (od δ z)) := (rfl)
def chK3 (p : COp) (c : E) (y : Od) : Option Bool → R (Dt × Bool)
  | some true => (opd c (ev cl c δ) δ).bd (chK4 p y)
  | some false => .ok (.bool false, false) δ
  | none => .bad
theorem chK3_t (p : COp) (c : E) (y : Od) : chK3 cl δ p c y (some true) = (opd c (ev cl c δ) δ).bd (chK4 p y) := (rfl)
theorem chK3_f (p : COp) (c : E) (y : Od) : chK3 cl δ p c y (some false) = .ok (.bool false, false) δ := (rfl)
def chK2 (o p : COp) (c : E) (x : Od) : Od → De → R (Dt × Bool) := fun y δ2 => chK3 cl δ2 p c y (f2 (cop o) (od δ2 x) (od δ2 y))
theorem chK2_a (o p : COp) (c : E) (x y : Od) : chK2 cl o p c x y δ = chK3 cl δ p c y (f2 (cop o) (od δ x) (od δ y)) := (rfl)
def chK1 (o p : COp) (b c : E) : Od → De → R (Dt × Bool) := fun x δ1 => (opd b (ev cl b δ1) δ1).bd (chK2 cl o p c x)
theorem chK1_a (o p : COp) (b c : E) (x : Od) : chK1 cl o p b c x δ = (opd b (ev cl b δ) δ).bd (chK2 cl o p c x) := (rfl)
theorem ev_chain (o p : COp) (a b c : E) : ev cl (.chain o p a b c) δ = (opd a (ev cl a δ) δ).bd (chK1 cl o p b c) := by
  show (opd a (ev cl a δ) δ).bind _ = _
  refine congrArg (R.bind _) (funext fun x => funext fun δ1 => ?_)
  refine congrArg (R.bind _) (funext fun y => funext fun δ2 => ?_)
  show (match od δ2 x, od δ2 y with
    | some d, some e => (match cop o d e with
      | some true => (opd c (ev cl c δ2) δ2).bind fun z δ3 => (match od δ3 y, od δ3 z with
        | some e, some f => (match cop p e f with
          | some r => R.ok (PyData.bool r, false) δ3
          | none => R.bad)
        | _, _ => R.bad)
      | some false => R.ok (PyData.bool false, false) δ2
      | none => R.bad)
    | _, _ => R.bad) = chK3 cl δ2 p c y (f2 (cop o) (od δ2 x) (od δ2 y))
  cases od δ2 x with
  | none => rfl
  | some d =>
    cases h2 : od δ2 y with
    | none => rfl
    | some e =>
      show (match cop o d e with
        | some true => _
        | some false => _
        | none => _) = chK3 cl δ2 p c y (cop o d e)
      cases cop o d e with
      | none => rfl
      | some b =>
        cases b with
        | false => rfl
        | true =>
          show (opd c (ev cl c δ2) δ2).bind _ = (opd c (ev cl c δ2) δ2).bind _
          refine congrArg (R.bind _) (funext fun z => funext fun δ3 => ?_)
          show (match od δ3 y, od δ3 z with
            | some e, some f => (match cop p e f with
              | some r => R.ok (PyData.bool r, false) δ3
              | none => R.bad)
            | _, _ => R.bad) = o1b δ3 (f2 (cop p) (od δ3 y) (od δ3 z))
          cases od δ3 y <;> cases od δ3 z <;> first | rfl | (rename_i e f; show (match cop p e f with | some r => R.ok (PyData.bool r, false) δ3 | none => R.bad) = o1b δ3 (cop p e f); cases cop p e f <;> rfl)
theorem isNK_n (b : Bool) : isNK δ b (some .none) = .ok (.bool b, false) δ := (rfl)
theorem isNK_i (b : Bool) (i : Int) : isNK δ b (some (.int i)) = .ok (.bool (!b), false) δ := (rfl)
theorem isNK_t (b : Bool) (x : List Dt) : isNK δ b (some (.tuple x)) = .ok (.bool (!b), false) δ := (rfl)
theorem isNK_l (b : Bool) (x : List Dt) : isNK δ b (some (.list x)) = .ok (.bool (!b), false) δ := (rfl)
def lcLK2 (o : Option Dt) : List Dt → De → R (List Dt) := fun r δ'' => (match o with
  | some x => .ok (x :: r) δ''
  | none => .ok r δ'')
theorem lcLK2_s (x : Dt) (r : List Dt) : lcLK2 (some x) r δ = .ok (x :: r) δ := (rfl)
theorem lcLK2_n (r : List Dt) : lcLK2 none r δ = .ok r δ := (rfl)
def lcLK1 (f : Dt → De → R (Option Dt)) (ds : List Dt) : Option Dt → De → R (List Dt) := fun o δ' => (lcL f ds δ').bd (lcLK2 o)
theorem lcLK1_a (f : Dt → De → R (Option Dt)) (ds : List Dt) (o : Option Dt) : lcLK1 f ds o δ = (lcL f ds δ).bd (lcLK2 o) := (rfl)
theorem lcL_c (f : Dt → De → R (Option Dt)) (d : Dt) (ds : List Dt) : lcL f (d :: ds) δ = (f d δ).bd (lcLK1 f ds) := (rfl)
theorem lcL_n (f : Dt → De → R (Option Dt)) : lcL f [] δ = .ok [] δ := (rfl)
end
theorem gt_e (δ : De) (i : Nat) : gt δ i = (match δ[i]? with | some x => x | none => none) := by
  unfold gt; cases δ[i]? <;> rfl
theorem gt_0 (x : Option (Dt × Bool)) (δ : De) : gt (x :: δ) 0 = x := (rfl)
theorem gt_s (x : Option (Dt × Bool)) (δ : De) (i : Nat) : gt (x :: δ) (i + 1) = gt δ i := (rfl)
theorem st_0 (x y : Option (Dt × Bool)) (δ : De) : st (x :: δ) 0 y = y :: δ := (rfl)
theorem st_s (x y : Option (Dt × Bool)) (δ : De) (i : Nat) : st (x :: δ) (i + 1) y = x :: st δ i y := (rfl)
theorem asgT_nm (i : Nat) (d : Dt) (δ : De) : asgT (.nm i) d δ = some (st δ i (some (d, false))) := (rfl)
def as2 (ts : Tgs) (ds : List Dt) : Option De → Option De
  | some δ' => asgTs ts ds δ'
  | none => none
theorem as2_some (ts : Tgs) (ds : List Dt) (δ : De) : as2 ts ds (some δ) = asgTs ts ds δ := (rfl)
theorem asgT_tp (ts : Tgs) (ds : List Dt) (δ : De) : asgT (.tp ts) (.tuple ds) δ = asgTs ts ds δ := (rfl)
theorem asgTs_nil (δ : De) : asgTs .nil [] δ = some δ := (rfl)
theorem asgTs_cons (t : Tg) (ts : Tgs) (d : Dt) (ds : List Dt) (δ : De) : asgTs (.cons t ts) (d :: ds) δ = as2 ts ds (asgT t d δ) := by
  show (match asgT t d δ with
    | some δ' => asgTs ts ds δ'
    | none => none) = _
  cases asgT t d δ <;> rfl
theorem rlsAll_nil (δ : De) : rlsAll δ [] = δ := (rfl)
theorem rlsAll_d (δ : De) (d : Dt) (os : List Od) : rlsAll δ (.d d :: os) = rlsAll δ os := (rfl)
theorem rlsAll_v (δ : De) (i : Nat) (os : List Od) : rlsAll δ (.v i :: os) = rls (rlsAll δ os) i := (rfl)
def abK (k : De → R Bool) : Option De → R Bool
  | some δ => k δ
  | none => .bad
theorem abK_some (k : De → R Bool) (δ : De) : abK k (some δ) = k δ := (rfl)
def frcB (cl : Cl) (tg : Tg) (c : E) : Dt → De → R Bool := fun x δ2 => (match asgT tg x δ2 with
  | some δ3 => tb (ev cl c δ3)
  | none => .bad)
theorem frcB_a (cl : Cl) (tg : Tg) (c : E) (x : Dt) (δ : De) : frcB cl tg c x δ = abK (whC cl c) (asgT tg x δ) := by
  unfold frcB
  cases asgT tg x δ <;> rfl
def frcK (cl : Cl) (tg : Tg) (i : Nat) (c : E) (d : Bool) : List Dt → De → R Fl := fun ds δ1 => frR i δ1 (frcL (frcB cl tg c) d ds (wipeD δ1 [i]))
theorem frcK_a (cl : Cl) (tg : Tg) (i : Nat) (c : E) (d : Bool) (ds : List Dt) (δ : De) : frcK cl tg i c d ds δ = frR i δ (frcL (frcB cl tg c) d ds (wipeD δ [i])) := (rfl)
theorem xs_frc (cl : Cl) (tg : Tg) (i : Nat) (c : E) (d : Bool) (δ : De) : xs cl (.frc tg i c d) δ = (eit cl (.bor i) δ).bd (frcK cl tg i c d) := (rfl)
theorem frR_nx (i : Nat) (δ1 δ5 : De) : frR i δ1 (.ok .nx δ5) = .ok .nx (backD δ1 δ5 [i]) := (rfl)
theorem frR_ret (i : Nat) (δ1 δ5 : De) (e : Dt) (w : Bool) : frR i δ1 (.ok (.ret e w) δ5) = .ok (.ret e w) δ5 := (rfl)
theorem wipeD_nil (δ : De) : wipeD δ [] = δ := (rfl)
theorem wipeD_cons (δ : De) (i : Nat) (is : List Nat) : wipeD δ (i :: is) = st (wipeD δ is) i none := (rfl)
theorem backD_nil (δ0 δ : De) : backD δ0 δ [] = δ := (rfl)
theorem backD_cons (δ0 δ : De) (i : Nat) (is : List Nat) : backD δ0 δ (i :: is) = st (backD δ0 δ is) i (gt δ0 i) := (rfl)
/-! the whole run of a def -/
def finR (df : Df) (r : R Fl) : CR := match r with
  | .ok (.ret r w) δ => if df.io = true then (match gt δ 0 with
      | some (b, true) => .ok r w b
      | _ => .bad) else .ok r w .none
  | .ok .nx δ => if df.io = true then (match gt δ 0 with
      | some (b, true) => .ok .none false b
      | _ => .bad) else .ok .none false .none
  | .ok .brk _ => .bad
  | .ex c x δ => if df.io = true then .bad else .ex c x .none
  | .bad => .bad
theorem run_at {t : Tb} {n : Nat} {f : Str} {df : Df} {as : List Dt} (h : t f = some df) (hl : as.length = df.np) : run t (n + 1) f as = finR df (xss (run t n) df.body (entry df as)) := by
  show (match t f with
    | none => CR.bad
    | some d => if as.length = d.np then _ else .bad) = _
  rw [h]
  (simp only [if_pos hl]) <;> rfl
/-- a def that gives an answer -/
theorem run_ret {t : Tb} {n : Nat} {f : Str} {df : Df} {as : List Dt} {r : Dt} {w : Bool} {δ : De} (h : t f = some df) (hl : as.length = df.np) (hio : df.io = false) (e : xss (run t n) df.body (entry df as) = .ok (.ret r w) δ) : run t (n + 1) f as = .ok r w .none := by
  rw [run_at h hl, e]
  simp [finR, hio]
theorem run_ret1 {t : Tb} {n : Nat} {f : Str} {df : Df} {as : List Dt} {r b : Dt} {w : Bool} {δ : De} (h : t f = some df) (hl : as.length = df.np) (hio : df.io = true) (e : xss (run t n) df.body (entry df as) = .ok (.ret r w) δ) (hb : gt δ 0 = some (b, true)) : run t (n + 1) f as = .ok r w b := by
  rw [run_at h hl, e]
  simp [finR, hio, hb]
end Bw

set_option maxRecDepth 100000
namespace Bw
open PySem PySem.Spec PyProof.Rows L2
/-! ### operators on ints -/
/-- below 2 to the k -/
def Bd (k : Nat) (i : Int) : Prop := i.natAbs < 2 ^ k
theorem Bd.mono {k l : Nat} {i : Int} (h : Bd k i) (e : k ≤ l) : Bd l i := Nat.lt_of_lt_of_le h (Nat.pow_le_pow_right (by decide) e)
theorem Bd.mul {k l : Nat} {i j : Int} (h : Bd k i) (g : Bd l j) : Bd (k + l) (i * j) := by
  unfold Bd at *
  rw [Int.natAbs_mul, Nat.pow_add]
  rcases Nat.eq_zero_or_pos j.natAbs with e | e
  · rw [e, Nat.mul_zero]; exact Nat.mul_pos (Nat.two_pow_pos _) (Nat.two_pow_pos _)
  · exact Nat.lt_of_lt_of_le (Nat.mul_lt_mul_of_pos_right h e) (Nat.mul_le_mul_left _ (Nat.le_of_lt g))
theorem Bd.add {k l : Nat} {i j : Int} (h : Bd k i) (g : Bd l j) : Bd (max k l + 1) (i + j) := by
  unfold Bd at *
  have h1 : i.natAbs < 2 ^ max k l := Nat.lt_of_lt_of_le h (Nat.pow_le_pow_right (by decide) (Nat.le_max_left _ _))
  have h2 : j.natAbs < 2 ^ max k l := Nat.lt_of_lt_of_le g (Nat.pow_le_pow_right (by decide) (Nat.le_max_right _ _))
  have := Int.natAbs_add_le i j
  rw [Nat.pow_succ]; omega
theorem Bd.add' {k : Nat} {i j : Int} (h : Bd k i) (g : Bd k j) : Bd (k + 1) (i + j) := by
  have := h.add g
  rw [Nat.max_self] at this; exact this
theorem Bd.sub {k : Nat} {i j : Int} (h : Bd k i) (g : Bd k j) : Bd (k + 1) (i - j) := by
  unfold Bd at *
  have := Int.natAbs_sub_le i j
  rw [Nat.pow_succ]; omega
theorem Bd.mod {k : Nat} {i m : Int} (h0 : 0 < m) (h : Bd k m) : Bd k (i % m) := by
  unfold Bd at *
  have h1 := Int.emod_nonneg i (Int.ne_of_gt h0)
  have h2 := Int.emod_lt_of_pos i h0
  omega
theorem Bd.of {k : Nat} {i : Int} (h1 : -(2 ^ k : Nat) < i) (h2 : i < (2 ^ k : Nat)) : Bd k i := by
  unfold Bd; omega
theorem Bd.log {k : Nat} {i : Int} (h : Bd k i) (hk : 0 < k) : i.natAbs.log2 < k := by
  unfold Bd at h
  rcases Nat.eq_zero_or_pos i.natAbs with e | e
  · rw [e]; exact Nat.lt_of_le_of_lt (by decide) hk
  · exact (Nat.log2_lt (by omega)).mpr h
theorem mul_log {k l : Nat} {i j : Int} (h : Bd k i) (g : Bd l j) (hk : 0 < k) (hl : 0 < l) (e : k + l ≤ 1000000) : i.natAbs.log2 + j.natAbs.log2 < 1000000 := by
  have := h.log hk
  have := g.log hl
  omega
section
variable {i j : Int}
theorem b_add : bop .add (.int i) (.int j) = some (.int (i + j), false) := (rfl)
theorem b_sub : bop .sub (.int i) (.int j) = some (.int (i - j), false) := (rfl)
theorem b_mul (h : i.natAbs.log2 + j.natAbs.log2 < 1000000) : bop .mul (.int i) (.int j) = some (.int (i * j), false) := if_pos h
theorem b_mod (h : 0 < j) : bop .mod (.int i) (.int j) = some (.int (i % j), false) := if_pos h
theorem b_fdiv (h : 0 < j ∧ j.natAbs.log2 < 9000) : bop .fdiv (.int i) (.int j) = some (.int (i / j), false) := if_pos h
theorem c_eq : cop .eq (.int i) (.int j) = some (i == j) := (rfl)
theorem c_ne : cop .ne (.int i) (.int j) = some (!(i == j)) := (rfl)
theorem c_lt : cop .lt (.int i) (.int j) = some (decide (i < j)) := (rfl)
theorem c_le : cop .le (.int i) (.int j) = some (decide (i ≤ j)) := (rfl)
theorem c_gt : cop .gt (.int i) (.int j) = some (decide (j < i)) := (rfl)
theorem c_ge : cop .ge (.int i) (.int j) = some (decide (j ≤ i)) := (rfl)
end
theorem d_len (xs : List Dt) : biD .len [.list xs] = some (.int xs.length, false) := (rfl)
theorem d_lenT (xs : List Dt) : biD .len [.tuple xs] = some (.int xs.length, false) := (rfl)
theorem d_lenS (ns : List Int) : biD .len [scr ns] = some (.int ns.length, false) := by
  show some (PyData.int (ns.map PyData.int).length, false) = _
  rw [List.length_map]
theorem ix_scr (ns : List Int) (i : Int) : ixD (scr ns) (.int i) = atI (ns.map PyData.int) i := (rfl)
theorem ix_list (xs : List Dt) (i : Int) : ixD (.list xs) (.int i) = atI xs i := (rfl)
theorem ix_tup (xs : List Dt) (i : Int) : ixD (.tuple xs) (.int i) = atI xs i := (rfl)
theorem d_div {i j : Int} (h : 0 < j ∧ j < 1073741824) : biD .divmod [.int i, .int j] = some (.tuple [.int (i / j), .int (i % j)], false) := if_pos h
theorem atI_0 {α : Type} (x : α) (xs : List α) : atI (x :: xs) 0 = some x := by
  unfold atI ixN
  simp only [List.length_cons, Int.le_refl, if_true]
  rw [if_pos (by omega)]; rfl
theorem atI_nn {α : Type} {xs : List α} {n : Nat} (h : n < xs.length) : atI xs (n : Int) = some xs[n] := by
  unfold atI ixN
  rw [if_pos (by omega), if_pos (by omega)]
  simp [h]
/-! ### loops -/
theorem frL_nil (f : Dt → De → R Fl) (δ : De) : frL f [] δ = .ok .nx δ := (rfl)
theorem frL_go {f : Dt → De → R Fl} {d : Dt} {ds : List Dt} {δ δ' : De} (h : f d δ = .ok .nx δ') : frL f (d :: ds) δ = frL f ds δ' := by
  rw [frL_cons, h]
theorem frL_out {f : Dt → De → R Fl} {d r : Dt} {w : Bool} {ds : List Dt} {δ δ' : De} (h : f d δ = .ok (.ret r w) δ') : frL f (d :: ds) δ = .ok (.ret r w) δ' := by
  rw [frL_cons, h]
/-- an invariant by the turn -/
theorem frL_inv {f : Dt → De → R Fl} (I : Nat → De → Prop) {ds : List Dt} {δ : De} (h0 : I 0 δ) (hs : ∀ i d δ, ds[i]? = some d → I i δ → ∃ δ', f d δ = .ok .nx δ' ∧ I (i + 1) δ') : ∃ δ', frL f ds δ = .ok .nx δ' ∧ I ds.length δ' := by
  induction ds generalizing I δ with
  | nil => exact ⟨δ, rfl, h0⟩
  | cons d ds ih =>
    obtain ⟨δ1, e, h1⟩ := hs 0 d δ rfl h0
    obtain ⟨δ2, e2, h2⟩ := ih (fun i => I (i + 1)) h1 fun i d δ g => hs (i + 1) d δ (by simpa using g)
    exact ⟨δ2, by rw [frL_go e]; exact e2, h2⟩
theorem rngL_get {lo : Int} {n i : Nat} {d : Dt} (h : (rngL lo n)[i]? = some d) : d = .int (lo + i) ∧ i < n := by
  refine ⟨rngL_at n lo i d h, ?_⟩
  have := (List.getElem?_eq_some_iff.mp h).1
  rwa [rngL_len] at this
end Bw
namespace Bw
open PySem PySem.Spec PyProof.Rows L2
/-- it ends with an answer of which P holds -/
def RetP (P : Dt → Bool → De → Prop) (r : R Fl) : Prop := ∃ d w δ, r = .ok (.ret d w) δ ∧ P d w δ
theorem retP_ok {P : Dt → Bool → De → Prop} {d : Dt} {w : Bool} {δ : De} (h : P d w δ) : RetP P (.ok (.ret d w) δ) := ⟨d, w, δ, rfl, h⟩
/-- a loop by an invariant, then what comes behind -/
theorem retP_for {P : Dt → Bool → De → Prop} (I : Nat → De → Prop) {f : Dt → De → R Fl} {ds : List Dt} {δ : De} {c : Fl → De → R Fl} (h0 : I 0 δ) (hs : ∀ i d δ, ds[i]? = some d → I i δ → ∃ δ', f d δ = .ok .nx δ' ∧ I (i + 1) δ') (k : ∀ δ', I ds.length δ' → RetP P (c .nx δ')) :
    RetP P ((frL f ds δ).bd c) := by
  obtain ⟨δ', e, h⟩ := frL_inv I h0 hs
  rw [e]; exact k δ' h
theorem run_retP {t : Tb} {n : Nat} {f : Str} {df : Df} {as : List Dt} {P : Dt → Bool → De → Prop} (h : t f = some df) (hl : as.length = df.np) (hio : df.io = false) (e : RetP P (xss (run t n) df.body (entry df as))) : ∃ d w δ, run t (n + 1) f as = .ok d w .none ∧ P d w δ := by
  obtain ⟨d, w, δ, e, p⟩ := e
  exact ⟨d, w, δ, run_ret h hl hio e, p⟩
theorem atI_int {ns : List Int} {n : Nat} (h : n < ns.length) : atI (ns.map PyData.int) (n : Int) = some (.int ns[n]) := by
  rw [atI_nn (by rw [List.length_map]; exact h)]
  simp
end Bw
namespace Bw
open PySem PySem.Spec PyProof.Rows L2
/-- it goes on, and P holds -/
def NxP (P : De → Prop) (r : R Fl) : Prop := ∃ δ, r = .ok .nx δ ∧ P δ
theorem nxP_ok {P : De → Prop} {δ : De} (h : P δ) : NxP P (.ok .nx δ) := ⟨δ, rfl, h⟩
theorem nxP_for {P : De → Prop} (I : Nat → De → Prop) {f : Dt → De → R Fl} {ds : List Dt} {δ : De} {c : Fl → De → R Fl} (h0 : I 0 δ) (hs : ∀ i d δ, ds[i]? = some d → I i δ → NxP (I (i + 1)) (f d δ)) (k : ∀ δ', I ds.length δ' → NxP P (c .nx δ')) :
    NxP P ((frL f ds δ).bd c) := by
  obtain ⟨δ', e, h⟩ := frL_inv I h0 hs
  rw [e]; exact k δ' h
theorem nxP_forD {P : De → Prop} (I : Nat → De → Prop) {f : Dt → De → R Fl} {ds : List Dt} {δ : De} {c : Fl → De → R Fl} (h0 : I 0 δ) (hs : ∀ i d δ, ds[i]? = some d → I i δ → NxP (I (i + 1)) (f d δ)) (k : ∀ δ', I ds.length δ' → NxP P (c .nx δ')) :
    NxP P ((frD (frL f ds δ)).bd c) := by
  obtain ⟨δ', e, h⟩ := frL_inv I h0 hs
  rw [e]; exact k δ' h
theorem dkK_d (i : Nat) (b w : Bool) (x : Dt) (kvs : List (Dt × Dt)) : dkK i (some (.dict ((.bool b, x) :: kvs), w)) = some (i, kvs.map (·.1)) := (rfl)
theorem d_max2 (i j : Int) : biD .max2 [.int i, .int j] = some (.int (if j > i then j else i), false) := (rfl)
theorem pl_int (i : Int) : plain (.int i) = true := (rfl)
theorem pl_bool (i : Bool) : plain (.bool i) = true := (rfl)
theorem pl_none : plain .none = true := (rfl)
theorem pl_str (x : Str) : plain (.str x) = true := (rfl)
theorem pl_list (x : List Dt) : plain (.list x) = false := (rfl)
theorem pl_dict (x : List (Dt × Dt)) : plain (.dict x) = false := (rfl)
theorem iL_1 (i : Int) : isIntL (.list [.int i]) = true := (rfl)
end Bw
namespace Bw
open PySem PySem.Spec PyProof.Rows L2
/-- it goes on with P, or it gives an answer with Q -/
def NR (P : De → Prop) (Q : Dt → Bool → De → Prop) (r : R Fl) : Prop := NxP P r ∨ RetP Q r
theorem frL_nr {f : Dt → De → R Fl} {Q : Dt → Bool → De → Prop} (I : Nat → De → Prop) {ds : List Dt} {δ : De} (h0 : I 0 δ) (hs : ∀ i d δ, ds[i]? = some d → I i δ → NR (I (i + 1)) Q (f d δ)) : NR (I ds.length) Q (frL f ds δ) := by
  induction ds generalizing I δ with
  | nil => exact .inl ⟨δ, rfl, h0⟩
  | cons d ds ih =>
    rcases hs 0 d δ rfl h0 with ⟨δ1, e, h1⟩ | ⟨r, w, δ1, e, h1⟩
    · rw [frL_go e]
      exact ih (fun i => I (i + 1)) h1 fun i d δ g => hs (i + 1) d δ (by simpa using g)
    · rw [frL_out e]
      exact .inr ⟨r, w, δ1, rfl, h1⟩
theorem nr_for {P : De → Prop} {Q : Dt → Bool → De → Prop} (I : Nat → De → Prop) {f : Dt → De → R Fl} {ds : List Dt} {δ : De} {cl : Cl} {ss : Ss} (h0 : I 0 δ) (hs : ∀ i d δ, ds[i]? = some d → I i δ → NR (I (i + 1)) Q (f d δ)) (k : ∀ δ', I ds.length δ' → NR P Q (xss cl ss δ')) :
    NR P Q ((frL f ds δ).bd (flC cl ss)) := by
  rcases frL_nr I h0 hs with ⟨δ', e, h⟩ | ⟨d, w, δ', e, h⟩
  · rw [e]; exact k δ' h
  · rw [e]; exact .inr ⟨d, w, δ', rfl, h⟩
theorem ret_for {Q : Dt → Bool → De → Prop} (I : Nat → De → Prop) {f : Dt → De → R Fl} {ds : List Dt} {δ : De} {cl : Cl} {ss : Ss} (h0 : I 0 δ) (hs : ∀ i d δ, ds[i]? = some d → I i δ → NR (I (i + 1)) Q (f d δ)) (k : ∀ δ', I ds.length δ' → RetP Q (xss cl ss δ')) :
    RetP Q ((frL f ds δ).bd (flC cl ss)) := by
  rcases frL_nr I h0 hs with ⟨δ', e, h⟩ | ⟨d, w, δ', e, h⟩
  · rw [e]; exact k δ' h
  · rw [e]; exact ⟨d, w, δ', rfl, h⟩
theorem nr_nx {P : De → Prop} {Q : Dt → Bool → De → Prop} {δ : De} (h : P δ) : NR P Q (.ok .nx δ) := .inl ⟨δ, rfl, h⟩
theorem nr_ret {P : De → Prop} {Q : Dt → Bool → De → Prop} {d : Dt} {w : Bool} {δ : De} (h : Q d w δ) : NR P Q (.ok (.ret d w) δ) := .inr ⟨d, w, δ, rfl, h⟩
/-! comprehensions -/
/-- each item by g, the names as they were -/
theorem lcL_map {f : Dt → De → R (Option Dt)} {g : Dt → Dt} (I : De → Prop) {ds : List Dt} {δ : De} (h0 : I δ) (hs : ∀ d δ, d ∈ ds → I δ → ∃ δ', f d δ = .ok (some (g d)) δ' ∧ I δ') : ∃ δ', lcL f ds δ = .ok (ds.map g) δ' ∧ I δ' := by
  induction ds generalizing δ with
  | nil => exact ⟨δ, rfl, h0⟩
  | cons d ds ih =>
    obtain ⟨δ1, e, h1⟩ := hs d δ List.mem_cons_self h0
    obtain ⟨δ2, e2, h2⟩ := ih h1 fun d δ hd => hs d δ (List.mem_cons_of_mem _ hd)
    refine ⟨δ2, ?_, h2⟩
    show ((f d δ).bind fun o δ' => (lcL f ds δ').bind fun r δ'' => match o with
      | some x => .ok (x :: r) δ''
      | none => .ok r δ'') = _
    rw [e]
    show ((lcL f ds δ1).bind fun r δ'' => .ok (g d :: r) δ'') = _
    rw [e2]; rfl
/-- those of which p holds -/
theorem lcL_filter {f : Dt → De → R (Option Dt)} {p : Dt → Bool} {g : Dt → Dt} (I : De → Prop) {ds : List Dt} {δ : De} (h0 : I δ) (hs : ∀ d δ, d ∈ ds → I δ → ∃ δ', f d δ = .ok (if p d = true then some (g d) else none) δ' ∧ I δ') : ∃ δ', lcL f ds δ = .ok ((ds.filter p).map g) δ' ∧ I δ' := by
  induction ds generalizing δ with
  | nil => exact ⟨δ, rfl, h0⟩
  | cons d ds ih =>
    obtain ⟨δ1, e, h1⟩ := hs d δ List.mem_cons_self h0
    obtain ⟨δ2, e2, h2⟩ := ih h1 fun d δ hd => hs d δ (List.mem_cons_of_mem _ hd)
    refine ⟨δ2, ?_, h2⟩
    show ((f d δ).bind fun o δ' => (lcL f ds δ').bind fun r δ'' => match o with
      | some x => .ok (x :: r) δ''
      | none => .ok r δ'') = _
    rw [e, List.filter_cons]
    cases hp : p d with
    | true =>
      show ((lcL f ds δ1).bind fun r δ'' => .ok (g d :: r) δ'') = _
      rw [e2]; rfl
    | false =>
      show ((lcL f ds δ1).bind fun r δ'' => .ok r δ'') = _
      rw [e2]; rfl
end Bw
namespace Bw
open PySem PySem.Spec PyProof.Rows L2
theorem noV_nil (i : Nat) : noV i [] = true := (rfl)
theorem noV_d (i : Nat) (d : Dt) (os : List Od) : noV i (.d d :: os) = noV i os := (rfl)
theorem noV_1 (os : List Od) : noV 0 (.v 1 :: os) = noV 0 os := (rfl)
theorem noV_2 (os : List Od) : noV 0 (.v 2 :: os) = noV 0 os := (rfl)
theorem noV_3 (os : List Od) : noV 0 (.v 3 :: os) = noV 0 os := (rfl)
theorem noV_4 (os : List Od) : noV 0 (.v 4 :: os) = noV 0 os := (rfl)
theorem noV_5 (os : List Od) : noV 0 (.v 5 :: os) = noV 0 os := (rfl)
theorem noV_6 (os : List Od) : noV 0 (.v 6 :: os) = noV 0 os := (rfl)
theorem noV_7 (os : List Od) : noV 0 (.v 7 :: os) = noV 0 os := (rfl)
theorem noV_8 (os : List Od) : noV 0 (.v 8 :: os) = noV 0 os := (rfl)
theorem ite_tt {α : Type} (a b : α) : (if (true = true ∧ true = true) then a else b) = a := if_pos ⟨rfl, rfl⟩
theorem wd_l (xs : List Dt) : walkD (.list xs) = some xs := (rfl)
theorem wd_t (xs : List Dt) : walkD (.tuple xs) = some xs := (rfl)
theorem d_tup (xs : List Dt) : biD .tuple [.list xs] = some (.tuple xs, false) := (rfl)
theorem d_lst (xs : List Dt) : biD .list [.tuple xs] = some (.list xs, true) := (rfl)
theorem mu_app {xs : List Dt} {x : Dt} (h : xs.length < lim) : muD .append (.list xs) [x] = some (.none, .list (xs ++ [x])) := if_pos h
theorem mu_ext {xs ys : List Dt} (h : xs.length + ys.length ≤ lim) : muD .extend (.list xs) [.list ys] = some (.none, .list (xs ++ ys)) := if_pos h
theorem lim_of {n : Nat} (h : n < 1000000) : n ≤ lim := Nat.le_trans (Nat.le_of_lt h) (by decide)
theorem lim_lt {n : Nat} (h : n < 1000000) : n < lim := Nat.lt_of_lt_of_le h (by decide)
/-- a while that goes on n times -/
theorem whL_upto {c : De → R Bool} {f : De → R Fl} : ∀ (n fuel : Nat) (s : Nat → De), n < fuel → (∀ i, i < n → c (s i) = .ok true (s i) ∧ f (s i) = .ok .nx (s (i + 1))) → c (s n) = .ok false (s n) → whL c f fuel (s 0) = .ok .nx (s n)
  | 0, fuel + 1, s, _, _, h => by
    show ((c (s 0)).bind fun b δ' => if b = true then (f δ').bind fun o δ'' => match o with
      | .nx => whL c f fuel δ''
      | .brk => .ok .nx δ''
      | .ret d w => .ok (.ret d w) δ'' else .ok .nx δ') = _
    rw [h]; rfl
  | n + 1, fuel + 1, s, hf, hs, h => by
    have ih := whL_upto n fuel (fun i => s (i + 1)) (by omega) (fun i hi => hs (i + 1) (by omega)) h
    obtain ⟨h1, h2⟩ := hs 0 (by omega)
    show ((c (s 0)).bind fun b δ' => if b = true then (f δ').bind fun o δ'' => match o with
      | .nx => whL c f fuel δ''
      | .brk => .ok .nx δ''
      | .ret d w => .ok (.ret d w) δ'' else .ok .nx δ') = _
    rw [h1]
    show ((f (s 0)).bind fun o δ'' => match o with
      | .nx => whL c f fuel δ''
      | .brk => .ok .nx δ''
      | .ret d w => .ok (.ret d w) δ'') = _
    rw [h2]
    exact ih
theorem least {P : Nat → Prop} : ∀ {N : Nat}, P N → ∃ n, n ≤ N ∧ P n ∧ ∀ i, i < n → ¬ P i := by
  intro N
  induction N using Nat.strongRecOn with
  | ind N ih =>
    intro h
    rcases Classical.em (∃ i, i < N ∧ P i) with ⟨i, hi, hp⟩ | hn
    · obtain ⟨n, h1, h2, h3⟩ := ih i hi hp
      exact ⟨n, by omega, h2, h3⟩
    · exact ⟨N, Nat.le_refl _, h, fun i hi hp => hn ⟨i, hi, hp⟩⟩
theorem pigeon : ∀ (n : Nat) (l : List Int) (y : Int), l.length = n → ∃ t : Nat, t ≤ l.length ∧ y + t ∉ l := by
  intro n
  induction n using Nat.strongRecOn with
  | ind n ih =>
    intro l y hl
    rcases Classical.em (y ∈ l) with hy | hy
    · have hlt : (l.filter fun z => decide (z ≠ y)).length < l.length := by
        rcases Nat.lt_or_ge (l.filter fun z => decide (z ≠ y)).length l.length with h | h
        · exact h
        · exfalso
          have := (List.length_filter_eq_length_iff (p := fun z => decide (z ≠ y)) (l := l)).mp (Nat.le_antisymm (List.length_filter_le _ _) h) y hy
          simp at this
      obtain ⟨t, h1, h2⟩ := ih _ (hl ▸ hlt) (l.filter fun z => decide (z ≠ y)) (y + 1) rfl
      refine ⟨t + 1, by omega, fun z => h2 (List.mem_filter.mpr ⟨?_, ?_⟩)⟩
      · have : y + ((t + 1 : Nat) : Int) = y + 1 + t := by omega
        rw [← this]; exact z
      · simp; omega
    · exact ⟨0, Nat.zero_le _, by simpa using hy⟩
end Bw
namespace Bw
open PySem PySem.Spec PyProof.Rows L2
section
variable (a b c d e f : Dt) (δ : De)
theorem lstK_0 : lstK [] δ = .ok (.list [], true) δ := if_pos (by show _ ≤ lim; exact lim_of (by simp))
theorem lstK_1 : lstK [a] δ = .ok (.list [a], true) δ := if_pos (by show _ ≤ lim; exact lim_of (by simp))
theorem lstK_2 : lstK [a, b] δ = .ok (.list [a, b], true) δ := if_pos (by show _ ≤ lim; exact lim_of (by simp))
theorem lstK_3 : lstK [a, b, c] δ = .ok (.list [a, b, c], true) δ := if_pos (by show _ ≤ lim; exact lim_of (by simp))
theorem lstK_4 : lstK [a, b, c, d] δ = .ok (.list [a, b, c, d], true) δ := if_pos (by show _ ≤ lim; exact lim_of (by simp))
theorem lstK_5 : lstK [a, b, c, d, e] δ = .ok (.list [a, b, c, d, e], true) δ := if_pos (by show _ ≤ lim; exact lim_of (by simp))
theorem lstK_6 : lstK [a, b, c, d, e, f] δ = .ok (.list [a, b, c, d, e, f], true) δ := if_pos (by show _ ≤ lim; exact lim_of (by simp))
theorem tupK_0 : tupK [] δ = .ok (.tuple [], false) δ := if_pos (by show _ ≤ lim; exact lim_of (by simp))
theorem tupK_1 : tupK [a] δ = .ok (.tuple [a], false) δ := if_pos (by show _ ≤ lim; exact lim_of (by simp))
theorem tupK_2 : tupK [a, b] δ = .ok (.tuple [a, b], false) δ := if_pos (by show _ ≤ lim; exact lim_of (by simp))
theorem tupK_3 : tupK [a, b, c] δ = .ok (.tuple [a, b, c], false) δ := if_pos (by show _ ≤ lim; exact lim_of (by simp))
theorem tupK_4 : tupK [a, b, c, d] δ = .ok (.tuple [a, b, c, d], false) δ := if_pos (by show _ ≤ lim; exact lim_of (by simp))
end
theorem ix_l2 {a b : Int} {k : Int} (h : 0 ≤ k ∧ k < 2) : ∃ v, ixD (.list [.int a, .int b]) (.int k) = some (.int v) ∧ (v = a ∨ v = b) := by
  have : k = 0 ∨ k = 1 := by omega
  rcases this with rfl | rfl
  · exact ⟨a, rfl, .inl rfl⟩
  · exact ⟨b, rfl, .inr rfl⟩
theorem ix_l5 {a b c d e : Int} {k : Int} (h : 0 ≤ k ∧ k < 5) : ∃ v, ixD (.list [.int a, .int b, .int c, .int d, .int e]) (.int k) = some (.int v) ∧ (v = a ∨ v = b ∨ v = c ∨ v = d ∨ v = e) := by
  have : k = 0 ∨ k = 1 ∨ k = 2 ∨ k = 3 ∨ k = 4 := by omega
  rcases this with rfl | rfl | rfl | rfl | rfl
  · exact ⟨a, rfl, .inl rfl⟩
  · exact ⟨b, rfl, .inr (.inl rfl)⟩
  · exact ⟨c, rfl, .inr (.inr (.inl rfl))⟩
  · exact ⟨d, rfl, .inr (.inr (.inr (.inl rfl)))⟩
  · exact ⟨e, rfl, .inr (.inr (.inr (.inr rfl)))⟩
end Bw
namespace Bw
open PySem PySem.Spec PyProof.Rows L2
theorem is_ii (i : Int) : isiO (.int i) "int" = some true := (rfl)
theorem is_ib (i : Int) : isiO (.int i) "bool" = some false := (rfl)
theorem is_tt (x : List Dt) : isiO (.tuple x) "tuple" = some true := (rfl)
theorem is_ll (x : List Dt) : isiO (.list x) "list" = some true := (rfl)
theorem blsD_map : ∀ bs : List Bool, blsD (bs.map PyData.bool) = some bs
  | [] => rfl
  | b :: bs => by
    show (blsD (bs.map PyData.bool)).map (b :: ·) = _
    rw [blsD_map bs]; rfl
theorem d_all (bs : List Bool) : biD .all [.list (bs.map PyData.bool)] = some (.bool (bs.all id), false) := by
  show (blsD (bs.map PyData.bool)).map _ = _
  rw [blsD_map]; rfl
theorem d_allT {α : Type} (l : List α) : biD .all [.list (l.map fun _ => PyData.bool true)] = some (.bool true, false) := by
  have : (l.map fun _ => PyData.bool true) = (l.map fun _ => true).map PyData.bool := by rw [List.map_map]; rfl
  rw [this, d_all]
  congr 2
  simp
theorem canAll {ds : List Dt} (h : ∀ d ∈ ds, d.canLay0 = true) : PyData.canLayAll0 ds = true := by
  induction ds with
  | nil => rfl
  | cons d ds ih =>
    show (d.canLay0 && PyData.canLayAll0 ds) = true
    rw [h d List.mem_cons_self, ih fun d hd => h d (List.mem_cons_of_mem _ hd)]; rfl
theorem depAll {ds : List Dt} {k : Nat} (h : ∀ d ∈ ds, d.depth ≤ k) : PyData.depthAll ds ≤ k := by
  induction ds with
  | nil => exact Nat.zero_le _
  | cons d ds ih =>
    show max d.depth (PyData.depthAll ds) ≤ k
    exact Nat.max_le.mpr ⟨h d List.mem_cons_self, ih fun d hd => h d (List.mem_cons_of_mem _ hd)⟩
/-- may be compared -/
structure Shp (k : Nat) (d : Dt) : Prop where
  c : d.canLay0 = true
  d : d.depth ≤ k
theorem shp_i (i : Int) : Shp 0 (.int i) := ⟨rfl, Nat.le_refl _⟩
theorem shp_b (i : Bool) : Shp 0 (.bool i) := ⟨rfl, Nat.le_refl _⟩
theorem shp_l {ds : List Dt} {k : Nat} (h : ∀ d ∈ ds, Shp k d) : Shp (k + 1) (.list ds) := ⟨canAll fun d hd => (h d hd).c, by
  show PyData.depthAll ds + 1 ≤ _
  exact Nat.succ_le_succ (depAll fun d hd => (h d hd).d)⟩
theorem shp_t {ds : List Dt} {k : Nat} (h : ∀ d ∈ ds, Shp k d) : Shp (k + 1) (.tuple ds) := ⟨canAll fun d hd => (h d hd).c, by
  show PyData.depthAll ds + 1 ≤ _
  exact Nat.succ_le_succ (depAll fun d hd => (h d hd).d)⟩
theorem Shp.ok {k : Nat} {d : Dt} (h : Shp k d) (hk : k ≤ 64) : SeqAt.shaped d = true := by
  unfold SeqAt.shaped
  rw [h.c, decide_eq_true (Nat.le_trans h.d hk)]; rfl
theorem c_eqR {k : Nat} {d : Dt} (h : Shp k d) (hk : k ≤ 64) : cop .eq d d = some true := by
  show (if SeqAt.shaped d && SeqAt.shaped d then some (PyData.eqv d d) else none) = _
  rw [h.ok hk, SeqAt.eqv_refl d h.c]; rfl
theorem c_neR {k : Nat} {d : Dt} (h : Shp k d) (hk : k ≤ 64) : cop .ne d d = some false := by
  show (if SeqAt.shaped d && SeqAt.shaped d then some (!PyData.eqv d d) else none) = _
  rw [h.ok hk, SeqAt.eqv_refl d h.c]; rfl
/-! sorting what is sorted -/
theorem insG_le {α : Type} {lt : α → α → Bool} {x : α} {l : List α} (h : ∀ y ∈ l, lt y x = false) : insG lt x l = x :: l := by
  cases l with
  | nil => rfl
  | cons y l =>
    show (if lt y x = true then y :: insG lt x l else x :: y :: l) = _
    rw [h y List.mem_cons_self]; rfl
theorem srtG_id {α : Type} {lt : α → α → Bool} : ∀ {l : List α}, l.Pairwise (fun x y => lt y x = false) → srtG lt l = l
  | [], _ => rfl
  | x :: l, h => by
    rw [List.pairwise_cons] at h
    show insG lt x (srtG lt l) = _
    rw [srtG_id h.2]
    exact insG_le h.1
end Bw
namespace Bw
open PySem PySem.Spec PyProof.Rows L2
theorem frL_list {α : Type} {enc : α → Dt} {f : Dt → De → R Fl} {Q : Dt → Bool → De → Prop} (I : List α → De → Prop) : ∀ (l pre : List α) {δ : De}, I pre δ → (∀ p x s δ, pre ++ l = p ++ x :: s → I p δ → NR (I (p ++ [x])) Q (f (enc x) δ)) → NR (I (pre ++ l)) Q (frL f (l.map enc) δ)
  | [], pre, δ, h0, _ => .inl ⟨δ, rfl, by rw [List.append_nil]; exact h0⟩
  | x :: l, pre, δ, h0, hs => by
    rw [List.map_cons]
    rcases hs pre x l δ rfl h0 with ⟨δ1, e, h1⟩ | ⟨r, w, δ1, e, h1⟩
    · rw [frL_go e]
      have := frL_list I l (pre ++ [x]) h1 fun p y s δ e2 => hs p y s δ (by rw [← e2]; simp)
      rw [show pre ++ x :: l = pre ++ [x] ++ l by simp]
      exact this
    · rw [frL_out e]
      exact .inr ⟨r, w, δ1, rfl, h1⟩
/-- over a list's items, by what has been walked -/
theorem ret_forL {α : Type} {enc : α → Dt} {Q : Dt → Bool → De → Prop} (I : List α → De → Prop) {f : Dt → De → R Fl} {l : List α} {δ : De} {cl : Cl} {ss : Ss} (h0 : I [] δ) (hs : ∀ p x s δ, l = p ++ x :: s → I p δ → NR (I (p ++ [x])) Q (f (enc x) δ)) (k : ∀ δ', I l δ' → RetP Q (xss cl ss δ')) :
    RetP Q ((frL f (l.map enc) δ).bd (flC cl ss)) := by
  rcases frL_list I l [] h0 hs with ⟨δ', e, h⟩ | ⟨d, w, δ', e, h⟩
  · rw [e]; exact k δ' h
  · rw [e]; exact ⟨d, w, δ', rfl, h⟩
theorem nr_forL {α : Type} {enc : α → Dt} {P : De → Prop} {Q : Dt → Bool → De → Prop} (I : List α → De → Prop) {f : Dt → De → R Fl} {l : List α} {δ : De} {cl : Cl} {ss : Ss} (h0 : I [] δ) (hs : ∀ p x s δ, l = p ++ x :: s → I p δ → NR (I (p ++ [x])) Q (f (enc x) δ)) (k : ∀ δ', I l δ' → NR P Q (xss cl ss δ')) :
    NR P Q ((frL f (l.map enc) δ).bd (flC cl ss)) := by
  rcases frL_list I l [] h0 hs with ⟨δ', e, h⟩ | ⟨d, w, δ', e, h⟩
  · rw [e]; exact k δ' h
  · rw [e]; exact .inr ⟨d, w, δ', rfl, h⟩
theorem d_intB (b : Bool) : biD .int [.bool b] = some (.int (if b = true then 1 else 0), false) := (rfl)
theorem sl_to {xs : List Dt} {k : Nat} (h : k ≤ xs.length) : slD (.tuple xs) none (some (k : Int)) = some (.tuple (xs.take k), false) := by
  show some (PyData.tuple (cutD xs none (some (k : Int))), false) = _
  unfold cutD
  rw [HT.sIx_none, HT.sIx_nat, Nat.min_eq_left h]; simp
theorem sl_from {xs : List Dt} {k : Nat} (h : k ≤ xs.length) : slD (.tuple xs) (some (k : Int)) none = some (.tuple (xs.drop k), false) := by
  show some (PyData.tuple (cutD xs (some (k : Int)) none), false) = _
  unfold cutD
  rw [HT.sIx_none, HT.sIx_nat, Nat.min_eq_left h]
  congr 3
  exact List.take_of_length_le (by simp)
theorem b_addT {x y : List Dt} (h : x.length + y.length ≤ lim) : bop .add (.tuple x) (.tuple y) = some (.tuple (x ++ y), false) := if_pos h
theorem b_addL {x y : List Dt} (h : x.length + y.length ≤ lim) : bop .add (.list x) (.list y) = some (.list (x ++ y), true) := if_pos h
end Bw
namespace Bw
open PySem PySem.Spec PyProof.Rows L2
theorem noV_23 (os : List Od) : noV 2 (.v 3 :: os) = noV 2 os := (rfl)
theorem noV_24 (os : List Od) : noV 2 (.v 4 :: os) = noV 2 os := (rfl)
theorem d_min2 (i j : Int) : biD .min2 [.int i, .int j] = some (.int (if j < i then j else i), false) := (rfl)
theorem idx_filter {α : Type} {P : α → Bool} {E : α → Dt} {p : Dt → Bool} {g : Dt → Dt} : ∀ (l : List α) (k : Int), (∀ (i : Nat) (x : α), l[i]? = some x → p (.int (k + i)) = P x ∧ g (.int (k + i)) = E x) → ((rngL k l.length).filter p).map g = (l.filter P).map E
  | [], _, _ => rfl
  | x :: l, k, h => by
    have h0 := h 0 x rfl
    have h0a : p (.int k) = P x := by simpa using h0.1
    have h0b : g (.int k) = E x := by simpa using h0.2
    have ih := idx_filter l (k + 1) fun i y e => by
      have := h (i + 1) y (by simpa using e)
      rw [show k + ((i + 1 : Nat) : Int) = k + 1 + (i : Int) by omega] at this
      exact this
    show ((PyData.int k :: rngL (k + 1) l.length).filter p).map g = _
    rw [List.filter_cons, List.filter_cons, h0a]
    cases P x with
    | true => rw [if_pos rfl, if_pos rfl, List.map_cons, List.map_cons, h0b, ih]
    | false => rw [if_neg (by decide), if_neg (by decide), ih]
end Bw
namespace Bw
open PySem PySem.Spec PyProof.Rows L2
theorem atI_last {α : Type} {xs : List α} {x : α} (h : xs[xs.length - 1]? = some x) : atI xs (-1) = some x := by
  have hi := (List.getElem?_eq_some_iff.mp h).1
  unfold atI ixN
  rw [if_neg (by decide), if_pos (by omega)]
  show xs[((-1 : Int) + (xs.length : Int)).toNat]? = some x
  rw [show ((-1 : Int) + (xs.length : Int)).toNat = xs.length - 1 by omega]
  exact h
theorem c_neB (a b : Bool) : cop .ne (.bool a) (.bool b) = some (!(a == b)) := by cases a <;> cases b <;> rfl
theorem c_eqB (a b : Bool) : cop .eq (.bool a) (.bool b) = some (a == b) := by cases a <;> cases b <;> rfl
theorem maxI_some : ∀ {ns : List Int}, ns ≠ [] → ∃ m, maxI ns = some m
  | [], h => absurd rfl h
  | [x], _ => ⟨x, rfl⟩
  | x :: y :: ns, _ => by
    obtain ⟨m, e⟩ := maxI_some (ns := y :: ns) (by simp)
    refine ⟨if m < x then x else m, ?_⟩
    show (match maxI (y :: ns) with
      | some y => some (if y < x then x else y)
      | none => none) = _
    rw [e]
theorem minI_some : ∀ {ns : List Int}, ns ≠ [] → ∃ m, minI ns = some m
  | [], h => absurd rfl h
  | [x], _ => ⟨x, rfl⟩
  | x :: y :: ns, _ => by
    obtain ⟨m, e⟩ := minI_some (ns := y :: ns) (by simp)
    refine ⟨if x < m then x else m, ?_⟩
    show (match minI (y :: ns) with
      | some y => some (if x < y then x else y)
      | none => none) = _
    rw [e]
theorem d_max1 {ns : List Int} {m : Int} (h : maxI ns = some m) (hi : intsD (ns.map PyData.int) = some ns) : biD .max1 [.list (ns.map PyData.int)] = some (.int m, false) := by
  show (match intsD (ns.map PyData.int) with
    | some ns => (maxI ns).map fun m => (PyData.int m, false)
    | none => none) = _
  rw [hi]
  show (maxI ns).map _ = _
  rw [h]; rfl
theorem d_min1 {ns : List Int} {m : Int} (h : minI ns = some m) (hi : intsD (ns.map PyData.int) = some ns) : biD .min1 [.list (ns.map PyData.int)] = some (.int m, false) := by
  show biD_min1 [.list (ns.map PyData.int)] = _
  unfold biD_min1
  simp only [hi, h, Option.map_some]
theorem d_minT {x : Dt} {xs : List Dt} (h : sortT (x :: xs) = true) : biD .min1 [.list (x :: xs)] = some (minT x xs, false) := by
  have hi : intsD (x :: xs) = none := by
    have hx : isTI x = true := (List.all_eq_true.mp h) x List.mem_cons_self
    unfold isTI at hx
    split at hx
    · rfl
    · cases hx
  show biD_min1 [.list (x :: xs)] = _
  unfold biD_min1
  simp only [hi, h, if_true]
end Bw

set_option maxRecDepth 100000
namespace Bw.D
open PySem Bw
def _law_bend_v2 : Df := ⟨4, 3, false,
   (.cons (.asg 3 (.bin .mul (.bin .sub (.ix (.var 1) (.cst (.int 0))) (.ix (.var 0) (.cst (.int 0)))) (.bin .sub (.ix (.var 2) (.cst (.int 1))) (.ix (.var 0) (.cst (.int 1))))))
    (.cons (.ret (.bin .sub (.var 3) (.bin .mul (.bin .sub (.ix (.var 1) (.cst (.int 1))) (.ix (.var 0) (.cst (.int 1)))) (.bin .sub (.ix (.var 2) (.cst (.int 0))) (.ix (.var 0) (.cst (.int 0)))))))
    .nil))⟩
def _law_box_v2 : Df := ⟨6, 2, false,
   (.cons (.asg 2 (.bin .add (.bin .mul (.cst (.int 7919)) (.var 1)) (.cst (.int 13))))
    (.cons (.ifs (.cmp .lt (.var 1) (.bi .len (.cons (.var 0) .nil))) (.cons (.asg 2 (.ix (.var 0) (.var 1)))
    .nil) .nil)
    (.cons (.ifs (.cmp .eq (.bin .mod (.var 2) (.cst (.int 2))) (.cst (.int 0))) (.cons (.ret (.lst (.cons (.bin .fdiv (.var 2) (.cst (.int 2))) .nil)))
    .nil) .nil)
    (.cons (.asg 3 (.cst (.int 0)))
    (.cons (.fr (.nm 4) (.rng1 (.cst (.int 16))) (.cons (.asg 5 (.bin .mod (.bin .add (.bin .add (.bin .mul (.bin .mod (.var 2) (.cst (.int 2147483647))) (.cst (.int 48271))) (.bin .mul (.cst (.int 7919)) (.var 4))) (.cst (.int 1))) (.cst (.int 2147483647))))
    (.cons (.asg 5 (.bin .mod (.bin .mul (.var 5) (.var 5)) (.cst (.int 2147483629))))
    (.cons (.asg 3 (.bin .add (.bin .mul (.var 3) (.cst (.int 2147483647))) (.bin .mod (.bin .mul (.var 5) (.bin .add (.var 5) (.cst (.int 13)))) (.cst (.int 2147483647)))))
    .nil))))
    (.cons (.ret (.lst (.cons (.var 3) .nil)))
    .nil))))))⟩
def _law_free_v2 : Df := ⟨4, 2, false,
   (.cons (.fr (.nm 2) (.rng1 (.bi .len (.cons (.var 0) .nil))) (.cons (.fr (.nm 3) (.rng1 (.var 2)) (.cons (.ifs (.cmp .eq (.call (Str.ofString "_law_bend") (.cons (.ix (.var 0) (.var 3)) (.cons (.ix (.var 0) (.var 2)) (.cons (.var 1) .nil)))) (.cst (.int 0))) (.cons (.ret (.cst (.bool false)))
    .nil) .nil)
    .nil))
    .nil))
    (.cons (.ret (.cst (.bool true)))
    .nil))⟩
def _law_is_sheet_v2 : Df := ⟨6, 1, false,
   (.cons (.ifs (.orr (.cons (.nt (.isi (.var 0) "tuple")) (.cons (.nt (.chain .le .le (.cst (.int 1)) (.bi .len (.cons (.var 0) .nil)) (.cst (.int 24)))) .nil))) (.cons (.ret (.cst (.bool false)))
    .nil) .nil)
    (.cons (.fr (.nm 1) (.val (.var 0)) (.cons (.ifs (.orr (.cons (.nt (.isi (.var 1) "tuple")) (.cons (.cmp .ne (.bi .len (.cons (.var 1) .nil)) (.cst (.int 2))) (.cons (.nt (.bi .all (.cons (.lc (.call (Str.ofString "_law_whole") (.cons (.var 2) .nil)) (.nm 2) (.bor 1) [2]) .nil))) .nil)))) (.cons (.ret (.cst (.bool false)))
    .nil) .nil)
    .nil))
    (.cons (.fr (.nm 3) (.rng1 (.bi .len (.cons (.var 0) .nil))) (.cons (.ifs (.an (.cons (.cmp .gt (.var 3) (.cst (.int 0))) (.cons (.cmp .ge (.ix (.ix (.var 0) (.bin .sub (.var 3) (.cst (.int 1)))) (.cst (.int 0))) (.ix (.ix (.var 0) (.var 3)) (.cst (.int 0)))) .nil))) (.cons (.ret (.cst (.bool false)))
    .nil) .nil)
    (.cons (.fr (.nm 4) (.rng1 (.var 3)) (.cons (.ifs (.cmp .ne (.lcf (.var 5) (.nm 5) (.rng1 (.var 4)) (.cmp .eq (.call (Str.ofString "_law_bend") (.cons (.ix (.var 0) (.var 5)) (.cons (.ix (.var 0) (.var 4)) (.cons (.ix (.var 0) (.var 3)) .nil)))) (.cst (.int 0))) [5]) (.lst .nil)) (.cons (.ret (.cst (.bool false)))
    .nil) .nil)
    .nil))
    .nil)))
    (.cons (.ret (.cst (.bool true)))
    .nil))))⟩
def _law_other : Df := ⟨10, 2, true,
   (.cons (.asg 2 (.callM (Str.ofString "_law_take") 0 (.cons (.cst (.int 4)) .nil)))
    (.cons (.asg 3 (.callM (Str.ofString "_law_take") 0 (.cons (.bi .len (.cons (.var 1) .nil)) .nil)))
    (.cons (.unp (.cons (.nm 4) (.cons (.nm 5) .nil)) (.ix (.var 1) (.var 3)))
    (.cons (.ifs (.cmp .eq (.var 2) (.cst (.int 0))) (.cons (.ret (.bi .tuple (.cons (.lc (.tup (.cons (.var 6) (.cons (.bin .sub (.cst (.int 0)) (.var 7)) .nil))) (.tp (.cons (.nm 6) (.cons (.nm 7) .nil))) (.bor 1) [6, 7]) .nil)))
    .nil) .nil)
    (.cons (.ifs (.cmp .eq (.var 2) (.cst (.int 1))) (.cons (.ret (.var 1))
    .nil) .nil)
    (.cons (.asg 8 (.bin .add (.sl (.var 1) .non (.som (.var 3))) (.sl (.var 1) (.som (.bin .add (.var 3) (.cst (.int 1)))) .non)))
    (.cons (.asg 9 (.bin .sub (.bin .add (.var 5) (.callM (Str.ofString "_law_take") 0 (.cons (.cst (.int 61)) .nil))) (.cst (.int 30))))
    (.cons (.wh (.nt (.call (Str.ofString "_law_free") (.cons (.var 8) (.cons (.tup (.cons (.var 4) (.cons (.var 9) .nil))) .nil)))) (.cons (.asg 9 (.bin .add (.var 9) (.cst (.int 1))))
    .nil))
    (.cons (.ret (.bin .add (.bin .add (.sl (.var 1) .non (.som (.var 3))) (.tup (.cons (.tup (.cons (.var 4) (.cons (.var 9) .nil))) .nil))) (.sl (.var 1) (.som (.bin .add (.var 3) (.cst (.int 1)))) .non)))
    .nil)))))))))⟩
def _law_sheet_v2 : Df := ⟨9, 2, true,
   (.cons (.asg 2 (.bin .add (.cst (.int 1)) (.callM (Str.ofString "_law_take") 0 (.cons (.var 1) .nil))))
    (.cons (.asg 3 (.callM (Str.ofString "_law_take") 0 (.cons (.cst (.int 5)) .nil)))
    (.cons (.asg 4 (.bin .sub (.cst (.int 0)) (.callM (Str.ofString "_law_take") 0 (.cons (.cst (.int 9)) .nil))))
    (.cons (.asg 5 (.lst .nil))
    (.cons (.fr (.nm 6) (.rng1 (.var 2)) (.cons (.asg 4 (.bin .add (.bin .add (.var 4) (.cst (.int 1))) (.callM (Str.ofString "_law_take") 0 (.cons (.cst (.int 3)) .nil))))
    (.cons (.asg 7 (.ix (.lst (.cons (.bin .mul (.var 4) (.var 4)) (.cons (.bin .sub (.cst (.int 0)) (.bin .mul (.var 4) (.var 4))) .nil))) (.bin .mod (.var 6) (.cst (.int 2)))))
    (.cons (.asg 8 (.ix (.lst (.cons (.callM (Str.ofString "_law_take") 0 (.cons (.cst (.int 40)) .nil)) (.cons (.bin .mul (.var 4) (.var 4)) (.cons (.bin .sub (.cst (.int 9)) (.bin .mul (.var 4) (.var 4))) (.cons (.var 7) (.cons (.callM (Str.ofString "_law_take") 0 (.cons (.cst (.int 6)) .nil)) .nil)))))) (.var 3)))
    (.cons (.wh (.nt (.call (Str.ofString "_law_free") (.cons (.var 5) (.cons (.tup (.cons (.var 4) (.cons (.var 8) .nil))) .nil)))) (.cons (.asg 8 (.bin .add (.var 8) (.cst (.int 1))))
    .nil))
    (.cons (.ex (.mu .append 5 (.cons (.tup (.cons (.var 4) (.cons (.var 8) .nil))) .nil)))
    .nil))))))
    (.cons (.ifs (.cmp .eq (.callM (Str.ofString "_law_take") 0 (.cons (.cst (.int 6)) .nil)) (.cst (.int 5))) (.cons (.asg 5 (.lc (.tup (.cons (.bin .mul (.var 4) (.bin .pow (.cst (.int 10)) (.cst (.int 12)))) (.cons (.bin .add (.bin .mul (.var 8) (.bin .pow (.cst (.int 10)) (.cst (.int 15)))) (.cst (.int 7))) .nil))) (.tp (.cons (.nm 4) (.cons (.nm 8) .nil))) (.bor 5) [4, 8]))
    .nil) .nil)
    (.cons (.ret (.bi .tuple (.cons (.var 5) .nil)))
    .nil)))))))⟩
def _law_signs : Df := ⟨5, 1, false,
   (.cons (.asg 1 (.lst .nil))
    (.cons (.fr (.tp (.cons (.nm 2) (.cons (.nm 3) (.cons (.nm 4) .nil)))) (.val (.call (Str.ofString "_law_threes") (.cons (.bi .len (.cons (.var 0) .nil)) .nil))) (.cons (.ex (.mu .append 1 (.cons (.ix (.lst (.cons (.neg (.cst (.int 1))) (.cons (.cst (.int 1)) .nil))) (.bi .int (.cons (.cmp .gt (.call (Str.ofString "_law_bend") (.cons (.ix (.var 0) (.var 2)) (.cons (.ix (.var 0) (.var 3)) (.cons (.ix (.var 0) (.var 4)) .nil)))) (.cst (.int 0))) .nil))) .nil)))
    .nil))
    (.cons (.ret (.bi .tuple (.cons (.var 1) .nil)))
    .nil)))⟩
def _law_take : Df := ⟨4, 2, true,
   (.cons (.unp (.cons (.nm 2) (.cons (.nm 3) .nil)) (.bi .divmod (.cons (.ix (.var 0) (.cst (.int 0))) (.cons (.var 1) .nil))))
    (.cons (.put 0 (.cst (.int 0)) (.var 2))
    (.cons (.ret (.var 3))
    .nil)))⟩
def _law_threes_v2 : Df := ⟨5, 1, false,
   (.cons (.asg 1 (.lst .nil))
    (.cons (.fr (.nm 2) (.rng1 (.var 0)) (.cons (.fr (.nm 3) (.rng2 (.bin .add (.var 2) (.cst (.int 1))) (.var 0)) (.cons (.asg 1 (.bin .add (.var 1) (.lc (.tup (.cons (.var 2) (.cons (.var 3) (.cons (.var 4) .nil)))) (.nm 4) (.rng2 (.bin .add (.var 3) (.cst (.int 1))) (.var 0)) [4])))
    .nil))
    .nil))
    (.cons (.ret (.var 1))
    .nil)))⟩
def _law_whole : Df := ⟨1, 1, false,
   (.cons (.ret (.an (.cons (.isi (.var 0) "int") (.cons (.nt (.isi (.var 0) "bool")) .nil))))
    .nil)⟩
def all_signs : Df := ⟨4, 1, false,
   (.cons (.ex (.call (Str.ofString "need_number") (.cons (.var 0) (.cons (.gl (Str.ofString "MOST_ALL") (.int 5)) .nil))))
    (.cons (.asg 1 (.lst (.cons (.tup .nil) .nil)))
    (.cons (.fr (.nm 2) (.rng1 (.bi .len (.cons (.call (Str.ofString "threes_of") (.cons (.var 0) .nil)) .nil))) (.cons (.asg 1 (.bin .add (.lc (.bin .add (.var 3) (.tup (.cons (.neg (.cst (.int 1))) .nil))) (.nm 3) (.bor 1) [3]) (.lc (.bin .add (.var 3) (.tup (.cons (.cst (.int 1)) .nil))) (.nm 3) (.bor 1) [3])))
    .nil))
    (.cons (.ret (.bi .sorted (.cons (.lcf (.var 3) (.nm 3) (.bor 1) (.call (Str.ofString "signs_good") (.cons (.var 0) (.cons (.var 3) .nil))) [3]) .nil)))
    .nil))))⟩
def are_points : Df := ⟨4, 1, false,
   (.cons (.ifs (.orr (.cons (.nt (.chain .le .le (.cst (.int 1)) (.bi .len (.cons (.var 0) .nil)) (.gl (Str.ofString "MOST_POINTS") (.int 24)))) (.cons (.nt (.bi .all (.cons (.lc (.call (Str.ofString "is_point") (.cons (.var 1) .nil)) (.nm 1) (.bor 0) [1]) .nil))) .nil))) (.cons (.ret (.cst (.bool false)))
    .nil) .nil)
    (.cons (.ret (.cmp .eq (.lset (.lc (.var 2) (.tp (.cons (.nm 2) (.cons (.nm 3) .nil))) (.bor 0) [2, 3])) (.bi .len (.cons (.var 0) .nil))))
    .nil))⟩
def bend : Df := ⟨3, 3, false,
   (.cons (.ret (.bin .sub (.bin .mul (.bin .sub (.ix (.var 1) (.cst (.int 0))) (.ix (.var 0) (.cst (.int 0)))) (.bin .sub (.ix (.var 2) (.cst (.int 1))) (.ix (.var 0) (.cst (.int 1))))) (.bin .mul (.bin .sub (.ix (.var 1) (.cst (.int 1))) (.ix (.var 0) (.cst (.int 1)))) (.bin .sub (.ix (.var 2) (.cst (.int 0))) (.ix (.var 0) (.cst (.int 0)))))))
    .nil)⟩
def changes : Df := ⟨2, 1, false,
   (.cons (.ret (.bi .len (.cons (.lcf (.var 1) (.nm 1) (.rng2 (.cst (.int 1)) (.bi .len (.cons (.var 0) .nil))) (.cmp .ne (.ix (.var 0) (.var 1)) (.ix (.var 0) (.bin .sub (.var 1) (.cst (.int 1))))) [1]) .nil)))
    .nil)⟩
def first_three : Df := ⟨4, 1, false,
   (.cons (.fr (.nm 1) (.rng1 (.bi .len (.cons (.var 0) .nil))) (.cons (.fr (.nm 2) (.rng2 (.bin .add (.var 1) (.cst (.int 1))) (.bi .len (.cons (.var 0) .nil))) (.cons (.fr (.nm 3) (.rng2 (.bin .add (.var 2) (.cst (.int 1))) (.bi .len (.cons (.var 0) .nil))) (.cons (.ifs (.cmp .eq (.call (Str.ofString "bend") (.cons (.ix (.var 0) (.var 1)) (.cons (.ix (.var 0) (.var 2)) (.cons (.ix (.var 0) (.var 3)) .nil)))) (.cst (.int 0))) (.cons (.ret (.tup (.cons (.ix (.var 0) (.var 1)) (.cons (.ix (.var 0) (.var 2)) (.cons (.ix (.var 0) (.var 3)) .nil)))))
    .nil) .nil)
    .nil))
    .nil))
    .nil))
    (.cons (.ret (.cst .none))
    .nil))⟩
def fours_of : Df := ⟨6, 1, false,
   (.cons (.asg 1 (.lst .nil))
    (.cons (.fr (.nm 2) (.rng1 (.var 0)) (.cons (.ex (.mu .extend 1 (.cons (.lcf (.tup (.cons (.var 2) (.cons (.var 3) (.cons (.var 4) (.cons (.var 5) .nil))))) (.tp (.cons (.nm 3) (.cons (.nm 4) (.cons (.nm 5) .nil)))) (.val (.call (Str.ofString "threes_of") (.cons (.var 0) .nil))) (.cmp .lt (.var 2) (.var 3)) [3, 4, 5]) .nil)))
    .nil))
    (.cons (.ret (.var 1))
    .nil)))⟩
def is_point : Df := ⟨2, 1, false,
   (.cons (.ret (.an (.cons (.isi (.var 0) "tuple") (.cons (.cmp .eq (.bi .len (.cons (.var 0) .nil)) (.cst (.int 2))) (.cons (.bi .all (.cons (.lc (.call (Str.ofString "is_whole") (.cons (.var 1) .nil)) (.nm 1) (.bor 0) [1]) .nil)) .nil)))))
    .nil)⟩
def is_sheet : Df := ⟨1, 1, false,
   (.cons (.ifs (.orr (.cons (.nt (.isi (.var 0) "tuple")) (.cons (.nt (.call (Str.ofString "are_points") (.cons (.var 0) .nil))) .nil))) (.cons (.ret (.cst (.bool false)))
    .nil) .nil)
    (.cons (.ret (.an (.cons (.cmp .eq (.bi .list (.cons (.var 0) .nil)) (.bi .sorted (.cons (.var 0) .nil))) (.cons (.isN (.call (Str.ofString "first_three") (.cons (.var 0) .nil))) .nil))))
    .nil))⟩
def is_up : Df := ⟨4, 4, false,
   (.cons (.ret (.cmp .gt (.call (Str.ofString "bend") (.cons (.ix (.var 0) (.var 1)) (.cons (.ix (.var 0) (.var 2)) (.cons (.ix (.var 0) (.var 3)) .nil)))) (.cst (.int 0))))
    .nil)⟩
def is_whole : Df := ⟨1, 1, false,
   (.cons (.ret (.an (.cons (.isi (.var 0) "int") (.cons (.nt (.isi (.var 0) "bool")) .nil))))
    .nil)⟩
def need_number : Df := ⟨2, 2, false,
   (.cons (.ifs (.orr (.cons (.nt (.call (Str.ofString "is_whole") (.cons (.var 0) .nil))) (.cons (.nt (.chain .le .le (.cst (.int 1)) (.var 0) (.var 1))) .nil))) (.cons .nev
    .nil) .nil)
    .nil)⟩
def need_sheet : Df := ⟨1, 1, false,
   (.cons (.ifs (.nt (.call (Str.ofString "is_sheet") (.cons (.var 0) .nil))) (.cons .nev
    .nil) .nil)
    .nil)⟩
def sheet_by_signs : Df := ⟨10, 2, false,
   (.cons (.asg 2 (.call (Str.ofString "told_by") (.cons (.var 0) (.cons (.var 1) (.cons (.gl (Str.ofString "MOST_DRAWN") (.int 4)) .nil)))))
    (.cons (.asg 3 (.sl (.tup (.cons (.tup (.cons (.cst (.int 0)) (.cons (.cst (.int 0)) .nil))) (.cons (.tup (.cons (.cst (.int 1)) (.cons (.cst (.int 0)) .nil))) .nil))) .non (.som (.var 0))))
    (.cons (.ifs (.cmp .gt (.var 0) (.cst (.int 2))) (.cons (.asg 3 (.bin .add (.var 3) (.tup (.cons (.tup (.cons (.cst (.int 2)) (.cons (.bin .mul (.cst (.int 4)) (.ix (.var 2) (.tup (.cons (.cst (.int 0)) (.cons (.cst (.int 1)) (.cons (.cst (.int 2)) .nil)))))) .nil))) .nil))))
    .nil) .nil)
    (.cons (.ifs (.cmp .eq (.var 0) (.cst (.int 4))) (.cons (.asg 4 (.bi .sorted (.cons (.lst (.cons (.cst (.int 0)) (.cons (.bin .mul (.cst (.int 6)) (.ix (.var 2) (.tup (.cons (.cst (.int 0)) (.cons (.cst (.int 1)) (.cons (.cst (.int 2)) .nil)))))) (.cons (.bin .mul (.cst (.int 8)) (.ix (.var 2) (.tup (.cons (.cst (.int 0)) (.cons (.cst (.int 1)) (.cons (.cst (.int 2)) .nil)))))) .nil)))) .nil)))
    (.cons (.fr (.nm 5) (.val (.lst (.cons (.bin .sub (.ix (.var 4) (.cst (.int 0))) (.cst (.int 1))) (.cons (.bin .add (.ix (.var 4) (.cst (.int 0))) (.cst (.int 1))) (.cons (.bin .add (.ix (.var 4) (.cst (.int 1))) (.cst (.int 1))) (.cons (.bin .add (.ix (.var 4) (.cst (.int 2))) (.cst (.int 1))) .nil)))))) (.cons (.asg 6 (.bin .add (.var 3) (.tup (.cons (.tup (.cons (.cst (.int 3)) (.cons (.var 5) .nil))) .nil))))
    (.cons (.ifs (.cmp .eq (.bi .tuple (.cons (.lc (.call (Str.ofString "turn_at") (.cons (.var 6) (.cons (.var 7) (.cons (.var 8) (.cons (.var 9) .nil))))) (.tp (.cons (.nm 7) (.cons (.nm 8) (.cons (.nm 9) .nil)))) (.val (.call (Str.ofString "threes_of") (.cons (.cst (.int 4)) .nil))) [7, 8, 9]) .nil)) (.var 1)) (.cons (.ret (.var 6))
    .nil) .nil)
    .nil)))
    .nil)) .nil)
    (.cons (.ret (.var 3))
    .nil)))))⟩
def signs_good : Df := ⟨9, 2, false,
   (.cons (.asg 2 (.call (Str.ofString "threes_of") (.cons (.var 0) .nil)))
    (.cons (.ifs (.orr (.cons (.nt (.isi (.var 1) "tuple")) (.cons (.cmp .ne (.bi .len (.cons (.var 1) .nil)) (.bi .len (.cons (.var 2) .nil))) .nil))) (.cons (.ret (.cst (.bool false)))
    .nil) .nil)
    (.cons (.ifs (.nt (.bi .all (.cons (.lc (.an (.cons (.call (Str.ofString "is_whole") (.cons (.var 3) .nil)) (.cons (.cmp .inn (.var 3) (.tup (.cons (.cst (.int 1)) (.cons (.neg (.cst (.int 1))) .nil)))) .nil))) (.nm 3) (.bor 1) [3]) .nil))) (.cons (.ret (.cst (.bool false)))
    .nil) .nil)
    (.cons (.asg 4 (.dzip (.var 2) (.var 1)))
    (.cons (.fr (.tp (.cons (.nm 5) (.cons (.nm 6) (.cons (.nm 7) (.cons (.nm 8) .nil))))) (.val (.call (Str.ofString "fours_of") (.cons (.var 0) .nil))) (.cons (.ifs (.cmp .gt (.call (Str.ofString "changes") (.cons (.lst (.cons (.ix (.var 4) (.tup (.cons (.var 5) (.cons (.var 6) (.cons (.var 7) .nil))))) (.cons (.ix (.var 4) (.tup (.cons (.var 5) (.cons (.var 6) (.cons (.var 8) .nil))))) (.cons (.ix (.var 4) (.tup (.cons (.var 5) (.cons (.var 7) (.cons (.var 8) .nil))))) (.cons (.ix (.var 4) (.tup (.cons (.var 6) (.cons (.var 7) (.cons (.var 8) .nil))))) .nil))))) .nil)) (.cst (.int 1))) (.cons (.ret (.cst (.bool false)))
    .nil) .nil)
    .nil))
    (.cons (.ret (.cst (.bool true)))
    .nil))))))⟩
def threes_of : Df := ⟨5, 1, false,
   (.cons (.asg 1 (.lst .nil))
    (.cons (.fr (.nm 2) (.rng1 (.var 0)) (.cons (.fr (.nm 3) (.rng2 (.bin .add (.var 2) (.cst (.int 1))) (.var 0)) (.cons (.ex (.mu .extend 1 (.cons (.lc (.tup (.cons (.var 2) (.cons (.var 3) (.cons (.var 4) .nil)))) (.nm 4) (.rng2 (.bin .add (.var 3) (.cst (.int 1))) (.var 0)) [4]) .nil)))
    .nil))
    .nil))
    (.cons (.ret (.var 1))
    .nil)))⟩
def told_by : Df := ⟨3, 3, false,
   (.cons (.ex (.call (Str.ofString "need_number") (.cons (.var 0) (.cons (.var 2) .nil))))
    (.cons (.ifs (.nt (.call (Str.ofString "signs_good") (.cons (.var 0) (.cons (.var 1) .nil)))) (.cons .nev
    .nil) .nil)
    (.cons (.ret (.dzip (.call (Str.ofString "threes_of") (.cons (.var 0) .nil)) (.var 1)))
    .nil)))⟩
def turn_at : Df := ⟨4, 4, false,
   (.cons (.ret (.bin .sub (.bin .mul (.cst (.int 2)) (.bi .int (.cons (.call (Str.ofString "is_up") (.cons (.var 0) (.cons (.var 1) (.cons (.var 2) (.cons (.var 3) .nil))))) .nil))) (.cst (.int 1))))
    .nil)⟩
def turned_otherwise : Df := ⟨6, 2, false,
   (.cons (.ex (.call (Str.ofString "need_sheet") (.cons (.var 0) .nil)))
    (.cons (.ex (.call (Str.ofString "need_sheet") (.cons (.var 1) .nil)))
    (.cons (.ifs (.cmp .ne (.bi .len (.cons (.var 0) .nil)) (.bi .len (.cons (.var 1) .nil))) (.cons .nev
    .nil) .nil)
    (.cons (.asg 2 (.lst .nil))
    (.cons (.fr (.tp (.cons (.nm 3) (.cons (.nm 4) (.cons (.nm 5) .nil)))) (.val (.call (Str.ofString "threes_of") (.cons (.bi .len (.cons (.var 0) .nil)) .nil))) (.cons (.ifs (.cmp .ne (.call (Str.ofString "turn_at") (.cons (.var 0) (.cons (.var 3) (.cons (.var 4) (.cons (.var 5) .nil))))) (.call (Str.ofString "turn_at") (.cons (.var 1) (.cons (.var 3) (.cons (.var 4) (.cons (.var 5) .nil)))))) (.cons (.ex (.mu .append 2 (.cons (.tup (.cons (.var 3) (.cons (.var 4) (.cons (.var 5) .nil)))) .nil)))
    .nil) .nil)
    .nil))
    (.cons (.ret (.var 2))
    .nil))))))⟩
end Bw.D

set_option maxRecDepth 100000
namespace Bw
open PySem PySem.Spec PyProof.Rows L2
theorem take_ok {t : Tb} (h : t (Str.ofString "_law_take") = some D._law_take) {n : Nat} {x m : Int} (h0 : 0 < m) (h1 : m < 1073741824) : run t (n + 1) (Str.ofString "_law_take") [.list [.int x], .int m] = .ok (.int (x % m)) false (.list [.int (x / m)]) := by
  refine run_ret1 (df := D._law_take) (δ := [some (.list [.int (x / m)], true), some (.int m, false), some (.int (x / m), false), some (.int (x % m), false)]) h rfl rfl ?_ rfl
  have hp : putX (.list [.int x]) (.int 0) (.int (x / m)) = some (.list [.int (x / m)]) := rfl
  simp only [D._law_take, entry, List.map_cons, List.map_nil, List.length_cons, List.length_nil, List.replicate, Nat.zero_add, Nat.reduceAdd, Nat.reduceSub, List.replicate_zero, List.cons_append, List.nil_append]
  simp only [rb_ok, o1_some, o1b_some, o1i_some, f2_some, rvK_some, opK_some, rlK_t, rlK_f, drK_t, drK_f, drp_e, ev_cst, ev_gl, ev_var, opd_var, od_d, od_v, negK_i, tAnd_1, tOr_1, tb_ok, ev_dct, evs_nil, eos_nil, f1_some, oc_some, ods_nil, ods_cons, isiK_some, clK_ok, ca_some, cmK_ok, cm_some, ctK_ok, ctC_some, muK_some, muF2_some, ownK_l, eoo_non, intK_i, slK_some, wkK_some, bwK_some, eit_bor, r1K_i, r2K_i, enK_t, enK_l, lcX_ok, lockI_val, lockI_bor, lockI_rng1, lockI_rng2, lockI_enum, flK_nx, flK_ret, flK_brk, xss_nil, upK_some, ptF_some, ptK_some, rtK_some, xs_retV, xs_brk, asK_some, frB_e, frK_some, xs_fr_val, xs_fr_rng1, xs_fr_rng2, xs_fr_rng3, xs_fr_enum, xs_fr_zip, dk_rng1, dk_rng2, dk_enum, dk_var, dk_cst, dk_gl, dk_bin, dk_cmp, dk_chain, dk_isN, dk_notN, dk_neg, dk_nt, dk_an, dk_orr, dk_ife, dk_ix, dk_sl, dk_rev, dk_tup, dk_lst, dk_dct, dk_bi, dk_isi, dk_call, dk_callM, dk_callT, dk_mu, dk_lc, dk_lcf, whC_a, whB_a, xs_wh, opK0_a, opd_cst, opd_gl, opd_bin, opd_cmp, opd_chain, opd_isN, opd_notN, opd_neg, opd_nt, opd_an, opd_orr, opd_ife, opd_ix, opd_sl, opd_rev, opd_tup, opd_lst, opd_dct, opd_bi, opd_isi, opd_call, opd_callM, opd_callT, opd_mu, opd_lc, opd_lcf, twoL_a, twoK_a, binG_a, cmpG_a, ixG_a, ev_bin, ev_cmp, ev_ix, oneK_a, isNG_a, negG_a, isiG_a, ev_isN, ev_notN, ev_neg, ev_isi, ntK_a, boK_a, ev_nt, ev_an, ev_orr, anK_t, anK_f, orK_t, orK_f, tAnd_2, tOr_2, ifK_t, ifK_f, ev_ife, ev_tup, ev_lst, evsL_a, evsK_a, evs_cons, eosL_a, eosK_a, eos_cons, biK_a, ev_bi, callK_a, ev_call, cmKK_a, lsK_some, lsK1_a, ev_lset, mxK1_a, ev_mxv, opd_mxv, dk_mxv, lrK_some, lrK1_a, ev_lrng, opd_lrng, dk_lrng, cnF_some, cnK_a, isLs_l, ev_cnt, opd_cnt, dk_cnt, dzK2_a, dzK1_a, ev_dzip, opd_dzip, dk_dzip, opd_lset, dk_lset, ev_callM, ctK2_a, ctK1_a, ev_callT, muKK_a, ev_mu, eoK_a, eoo_som, slK3_a, slK2_a, slK1_a, ev_sl, wvK_a, eit_val, r1K1_a, eit_rng1, r2K2_a, r2K1_a, eit_rng2, enK1_a, eit_enum, lcEK_a, lcE_a, lcCK_t, lcCK_f, lcC_a, aoK_some, lcB_a, lcK1_a, ev_lc, lcK2_a, ev_lcf, flC_nx, flC_ret, flC_brk, xss_cons, asgK_a, xs_asg, unpK_a, xs_unp, parK2_a, parK1_a, xs_par, putK2_a, putK1_a, xs_put, retK_a, xs_ret_mxv, xs_ret_lrng, xs_ret_dzip, xs_ret_cnt, xs_ret_lset, xs_ret_cst, xs_ret_gl, xs_ret_bin, xs_ret_cmp, xs_ret_chain, xs_ret_isN, xs_ret_notN, xs_ret_neg, xs_ret_nt, xs_ret_an, xs_ret_orr, xs_ret_ife, xs_ret_ix, xs_ret_sl, xs_ret_rev, xs_ret_tup, xs_ret_lst, xs_ret_dct, xs_ret_bi, xs_ret_isi, xs_ret_call, xs_ret_callM, xs_ret_callT, xs_ret_mu, xs_ret_lc, xs_ret_lcf, ifsK_t, ifsK_f, xs_ifs, exK_a, xs_ex, frK1_a, frK_none, chK4_a, chK3_t, chK3_f, chK2_a, chK1_a, ev_chain, isNK_n, isNK_i, isNK_t, isNK_l, lcLK2_s, lcLK2_n, lcLK1_a, lcL_c, lcL_n, gt_s, st_s, asgT_nm, as2_some, asgT_tp, asgTs_nil, asgTs_cons, rlsAll_nil, rlsAll_d, rlsAll_v, abK_some, frcB_a, frcK_a, xs_frc, frR_nx, frR_ret, wipeD_nil, wipeD_cons, backD_nil, backD_cons, gt_0, st_0, rls_e, ownL_e, Option.map_some, Option.isSome_some, if_true, List.isEmpty_nil, lstK_0, lstK_1, lstK_2, lstK_3, lstK_4, lstK_5, lstK_6, tupK_0, tupK_1, tupK_2, tupK_3, tupK_4, noV_nil, noV_d, noV_1, noV_2, noV_3, noV_4, noV_5, noV_6, noV_7, noV_8, ite_tt, and_self, List.cons_append, List.nil_append, iL_1, pl_int, pl_bool, pl_none, pl_str, pl_list, pl_dict, Bool.false_eq_true, if_false, Bool.not_true, Bool.not_false, b_add, b_sub, c_eq, c_ne, c_lt, c_le, c_gt, c_ge, ix_list, atI_0, d_div ⟨h0, h1⟩, hp]
theorem box2_ok {t : Tb} (h : t (Str.ofString "_law_box") = some D._law_box_v2) {n : Nat} {ns : List Int} {k : Nat} (hk : k < 1000) : ∃ x, run t (n + 1) (Str.ofString "_law_box") [scr ns, .int k] = .ok (.list [.int x]) true .none := by
  have key := run_retP (t := t) (n := n) (as := [scr ns, .int k]) (P := fun d w _ => ∃ x, d = .list [.int x] ∧ w = true) h rfl rfl ?_
  · obtain ⟨d, w, δ, e, x, rfl, rfl⟩ := key
    exact ⟨x, e⟩
  have hm : (7919 : Int).natAbs.log2 + (k : Int).natAbs.log2 < 1000000 := mul_log (k := 13) (l := 10) (Bd.of (by decide) (by decide)) (Bd.of (by omega) (by omega)) (by decide) (by decide) (by decide)
  have d2 : (0 : Int) < 2 ∧ (2 : Int).natAbs.log2 < 9000 := ⟨by decide, by decide⟩
  have hl1 : (1 : Nat) ≤ lim := by decide
  have go : ∀ here : Int, RetP (fun d w _ => ∃ x, d = .list [.int x] ∧ w = true) (xss (run t n) (match D._law_box_v2.body with | .cons _ (.cons _ r) => r | _ => .nil) [some (scr ns, false), some (.int k, false), some (.int here, false), none, none, none]) := fun here => by
    by_cases he : here % 2 = 0
    · simp only [D._law_box_v2, rb_ok, o1_some, o1b_some, o1i_some, f2_some, rvK_some, opK_some, rlK_t, rlK_f, drK_t, drK_f, drp_e, ev_cst, ev_gl, ev_var, opd_var, od_d, od_v, negK_i, tAnd_1, tOr_1, tb_ok, ev_dct, evs_nil, eos_nil, f1_some, oc_some, ods_nil, ods_cons, isiK_some, clK_ok, ca_some, cmK_ok, cm_some, ctK_ok, ctC_some, muK_some, muF2_some, ownK_l, eoo_non, intK_i, slK_some, wkK_some, bwK_some, eit_bor, r1K_i, r2K_i, enK_t, enK_l, lcX_ok, lockI_val, lockI_bor, lockI_rng1, lockI_rng2, lockI_enum, flK_nx, flK_ret, flK_brk, xss_nil, upK_some, ptF_some, ptK_some, rtK_some, xs_retV, xs_brk, asK_some, frB_e, frK_some, xs_fr_val, xs_fr_rng1, xs_fr_rng2, xs_fr_rng3, xs_fr_enum, xs_fr_zip, dk_rng1, dk_rng2, dk_enum, dk_var, dk_cst, dk_gl, dk_bin, dk_cmp, dk_chain, dk_isN, dk_notN, dk_neg, dk_nt, dk_an, dk_orr, dk_ife, dk_ix, dk_sl, dk_rev, dk_tup, dk_lst, dk_dct, dk_bi, dk_isi, dk_call, dk_callM, dk_callT, dk_mu, dk_lc, dk_lcf, whC_a, whB_a, xs_wh, opK0_a, opd_cst, opd_gl, opd_bin, opd_cmp, opd_chain, opd_isN, opd_notN, opd_neg, opd_nt, opd_an, opd_orr, opd_ife, opd_ix, opd_sl, opd_rev, opd_tup, opd_lst, opd_dct, opd_bi, opd_isi, opd_call, opd_callM, opd_callT, opd_mu, opd_lc, opd_lcf, twoL_a, twoK_a, binG_a, cmpG_a, ixG_a, ev_bin, ev_cmp, ev_ix, oneK_a, isNG_a, negG_a, isiG_a, ev_isN, ev_notN, ev_neg, ev_isi, ntK_a, boK_a, ev_nt, ev_an, ev_orr, anK_t, anK_f, orK_t, orK_f, tAnd_2, tOr_2, ifK_t, ifK_f, ev_ife, ev_tup, ev_lst, evsL_a, evsK_a, evs_cons, eosL_a, eosK_a, eos_cons, biK_a, ev_bi, callK_a, ev_call, cmKK_a, lsK_some, lsK1_a, ev_lset, mxK1_a, ev_mxv, opd_mxv, dk_mxv, lrK_some, lrK1_a, ev_lrng, opd_lrng, dk_lrng, cnF_some, cnK_a, isLs_l, ev_cnt, opd_cnt, dk_cnt, dzK2_a, dzK1_a, ev_dzip, opd_dzip, dk_dzip, opd_lset, dk_lset, ev_callM, ctK2_a, ctK1_a, ev_callT, muKK_a, ev_mu, eoK_a, eoo_som, slK3_a, slK2_a, slK1_a, ev_sl, wvK_a, eit_val, r1K1_a, eit_rng1, r2K2_a, r2K1_a, eit_rng2, enK1_a, eit_enum, lcEK_a, lcE_a, lcCK_t, lcCK_f, lcC_a, aoK_some, lcB_a, lcK1_a, ev_lc, lcK2_a, ev_lcf, flC_nx, flC_ret, flC_brk, xss_cons, asgK_a, xs_asg, unpK_a, xs_unp, parK2_a, parK1_a, xs_par, putK2_a, putK1_a, xs_put, retK_a, xs_ret_mxv, xs_ret_lrng, xs_ret_dzip, xs_ret_cnt, xs_ret_lset, xs_ret_cst, xs_ret_gl, xs_ret_bin, xs_ret_cmp, xs_ret_chain, xs_ret_isN, xs_ret_notN, xs_ret_neg, xs_ret_nt, xs_ret_an, xs_ret_orr, xs_ret_ife, xs_ret_ix, xs_ret_sl, xs_ret_rev, xs_ret_tup, xs_ret_lst, xs_ret_dct, xs_ret_bi, xs_ret_isi, xs_ret_call, xs_ret_callM, xs_ret_callT, xs_ret_mu, xs_ret_lc, xs_ret_lcf, ifsK_t, ifsK_f, xs_ifs, exK_a, xs_ex, frK1_a, frK_none, chK4_a, chK3_t, chK3_f, chK2_a, chK1_a, ev_chain, isNK_n, isNK_i, isNK_t, isNK_l, lcLK2_s, lcLK2_n, lcLK1_a, lcL_c, lcL_n, gt_s, st_s, asgT_nm, as2_some, asgT_tp, asgTs_nil, asgTs_cons, rlsAll_nil, rlsAll_d, rlsAll_v, abK_some, frcB_a, frcK_a, xs_frc, frR_nx, frR_ret, wipeD_nil, wipeD_cons, backD_nil, backD_cons, gt_0, st_0, rls_e, ownL_e, Option.map_some, Option.isSome_some, if_true, List.isEmpty_nil, lstK_0, lstK_1, lstK_2, lstK_3, lstK_4, lstK_5, lstK_6, tupK_0, tupK_1, tupK_2, tupK_3, tupK_4, noV_nil, noV_d, noV_1, noV_2, noV_3, noV_4, noV_5, noV_6, noV_7, noV_8, ite_tt, and_self, List.cons_append, List.nil_append, iL_1, pl_int, pl_bool, pl_none, pl_str, pl_list, pl_dict, Bool.false_eq_true, if_false, Bool.not_true, Bool.not_false, b_add, b_sub, c_eq, c_ne, c_lt, c_le, c_gt, c_ge, b_mod (i := here) (j := 2) (by decide), b_fdiv d2, he, beq_self_eq_true, hl1]
      exact retP_ok ⟨_, rfl, rfl⟩
    · have hb : big 16 = true := by decide
      have he' : (here % 2 == 0) = false := by simpa using he
      simp only [D._law_box_v2, rb_ok, o1_some, o1b_some, o1i_some, f2_some, rvK_some, opK_some, rlK_t, rlK_f, drK_t, drK_f, drp_e, ev_cst, ev_gl, ev_var, opd_var, od_d, od_v, negK_i, tAnd_1, tOr_1, tb_ok, ev_dct, evs_nil, eos_nil, f1_some, oc_some, ods_nil, ods_cons, isiK_some, clK_ok, ca_some, cmK_ok, cm_some, ctK_ok, ctC_some, muK_some, muF2_some, ownK_l, eoo_non, intK_i, slK_some, wkK_some, bwK_some, eit_bor, r1K_i, r2K_i, enK_t, enK_l, lcX_ok, lockI_val, lockI_bor, lockI_rng1, lockI_rng2, lockI_enum, flK_nx, flK_ret, flK_brk, xss_nil, upK_some, ptF_some, ptK_some, rtK_some, xs_retV, xs_brk, asK_some, frB_e, frK_some, xs_fr_val, xs_fr_rng1, xs_fr_rng2, xs_fr_rng3, xs_fr_enum, xs_fr_zip, dk_rng1, dk_rng2, dk_enum, dk_var, dk_cst, dk_gl, dk_bin, dk_cmp, dk_chain, dk_isN, dk_notN, dk_neg, dk_nt, dk_an, dk_orr, dk_ife, dk_ix, dk_sl, dk_rev, dk_tup, dk_lst, dk_dct, dk_bi, dk_isi, dk_call, dk_callM, dk_callT, dk_mu, dk_lc, dk_lcf, whC_a, whB_a, xs_wh, opK0_a, opd_cst, opd_gl, opd_bin, opd_cmp, opd_chain, opd_isN, opd_notN, opd_neg, opd_nt, opd_an, opd_orr, opd_ife, opd_ix, opd_sl, opd_rev, opd_tup, opd_lst, opd_dct, opd_bi, opd_isi, opd_call, opd_callM, opd_callT, opd_mu, opd_lc, opd_lcf, twoL_a, twoK_a, binG_a, cmpG_a, ixG_a, ev_bin, ev_cmp, ev_ix, oneK_a, isNG_a, negG_a, isiG_a, ev_isN, ev_notN, ev_neg, ev_isi, ntK_a, boK_a, ev_nt, ev_an, ev_orr, anK_t, anK_f, orK_t, orK_f, tAnd_2, tOr_2, ifK_t, ifK_f, ev_ife, ev_tup, ev_lst, evsL_a, evsK_a, evs_cons, eosL_a, eosK_a, eos_cons, biK_a, ev_bi, callK_a, ev_call, cmKK_a, lsK_some, lsK1_a, ev_lset, mxK1_a, ev_mxv, opd_mxv, dk_mxv, lrK_some, lrK1_a, ev_lrng, opd_lrng, dk_lrng, cnF_some, cnK_a, isLs_l, ev_cnt, opd_cnt, dk_cnt, dzK2_a, dzK1_a, ev_dzip, opd_dzip, dk_dzip, opd_lset, dk_lset, ev_callM, ctK2_a, ctK1_a, ev_callT, muKK_a, ev_mu, eoK_a, eoo_som, slK3_a, slK2_a, slK1_a, ev_sl, wvK_a, eit_val, r1K1_a, eit_rng1, r2K2_a, r2K1_a, eit_rng2, enK1_a, eit_enum, lcEK_a, lcE_a, lcCK_t, lcCK_f, lcC_a, aoK_some, lcB_a, lcK1_a, ev_lc, lcK2_a, ev_lcf, flC_nx, flC_ret, flC_brk, xss_cons, asgK_a, xs_asg, unpK_a, xs_unp, parK2_a, parK1_a, xs_par, putK2_a, putK1_a, xs_put, retK_a, xs_ret_mxv, xs_ret_lrng, xs_ret_dzip, xs_ret_cnt, xs_ret_lset, xs_ret_cst, xs_ret_gl, xs_ret_bin, xs_ret_cmp, xs_ret_chain, xs_ret_isN, xs_ret_notN, xs_ret_neg, xs_ret_nt, xs_ret_an, xs_ret_orr, xs_ret_ife, xs_ret_ix, xs_ret_sl, xs_ret_rev, xs_ret_tup, xs_ret_lst, xs_ret_dct, xs_ret_bi, xs_ret_isi, xs_ret_call, xs_ret_callM, xs_ret_callT, xs_ret_mu, xs_ret_lc, xs_ret_lcf, ifsK_t, ifsK_f, xs_ifs, exK_a, xs_ex, frK1_a, frK_none, chK4_a, chK3_t, chK3_f, chK2_a, chK1_a, ev_chain, isNK_n, isNK_i, isNK_t, isNK_l, lcLK2_s, lcLK2_n, lcLK1_a, lcL_c, lcL_n, gt_s, st_s, asgT_nm, as2_some, asgT_tp, asgTs_nil, asgTs_cons, rlsAll_nil, rlsAll_d, rlsAll_v, abK_some, frcB_a, frcK_a, xs_frc, frR_nx, frR_ret, wipeD_nil, wipeD_cons, backD_nil, backD_cons, gt_0, st_0, rls_e, ownL_e, Option.map_some, Option.isSome_some, if_true, List.isEmpty_nil, lstK_0, lstK_1, lstK_2, lstK_3, lstK_4, lstK_5, lstK_6, tupK_0, tupK_1, tupK_2, tupK_3, tupK_4, noV_nil, noV_d, noV_1, noV_2, noV_3, noV_4, noV_5, noV_6, noV_7, noV_8, ite_tt, and_self, List.cons_append, List.nil_append, iL_1, pl_int, pl_bool, pl_none, pl_str, pl_list, pl_dict, Bool.false_eq_true, if_false, Bool.not_true, Bool.not_false, b_add, b_sub, c_eq, c_ne, c_lt, c_le, c_gt, c_ge, b_mod (i := here) (j := 2) (by decide), he', Bool.false_eq_true, if_false, hb]
      refine retP_for (fun i δ => ∃ num x4 x5, δ = [some (scr ns, false), some (.int k, false), some (.int here, false), some (.int num, false), x4, x5] ∧ Bd (40 * i + 1) num) ⟨0, none, none, rfl, Bd.of (by decide) (by decide)⟩ ?_ ?_
      · rintro i d δ hd ⟨num, x4, x5, rfl, bn⟩
        obtain ⟨rfl, hi⟩ := rngL_get hd
        have hi : i < 16 := hi
        have bi : Bd 5 (0 + (i : Int)) := Bd.of (by omega) (by omega)
        have bM : Bd 31 (2147483647 : Int) := Bd.of (by decide) (by decide)
        have bM' : Bd 31 (2147483629 : Int) := Bd.of (by decide) (by decide)
        have bh : Bd 31 (here % 2147483647) := bM.mod (by decide)
        have b1 : Bd 16 (48271 : Int) := Bd.of (by decide) (by decide)
        have b2 : Bd 13 (7919 : Int) := Bd.of (by decide) (by decide)
        have b3 : Bd 4 (13 : Int) := Bd.of (by decide) (by decide)
        have bp := bM.mod (i := (here % 2147483647 * 48271 + 7919 * (0 + (i : Int)) + 1)) (by decide)
        have bq := bM'.mod (i := (here % 2147483647 * 48271 + 7919 * (0 + (i : Int)) + 1) % 2147483647 * ((here % 2147483647 * 48271 + 7919 * (0 + (i : Int)) + 1) % 2147483647)) (by decide)
        have m1 := mul_log bh b1 (by decide) (by decide) (by decide)
        have m2 := mul_log b2 bi (by decide) (by decide) (by decide)
        have m3 := mul_log bp bp (by decide) (by decide) (by decide)
        have m4 := mul_log bn bM (by omega) (by decide) (by omega)
        have bs := bq.add b3
        have m5 := mul_log bq bs (by decide) (by decide) (by decide)
        refine ⟨_, by
          simp only [rb_ok, o1_some, o1b_some, o1i_some, f2_some, rvK_some, opK_some, rlK_t, rlK_f, drK_t, drK_f, drp_e, ev_cst, ev_gl, ev_var, opd_var, od_d, od_v, negK_i, tAnd_1, tOr_1, tb_ok, ev_dct, evs_nil, eos_nil, f1_some, oc_some, ods_nil, ods_cons, isiK_some, clK_ok, ca_some, cmK_ok, cm_some, ctK_ok, ctC_some, muK_some, muF2_some, ownK_l, eoo_non, intK_i, slK_some, wkK_some, bwK_some, eit_bor, r1K_i, r2K_i, enK_t, enK_l, lcX_ok, lockI_val, lockI_bor, lockI_rng1, lockI_rng2, lockI_enum, flK_nx, flK_ret, flK_brk, xss_nil, upK_some, ptF_some, ptK_some, rtK_some, xs_retV, xs_brk, asK_some, frB_e, frK_some, xs_fr_val, xs_fr_rng1, xs_fr_rng2, xs_fr_rng3, xs_fr_enum, xs_fr_zip, dk_rng1, dk_rng2, dk_enum, dk_var, dk_cst, dk_gl, dk_bin, dk_cmp, dk_chain, dk_isN, dk_notN, dk_neg, dk_nt, dk_an, dk_orr, dk_ife, dk_ix, dk_sl, dk_rev, dk_tup, dk_lst, dk_dct, dk_bi, dk_isi, dk_call, dk_callM, dk_callT, dk_mu, dk_lc, dk_lcf, whC_a, whB_a, xs_wh, opK0_a, opd_cst, opd_gl, opd_bin, opd_cmp, opd_chain, opd_isN, opd_notN, opd_neg, opd_nt, opd_an, opd_orr, opd_ife, opd_ix, opd_sl, opd_rev, opd_tup, opd_lst, opd_dct, opd_bi, opd_isi, opd_call, opd_callM, opd_callT, opd_mu, opd_lc, opd_lcf, twoL_a, twoK_a, binG_a, cmpG_a, ixG_a, ev_bin, ev_cmp, ev_ix, oneK_a, isNG_a, negG_a, isiG_a, ev_isN, ev_notN, ev_neg, ev_isi, ntK_a, boK_a, ev_nt, ev_an, ev_orr, anK_t, anK_f, orK_t, orK_f, tAnd_2, tOr_2, ifK_t, ifK_f, ev_ife, ev_tup, ev_lst, evsL_a, evsK_a, evs_cons, eosL_a, eosK_a, eos_cons, biK_a, ev_bi, callK_a, ev_call, cmKK_a, lsK_some, lsK1_a, ev_lset, mxK1_a, ev_mxv, opd_mxv, dk_mxv, lrK_some, lrK1_a, ev_lrng, opd_lrng, dk_lrng, cnF_some, cnK_a, isLs_l, ev_cnt, opd_cnt, dk_cnt, dzK2_a, dzK1_a, ev_dzip, opd_dzip, dk_dzip, opd_lset, dk_lset, ev_callM, ctK2_a, ctK1_a, ev_callT, muKK_a, ev_mu, eoK_a, eoo_som, slK3_a, slK2_a, slK1_a, ev_sl, wvK_a, eit_val, r1K1_a, eit_rng1, r2K2_a, r2K1_a, eit_rng2, enK1_a, eit_enum, lcEK_a, lcE_a, lcCK_t, lcCK_f, lcC_a, aoK_some, lcB_a, lcK1_a, ev_lc, lcK2_a, ev_lcf, flC_nx, flC_ret, flC_brk, xss_cons, asgK_a, xs_asg, unpK_a, xs_unp, parK2_a, parK1_a, xs_par, putK2_a, putK1_a, xs_put, retK_a, xs_ret_mxv, xs_ret_lrng, xs_ret_dzip, xs_ret_cnt, xs_ret_lset, xs_ret_cst, xs_ret_gl, xs_ret_bin, xs_ret_cmp, xs_ret_chain, xs_ret_isN, xs_ret_notN, xs_ret_neg, xs_ret_nt, xs_ret_an, xs_ret_orr, xs_ret_ife, xs_ret_ix, xs_ret_sl, xs_ret_rev, xs_ret_tup, xs_ret_lst, xs_ret_dct, xs_ret_bi, xs_ret_isi, xs_ret_call, xs_ret_callM, xs_ret_callT, xs_ret_mu, xs_ret_lc, xs_ret_lcf, ifsK_t, ifsK_f, xs_ifs, exK_a, xs_ex, frK1_a, frK_none, chK4_a, chK3_t, chK3_f, chK2_a, chK1_a, ev_chain, isNK_n, isNK_i, isNK_t, isNK_l, lcLK2_s, lcLK2_n, lcLK1_a, lcL_c, lcL_n, gt_s, st_s, asgT_nm, as2_some, asgT_tp, asgTs_nil, asgTs_cons, rlsAll_nil, rlsAll_d, rlsAll_v, abK_some, frcB_a, frcK_a, xs_frc, frR_nx, frR_ret, wipeD_nil, wipeD_cons, backD_nil, backD_cons, gt_0, st_0, rls_e, ownL_e, Option.map_some, Option.isSome_some, if_true, List.isEmpty_nil, lstK_0, lstK_1, lstK_2, lstK_3, lstK_4, lstK_5, lstK_6, tupK_0, tupK_1, tupK_2, tupK_3, tupK_4, noV_nil, noV_d, noV_1, noV_2, noV_3, noV_4, noV_5, noV_6, noV_7, noV_8, ite_tt, and_self, List.cons_append, List.nil_append, iL_1, pl_int, pl_bool, pl_none, pl_str, pl_list, pl_dict, Bool.false_eq_true, if_false, Bool.not_true, Bool.not_false, b_add, b_sub, c_eq, c_ne, c_lt, c_le, c_gt, c_ge, b_mod (j := 2147483647) (by decide), b_mod (j := 2147483629) (by decide), b_mul m1, b_mul m2, b_mul m3, b_mul m4, b_mul m5]
          rfl, _, _, _, rfl, ?_⟩
        have bf := (bn.mul bM).add (bM.mod (i := (here % 2147483647 * 48271 + 7919 * (0 + (i : Int)) + 1) % 2147483647 * ((here % 2147483647 * 48271 + 7919 * (0 + (i : Int)) + 1) % 2147483647) % 2147483629 * ((here % 2147483647 * 48271 + 7919 * (0 + (i : Int)) + 1) % 2147483647 * ((here % 2147483647 * 48271 + 7919 * (0 + (i : Int)) + 1) % 2147483647) % 2147483629 + 13)) (by decide))
        exact bf.mono (by omega)
      · rintro δ ⟨num, x4, x5, rfl, bn⟩
        simp only [rb_ok, o1_some, o1b_some, o1i_some, f2_some, rvK_some, opK_some, rlK_t, rlK_f, drK_t, drK_f, drp_e, ev_cst, ev_gl, ev_var, opd_var, od_d, od_v, negK_i, tAnd_1, tOr_1, tb_ok, ev_dct, evs_nil, eos_nil, f1_some, oc_some, ods_nil, ods_cons, isiK_some, clK_ok, ca_some, cmK_ok, cm_some, ctK_ok, ctC_some, muK_some, muF2_some, ownK_l, eoo_non, intK_i, slK_some, wkK_some, bwK_some, eit_bor, r1K_i, r2K_i, enK_t, enK_l, lcX_ok, lockI_val, lockI_bor, lockI_rng1, lockI_rng2, lockI_enum, flK_nx, flK_ret, flK_brk, xss_nil, upK_some, ptF_some, ptK_some, rtK_some, xs_retV, xs_brk, asK_some, frB_e, frK_some, xs_fr_val, xs_fr_rng1, xs_fr_rng2, xs_fr_rng3, xs_fr_enum, xs_fr_zip, dk_rng1, dk_rng2, dk_enum, dk_var, dk_cst, dk_gl, dk_bin, dk_cmp, dk_chain, dk_isN, dk_notN, dk_neg, dk_nt, dk_an, dk_orr, dk_ife, dk_ix, dk_sl, dk_rev, dk_tup, dk_lst, dk_dct, dk_bi, dk_isi, dk_call, dk_callM, dk_callT, dk_mu, dk_lc, dk_lcf, whC_a, whB_a, xs_wh, opK0_a, opd_cst, opd_gl, opd_bin, opd_cmp, opd_chain, opd_isN, opd_notN, opd_neg, opd_nt, opd_an, opd_orr, opd_ife, opd_ix, opd_sl, opd_rev, opd_tup, opd_lst, opd_dct, opd_bi, opd_isi, opd_call, opd_callM, opd_callT, opd_mu, opd_lc, opd_lcf, twoL_a, twoK_a, binG_a, cmpG_a, ixG_a, ev_bin, ev_cmp, ev_ix, oneK_a, isNG_a, negG_a, isiG_a, ev_isN, ev_notN, ev_neg, ev_isi, ntK_a, boK_a, ev_nt, ev_an, ev_orr, anK_t, anK_f, orK_t, orK_f, tAnd_2, tOr_2, ifK_t, ifK_f, ev_ife, ev_tup, ev_lst, evsL_a, evsK_a, evs_cons, eosL_a, eosK_a, eos_cons, biK_a, ev_bi, callK_a, ev_call, cmKK_a, lsK_some, lsK1_a, ev_lset, mxK1_a, ev_mxv, opd_mxv, dk_mxv, lrK_some, lrK1_a, ev_lrng, opd_lrng, dk_lrng, cnF_some, cnK_a, isLs_l, ev_cnt, opd_cnt, dk_cnt, dzK2_a, dzK1_a, ev_dzip, opd_dzip, dk_dzip, opd_lset, dk_lset, ev_callM, ctK2_a, ctK1_a, ev_callT, muKK_a, ev_mu, eoK_a, eoo_som, slK3_a, slK2_a, slK1_a, ev_sl, wvK_a, eit_val, r1K1_a, eit_rng1, r2K2_a, r2K1_a, eit_rng2, enK1_a, eit_enum, lcEK_a, lcE_a, lcCK_t, lcCK_f, lcC_a, aoK_some, lcB_a, lcK1_a, ev_lc, lcK2_a, ev_lcf, flC_nx, flC_ret, flC_brk, xss_cons, asgK_a, xs_asg, unpK_a, xs_unp, parK2_a, parK1_a, xs_par, putK2_a, putK1_a, xs_put, retK_a, xs_ret_mxv, xs_ret_lrng, xs_ret_dzip, xs_ret_cnt, xs_ret_lset, xs_ret_cst, xs_ret_gl, xs_ret_bin, xs_ret_cmp, xs_ret_chain, xs_ret_isN, xs_ret_notN, xs_ret_neg, xs_ret_nt, xs_ret_an, xs_ret_orr, xs_ret_ife, xs_ret_ix, xs_ret_sl, xs_ret_rev, xs_ret_tup, xs_ret_lst, xs_ret_dct, xs_ret_bi, xs_ret_isi, xs_ret_call, xs_ret_callM, xs_ret_callT, xs_ret_mu, xs_ret_lc, xs_ret_lcf, ifsK_t, ifsK_f, xs_ifs, exK_a, xs_ex, frK1_a, frK_none, chK4_a, chK3_t, chK3_f, chK2_a, chK1_a, ev_chain, isNK_n, isNK_i, isNK_t, isNK_l, lcLK2_s, lcLK2_n, lcLK1_a, lcL_c, lcL_n, gt_s, st_s, asgT_nm, as2_some, asgT_tp, asgTs_nil, asgTs_cons, rlsAll_nil, rlsAll_d, rlsAll_v, abK_some, frcB_a, frcK_a, xs_frc, frR_nx, frR_ret, wipeD_nil, wipeD_cons, backD_nil, backD_cons, gt_0, st_0, rls_e, ownL_e, Option.map_some, Option.isSome_some, if_true, List.isEmpty_nil, lstK_0, lstK_1, lstK_2, lstK_3, lstK_4, lstK_5, lstK_6, tupK_0, tupK_1, tupK_2, tupK_3, tupK_4, noV_nil, noV_d, noV_1, noV_2, noV_3, noV_4, noV_5, noV_6, noV_7, noV_8, ite_tt, and_self, List.cons_append, List.nil_append, iL_1, pl_int, pl_bool, pl_none, pl_str, pl_list, pl_dict, Bool.false_eq_true, if_false, Bool.not_true, Bool.not_false, b_add, b_sub, c_eq, c_ne, c_lt, c_le, c_gt, c_ge, hl1]
        exact retP_ok ⟨_, rfl, rfl⟩
  have e0 : D._law_box_v2.body = .cons (match D._law_box_v2.body with | .cons a _ => a | _ => .brk) (.cons (match D._law_box_v2.body with | .cons _ (.cons b _) => b | _ => .brk) (match D._law_box_v2.body with | .cons _ (.cons _ r) => r | _ => .nil)) := rfl
  rw [e0]
  generalize hrest : (match D._law_box_v2.body with | .cons _ (.cons _ r) => r | _ => Ss.nil) = rest at go ⊢
  by_cases c : k < ns.length
  · have c' : ((k : Int) < (ns.length : Int)) := by omega
    simp only [D._law_box_v2, entry, List.map_cons, List.map_nil, List.length_cons, List.length_nil, List.replicate, Nat.zero_add, Nat.reduceAdd, Nat.reduceSub, List.replicate_zero, List.cons_append, List.nil_append]
    simp only [rb_ok, o1_some, o1b_some, o1i_some, f2_some, rvK_some, opK_some, rlK_t, rlK_f, drK_t, drK_f, drp_e, ev_cst, ev_gl, ev_var, opd_var, od_d, od_v, negK_i, tAnd_1, tOr_1, tb_ok, ev_dct, evs_nil, eos_nil, f1_some, oc_some, ods_nil, ods_cons, isiK_some, clK_ok, ca_some, cmK_ok, cm_some, ctK_ok, ctC_some, muK_some, muF2_some, ownK_l, eoo_non, intK_i, slK_some, wkK_some, bwK_some, eit_bor, r1K_i, r2K_i, enK_t, enK_l, lcX_ok, lockI_val, lockI_bor, lockI_rng1, lockI_rng2, lockI_enum, flK_nx, flK_ret, flK_brk, xss_nil, upK_some, ptF_some, ptK_some, rtK_some, xs_retV, xs_brk, asK_some, frB_e, frK_some, xs_fr_val, xs_fr_rng1, xs_fr_rng2, xs_fr_rng3, xs_fr_enum, xs_fr_zip, dk_rng1, dk_rng2, dk_enum, dk_var, dk_cst, dk_gl, dk_bin, dk_cmp, dk_chain, dk_isN, dk_notN, dk_neg, dk_nt, dk_an, dk_orr, dk_ife, dk_ix, dk_sl, dk_rev, dk_tup, dk_lst, dk_dct, dk_bi, dk_isi, dk_call, dk_callM, dk_callT, dk_mu, dk_lc, dk_lcf, whC_a, whB_a, xs_wh, opK0_a, opd_cst, opd_gl, opd_bin, opd_cmp, opd_chain, opd_isN, opd_notN, opd_neg, opd_nt, opd_an, opd_orr, opd_ife, opd_ix, opd_sl, opd_rev, opd_tup, opd_lst, opd_dct, opd_bi, opd_isi, opd_call, opd_callM, opd_callT, opd_mu, opd_lc, opd_lcf, twoL_a, twoK_a, binG_a, cmpG_a, ixG_a, ev_bin, ev_cmp, ev_ix, oneK_a, isNG_a, negG_a, isiG_a, ev_isN, ev_notN, ev_neg, ev_isi, ntK_a, boK_a, ev_nt, ev_an, ev_orr, anK_t, anK_f, orK_t, orK_f, tAnd_2, tOr_2, ifK_t, ifK_f, ev_ife, ev_tup, ev_lst, evsL_a, evsK_a, evs_cons, eosL_a, eosK_a, eos_cons, biK_a, ev_bi, callK_a, ev_call, cmKK_a, lsK_some, lsK1_a, ev_lset, mxK1_a, ev_mxv, opd_mxv, dk_mxv, lrK_some, lrK1_a, ev_lrng, opd_lrng, dk_lrng, cnF_some, cnK_a, isLs_l, ev_cnt, opd_cnt, dk_cnt, dzK2_a, dzK1_a, ev_dzip, opd_dzip, dk_dzip, opd_lset, dk_lset, ev_callM, ctK2_a, ctK1_a, ev_callT, muKK_a, ev_mu, eoK_a, eoo_som, slK3_a, slK2_a, slK1_a, ev_sl, wvK_a, eit_val, r1K1_a, eit_rng1, r2K2_a, r2K1_a, eit_rng2, enK1_a, eit_enum, lcEK_a, lcE_a, lcCK_t, lcCK_f, lcC_a, aoK_some, lcB_a, lcK1_a, ev_lc, lcK2_a, ev_lcf, flC_nx, flC_ret, flC_brk, xss_cons, asgK_a, xs_asg, unpK_a, xs_unp, parK2_a, parK1_a, xs_par, putK2_a, putK1_a, xs_put, retK_a, xs_ret_mxv, xs_ret_lrng, xs_ret_dzip, xs_ret_cnt, xs_ret_lset, xs_ret_cst, xs_ret_gl, xs_ret_bin, xs_ret_cmp, xs_ret_chain, xs_ret_isN, xs_ret_notN, xs_ret_neg, xs_ret_nt, xs_ret_an, xs_ret_orr, xs_ret_ife, xs_ret_ix, xs_ret_sl, xs_ret_rev, xs_ret_tup, xs_ret_lst, xs_ret_dct, xs_ret_bi, xs_ret_isi, xs_ret_call, xs_ret_callM, xs_ret_callT, xs_ret_mu, xs_ret_lc, xs_ret_lcf, ifsK_t, ifsK_f, xs_ifs, exK_a, xs_ex, frK1_a, frK_none, chK4_a, chK3_t, chK3_f, chK2_a, chK1_a, ev_chain, isNK_n, isNK_i, isNK_t, isNK_l, lcLK2_s, lcLK2_n, lcLK1_a, lcL_c, lcL_n, gt_s, st_s, asgT_nm, as2_some, asgT_tp, asgTs_nil, asgTs_cons, rlsAll_nil, rlsAll_d, rlsAll_v, abK_some, frcB_a, frcK_a, xs_frc, frR_nx, frR_ret, wipeD_nil, wipeD_cons, backD_nil, backD_cons, gt_0, st_0, rls_e, ownL_e, Option.map_some, Option.isSome_some, if_true, List.isEmpty_nil, lstK_0, lstK_1, lstK_2, lstK_3, lstK_4, lstK_5, lstK_6, tupK_0, tupK_1, tupK_2, tupK_3, tupK_4, noV_nil, noV_d, noV_1, noV_2, noV_3, noV_4, noV_5, noV_6, noV_7, noV_8, ite_tt, and_self, List.cons_append, List.nil_append, iL_1, pl_int, pl_bool, pl_none, pl_str, pl_list, pl_dict, Bool.false_eq_true, if_false, Bool.not_true, Bool.not_false, b_add, b_sub, c_eq, c_ne, c_lt, c_le, c_gt, c_ge, b_mul hm, d_lenS, c', decide_true, ix_scr, atI_int c]
    exact go _
  · have c' : ¬ ((k : Int) < (ns.length : Int)) := by omega
    simp only [D._law_box_v2, entry, List.map_cons, List.map_nil, List.length_cons, List.length_nil, List.replicate, Nat.zero_add, Nat.reduceAdd, Nat.reduceSub, List.replicate_zero, List.cons_append, List.nil_append]
    simp only [rb_ok, o1_some, o1b_some, o1i_some, f2_some, rvK_some, opK_some, rlK_t, rlK_f, drK_t, drK_f, drp_e, ev_cst, ev_gl, ev_var, opd_var, od_d, od_v, negK_i, tAnd_1, tOr_1, tb_ok, ev_dct, evs_nil, eos_nil, f1_some, oc_some, ods_nil, ods_cons, isiK_some, clK_ok, ca_some, cmK_ok, cm_some, ctK_ok, ctC_some, muK_some, muF2_some, ownK_l, eoo_non, intK_i, slK_some, wkK_some, bwK_some, eit_bor, r1K_i, r2K_i, enK_t, enK_l, lcX_ok, lockI_val, lockI_bor, lockI_rng1, lockI_rng2, lockI_enum, flK_nx, flK_ret, flK_brk, xss_nil, upK_some, ptF_some, ptK_some, rtK_some, xs_retV, xs_brk, asK_some, frB_e, frK_some, xs_fr_val, xs_fr_rng1, xs_fr_rng2, xs_fr_rng3, xs_fr_enum, xs_fr_zip, dk_rng1, dk_rng2, dk_enum, dk_var, dk_cst, dk_gl, dk_bin, dk_cmp, dk_chain, dk_isN, dk_notN, dk_neg, dk_nt, dk_an, dk_orr, dk_ife, dk_ix, dk_sl, dk_rev, dk_tup, dk_lst, dk_dct, dk_bi, dk_isi, dk_call, dk_callM, dk_callT, dk_mu, dk_lc, dk_lcf, whC_a, whB_a, xs_wh, opK0_a, opd_cst, opd_gl, opd_bin, opd_cmp, opd_chain, opd_isN, opd_notN, opd_neg, opd_nt, opd_an, opd_orr, opd_ife, opd_ix, opd_sl, opd_rev, opd_tup, opd_lst, opd_dct, opd_bi, opd_isi, opd_call, opd_callM, opd_callT, opd_mu, opd_lc, opd_lcf, twoL_a, twoK_a, binG_a, cmpG_a, ixG_a, ev_bin, ev_cmp, ev_ix, oneK_a, isNG_a, negG_a, isiG_a, ev_isN, ev_notN, ev_neg, ev_isi, ntK_a, boK_a, ev_nt, ev_an, ev_orr, anK_t, anK_f, orK_t, orK_f, tAnd_2, tOr_2, ifK_t, ifK_f, ev_ife, ev_tup, ev_lst, evsL_a, evsK_a, evs_cons, eosL_a, eosK_a, eos_cons, biK_a, ev_bi, callK_a, ev_call, cmKK_a, lsK_some, lsK1_a, ev_lset, mxK1_a, ev_mxv, opd_mxv, dk_mxv, lrK_some, lrK1_a, ev_lrng, opd_lrng, dk_lrng, cnF_some, cnK_a, isLs_l, ev_cnt, opd_cnt, dk_cnt, dzK2_a, dzK1_a, ev_dzip, opd_dzip, dk_dzip, opd_lset, dk_lset, ev_callM, ctK2_a, ctK1_a, ev_callT, muKK_a, ev_mu, eoK_a, eoo_som, slK3_a, slK2_a, slK1_a, ev_sl, wvK_a, eit_val, r1K1_a, eit_rng1, r2K2_a, r2K1_a, eit_rng2, enK1_a, eit_enum, lcEK_a, lcE_a, lcCK_t, lcCK_f, lcC_a, aoK_some, lcB_a, lcK1_a, ev_lc, lcK2_a, ev_lcf, flC_nx, flC_ret, flC_brk, xss_cons, asgK_a, xs_asg, unpK_a, xs_unp, parK2_a, parK1_a, xs_par, putK2_a, putK1_a, xs_put, retK_a, xs_ret_mxv, xs_ret_lrng, xs_ret_dzip, xs_ret_cnt, xs_ret_lset, xs_ret_cst, xs_ret_gl, xs_ret_bin, xs_ret_cmp, xs_ret_chain, xs_ret_isN, xs_ret_notN, xs_ret_neg, xs_ret_nt, xs_ret_an, xs_ret_orr, xs_ret_ife, xs_ret_ix, xs_ret_sl, xs_ret_rev, xs_ret_tup, xs_ret_lst, xs_ret_dct, xs_ret_bi, xs_ret_isi, xs_ret_call, xs_ret_callM, xs_ret_callT, xs_ret_mu, xs_ret_lc, xs_ret_lcf, ifsK_t, ifsK_f, xs_ifs, exK_a, xs_ex, frK1_a, frK_none, chK4_a, chK3_t, chK3_f, chK2_a, chK1_a, ev_chain, isNK_n, isNK_i, isNK_t, isNK_l, lcLK2_s, lcLK2_n, lcLK1_a, lcL_c, lcL_n, gt_s, st_s, asgT_nm, as2_some, asgT_tp, asgTs_nil, asgTs_cons, rlsAll_nil, rlsAll_d, rlsAll_v, abK_some, frcB_a, frcK_a, xs_frc, frR_nx, frR_ret, wipeD_nil, wipeD_cons, backD_nil, backD_cons, gt_0, st_0, rls_e, ownL_e, Option.map_some, Option.isSome_some, if_true, List.isEmpty_nil, lstK_0, lstK_1, lstK_2, lstK_3, lstK_4, lstK_5, lstK_6, tupK_0, tupK_1, tupK_2, tupK_3, tupK_4, noV_nil, noV_d, noV_1, noV_2, noV_3, noV_4, noV_5, noV_6, noV_7, noV_8, ite_tt, and_self, List.cons_append, List.nil_append, iL_1, pl_int, pl_bool, pl_none, pl_str, pl_list, pl_dict, Bool.false_eq_true, if_false, Bool.not_true, Bool.not_false, b_add, b_sub, c_eq, c_ne, c_lt, c_le, c_gt, c_ge, b_mul hm, d_lenS, c', decide_false, Bool.false_eq_true, if_false]
    exact go _
end Bw

set_option maxRecDepth 100000
namespace Bw
open PySem PySem.Spec PyProof.Rows L2
/-! ### points -/
abbrev Pt := Int × Int
def encP (p : Pt) : Dt := .tuple [.int p.1, .int p.2]
def bendI (a b c : Pt) : Int := (b.1 - a.1) * (c.2 - a.2) - (b.2 - a.2) * (c.1 - a.1)
structure Sm (p : Pt) : Prop where
  x : Bd 2000 p.1
  y : Bd 2000 p.2
theorem ix_p0 (p : Pt) : ixD (encP p) (.int 0) = some (.int p.1) := (rfl)
theorem ix_p1 (p : Pt) : ixD (encP p) (.int 1) = some (.int p.2) := (rfl)
theorem pl_p (p : Pt) : plain (encP p) = true := (rfl)
theorem bend_logs {a b c : Pt} (ha : Sm a) (hb : Sm b) (hc : Sm c) : (b.1 - a.1).natAbs.log2 + (c.2 - a.2).natAbs.log2 < 1000000 ∧ (b.2 - a.2).natAbs.log2 + (c.1 - a.1).natAbs.log2 < 1000000 :=
  ⟨mul_log (hb.x.sub ha.x) (hc.y.sub ha.y) (by decide) (by decide) (by decide), mul_log (hb.y.sub ha.y) (hc.x.sub ha.x) (by decide) (by decide) (by decide)⟩
theorem lbend_ok {t : Tb} (h : t (Str.ofString "_law_bend") = some D._law_bend_v2) {n : Nat} {a b c : Pt} (ha : Sm a) (hb : Sm b) (hc : Sm c) : run t (n + 1) (Str.ofString "_law_bend") [encP a, encP b, encP c] = .ok (.int (bendI a b c)) false .none := by
  obtain ⟨l1, l2⟩ := bend_logs ha hb hc
  refine run_ret (df := D._law_bend_v2) (δ := [some (encP a, false), some (encP b, false), some (encP c, false), some (.int ((b.1 - a.1) * (c.2 - a.2)), false)]) h rfl rfl ?_
  simp only [D._law_bend_v2, entry, List.map_cons, List.map_nil, List.length_cons, List.length_nil, List.replicate, Nat.zero_add, Nat.reduceAdd, Nat.reduceSub, List.replicate_zero, List.cons_append, List.nil_append]
  simp only [rb_ok, o1_some, o1b_some, o1i_some, f2_some, rvK_some, opK_some, rlK_t, rlK_f, drK_t, drK_f, drp_e, ev_cst, ev_gl, ev_var, opd_var, od_d, od_v, negK_i, tAnd_1, tOr_1, tb_ok, ev_dct, evs_nil, eos_nil, f1_some, oc_some, ods_nil, ods_cons, isiK_some, clK_ok, ca_some, cmK_ok, cm_some, ctK_ok, ctC_some, muK_some, muF2_some, ownK_l, eoo_non, intK_i, slK_some, wkK_some, bwK_some, eit_bor, r1K_i, r2K_i, enK_t, enK_l, lcX_ok, lockI_val, lockI_bor, lockI_rng1, lockI_rng2, lockI_enum, flK_nx, flK_ret, flK_brk, xss_nil, upK_some, ptF_some, ptK_some, rtK_some, xs_retV, xs_brk, asK_some, frB_e, frK_some, xs_fr_val, xs_fr_rng1, xs_fr_rng2, xs_fr_rng3, xs_fr_enum, xs_fr_zip, dk_rng1, dk_rng2, dk_enum, dk_var, dk_cst, dk_gl, dk_bin, dk_cmp, dk_chain, dk_isN, dk_notN, dk_neg, dk_nt, dk_an, dk_orr, dk_ife, dk_ix, dk_sl, dk_rev, dk_tup, dk_lst, dk_dct, dk_bi, dk_isi, dk_call, dk_callM, dk_callT, dk_mu, dk_lc, dk_lcf, whC_a, whB_a, xs_wh, opK0_a, opd_cst, opd_gl, opd_bin, opd_cmp, opd_chain, opd_isN, opd_notN, opd_neg, opd_nt, opd_an, opd_orr, opd_ife, opd_ix, opd_sl, opd_rev, opd_tup, opd_lst, opd_dct, opd_bi, opd_isi, opd_call, opd_callM, opd_callT, opd_mu, opd_lc, opd_lcf, twoL_a, twoK_a, binG_a, cmpG_a, ixG_a, ev_bin, ev_cmp, ev_ix, oneK_a, isNG_a, negG_a, isiG_a, ev_isN, ev_notN, ev_neg, ev_isi, ntK_a, boK_a, ev_nt, ev_an, ev_orr, anK_t, anK_f, orK_t, orK_f, tAnd_2, tOr_2, ifK_t, ifK_f, ev_ife, ev_tup, ev_lst, evsL_a, evsK_a, evs_cons, eosL_a, eosK_a, eos_cons, biK_a, ev_bi, callK_a, ev_call, cmKK_a, lsK_some, lsK1_a, ev_lset, mxK1_a, ev_mxv, opd_mxv, dk_mxv, lrK_some, lrK1_a, ev_lrng, opd_lrng, dk_lrng, cnF_some, cnK_a, isLs_l, ev_cnt, opd_cnt, dk_cnt, dzK2_a, dzK1_a, ev_dzip, opd_dzip, dk_dzip, opd_lset, dk_lset, ev_callM, ctK2_a, ctK1_a, ev_callT, muKK_a, ev_mu, eoK_a, eoo_som, slK3_a, slK2_a, slK1_a, ev_sl, wvK_a, eit_val, r1K1_a, eit_rng1, r2K2_a, r2K1_a, eit_rng2, enK1_a, eit_enum, lcEK_a, lcE_a, lcCK_t, lcCK_f, lcC_a, aoK_some, lcB_a, lcK1_a, ev_lc, lcK2_a, ev_lcf, flC_nx, flC_ret, flC_brk, xss_cons, asgK_a, xs_asg, unpK_a, xs_unp, parK2_a, parK1_a, xs_par, putK2_a, putK1_a, xs_put, retK_a, xs_ret_mxv, xs_ret_lrng, xs_ret_dzip, xs_ret_cnt, xs_ret_lset, xs_ret_cst, xs_ret_gl, xs_ret_bin, xs_ret_cmp, xs_ret_chain, xs_ret_isN, xs_ret_notN, xs_ret_neg, xs_ret_nt, xs_ret_an, xs_ret_orr, xs_ret_ife, xs_ret_ix, xs_ret_sl, xs_ret_rev, xs_ret_tup, xs_ret_lst, xs_ret_dct, xs_ret_bi, xs_ret_isi, xs_ret_call, xs_ret_callM, xs_ret_callT, xs_ret_mu, xs_ret_lc, xs_ret_lcf, ifsK_t, ifsK_f, xs_ifs, exK_a, xs_ex, frK1_a, frK_none, chK4_a, chK3_t, chK3_f, chK2_a, chK1_a, ev_chain, isNK_n, isNK_i, isNK_t, isNK_l, lcLK2_s, lcLK2_n, lcLK1_a, lcL_c, lcL_n, gt_s, st_s, asgT_nm, as2_some, asgT_tp, asgTs_nil, asgTs_cons, rlsAll_nil, rlsAll_d, rlsAll_v, abK_some, frcB_a, frcK_a, xs_frc, frR_nx, frR_ret, wipeD_nil, wipeD_cons, backD_nil, backD_cons, gt_0, st_0, rls_e, ownL_e, Option.map_some, Option.isSome_some, if_true, List.isEmpty_nil, lstK_0, lstK_1, lstK_2, lstK_3, lstK_4, lstK_5, lstK_6, tupK_0, tupK_1, tupK_2, tupK_3, tupK_4, noV_nil, noV_d, noV_1, noV_2, noV_3, noV_4, noV_5, noV_6, noV_7, noV_8, ite_tt, and_self, List.cons_append, List.nil_append, iL_1, pl_int, pl_bool, pl_none, pl_str, pl_list, pl_dict, Bool.false_eq_true, if_false, Bool.not_true, Bool.not_false, b_add, b_sub, c_eq, c_ne, c_lt, c_le, c_gt, c_ge, ix_p0, ix_p1, b_mul l1, b_mul l2]
  rfl
theorem bend_ok {t : Tb} (h : t (Str.ofString "bend") = some D.bend) {n : Nat} {a b c : Pt} (ha : Sm a) (hb : Sm b) (hc : Sm c) : run t (n + 1) (Str.ofString "bend") [encP a, encP b, encP c] = .ok (.int (bendI a b c)) false .none := by
  obtain ⟨l1, l2⟩ := bend_logs ha hb hc
  refine run_ret (df := D.bend) (δ := [some (encP a, false), some (encP b, false), some (encP c, false)]) h rfl rfl ?_
  simp only [D.bend, entry, List.map_cons, List.map_nil, List.length_cons, List.length_nil, List.replicate, Nat.zero_add, Nat.reduceAdd, Nat.reduceSub, List.replicate_zero, List.cons_append, List.nil_append]
  simp only [rb_ok, o1_some, o1b_some, o1i_some, f2_some, rvK_some, opK_some, rlK_t, rlK_f, drK_t, drK_f, drp_e, ev_cst, ev_gl, ev_var, opd_var, od_d, od_v, negK_i, tAnd_1, tOr_1, tb_ok, ev_dct, evs_nil, eos_nil, f1_some, oc_some, ods_nil, ods_cons, isiK_some, clK_ok, ca_some, cmK_ok, cm_some, ctK_ok, ctC_some, muK_some, muF2_some, ownK_l, eoo_non, intK_i, slK_some, wkK_some, bwK_some, eit_bor, r1K_i, r2K_i, enK_t, enK_l, lcX_ok, lockI_val, lockI_bor, lockI_rng1, lockI_rng2, lockI_enum, flK_nx, flK_ret, flK_brk, xss_nil, upK_some, ptF_some, ptK_some, rtK_some, xs_retV, xs_brk, asK_some, frB_e, frK_some, xs_fr_val, xs_fr_rng1, xs_fr_rng2, xs_fr_rng3, xs_fr_enum, xs_fr_zip, dk_rng1, dk_rng2, dk_enum, dk_var, dk_cst, dk_gl, dk_bin, dk_cmp, dk_chain, dk_isN, dk_notN, dk_neg, dk_nt, dk_an, dk_orr, dk_ife, dk_ix, dk_sl, dk_rev, dk_tup, dk_lst, dk_dct, dk_bi, dk_isi, dk_call, dk_callM, dk_callT, dk_mu, dk_lc, dk_lcf, whC_a, whB_a, xs_wh, opK0_a, opd_cst, opd_gl, opd_bin, opd_cmp, opd_chain, opd_isN, opd_notN, opd_neg, opd_nt, opd_an, opd_orr, opd_ife, opd_ix, opd_sl, opd_rev, opd_tup, opd_lst, opd_dct, opd_bi, opd_isi, opd_call, opd_callM, opd_callT, opd_mu, opd_lc, opd_lcf, twoL_a, twoK_a, binG_a, cmpG_a, ixG_a, ev_bin, ev_cmp, ev_ix, oneK_a, isNG_a, negG_a, isiG_a, ev_isN, ev_notN, ev_neg, ev_isi, ntK_a, boK_a, ev_nt, ev_an, ev_orr, anK_t, anK_f, orK_t, orK_f, tAnd_2, tOr_2, ifK_t, ifK_f, ev_ife, ev_tup, ev_lst, evsL_a, evsK_a, evs_cons, eosL_a, eosK_a, eos_cons, biK_a, ev_bi, callK_a, ev_call, cmKK_a, lsK_some, lsK1_a, ev_lset, mxK1_a, ev_mxv, opd_mxv, dk_mxv, lrK_some, lrK1_a, ev_lrng, opd_lrng, dk_lrng, cnF_some, cnK_a, isLs_l, ev_cnt, opd_cnt, dk_cnt, dzK2_a, dzK1_a, ev_dzip, opd_dzip, dk_dzip, opd_lset, dk_lset, ev_callM, ctK2_a, ctK1_a, ev_callT, muKK_a, ev_mu, eoK_a, eoo_som, slK3_a, slK2_a, slK1_a, ev_sl, wvK_a, eit_val, r1K1_a, eit_rng1, r2K2_a, r2K1_a, eit_rng2, enK1_a, eit_enum, lcEK_a, lcE_a, lcCK_t, lcCK_f, lcC_a, aoK_some, lcB_a, lcK1_a, ev_lc, lcK2_a, ev_lcf, flC_nx, flC_ret, flC_brk, xss_cons, asgK_a, xs_asg, unpK_a, xs_unp, parK2_a, parK1_a, xs_par, putK2_a, putK1_a, xs_put, retK_a, xs_ret_mxv, xs_ret_lrng, xs_ret_dzip, xs_ret_cnt, xs_ret_lset, xs_ret_cst, xs_ret_gl, xs_ret_bin, xs_ret_cmp, xs_ret_chain, xs_ret_isN, xs_ret_notN, xs_ret_neg, xs_ret_nt, xs_ret_an, xs_ret_orr, xs_ret_ife, xs_ret_ix, xs_ret_sl, xs_ret_rev, xs_ret_tup, xs_ret_lst, xs_ret_dct, xs_ret_bi, xs_ret_isi, xs_ret_call, xs_ret_callM, xs_ret_callT, xs_ret_mu, xs_ret_lc, xs_ret_lcf, ifsK_t, ifsK_f, xs_ifs, exK_a, xs_ex, frK1_a, frK_none, chK4_a, chK3_t, chK3_f, chK2_a, chK1_a, ev_chain, isNK_n, isNK_i, isNK_t, isNK_l, lcLK2_s, lcLK2_n, lcLK1_a, lcL_c, lcL_n, gt_s, st_s, asgT_nm, as2_some, asgT_tp, asgTs_nil, asgTs_cons, rlsAll_nil, rlsAll_d, rlsAll_v, abK_some, frcB_a, frcK_a, xs_frc, frR_nx, frR_ret, wipeD_nil, wipeD_cons, backD_nil, backD_cons, gt_0, st_0, rls_e, ownL_e, Option.map_some, Option.isSome_some, if_true, List.isEmpty_nil, lstK_0, lstK_1, lstK_2, lstK_3, lstK_4, lstK_5, lstK_6, tupK_0, tupK_1, tupK_2, tupK_3, tupK_4, noV_nil, noV_d, noV_1, noV_2, noV_3, noV_4, noV_5, noV_6, noV_7, noV_8, ite_tt, and_self, List.cons_append, List.nil_append, iL_1, pl_int, pl_bool, pl_none, pl_str, pl_list, pl_dict, Bool.false_eq_true, if_false, Bool.not_true, Bool.not_false, b_add, b_sub, c_eq, c_ne, c_lt, c_le, c_gt, c_ge, ix_p0, ix_p1, b_mul l1, b_mul l2]
  rfl
theorem big_of {n : Nat} (h : n < 1000000) : big (n : Int) = true := by
  unfold big
  rw [decide_eq_true (by omega), decide_eq_true (by omega)]; rfl
/-- a list or tuple of points -/
structure IsSeq (s : Dt) (ps : List Pt) : Prop where
  len : biD .len [s] = some (.int ps.length, false)
  ix : ∀ (i : Nat) (p : Pt), ps[i]? = some p → ixD s (.int i) = some (encP p)
  lt : ps.length < 1000000
  sm : ∀ p ∈ ps, Sm p
theorem atI_map {α : Type} {f : α → Dt} {xs : List α} {i : Nat} {x : α} (h : xs[i]? = some x) : atI (xs.map f) (i : Int) = some (f x) := by
  have hi := (List.getElem?_eq_some_iff.mp h).1
  rw [atI_nn (by rw [List.length_map]; exact hi)]
  rw [List.getElem_map]
  rw [List.getElem?_eq_getElem hi] at h
  cases h; rfl
def encT (ps : List Pt) : Dt := .tuple (ps.map encP)
def encL (ps : List Pt) : Dt := .list (ps.map encP)
theorem seqT {ps : List Pt} (hl : ps.length < 1000000) (hs : ∀ p ∈ ps, Sm p) : IsSeq (encT ps) ps :=
  ⟨by unfold encT; rw [d_lenT, List.length_map], fun i p h => atI_map h, hl, hs⟩
theorem seqL {ps : List Pt} (hl : ps.length < 1000000) (hs : ∀ p ∈ ps, Sm p) : IsSeq (encL ps) ps :=
  ⟨by unfold encL; rw [d_len, List.length_map], fun i p h => atI_map h, hl, hs⟩
/-- p lies on no line through two of ps -/
def Free (ps : List Pt) (p : Pt) : Prop := ∀ (j k : Nat) (a b : Pt), j < k → ps[j]? = some a → ps[k]? = some b → bendI a b p ≠ 0
theorem free_body {cl : Cl} {s : Dt} {ps : List Pt} {p : Pt} (q : IsSeq s ps) (hp : Sm p) (hb : ∀ a b c : Pt, Sm a → Sm b → Sm c → cl (Str.ofString "_law_bend") [encP a, encP b, encP c] = .ok (.int (bendI a b c)) false .none) :
    RetP (fun d w _ => w = false ∧ ((d = .bool true ∧ Free ps p) ∨ (d = .bool false ∧ ¬ Free ps p))) (xss cl D._law_free_v2.body (entry D._law_free_v2 [s, encP p])) := by
  simp only [D._law_free_v2, entry, List.map_cons, List.map_nil, List.length_cons, List.length_nil, List.replicate, Nat.zero_add, Nat.reduceAdd, Nat.reduceSub, List.replicate_zero, List.cons_append, List.nil_append]
  have hbl := big_of q.lt
  simp only [rb_ok, o1_some, o1b_some, o1i_some, f2_some, rvK_some, opK_some, rlK_t, rlK_f, drK_t, drK_f, drp_e, ev_cst, ev_gl, ev_var, opd_var, od_d, od_v, negK_i, tAnd_1, tOr_1, tb_ok, ev_dct, evs_nil, eos_nil, f1_some, oc_some, ods_nil, ods_cons, isiK_some, clK_ok, ca_some, cmK_ok, cm_some, ctK_ok, ctC_some, muK_some, muF2_some, ownK_l, eoo_non, intK_i, slK_some, wkK_some, bwK_some, eit_bor, r1K_i, r2K_i, enK_t, enK_l, lcX_ok, lockI_val, lockI_bor, lockI_rng1, lockI_rng2, lockI_enum, flK_nx, flK_ret, flK_brk, xss_nil, upK_some, ptF_some, ptK_some, rtK_some, xs_retV, xs_brk, asK_some, frB_e, frK_some, xs_fr_val, xs_fr_rng1, xs_fr_rng2, xs_fr_rng3, xs_fr_enum, xs_fr_zip, dk_rng1, dk_rng2, dk_enum, dk_var, dk_cst, dk_gl, dk_bin, dk_cmp, dk_chain, dk_isN, dk_notN, dk_neg, dk_nt, dk_an, dk_orr, dk_ife, dk_ix, dk_sl, dk_rev, dk_tup, dk_lst, dk_dct, dk_bi, dk_isi, dk_call, dk_callM, dk_callT, dk_mu, dk_lc, dk_lcf, whC_a, whB_a, xs_wh, opK0_a, opd_cst, opd_gl, opd_bin, opd_cmp, opd_chain, opd_isN, opd_notN, opd_neg, opd_nt, opd_an, opd_orr, opd_ife, opd_ix, opd_sl, opd_rev, opd_tup, opd_lst, opd_dct, opd_bi, opd_isi, opd_call, opd_callM, opd_callT, opd_mu, opd_lc, opd_lcf, twoL_a, twoK_a, binG_a, cmpG_a, ixG_a, ev_bin, ev_cmp, ev_ix, oneK_a, isNG_a, negG_a, isiG_a, ev_isN, ev_notN, ev_neg, ev_isi, ntK_a, boK_a, ev_nt, ev_an, ev_orr, anK_t, anK_f, orK_t, orK_f, tAnd_2, tOr_2, ifK_t, ifK_f, ev_ife, ev_tup, ev_lst, evsL_a, evsK_a, evs_cons, eosL_a, eosK_a, eos_cons, biK_a, ev_bi, callK_a, ev_call, cmKK_a, lsK_some, lsK1_a, ev_lset, mxK1_a, ev_mxv, opd_mxv, dk_mxv, lrK_some, lrK1_a, ev_lrng, opd_lrng, dk_lrng, cnF_some, cnK_a, isLs_l, ev_cnt, opd_cnt, dk_cnt, dzK2_a, dzK1_a, ev_dzip, opd_dzip, dk_dzip, opd_lset, dk_lset, ev_callM, ctK2_a, ctK1_a, ev_callT, muKK_a, ev_mu, eoK_a, eoo_som, slK3_a, slK2_a, slK1_a, ev_sl, wvK_a, eit_val, r1K1_a, eit_rng1, r2K2_a, r2K1_a, eit_rng2, enK1_a, eit_enum, lcEK_a, lcE_a, lcCK_t, lcCK_f, lcC_a, aoK_some, lcB_a, lcK1_a, ev_lc, lcK2_a, ev_lcf, flC_nx, flC_ret, flC_brk, xss_cons, asgK_a, xs_asg, unpK_a, xs_unp, parK2_a, parK1_a, xs_par, putK2_a, putK1_a, xs_put, retK_a, xs_ret_mxv, xs_ret_lrng, xs_ret_dzip, xs_ret_cnt, xs_ret_lset, xs_ret_cst, xs_ret_gl, xs_ret_bin, xs_ret_cmp, xs_ret_chain, xs_ret_isN, xs_ret_notN, xs_ret_neg, xs_ret_nt, xs_ret_an, xs_ret_orr, xs_ret_ife, xs_ret_ix, xs_ret_sl, xs_ret_rev, xs_ret_tup, xs_ret_lst, xs_ret_dct, xs_ret_bi, xs_ret_isi, xs_ret_call, xs_ret_callM, xs_ret_callT, xs_ret_mu, xs_ret_lc, xs_ret_lcf, ifsK_t, ifsK_f, xs_ifs, exK_a, xs_ex, frK1_a, frK_none, chK4_a, chK3_t, chK3_f, chK2_a, chK1_a, ev_chain, isNK_n, isNK_i, isNK_t, isNK_l, lcLK2_s, lcLK2_n, lcLK1_a, lcL_c, lcL_n, gt_s, st_s, asgT_nm, as2_some, asgT_tp, asgTs_nil, asgTs_cons, rlsAll_nil, rlsAll_d, rlsAll_v, abK_some, frcB_a, frcK_a, xs_frc, frR_nx, frR_ret, wipeD_nil, wipeD_cons, backD_nil, backD_cons, gt_0, st_0, rls_e, ownL_e, Option.map_some, Option.isSome_some, if_true, List.isEmpty_nil, lstK_0, lstK_1, lstK_2, lstK_3, lstK_4, lstK_5, lstK_6, tupK_0, tupK_1, tupK_2, tupK_3, tupK_4, noV_nil, noV_d, noV_1, noV_2, noV_3, noV_4, noV_5, noV_6, noV_7, noV_8, ite_tt, and_self, List.cons_append, List.nil_append, iL_1, pl_int, pl_bool, pl_none, pl_str, pl_list, pl_dict, Bool.false_eq_true, if_false, Bool.not_true, Bool.not_false, b_add, b_sub, c_eq, c_ne, c_lt, c_le, c_gt, c_ge, q.len, hbl]
  refine ret_for (fun i δ => ∃ x2 x3 : Option (Dt × Bool), δ = [some (s, false), some (encP p, false), x2, x3] ∧ ∀ (j k : Nat) (a b : Pt), j < k → k < i → ps[j]? = some a → ps[k]? = some b → bendI a b p ≠ 0) ⟨none, none, rfl, fun j k a b h1 h2 => absurd h2 (Nat.not_lt_zero _)⟩ ?_ ?_
  · rintro i d δ hd ⟨x2, x3, rfl, hI⟩
    obtain ⟨rfl, hi⟩ := rngL_get hd
    rw [Int.toNat_natCast] at hi
    rw [Int.zero_add]
    have hbi : big (i : Int) = true := big_of (by have := q.lt; omega)
    simp only [rb_ok, o1_some, o1b_some, o1i_some, f2_some, rvK_some, opK_some, rlK_t, rlK_f, drK_t, drK_f, drp_e, ev_cst, ev_gl, ev_var, opd_var, od_d, od_v, negK_i, tAnd_1, tOr_1, tb_ok, ev_dct, evs_nil, eos_nil, f1_some, oc_some, ods_nil, ods_cons, isiK_some, clK_ok, ca_some, cmK_ok, cm_some, ctK_ok, ctC_some, muK_some, muF2_some, ownK_l, eoo_non, intK_i, slK_some, wkK_some, bwK_some, eit_bor, r1K_i, r2K_i, enK_t, enK_l, lcX_ok, lockI_val, lockI_bor, lockI_rng1, lockI_rng2, lockI_enum, flK_nx, flK_ret, flK_brk, xss_nil, upK_some, ptF_some, ptK_some, rtK_some, xs_retV, xs_brk, asK_some, frB_e, frK_some, xs_fr_val, xs_fr_rng1, xs_fr_rng2, xs_fr_rng3, xs_fr_enum, xs_fr_zip, dk_rng1, dk_rng2, dk_enum, dk_var, dk_cst, dk_gl, dk_bin, dk_cmp, dk_chain, dk_isN, dk_notN, dk_neg, dk_nt, dk_an, dk_orr, dk_ife, dk_ix, dk_sl, dk_rev, dk_tup, dk_lst, dk_dct, dk_bi, dk_isi, dk_call, dk_callM, dk_callT, dk_mu, dk_lc, dk_lcf, whC_a, whB_a, xs_wh, opK0_a, opd_cst, opd_gl, opd_bin, opd_cmp, opd_chain, opd_isN, opd_notN, opd_neg, opd_nt, opd_an, opd_orr, opd_ife, opd_ix, opd_sl, opd_rev, opd_tup, opd_lst, opd_dct, opd_bi, opd_isi, opd_call, opd_callM, opd_callT, opd_mu, opd_lc, opd_lcf, twoL_a, twoK_a, binG_a, cmpG_a, ixG_a, ev_bin, ev_cmp, ev_ix, oneK_a, isNG_a, negG_a, isiG_a, ev_isN, ev_notN, ev_neg, ev_isi, ntK_a, boK_a, ev_nt, ev_an, ev_orr, anK_t, anK_f, orK_t, orK_f, tAnd_2, tOr_2, ifK_t, ifK_f, ev_ife, ev_tup, ev_lst, evsL_a, evsK_a, evs_cons, eosL_a, eosK_a, eos_cons, biK_a, ev_bi, callK_a, ev_call, cmKK_a, lsK_some, lsK1_a, ev_lset, mxK1_a, ev_mxv, opd_mxv, dk_mxv, lrK_some, lrK1_a, ev_lrng, opd_lrng, dk_lrng, cnF_some, cnK_a, isLs_l, ev_cnt, opd_cnt, dk_cnt, dzK2_a, dzK1_a, ev_dzip, opd_dzip, dk_dzip, opd_lset, dk_lset, ev_callM, ctK2_a, ctK1_a, ev_callT, muKK_a, ev_mu, eoK_a, eoo_som, slK3_a, slK2_a, slK1_a, ev_sl, wvK_a, eit_val, r1K1_a, eit_rng1, r2K2_a, r2K1_a, eit_rng2, enK1_a, eit_enum, lcEK_a, lcE_a, lcCK_t, lcCK_f, lcC_a, aoK_some, lcB_a, lcK1_a, ev_lc, lcK2_a, ev_lcf, flC_nx, flC_ret, flC_brk, xss_cons, asgK_a, xs_asg, unpK_a, xs_unp, parK2_a, parK1_a, xs_par, putK2_a, putK1_a, xs_put, retK_a, xs_ret_mxv, xs_ret_lrng, xs_ret_dzip, xs_ret_cnt, xs_ret_lset, xs_ret_cst, xs_ret_gl, xs_ret_bin, xs_ret_cmp, xs_ret_chain, xs_ret_isN, xs_ret_notN, xs_ret_neg, xs_ret_nt, xs_ret_an, xs_ret_orr, xs_ret_ife, xs_ret_ix, xs_ret_sl, xs_ret_rev, xs_ret_tup, xs_ret_lst, xs_ret_dct, xs_ret_bi, xs_ret_isi, xs_ret_call, xs_ret_callM, xs_ret_callT, xs_ret_mu, xs_ret_lc, xs_ret_lcf, ifsK_t, ifsK_f, xs_ifs, exK_a, xs_ex, frK1_a, frK_none, chK4_a, chK3_t, chK3_f, chK2_a, chK1_a, ev_chain, isNK_n, isNK_i, isNK_t, isNK_l, lcLK2_s, lcLK2_n, lcLK1_a, lcL_c, lcL_n, gt_s, st_s, asgT_nm, as2_some, asgT_tp, asgTs_nil, asgTs_cons, rlsAll_nil, rlsAll_d, rlsAll_v, abK_some, frcB_a, frcK_a, xs_frc, frR_nx, frR_ret, wipeD_nil, wipeD_cons, backD_nil, backD_cons, gt_0, st_0, rls_e, ownL_e, Option.map_some, Option.isSome_some, if_true, List.isEmpty_nil, lstK_0, lstK_1, lstK_2, lstK_3, lstK_4, lstK_5, lstK_6, tupK_0, tupK_1, tupK_2, tupK_3, tupK_4, noV_nil, noV_d, noV_1, noV_2, noV_3, noV_4, noV_5, noV_6, noV_7, noV_8, ite_tt, and_self, List.cons_append, List.nil_append, iL_1, pl_int, pl_bool, pl_none, pl_str, pl_list, pl_dict, Bool.false_eq_true, if_false, Bool.not_true, Bool.not_false, b_add, b_sub, c_eq, c_ne, c_lt, c_le, c_gt, c_ge, hbi]
    obtain ⟨b, hb'⟩ : ∃ b, ps[i]? = some b := ⟨ps[i], by simp [hi]⟩
    refine nr_for (fun m δ => ∃ x3 : Option (Dt × Bool), δ = [some (s, false), some (encP p, false), some (.int i, false), x3] ∧ ∀ (j : Nat) (a : Pt), j < m → j < i → ps[j]? = some a → bendI a b p ≠ 0) ⟨x3, rfl, fun j a h => absurd h (Nat.not_lt_zero _)⟩ ?_ ?_
    · rintro m d δ hd ⟨x3, rfl, hJ⟩
      obtain ⟨rfl, hm⟩ := rngL_get hd
      rw [Int.toNat_natCast] at hm
      rw [Int.zero_add]
      obtain ⟨a, ha'⟩ : ∃ a, ps[m]? = some a := ⟨ps[m], by simp [Nat.lt_trans hm hi]⟩
      have e := hb a b p (q.sm a (List.mem_of_getElem? ha')) (q.sm b (List.mem_of_getElem? hb')) hp
      by_cases c : bendI a b p = 0
      · have c' : (bendI a b p == 0) = true := by simpa using c
        simp only [rb_ok, o1_some, o1b_some, o1i_some, f2_some, rvK_some, opK_some, rlK_t, rlK_f, drK_t, drK_f, drp_e, ev_cst, ev_gl, ev_var, opd_var, od_d, od_v, negK_i, tAnd_1, tOr_1, tb_ok, ev_dct, evs_nil, eos_nil, f1_some, oc_some, ods_nil, ods_cons, isiK_some, clK_ok, ca_some, cmK_ok, cm_some, ctK_ok, ctC_some, muK_some, muF2_some, ownK_l, eoo_non, intK_i, slK_some, wkK_some, bwK_some, eit_bor, r1K_i, r2K_i, enK_t, enK_l, lcX_ok, lockI_val, lockI_bor, lockI_rng1, lockI_rng2, lockI_enum, flK_nx, flK_ret, flK_brk, xss_nil, upK_some, ptF_some, ptK_some, rtK_some, xs_retV, xs_brk, asK_some, frB_e, frK_some, xs_fr_val, xs_fr_rng1, xs_fr_rng2, xs_fr_rng3, xs_fr_enum, xs_fr_zip, dk_rng1, dk_rng2, dk_enum, dk_var, dk_cst, dk_gl, dk_bin, dk_cmp, dk_chain, dk_isN, dk_notN, dk_neg, dk_nt, dk_an, dk_orr, dk_ife, dk_ix, dk_sl, dk_rev, dk_tup, dk_lst, dk_dct, dk_bi, dk_isi, dk_call, dk_callM, dk_callT, dk_mu, dk_lc, dk_lcf, whC_a, whB_a, xs_wh, opK0_a, opd_cst, opd_gl, opd_bin, opd_cmp, opd_chain, opd_isN, opd_notN, opd_neg, opd_nt, opd_an, opd_orr, opd_ife, opd_ix, opd_sl, opd_rev, opd_tup, opd_lst, opd_dct, opd_bi, opd_isi, opd_call, opd_callM, opd_callT, opd_mu, opd_lc, opd_lcf, twoL_a, twoK_a, binG_a, cmpG_a, ixG_a, ev_bin, ev_cmp, ev_ix, oneK_a, isNG_a, negG_a, isiG_a, ev_isN, ev_notN, ev_neg, ev_isi, ntK_a, boK_a, ev_nt, ev_an, ev_orr, anK_t, anK_f, orK_t, orK_f, tAnd_2, tOr_2, ifK_t, ifK_f, ev_ife, ev_tup, ev_lst, evsL_a, evsK_a, evs_cons, eosL_a, eosK_a, eos_cons, biK_a, ev_bi, callK_a, ev_call, cmKK_a, lsK_some, lsK1_a, ev_lset, mxK1_a, ev_mxv, opd_mxv, dk_mxv, lrK_some, lrK1_a, ev_lrng, opd_lrng, dk_lrng, cnF_some, cnK_a, isLs_l, ev_cnt, opd_cnt, dk_cnt, dzK2_a, dzK1_a, ev_dzip, opd_dzip, dk_dzip, opd_lset, dk_lset, ev_callM, ctK2_a, ctK1_a, ev_callT, muKK_a, ev_mu, eoK_a, eoo_som, slK3_a, slK2_a, slK1_a, ev_sl, wvK_a, eit_val, r1K1_a, eit_rng1, r2K2_a, r2K1_a, eit_rng2, enK1_a, eit_enum, lcEK_a, lcE_a, lcCK_t, lcCK_f, lcC_a, aoK_some, lcB_a, lcK1_a, ev_lc, lcK2_a, ev_lcf, flC_nx, flC_ret, flC_brk, xss_cons, asgK_a, xs_asg, unpK_a, xs_unp, parK2_a, parK1_a, xs_par, putK2_a, putK1_a, xs_put, retK_a, xs_ret_mxv, xs_ret_lrng, xs_ret_dzip, xs_ret_cnt, xs_ret_lset, xs_ret_cst, xs_ret_gl, xs_ret_bin, xs_ret_cmp, xs_ret_chain, xs_ret_isN, xs_ret_notN, xs_ret_neg, xs_ret_nt, xs_ret_an, xs_ret_orr, xs_ret_ife, xs_ret_ix, xs_ret_sl, xs_ret_rev, xs_ret_tup, xs_ret_lst, xs_ret_dct, xs_ret_bi, xs_ret_isi, xs_ret_call, xs_ret_callM, xs_ret_callT, xs_ret_mu, xs_ret_lc, xs_ret_lcf, ifsK_t, ifsK_f, xs_ifs, exK_a, xs_ex, frK1_a, frK_none, chK4_a, chK3_t, chK3_f, chK2_a, chK1_a, ev_chain, isNK_n, isNK_i, isNK_t, isNK_l, lcLK2_s, lcLK2_n, lcLK1_a, lcL_c, lcL_n, gt_s, st_s, asgT_nm, as2_some, asgT_tp, asgTs_nil, asgTs_cons, rlsAll_nil, rlsAll_d, rlsAll_v, abK_some, frcB_a, frcK_a, xs_frc, frR_nx, frR_ret, wipeD_nil, wipeD_cons, backD_nil, backD_cons, gt_0, st_0, rls_e, ownL_e, Option.map_some, Option.isSome_some, if_true, List.isEmpty_nil, lstK_0, lstK_1, lstK_2, lstK_3, lstK_4, lstK_5, lstK_6, tupK_0, tupK_1, tupK_2, tupK_3, tupK_4, noV_nil, noV_d, noV_1, noV_2, noV_3, noV_4, noV_5, noV_6, noV_7, noV_8, ite_tt, and_self, List.cons_append, List.nil_append, iL_1, pl_int, pl_bool, pl_none, pl_str, pl_list, pl_dict, Bool.false_eq_true, if_false, Bool.not_true, Bool.not_false, b_add, b_sub, c_eq, c_ne, c_lt, c_le, c_gt, c_ge, q.ix m a ha', q.ix i b hb', e, pl_int, c']
        exact nr_ret ⟨rfl, .inr ⟨rfl, fun z => z m i a b hm ha' hb' c⟩⟩
      · have c' : (bendI a b p == 0) = false := by simpa using c
        simp only [rb_ok, o1_some, o1b_some, o1i_some, f2_some, rvK_some, opK_some, rlK_t, rlK_f, drK_t, drK_f, drp_e, ev_cst, ev_gl, ev_var, opd_var, od_d, od_v, negK_i, tAnd_1, tOr_1, tb_ok, ev_dct, evs_nil, eos_nil, f1_some, oc_some, ods_nil, ods_cons, isiK_some, clK_ok, ca_some, cmK_ok, cm_some, ctK_ok, ctC_some, muK_some, muF2_some, ownK_l, eoo_non, intK_i, slK_some, wkK_some, bwK_some, eit_bor, r1K_i, r2K_i, enK_t, enK_l, lcX_ok, lockI_val, lockI_bor, lockI_rng1, lockI_rng2, lockI_enum, flK_nx, flK_ret, flK_brk, xss_nil, upK_some, ptF_some, ptK_some, rtK_some, xs_retV, xs_brk, asK_some, frB_e, frK_some, xs_fr_val, xs_fr_rng1, xs_fr_rng2, xs_fr_rng3, xs_fr_enum, xs_fr_zip, dk_rng1, dk_rng2, dk_enum, dk_var, dk_cst, dk_gl, dk_bin, dk_cmp, dk_chain, dk_isN, dk_notN, dk_neg, dk_nt, dk_an, dk_orr, dk_ife, dk_ix, dk_sl, dk_rev, dk_tup, dk_lst, dk_dct, dk_bi, dk_isi, dk_call, dk_callM, dk_callT, dk_mu, dk_lc, dk_lcf, whC_a, whB_a, xs_wh, opK0_a, opd_cst, opd_gl, opd_bin, opd_cmp, opd_chain, opd_isN, opd_notN, opd_neg, opd_nt, opd_an, opd_orr, opd_ife, opd_ix, opd_sl, opd_rev, opd_tup, opd_lst, opd_dct, opd_bi, opd_isi, opd_call, opd_callM, opd_callT, opd_mu, opd_lc, opd_lcf, twoL_a, twoK_a, binG_a, cmpG_a, ixG_a, ev_bin, ev_cmp, ev_ix, oneK_a, isNG_a, negG_a, isiG_a, ev_isN, ev_notN, ev_neg, ev_isi, ntK_a, boK_a, ev_nt, ev_an, ev_orr, anK_t, anK_f, orK_t, orK_f, tAnd_2, tOr_2, ifK_t, ifK_f, ev_ife, ev_tup, ev_lst, evsL_a, evsK_a, evs_cons, eosL_a, eosK_a, eos_cons, biK_a, ev_bi, callK_a, ev_call, cmKK_a, lsK_some, lsK1_a, ev_lset, mxK1_a, ev_mxv, opd_mxv, dk_mxv, lrK_some, lrK1_a, ev_lrng, opd_lrng, dk_lrng, cnF_some, cnK_a, isLs_l, ev_cnt, opd_cnt, dk_cnt, dzK2_a, dzK1_a, ev_dzip, opd_dzip, dk_dzip, opd_lset, dk_lset, ev_callM, ctK2_a, ctK1_a, ev_callT, muKK_a, ev_mu, eoK_a, eoo_som, slK3_a, slK2_a, slK1_a, ev_sl, wvK_a, eit_val, r1K1_a, eit_rng1, r2K2_a, r2K1_a, eit_rng2, enK1_a, eit_enum, lcEK_a, lcE_a, lcCK_t, lcCK_f, lcC_a, aoK_some, lcB_a, lcK1_a, ev_lc, lcK2_a, ev_lcf, flC_nx, flC_ret, flC_brk, xss_cons, asgK_a, xs_asg, unpK_a, xs_unp, parK2_a, parK1_a, xs_par, putK2_a, putK1_a, xs_put, retK_a, xs_ret_mxv, xs_ret_lrng, xs_ret_dzip, xs_ret_cnt, xs_ret_lset, xs_ret_cst, xs_ret_gl, xs_ret_bin, xs_ret_cmp, xs_ret_chain, xs_ret_isN, xs_ret_notN, xs_ret_neg, xs_ret_nt, xs_ret_an, xs_ret_orr, xs_ret_ife, xs_ret_ix, xs_ret_sl, xs_ret_rev, xs_ret_tup, xs_ret_lst, xs_ret_dct, xs_ret_bi, xs_ret_isi, xs_ret_call, xs_ret_callM, xs_ret_callT, xs_ret_mu, xs_ret_lc, xs_ret_lcf, ifsK_t, ifsK_f, xs_ifs, exK_a, xs_ex, frK1_a, frK_none, chK4_a, chK3_t, chK3_f, chK2_a, chK1_a, ev_chain, isNK_n, isNK_i, isNK_t, isNK_l, lcLK2_s, lcLK2_n, lcLK1_a, lcL_c, lcL_n, gt_s, st_s, asgT_nm, as2_some, asgT_tp, asgTs_nil, asgTs_cons, rlsAll_nil, rlsAll_d, rlsAll_v, abK_some, frcB_a, frcK_a, xs_frc, frR_nx, frR_ret, wipeD_nil, wipeD_cons, backD_nil, backD_cons, gt_0, st_0, rls_e, ownL_e, Option.map_some, Option.isSome_some, if_true, List.isEmpty_nil, lstK_0, lstK_1, lstK_2, lstK_3, lstK_4, lstK_5, lstK_6, tupK_0, tupK_1, tupK_2, tupK_3, tupK_4, noV_nil, noV_d, noV_1, noV_2, noV_3, noV_4, noV_5, noV_6, noV_7, noV_8, ite_tt, and_self, List.cons_append, List.nil_append, iL_1, pl_int, pl_bool, pl_none, pl_str, pl_list, pl_dict, Bool.false_eq_true, if_false, Bool.not_true, Bool.not_false, b_add, b_sub, c_eq, c_ne, c_lt, c_le, c_gt, c_ge, q.ix m a ha', q.ix i b hb', e, pl_int, c']
        refine nr_nx ⟨_, rfl, fun j a' h1 h2 h3 => ?_⟩
        by_cases hj : j = m
        · subst hj; rw [ha'] at h3; cases h3; exact c
        · exact hJ j a' (by omega) h2 h3
    · rintro δ ⟨x3, rfl, hJ⟩
      rw [rngL_len, Int.toNat_natCast] at hJ
      simp only [rb_ok, o1_some, o1b_some, o1i_some, f2_some, rvK_some, opK_some, rlK_t, rlK_f, drK_t, drK_f, drp_e, ev_cst, ev_gl, ev_var, opd_var, od_d, od_v, negK_i, tAnd_1, tOr_1, tb_ok, ev_dct, evs_nil, eos_nil, f1_some, oc_some, ods_nil, ods_cons, isiK_some, clK_ok, ca_some, cmK_ok, cm_some, ctK_ok, ctC_some, muK_some, muF2_some, ownK_l, eoo_non, intK_i, slK_some, wkK_some, bwK_some, eit_bor, r1K_i, r2K_i, enK_t, enK_l, lcX_ok, lockI_val, lockI_bor, lockI_rng1, lockI_rng2, lockI_enum, flK_nx, flK_ret, flK_brk, xss_nil, upK_some, ptF_some, ptK_some, rtK_some, xs_retV, xs_brk, asK_some, frB_e, frK_some, xs_fr_val, xs_fr_rng1, xs_fr_rng2, xs_fr_rng3, xs_fr_enum, xs_fr_zip, dk_rng1, dk_rng2, dk_enum, dk_var, dk_cst, dk_gl, dk_bin, dk_cmp, dk_chain, dk_isN, dk_notN, dk_neg, dk_nt, dk_an, dk_orr, dk_ife, dk_ix, dk_sl, dk_rev, dk_tup, dk_lst, dk_dct, dk_bi, dk_isi, dk_call, dk_callM, dk_callT, dk_mu, dk_lc, dk_lcf, whC_a, whB_a, xs_wh, opK0_a, opd_cst, opd_gl, opd_bin, opd_cmp, opd_chain, opd_isN, opd_notN, opd_neg, opd_nt, opd_an, opd_orr, opd_ife, opd_ix, opd_sl, opd_rev, opd_tup, opd_lst, opd_dct, opd_bi, opd_isi, opd_call, opd_callM, opd_callT, opd_mu, opd_lc, opd_lcf, twoL_a, twoK_a, binG_a, cmpG_a, ixG_a, ev_bin, ev_cmp, ev_ix, oneK_a, isNG_a, negG_a, isiG_a, ev_isN, ev_notN, ev_neg, ev_isi, ntK_a, boK_a, ev_nt, ev_an, ev_orr, anK_t, anK_f, orK_t, orK_f, tAnd_2, tOr_2, ifK_t, ifK_f, ev_ife, ev_tup, ev_lst, evsL_a, evsK_a, evs_cons, eosL_a, eosK_a, eos_cons, biK_a, ev_bi, callK_a, ev_call, cmKK_a, lsK_some, lsK1_a, ev_lset, mxK1_a, ev_mxv, opd_mxv, dk_mxv, lrK_some, lrK1_a, ev_lrng, opd_lrng, dk_lrng, cnF_some, cnK_a, isLs_l, ev_cnt, opd_cnt, dk_cnt, dzK2_a, dzK1_a, ev_dzip, opd_dzip, dk_dzip, opd_lset, dk_lset, ev_callM, ctK2_a, ctK1_a, ev_callT, muKK_a, ev_mu, eoK_a, eoo_som, slK3_a, slK2_a, slK1_a, ev_sl, wvK_a, eit_val, r1K1_a, eit_rng1, r2K2_a, r2K1_a, eit_rng2, enK1_a, eit_enum, lcEK_a, lcE_a, lcCK_t, lcCK_f, lcC_a, aoK_some, lcB_a, lcK1_a, ev_lc, lcK2_a, ev_lcf, flC_nx, flC_ret, flC_brk, xss_cons, asgK_a, xs_asg, unpK_a, xs_unp, parK2_a, parK1_a, xs_par, putK2_a, putK1_a, xs_put, retK_a, xs_ret_mxv, xs_ret_lrng, xs_ret_dzip, xs_ret_cnt, xs_ret_lset, xs_ret_cst, xs_ret_gl, xs_ret_bin, xs_ret_cmp, xs_ret_chain, xs_ret_isN, xs_ret_notN, xs_ret_neg, xs_ret_nt, xs_ret_an, xs_ret_orr, xs_ret_ife, xs_ret_ix, xs_ret_sl, xs_ret_rev, xs_ret_tup, xs_ret_lst, xs_ret_dct, xs_ret_bi, xs_ret_isi, xs_ret_call, xs_ret_callM, xs_ret_callT, xs_ret_mu, xs_ret_lc, xs_ret_lcf, ifsK_t, ifsK_f, xs_ifs, exK_a, xs_ex, frK1_a, frK_none, chK4_a, chK3_t, chK3_f, chK2_a, chK1_a, ev_chain, isNK_n, isNK_i, isNK_t, isNK_l, lcLK2_s, lcLK2_n, lcLK1_a, lcL_c, lcL_n, gt_s, st_s, asgT_nm, as2_some, asgT_tp, asgTs_nil, asgTs_cons, rlsAll_nil, rlsAll_d, rlsAll_v, abK_some, frcB_a, frcK_a, xs_frc, frR_nx, frR_ret, wipeD_nil, wipeD_cons, backD_nil, backD_cons, gt_0, st_0, rls_e, ownL_e, Option.map_some, Option.isSome_some, if_true, List.isEmpty_nil, lstK_0, lstK_1, lstK_2, lstK_3, lstK_4, lstK_5, lstK_6, tupK_0, tupK_1, tupK_2, tupK_3, tupK_4, noV_nil, noV_d, noV_1, noV_2, noV_3, noV_4, noV_5, noV_6, noV_7, noV_8, ite_tt, and_self, List.cons_append, List.nil_append, iL_1, pl_int, pl_bool, pl_none, pl_str, pl_list, pl_dict, Bool.false_eq_true, if_false, Bool.not_true, Bool.not_false, b_add, b_sub, c_eq, c_ne, c_lt, c_le, c_gt, c_ge]
      refine nr_nx ⟨_, _, rfl, fun j k a b' h1 h2 h3 h4 => ?_⟩
      by_cases hk : k = i
      · subst hk; rw [hb'] at h4; cases h4; exact hJ j a h1 h1 h3
      · exact hI j k a b' h1 (by omega) h3 h4
  · rintro δ ⟨x2, x3, rfl, hI⟩
    rw [rngL_len, Int.toNat_natCast] at hI
    simp only [rb_ok, o1_some, o1b_some, o1i_some, f2_some, rvK_some, opK_some, rlK_t, rlK_f, drK_t, drK_f, drp_e, ev_cst, ev_gl, ev_var, opd_var, od_d, od_v, negK_i, tAnd_1, tOr_1, tb_ok, ev_dct, evs_nil, eos_nil, f1_some, oc_some, ods_nil, ods_cons, isiK_some, clK_ok, ca_some, cmK_ok, cm_some, ctK_ok, ctC_some, muK_some, muF2_some, ownK_l, eoo_non, intK_i, slK_some, wkK_some, bwK_some, eit_bor, r1K_i, r2K_i, enK_t, enK_l, lcX_ok, lockI_val, lockI_bor, lockI_rng1, lockI_rng2, lockI_enum, flK_nx, flK_ret, flK_brk, xss_nil, upK_some, ptF_some, ptK_some, rtK_some, xs_retV, xs_brk, asK_some, frB_e, frK_some, xs_fr_val, xs_fr_rng1, xs_fr_rng2, xs_fr_rng3, xs_fr_enum, xs_fr_zip, dk_rng1, dk_rng2, dk_enum, dk_var, dk_cst, dk_gl, dk_bin, dk_cmp, dk_chain, dk_isN, dk_notN, dk_neg, dk_nt, dk_an, dk_orr, dk_ife, dk_ix, dk_sl, dk_rev, dk_tup, dk_lst, dk_dct, dk_bi, dk_isi, dk_call, dk_callM, dk_callT, dk_mu, dk_lc, dk_lcf, whC_a, whB_a, xs_wh, opK0_a, opd_cst, opd_gl, opd_bin, opd_cmp, opd_chain, opd_isN, opd_notN, opd_neg, opd_nt, opd_an, opd_orr, opd_ife, opd_ix, opd_sl, opd_rev, opd_tup, opd_lst, opd_dct, opd_bi, opd_isi, opd_call, opd_callM, opd_callT, opd_mu, opd_lc, opd_lcf, twoL_a, twoK_a, binG_a, cmpG_a, ixG_a, ev_bin, ev_cmp, ev_ix, oneK_a, isNG_a, negG_a, isiG_a, ev_isN, ev_notN, ev_neg, ev_isi, ntK_a, boK_a, ev_nt, ev_an, ev_orr, anK_t, anK_f, orK_t, orK_f, tAnd_2, tOr_2, ifK_t, ifK_f, ev_ife, ev_tup, ev_lst, evsL_a, evsK_a, evs_cons, eosL_a, eosK_a, eos_cons, biK_a, ev_bi, callK_a, ev_call, cmKK_a, lsK_some, lsK1_a, ev_lset, mxK1_a, ev_mxv, opd_mxv, dk_mxv, lrK_some, lrK1_a, ev_lrng, opd_lrng, dk_lrng, cnF_some, cnK_a, isLs_l, ev_cnt, opd_cnt, dk_cnt, dzK2_a, dzK1_a, ev_dzip, opd_dzip, dk_dzip, opd_lset, dk_lset, ev_callM, ctK2_a, ctK1_a, ev_callT, muKK_a, ev_mu, eoK_a, eoo_som, slK3_a, slK2_a, slK1_a, ev_sl, wvK_a, eit_val, r1K1_a, eit_rng1, r2K2_a, r2K1_a, eit_rng2, enK1_a, eit_enum, lcEK_a, lcE_a, lcCK_t, lcCK_f, lcC_a, aoK_some, lcB_a, lcK1_a, ev_lc, lcK2_a, ev_lcf, flC_nx, flC_ret, flC_brk, xss_cons, asgK_a, xs_asg, unpK_a, xs_unp, parK2_a, parK1_a, xs_par, putK2_a, putK1_a, xs_put, retK_a, xs_ret_mxv, xs_ret_lrng, xs_ret_dzip, xs_ret_cnt, xs_ret_lset, xs_ret_cst, xs_ret_gl, xs_ret_bin, xs_ret_cmp, xs_ret_chain, xs_ret_isN, xs_ret_notN, xs_ret_neg, xs_ret_nt, xs_ret_an, xs_ret_orr, xs_ret_ife, xs_ret_ix, xs_ret_sl, xs_ret_rev, xs_ret_tup, xs_ret_lst, xs_ret_dct, xs_ret_bi, xs_ret_isi, xs_ret_call, xs_ret_callM, xs_ret_callT, xs_ret_mu, xs_ret_lc, xs_ret_lcf, ifsK_t, ifsK_f, xs_ifs, exK_a, xs_ex, frK1_a, frK_none, chK4_a, chK3_t, chK3_f, chK2_a, chK1_a, ev_chain, isNK_n, isNK_i, isNK_t, isNK_l, lcLK2_s, lcLK2_n, lcLK1_a, lcL_c, lcL_n, gt_s, st_s, asgT_nm, as2_some, asgT_tp, asgTs_nil, asgTs_cons, rlsAll_nil, rlsAll_d, rlsAll_v, abK_some, frcB_a, frcK_a, xs_frc, frR_nx, frR_ret, wipeD_nil, wipeD_cons, backD_nil, backD_cons, gt_0, st_0, rls_e, ownL_e, Option.map_some, Option.isSome_some, if_true, List.isEmpty_nil, lstK_0, lstK_1, lstK_2, lstK_3, lstK_4, lstK_5, lstK_6, tupK_0, tupK_1, tupK_2, tupK_3, tupK_4, noV_nil, noV_d, noV_1, noV_2, noV_3, noV_4, noV_5, noV_6, noV_7, noV_8, ite_tt, and_self, List.cons_append, List.nil_append, iL_1, pl_int, pl_bool, pl_none, pl_str, pl_list, pl_dict, Bool.false_eq_true, if_false, Bool.not_true, Bool.not_false, b_add, b_sub, c_eq, c_ne, c_lt, c_le, c_gt, c_ge]
    refine retP_ok ⟨rfl, .inl ⟨rfl, fun j k a b h1 h2 h3 => hI j k a b h1 (List.getElem?_eq_some_iff.mp h3).1 h2 h3⟩⟩
theorem free_ok {t : Tb} (h : t (Str.ofString "_law_free") = some D._law_free_v2) (h2 : t (Str.ofString "_law_bend") = some D._law_bend_v2) {n : Nat} {s : Dt} {ps : List Pt} {p : Pt} (q : IsSeq s ps) (hp : Sm p) :
    (Free ps p ∧ run t (n + 2) (Str.ofString "_law_free") [s, encP p] = .ok (.bool true) false .none) ∨ (¬ Free ps p ∧ run t (n + 2) (Str.ofString "_law_free") [s, encP p] = .ok (.bool false) false .none) := by
  obtain ⟨d, w, δ, e, rfl, hd⟩ := run_retP (t := t) (n := n + 1) (as := [s, encP p]) h rfl rfl (free_body (cl := run t (n + 1)) q hp fun a b c ha hb hc => lbend_ok h2 ha hb hc)
  rcases hd with ⟨rfl, hd⟩ | ⟨rfl, hd⟩
  · exact .inl ⟨hd, e⟩
  · exact .inr ⟨hd, e⟩
end Bw

set_option maxRecDepth 100000
namespace Bw
open PySem PySem.Spec PyProof.Rows L2
/-! ### the law's sheets -/
/-- no three on a line -/
def NoLine (ps : List Pt) : Prop := ∀ (i j k : Nat) (a b c : Pt), i < j → j < k → ps[i]? = some a → ps[j]? = some b → ps[k]? = some c → bendI a b c ≠ 0
def Rising (ps : List Pt) : Prop := ∀ (i j : Nat) (a b : Pt), i < j → ps[i]? = some a → ps[j]? = some b → a.1 < b.1
structure Sheet (ps : List Pt) : Prop where
  ne : 1 ≤ ps.length
  rise : Rising ps
  line : NoLine ps
  sm : ∀ p ∈ ps, Sm p
theorem get_snoc {α : Type} {xs : List α} {x y : α} {i : Nat} (h : (xs ++ [x])[i]? = some y) : (i < xs.length ∧ xs[i]? = some y) ∨ (i = xs.length ∧ y = x) := by
  by_cases hi : i < xs.length
  · rw [List.getElem?_append_left hi] at h; exact .inl ⟨hi, h⟩
  · rw [List.getElem?_append_right (by omega)] at h
    have : i - xs.length = 0 := by
      rcases Nat.eq_zero_or_pos (i - xs.length) with e | e
      · exact e
      · rw [List.getElem?_eq_none (by simp; omega)] at h; cases h
    rw [this] at h
    simp at h
    exact .inr ⟨by omega, h.symm⟩
theorem NoLine.snoc {ps : List Pt} {p : Pt} (h : NoLine ps) (f : Free ps p) : NoLine (ps ++ [p]) := by
  intro i j k a b c h1 h2 h3 h4 h5
  have hk : k ≤ ps.length := by
    rcases get_snoc h5 with ⟨z, _⟩ | ⟨z, _⟩ <;> omega
  have h3' : ps[i]? = some a := by
    rcases get_snoc h3 with ⟨_, z⟩ | ⟨z, _⟩
    · exact z
    · omega
  have h4' : ps[j]? = some b := by
    rcases get_snoc h4 with ⟨_, z⟩ | ⟨z, _⟩
    · exact z
    · omega
  rcases get_snoc h5 with ⟨_, z⟩ | ⟨_, rfl⟩
  · exact h i j k a b c h1 h2 h3' h4' z
  · exact f i j a b h1 h3' h4'
theorem Rising.snoc {ps : List Pt} {p : Pt} (h : Rising ps) (f : ∀ q ∈ ps, q.1 < p.1) : Rising (ps ++ [p]) := by
  intro i j a b h1 h3 h4
  have h3' : ps[i]? = some a := by
    rcases get_snoc h3 with ⟨_, z⟩ | ⟨z, _⟩
    · exact z
    · rcases get_snoc h4 with ⟨_, z'⟩ | ⟨z', _⟩ <;> omega
  rcases get_snoc h4 with ⟨_, z⟩ | ⟨_, rfl⟩
  · exact h i j a b h1 h3' z
  · exact f a (List.mem_of_getElem? h3')
theorem sum_const {α : Type} : ∀ (l : List α) (n : Nat), (l.map fun _ => n).sum = l.length * n
  | [], n => by simp
  | a :: l, n => by rw [List.map_cons, List.sum_cons, sum_const l n, List.length_cons, Nat.succ_mul, Nat.add_comm]
/-- near any y there is one on no line -/
theorem near_free {ps : List Pt} (hr : Rising ps) (x y : Int) (hx : ∀ q ∈ ps, q.1 < x) : ∃ n : Nat, n ≤ ps.length * ps.length ∧ Free ps (x, y + n) ∧ ∀ i : Nat, i < n → ¬ Free ps (x, y + i) := by
  have hl : (ps.flatMap fun a => ps.map fun b => a.2 + ((b.2 - a.2) * (x - a.1)) / (b.1 - a.1)).length = ps.length * ps.length := by
    rw [List.length_flatMap]
    simp only [List.length_map]
    exact sum_const ps ps.length
  obtain ⟨t, h1, h2⟩ := pigeon _ (ps.flatMap fun a => ps.map fun b => a.2 + ((b.2 - a.2) * (x - a.1)) / (b.1 - a.1)) y rfl
  have hf : Free ps (x, y + t) := fun j k a b hjk ha hb e => h2 (List.mem_flatMap.mpr ⟨a, List.mem_of_getElem? ha, List.mem_map.mpr ⟨b, List.mem_of_getElem? hb, ?_⟩⟩)
  · obtain ⟨n, g1, g2, g3⟩ := least (P := fun n => Free ps (x, y + (n : Int))) hf
    exact ⟨n, by omega, g2, g3⟩
  · have hd : 0 < b.1 - a.1 := by have := hr j k a b hjk ha hb; omega
    unfold bendI at e
    simp only at e
    have e2 : (b.2 - a.2) * (x - a.1) = (b.1 - a.1) * (y + t - a.2) := by omega
    rw [e2, Int.mul_ediv_cancel_left _ (by omega)]
    omega
/-- the points so far -/
structure Part (ps : List Pt) (i : Nat) (x : Int) : Prop where
  len : ps.length = i
  rise : Rising ps
  line : NoLine ps
  le : ∀ p ∈ ps, p.1 ≤ x
  sm : ∀ p ∈ ps, Bd 20 p.1 ∧ Bd 60 p.2
theorem sm_of {p : Pt} (h : Bd 20 p.1 ∧ Bd 60 p.2) : Sm p := ⟨h.1.mono (by decide), h.2.mono (by decide)⟩
def scale (p : Pt) : Pt := (p.1 * 1000000000000, p.2 * 1000000000000000 + 7)
theorem bend_scale (a b c : Pt) : bendI (scale a) (scale b) (scale c) = 1000000000000 * 1000000000000000 * bendI a b c := by
  unfold bendI scale
  simp only
  have h1 : b.1 * 1000000000000 - a.1 * 1000000000000 = 1000000000000 * (b.1 - a.1) := by omega
  have h2 : c.2 * 1000000000000000 + 7 - (a.2 * 1000000000000000 + 7) = 1000000000000000 * (c.2 - a.2) := by omega
  have h3 : b.2 * 1000000000000000 + 7 - (a.2 * 1000000000000000 + 7) = 1000000000000000 * (b.2 - a.2) := by omega
  have h4 : c.1 * 1000000000000 - a.1 * 1000000000000 = 1000000000000 * (c.1 - a.1) := by omega
  rw [h1, h2, h3, h4]
  generalize b.1 - a.1 = u
  generalize c.2 - a.2 = v
  generalize b.2 - a.2 = w
  generalize c.1 - a.1 = z
  rw [Int.mul_sub]
  congr 1 <;> ac_rfl
theorem Part.sheet {ps : List Pt} {i : Nat} {x : Int} (h : Part ps i x) (hi : 1 ≤ i) : Sheet ps := ⟨by rw [h.len]; exact hi, h.rise, h.line, fun p hp => sm_of (h.sm p hp)⟩
theorem get_map {α β : Type} {f : α → β} {xs : List α} {i : Nat} {y : β} (h : (xs.map f)[i]? = some y) : ∃ x, xs[i]? = some x ∧ y = f x := by
  rw [List.getElem?_map] at h
  cases e : xs[i]? with
  | none => rw [e] at h; cases h
  | some x => rw [e] at h; cases h; exact ⟨x, rfl, rfl⟩
theorem Part.scaled {ps : List Pt} {i : Nat} {x : Int} (h : Part ps i x) (hi : 1 ≤ i) : Sheet (ps.map scale) := by
  refine ⟨by rw [List.length_map, h.len]; exact hi, fun i j a b h1 h2 h3 => ?_, fun i j k a b c h1 h2 h3 h4 h5 => ?_, fun p hp => ?_⟩
  · obtain ⟨a', g1, rfl⟩ := get_map h2
    obtain ⟨b', g2, rfl⟩ := get_map h3
    have := h.rise i j a' b' h1 g1 g2
    unfold scale; simp only; omega
  · obtain ⟨a', g1, rfl⟩ := get_map h3
    obtain ⟨b', g2, rfl⟩ := get_map h4
    obtain ⟨c', g3, rfl⟩ := get_map h5
    rw [bend_scale]
    have := h.line i j k a' b' c' h1 h2 g1 g2 g3
    intro z
    rcases Int.mul_eq_zero.mp z with z | z
    · revert z; decide
    · exact this z
  · obtain ⟨q, hq, rfl⟩ := List.mem_map.mp hp
    obtain ⟨b1, b2⟩ := h.sm q hq
    have k1 : Bd 40 (1000000000000 : Int) := Bd.of (by decide) (by decide)
    have k2 : Bd 50 (1000000000000000 : Int) := Bd.of (by decide) (by decide)
    have k3 : Bd 3 (7 : Int) := Bd.of (by decide) (by decide)
    exact ⟨(b1.mul k1).mono (by decide), ((b2.mul k2).add k3).mono (by decide)⟩
theorem Part.scaledB {ps : List Pt} {i : Nat} {x : Int} (h : Part ps i x) : ∀ p ∈ ps.map scale, Bd 120 p.1 ∧ Bd 120 p.2 := fun p hp => by
  obtain ⟨q, hq, rfl⟩ := List.mem_map.mp hp
  obtain ⟨b1, b2⟩ := h.sm q hq
  have k1 : Bd 40 (1000000000000 : Int) := Bd.of (by decide) (by decide)
  have k2 : Bd 50 (1000000000000000 : Int) := Bd.of (by decide) (by decide)
  have k3 : Bd 3 (7 : Int) := Bd.of (by decide) (by decide)
  exact ⟨(b1.mul k1).mono (by decide), ((b2.mul k2).add k3).mono (by decide)⟩
end Bw

set_option maxRecDepth 100000
namespace Bw
open PySem PySem.Spec PyProof.Rows L2
theorem fin_ret {Q : Dt → Bool → De → Prop} {d : Dt} {w : Bool} {δ : De} (h : Q d w δ) : RetP Q (.ok (.ret d w) δ) := retP_ok h
theorem sheet_body {cl : Cl} {x : Int} {m : Nat} (hm : 1 ≤ m ∧ m ≤ 24) (ht : ∀ x k : Int, 0 < k → k < 1073741824 → cl (Str.ofString "_law_take") [.list [.int x], .int k] = .ok (.int (x % k)) false (.list [.int (x / k)]))
    (hf : ∀ (ps : List Pt) (p : Pt), ps.length < 1000000 → (∀ q ∈ ps, Sm q) → Sm p → (Free ps p ∧ cl (Str.ofString "_law_free") [encL ps, encP p] = .ok (.bool true) false .none) ∨ (¬ Free ps p ∧ cl (Str.ofString "_law_free") [encL ps, encP p] = .ok (.bool false) false .none)) :
    RetP (fun d w δ => ∃ (ps : List Pt) (x' : Int), d = encT ps ∧ w = false ∧ gt δ 0 = some (.list [.int x'], true) ∧ Sheet ps ∧ ps.length ≤ m ∧ ∀ p ∈ ps, Bd 120 p.1 ∧ Bd 120 p.2) (xss cl D._law_sheet_v2.body (entry D._law_sheet_v2 [.list [.int x], .int m])) := by
  have tm := fun x => ht x (m : Int) (by omega) (by omega)
  have t5 := fun x => ht x 5 (by decide) (by decide)
  have t9 := fun x => ht x 9 (by decide) (by decide)
  have t3 := fun x => ht x 3 (by decide) (by decide)
  have t40 := fun x => ht x 40 (by decide) (by decide)
  have t6 := fun x => ht x 6 (by decide) (by decide)
  have hmod : 0 ≤ x % (m : Int) ∧ x % (m : Int) < m := ⟨Int.emod_nonneg _ (by omega), Int.emod_lt_of_pos _ (by omega)⟩
  have hbig : big (1 + x % (m : Int)) = true := by
    unfold big
    rw [decide_eq_true (by omega), decide_eq_true (by omega)]; rfl
  have hkind : 0 ≤ x / (m : Int) % 5 ∧ x / (m : Int) % 5 < 5 := ⟨Int.emod_nonneg _ (by decide), Int.emod_lt_of_pos _ (by decide)⟩
  have h9 : 0 ≤ x / (m : Int) / 5 % 9 ∧ x / (m : Int) / 5 % 9 < 9 := ⟨Int.emod_nonneg _ (by decide), Int.emod_lt_of_pos _ (by decide)⟩
  simp only [D._law_sheet_v2, entry, List.map_cons, List.map_nil, List.length_cons, List.length_nil, List.replicate, Nat.zero_add, Nat.reduceAdd, Nat.reduceSub, List.replicate_zero, List.cons_append, List.nil_append]
  simp only [rb_ok, o1_some, o1b_some, o1i_some, f2_some, rvK_some, opK_some, rlK_t, rlK_f, drK_t, drK_f, drp_e, ev_cst, ev_gl, ev_var, opd_var, od_d, od_v, negK_i, tAnd_1, tOr_1, tb_ok, ev_dct, evs_nil, eos_nil, f1_some, oc_some, ods_nil, ods_cons, isiK_some, clK_ok, ca_some, cmK_ok, cm_some, ctK_ok, ctC_some, muK_some, muF2_some, ownK_l, eoo_non, intK_i, slK_some, wkK_some, bwK_some, eit_bor, r1K_i, r2K_i, enK_t, enK_l, lcX_ok, lockI_val, lockI_bor, lockI_rng1, lockI_rng2, lockI_enum, flK_nx, flK_ret, flK_brk, xss_nil, upK_some, ptF_some, ptK_some, rtK_some, xs_retV, xs_brk, asK_some, frB_e, frK_some, xs_fr_val, xs_fr_rng1, xs_fr_rng2, xs_fr_rng3, xs_fr_enum, xs_fr_zip, dk_rng1, dk_rng2, dk_enum, dk_var, dk_cst, dk_gl, dk_bin, dk_cmp, dk_chain, dk_isN, dk_notN, dk_neg, dk_nt, dk_an, dk_orr, dk_ife, dk_ix, dk_sl, dk_rev, dk_tup, dk_lst, dk_dct, dk_bi, dk_isi, dk_call, dk_callM, dk_callT, dk_mu, dk_lc, dk_lcf, whC_a, whB_a, xs_wh, opK0_a, opd_cst, opd_gl, opd_bin, opd_cmp, opd_chain, opd_isN, opd_notN, opd_neg, opd_nt, opd_an, opd_orr, opd_ife, opd_ix, opd_sl, opd_rev, opd_tup, opd_lst, opd_dct, opd_bi, opd_isi, opd_call, opd_callM, opd_callT, opd_mu, opd_lc, opd_lcf, twoL_a, twoK_a, binG_a, cmpG_a, ixG_a, ev_bin, ev_cmp, ev_ix, oneK_a, isNG_a, negG_a, isiG_a, ev_isN, ev_notN, ev_neg, ev_isi, ntK_a, boK_a, ev_nt, ev_an, ev_orr, anK_t, anK_f, orK_t, orK_f, tAnd_2, tOr_2, ifK_t, ifK_f, ev_ife, ev_tup, ev_lst, evsL_a, evsK_a, evs_cons, eosL_a, eosK_a, eos_cons, biK_a, ev_bi, callK_a, ev_call, cmKK_a, lsK_some, lsK1_a, ev_lset, mxK1_a, ev_mxv, opd_mxv, dk_mxv, lrK_some, lrK1_a, ev_lrng, opd_lrng, dk_lrng, cnF_some, cnK_a, isLs_l, ev_cnt, opd_cnt, dk_cnt, dzK2_a, dzK1_a, ev_dzip, opd_dzip, dk_dzip, opd_lset, dk_lset, ev_callM, ctK2_a, ctK1_a, ev_callT, muKK_a, ev_mu, eoK_a, eoo_som, slK3_a, slK2_a, slK1_a, ev_sl, wvK_a, eit_val, r1K1_a, eit_rng1, r2K2_a, r2K1_a, eit_rng2, enK1_a, eit_enum, lcEK_a, lcE_a, lcCK_t, lcCK_f, lcC_a, aoK_some, lcB_a, lcK1_a, ev_lc, lcK2_a, ev_lcf, flC_nx, flC_ret, flC_brk, xss_cons, asgK_a, xs_asg, unpK_a, xs_unp, parK2_a, parK1_a, xs_par, putK2_a, putK1_a, xs_put, retK_a, xs_ret_mxv, xs_ret_lrng, xs_ret_dzip, xs_ret_cnt, xs_ret_lset, xs_ret_cst, xs_ret_gl, xs_ret_bin, xs_ret_cmp, xs_ret_chain, xs_ret_isN, xs_ret_notN, xs_ret_neg, xs_ret_nt, xs_ret_an, xs_ret_orr, xs_ret_ife, xs_ret_ix, xs_ret_sl, xs_ret_rev, xs_ret_tup, xs_ret_lst, xs_ret_dct, xs_ret_bi, xs_ret_isi, xs_ret_call, xs_ret_callM, xs_ret_callT, xs_ret_mu, xs_ret_lc, xs_ret_lcf, ifsK_t, ifsK_f, xs_ifs, exK_a, xs_ex, frK1_a, frK_none, chK4_a, chK3_t, chK3_f, chK2_a, chK1_a, ev_chain, isNK_n, isNK_i, isNK_t, isNK_l, lcLK2_s, lcLK2_n, lcLK1_a, lcL_c, lcL_n, gt_s, st_s, asgT_nm, as2_some, asgT_tp, asgTs_nil, asgTs_cons, rlsAll_nil, rlsAll_d, rlsAll_v, abK_some, frcB_a, frcK_a, xs_frc, frR_nx, frR_ret, wipeD_nil, wipeD_cons, backD_nil, backD_cons, gt_0, st_0, rls_e, ownL_e, Option.map_some, Option.isSome_some, if_true, List.isEmpty_nil, lstK_0, lstK_1, lstK_2, lstK_3, lstK_4, lstK_5, lstK_6, tupK_0, tupK_1, tupK_2, tupK_3, tupK_4, noV_nil, noV_d, noV_1, noV_2, noV_3, noV_4, noV_5, noV_6, noV_7, noV_8, ite_tt, and_self, List.cons_append, List.nil_append, iL_1, pl_int, pl_bool, pl_none, pl_str, pl_list, pl_dict, Bool.false_eq_true, if_false, Bool.not_true, Bool.not_false, b_add, b_sub, c_eq, c_ne, c_lt, c_le, c_gt, c_ge, tm, t5, t9, hbig]
  generalize x / (m : Int) % 5 = kind at hkind
  generalize x / (m : Int) / 5 % 9 = st9 at h9
  generalize x / (m : Int) / 5 / 9 = bx0
  refine ret_for (fun i δ => ∃ (bx xx : Int) (ps : List Pt) (x6 x7 x8 : Option (Dt × Bool)), δ = [some (.list [.int bx], true), some (.int m, false), some (.int (1 + x % (m : Int)), false), some (.int kind, false), some (.int xx, false), some (encL ps, true), x6, x7, x8] ∧ Part ps i xx ∧ -9 ≤ xx ∧ xx ≤ 3 * i)
    ⟨bx0, 0 - st9, [], none, none, none, rfl, ⟨rfl, (fun i j a b _ h => by simp at h), (fun i j k a b c _ _ h => by simp at h), (fun p hp => nomatch hp), (fun p hp => nomatch hp)⟩, by omega, by omega⟩ ?_ ?_
  · rintro i d δ hd ⟨bx, xx, ps, x6, x7, x8, rfl, P, h1, h2⟩
    obtain ⟨rfl, hi⟩ := rngL_get hd
    have hi24 : i < 24 := by omega
    rw [Int.zero_add]
    have b3 : 0 ≤ bx % 3 ∧ bx % 3 < 3 := ⟨Int.emod_nonneg _ (by decide), Int.emod_lt_of_pos _ (by decide)⟩
    generalize hX : xx + 1 + bx % 3 = X
    have bX : Bd 7 X := Bd.of (by omega) (by omega)
    have hlog := mul_log bX bX (by decide) (by decide) (by decide)
    have hXX : 0 ≤ X * X ∧ X * X < 16384 := by
      have := bX.mul bX
      unfold Bd at this
      have h0 : 0 ≤ X * X := by
        rcases Int.le_total 0 X with h | h
        · exact Int.mul_nonneg h h
        · have := Int.mul_nonneg (Int.neg_nonneg.mpr h) (Int.neg_nonneg.mpr h)
          rw [Int.neg_mul_neg] at this; exact this
      omega
    generalize hXs : X * X = XX at hXX
    obtain ⟨bent, e1, hbent⟩ := ix_l2 (a := XX) (b := 0 - XX) (k := (i : Int) % 2) ⟨Int.emod_nonneg _ (by decide), Int.emod_lt_of_pos _ (by decide)⟩
    have m40 : 0 ≤ bx / 3 % 40 ∧ bx / 3 % 40 < 40 := ⟨Int.emod_nonneg _ (by decide), Int.emod_lt_of_pos _ (by decide)⟩
    have m6 : 0 ≤ bx / 3 / 40 % 6 ∧ bx / 3 / 40 % 6 < 6 := ⟨Int.emod_nonneg _ (by decide), Int.emod_lt_of_pos _ (by decide)⟩
    obtain ⟨y0, e2, hy0⟩ := ix_l5 (a := bx / 3 % 40) (b := XX) (c := 9 - XX) (d := bent) (e := bx / 3 / 40 % 6) (k := kind) hkind
    obtain ⟨y1, rfl⟩ : ∃ y1 : Int, y0 = y1 + ((0 : Nat) : Int) := ⟨y0, by simp⟩
    have by0 : -20000 < y1 ∧ y1 < 20000 := by omega
    obtain ⟨n, hn, hfr, hnf⟩ := near_free (ps := ps) P.rise X y1 fun q hq => by have := P.le q hq; omega
    have hn2 : n ≤ 576 := by
      rw [P.len] at hn
      exact Nat.le_trans hn (Nat.mul_le_mul (Nat.le_of_lt hi24) (Nat.le_of_lt hi24))
    have hps : ps.length < 1000000 := by rw [P.len]; omega
    have hsp : ∀ q ∈ ps, Sm q := fun q hq => sm_of (P.sm q hq)
    have smy : ∀ j : Nat, j ≤ n → Sm (X, y1 + (j : Int)) := fun j hj => ⟨bX.mono (by decide), (Bd.of (k := 20) (by omega) (by omega)).mono (by decide)⟩
    have cf : ∀ j : Nat, j < n → cl (Str.ofString "_law_free") [encL ps, .tuple [.int X, .int (y1 + (j : Int))]] = .ok (.bool false) false .none := fun j hj => by
      rcases hf ps (X, y1 + (j : Int)) hps hsp (smy j (by omega)) with ⟨z, _⟩ | ⟨_, z⟩
      · exact absurd z (hnf j hj)
      · exact z
    have ct : cl (Str.ofString "_law_free") [encL ps, .tuple [.int X, .int (y1 + (n : Int))]] = .ok (.bool true) false .none := by
      rcases hf ps (X, y1 + (n : Int)) hps hsp (smy n (Nat.le_refl _)) with ⟨_, z⟩ | ⟨z, _⟩
      · exact z
      · exact absurd hfr z
    have hlen : (ps.map encP).length < lim := lim_lt (by rw [List.length_map]; exact hps)
    simp only [rb_ok, o1_some, o1b_some, o1i_some, f2_some, rvK_some, opK_some, rlK_t, rlK_f, drK_t, drK_f, drp_e, ev_cst, ev_gl, ev_var, opd_var, od_d, od_v, negK_i, tAnd_1, tOr_1, tb_ok, ev_dct, evs_nil, eos_nil, f1_some, oc_some, ods_nil, ods_cons, isiK_some, clK_ok, ca_some, cmK_ok, cm_some, ctK_ok, ctC_some, muK_some, muF2_some, ownK_l, eoo_non, intK_i, slK_some, wkK_some, bwK_some, eit_bor, r1K_i, r2K_i, enK_t, enK_l, lcX_ok, lockI_val, lockI_bor, lockI_rng1, lockI_rng2, lockI_enum, flK_nx, flK_ret, flK_brk, xss_nil, upK_some, ptF_some, ptK_some, rtK_some, xs_retV, xs_brk, asK_some, frB_e, frK_some, xs_fr_val, xs_fr_rng1, xs_fr_rng2, xs_fr_rng3, xs_fr_enum, xs_fr_zip, dk_rng1, dk_rng2, dk_enum, dk_var, dk_cst, dk_gl, dk_bin, dk_cmp, dk_chain, dk_isN, dk_notN, dk_neg, dk_nt, dk_an, dk_orr, dk_ife, dk_ix, dk_sl, dk_rev, dk_tup, dk_lst, dk_dct, dk_bi, dk_isi, dk_call, dk_callM, dk_callT, dk_mu, dk_lc, dk_lcf, whC_a, whB_a, xs_wh, opK0_a, opd_cst, opd_gl, opd_bin, opd_cmp, opd_chain, opd_isN, opd_notN, opd_neg, opd_nt, opd_an, opd_orr, opd_ife, opd_ix, opd_sl, opd_rev, opd_tup, opd_lst, opd_dct, opd_bi, opd_isi, opd_call, opd_callM, opd_callT, opd_mu, opd_lc, opd_lcf, twoL_a, twoK_a, binG_a, cmpG_a, ixG_a, ev_bin, ev_cmp, ev_ix, oneK_a, isNG_a, negG_a, isiG_a, ev_isN, ev_notN, ev_neg, ev_isi, ntK_a, boK_a, ev_nt, ev_an, ev_orr, anK_t, anK_f, orK_t, orK_f, tAnd_2, tOr_2, ifK_t, ifK_f, ev_ife, ev_tup, ev_lst, evsL_a, evsK_a, evs_cons, eosL_a, eosK_a, eos_cons, biK_a, ev_bi, callK_a, ev_call, cmKK_a, lsK_some, lsK1_a, ev_lset, mxK1_a, ev_mxv, opd_mxv, dk_mxv, lrK_some, lrK1_a, ev_lrng, opd_lrng, dk_lrng, cnF_some, cnK_a, isLs_l, ev_cnt, opd_cnt, dk_cnt, dzK2_a, dzK1_a, ev_dzip, opd_dzip, dk_dzip, opd_lset, dk_lset, ev_callM, ctK2_a, ctK1_a, ev_callT, muKK_a, ev_mu, eoK_a, eoo_som, slK3_a, slK2_a, slK1_a, ev_sl, wvK_a, eit_val, r1K1_a, eit_rng1, r2K2_a, r2K1_a, eit_rng2, enK1_a, eit_enum, lcEK_a, lcE_a, lcCK_t, lcCK_f, lcC_a, aoK_some, lcB_a, lcK1_a, ev_lc, lcK2_a, ev_lcf, flC_nx, flC_ret, flC_brk, xss_cons, asgK_a, xs_asg, unpK_a, xs_unp, parK2_a, parK1_a, xs_par, putK2_a, putK1_a, xs_put, retK_a, xs_ret_mxv, xs_ret_lrng, xs_ret_dzip, xs_ret_cnt, xs_ret_lset, xs_ret_cst, xs_ret_gl, xs_ret_bin, xs_ret_cmp, xs_ret_chain, xs_ret_isN, xs_ret_notN, xs_ret_neg, xs_ret_nt, xs_ret_an, xs_ret_orr, xs_ret_ife, xs_ret_ix, xs_ret_sl, xs_ret_rev, xs_ret_tup, xs_ret_lst, xs_ret_dct, xs_ret_bi, xs_ret_isi, xs_ret_call, xs_ret_callM, xs_ret_callT, xs_ret_mu, xs_ret_lc, xs_ret_lcf, ifsK_t, ifsK_f, xs_ifs, exK_a, xs_ex, frK1_a, frK_none, chK4_a, chK3_t, chK3_f, chK2_a, chK1_a, ev_chain, isNK_n, isNK_i, isNK_t, isNK_l, lcLK2_s, lcLK2_n, lcLK1_a, lcL_c, lcL_n, gt_s, st_s, asgT_nm, as2_some, asgT_tp, asgTs_nil, asgTs_cons, rlsAll_nil, rlsAll_d, rlsAll_v, abK_some, frcB_a, frcK_a, xs_frc, frR_nx, frR_ret, wipeD_nil, wipeD_cons, backD_nil, backD_cons, gt_0, st_0, rls_e, ownL_e, Option.map_some, Option.isSome_some, if_true, List.isEmpty_nil, lstK_0, lstK_1, lstK_2, lstK_3, lstK_4, lstK_5, lstK_6, tupK_0, tupK_1, tupK_2, tupK_3, tupK_4, noV_nil, noV_d, noV_1, noV_2, noV_3, noV_4, noV_5, noV_6, noV_7, noV_8, ite_tt, and_self, List.cons_append, List.nil_append, iL_1, pl_int, pl_bool, pl_none, pl_str, pl_list, pl_dict, Bool.false_eq_true, if_false, Bool.not_true, Bool.not_false, b_add, b_sub, c_eq, c_ne, c_lt, c_le, c_gt, c_ge, t3, hX, b_mul hlog, hXs, b_mod (i := (i : Int)) (j := 2) (by decide), e1, t40, t6, e2]
    rw [whL_upto n most (fun j => [some (.list [.int (bx / 3 / 40 / 6)], true), some (.int m, false), some (.int (1 + x % (m : Int)), false), some (.int kind, false), some (.int X, false), some (encL ps, true), some (.int i, false), some (.int bent, false), some (.int (y1 + (j : Int)), false)])
      (by unfold most; omega) (fun j hj => ⟨by simp only [rb_ok, o1_some, o1b_some, o1i_some, f2_some, rvK_some, opK_some, rlK_t, rlK_f, drK_t, drK_f, drp_e, ev_cst, ev_gl, ev_var, opd_var, od_d, od_v, negK_i, tAnd_1, tOr_1, tb_ok, ev_dct, evs_nil, eos_nil, f1_some, oc_some, ods_nil, ods_cons, isiK_some, clK_ok, ca_some, cmK_ok, cm_some, ctK_ok, ctC_some, muK_some, muF2_some, ownK_l, eoo_non, intK_i, slK_some, wkK_some, bwK_some, eit_bor, r1K_i, r2K_i, enK_t, enK_l, lcX_ok, lockI_val, lockI_bor, lockI_rng1, lockI_rng2, lockI_enum, flK_nx, flK_ret, flK_brk, xss_nil, upK_some, ptF_some, ptK_some, rtK_some, xs_retV, xs_brk, asK_some, frB_e, frK_some, xs_fr_val, xs_fr_rng1, xs_fr_rng2, xs_fr_rng3, xs_fr_enum, xs_fr_zip, dk_rng1, dk_rng2, dk_enum, dk_var, dk_cst, dk_gl, dk_bin, dk_cmp, dk_chain, dk_isN, dk_notN, dk_neg, dk_nt, dk_an, dk_orr, dk_ife, dk_ix, dk_sl, dk_rev, dk_tup, dk_lst, dk_dct, dk_bi, dk_isi, dk_call, dk_callM, dk_callT, dk_mu, dk_lc, dk_lcf, whC_a, whB_a, xs_wh, opK0_a, opd_cst, opd_gl, opd_bin, opd_cmp, opd_chain, opd_isN, opd_notN, opd_neg, opd_nt, opd_an, opd_orr, opd_ife, opd_ix, opd_sl, opd_rev, opd_tup, opd_lst, opd_dct, opd_bi, opd_isi, opd_call, opd_callM, opd_callT, opd_mu, opd_lc, opd_lcf, twoL_a, twoK_a, binG_a, cmpG_a, ixG_a, ev_bin, ev_cmp, ev_ix, oneK_a, isNG_a, negG_a, isiG_a, ev_isN, ev_notN, ev_neg, ev_isi, ntK_a, boK_a, ev_nt, ev_an, ev_orr, anK_t, anK_f, orK_t, orK_f, tAnd_2, tOr_2, ifK_t, ifK_f, ev_ife, ev_tup, ev_lst, evsL_a, evsK_a, evs_cons, eosL_a, eosK_a, eos_cons, biK_a, ev_bi, callK_a, ev_call, cmKK_a, lsK_some, lsK1_a, ev_lset, mxK1_a, ev_mxv, opd_mxv, dk_mxv, lrK_some, lrK1_a, ev_lrng, opd_lrng, dk_lrng, cnF_some, cnK_a, isLs_l, ev_cnt, opd_cnt, dk_cnt, dzK2_a, dzK1_a, ev_dzip, opd_dzip, dk_dzip, opd_lset, dk_lset, ev_callM, ctK2_a, ctK1_a, ev_callT, muKK_a, ev_mu, eoK_a, eoo_som, slK3_a, slK2_a, slK1_a, ev_sl, wvK_a, eit_val, r1K1_a, eit_rng1, r2K2_a, r2K1_a, eit_rng2, enK1_a, eit_enum, lcEK_a, lcE_a, lcCK_t, lcCK_f, lcC_a, aoK_some, lcB_a, lcK1_a, ev_lc, lcK2_a, ev_lcf, flC_nx, flC_ret, flC_brk, xss_cons, asgK_a, xs_asg, unpK_a, xs_unp, parK2_a, parK1_a, xs_par, putK2_a, putK1_a, xs_put, retK_a, xs_ret_mxv, xs_ret_lrng, xs_ret_dzip, xs_ret_cnt, xs_ret_lset, xs_ret_cst, xs_ret_gl, xs_ret_bin, xs_ret_cmp, xs_ret_chain, xs_ret_isN, xs_ret_notN, xs_ret_neg, xs_ret_nt, xs_ret_an, xs_ret_orr, xs_ret_ife, xs_ret_ix, xs_ret_sl, xs_ret_rev, xs_ret_tup, xs_ret_lst, xs_ret_dct, xs_ret_bi, xs_ret_isi, xs_ret_call, xs_ret_callM, xs_ret_callT, xs_ret_mu, xs_ret_lc, xs_ret_lcf, ifsK_t, ifsK_f, xs_ifs, exK_a, xs_ex, frK1_a, frK_none, chK4_a, chK3_t, chK3_f, chK2_a, chK1_a, ev_chain, isNK_n, isNK_i, isNK_t, isNK_l, lcLK2_s, lcLK2_n, lcLK1_a, lcL_c, lcL_n, gt_s, st_s, asgT_nm, as2_some, asgT_tp, asgTs_nil, asgTs_cons, rlsAll_nil, rlsAll_d, rlsAll_v, abK_some, frcB_a, frcK_a, xs_frc, frR_nx, frR_ret, wipeD_nil, wipeD_cons, backD_nil, backD_cons, gt_0, st_0, rls_e, ownL_e, Option.map_some, Option.isSome_some, if_true, List.isEmpty_nil, lstK_0, lstK_1, lstK_2, lstK_3, lstK_4, lstK_5, lstK_6, tupK_0, tupK_1, tupK_2, tupK_3, tupK_4, noV_nil, noV_d, noV_1, noV_2, noV_3, noV_4, noV_5, noV_6, noV_7, noV_8, ite_tt, and_self, List.cons_append, List.nil_append, iL_1, pl_int, pl_bool, pl_none, pl_str, pl_list, pl_dict, Bool.false_eq_true, if_false, Bool.not_true, Bool.not_false, b_add, b_sub, c_eq, c_ne, c_lt, c_le, c_gt, c_ge, cf j hj], by
        simp only [rb_ok, o1_some, o1b_some, o1i_some, f2_some, rvK_some, opK_some, rlK_t, rlK_f, drK_t, drK_f, drp_e, ev_cst, ev_gl, ev_var, opd_var, od_d, od_v, negK_i, tAnd_1, tOr_1, tb_ok, ev_dct, evs_nil, eos_nil, f1_some, oc_some, ods_nil, ods_cons, isiK_some, clK_ok, ca_some, cmK_ok, cm_some, ctK_ok, ctC_some, muK_some, muF2_some, ownK_l, eoo_non, intK_i, slK_some, wkK_some, bwK_some, eit_bor, r1K_i, r2K_i, enK_t, enK_l, lcX_ok, lockI_val, lockI_bor, lockI_rng1, lockI_rng2, lockI_enum, flK_nx, flK_ret, flK_brk, xss_nil, upK_some, ptF_some, ptK_some, rtK_some, xs_retV, xs_brk, asK_some, frB_e, frK_some, xs_fr_val, xs_fr_rng1, xs_fr_rng2, xs_fr_rng3, xs_fr_enum, xs_fr_zip, dk_rng1, dk_rng2, dk_enum, dk_var, dk_cst, dk_gl, dk_bin, dk_cmp, dk_chain, dk_isN, dk_notN, dk_neg, dk_nt, dk_an, dk_orr, dk_ife, dk_ix, dk_sl, dk_rev, dk_tup, dk_lst, dk_dct, dk_bi, dk_isi, dk_call, dk_callM, dk_callT, dk_mu, dk_lc, dk_lcf, whC_a, whB_a, xs_wh, opK0_a, opd_cst, opd_gl, opd_bin, opd_cmp, opd_chain, opd_isN, opd_notN, opd_neg, opd_nt, opd_an, opd_orr, opd_ife, opd_ix, opd_sl, opd_rev, opd_tup, opd_lst, opd_dct, opd_bi, opd_isi, opd_call, opd_callM, opd_callT, opd_mu, opd_lc, opd_lcf, twoL_a, twoK_a, binG_a, cmpG_a, ixG_a, ev_bin, ev_cmp, ev_ix, oneK_a, isNG_a, negG_a, isiG_a, ev_isN, ev_notN, ev_neg, ev_isi, ntK_a, boK_a, ev_nt, ev_an, ev_orr, anK_t, anK_f, orK_t, orK_f, tAnd_2, tOr_2, ifK_t, ifK_f, ev_ife, ev_tup, ev_lst, evsL_a, evsK_a, evs_cons, eosL_a, eosK_a, eos_cons, biK_a, ev_bi, callK_a, ev_call, cmKK_a, lsK_some, lsK1_a, ev_lset, mxK1_a, ev_mxv, opd_mxv, dk_mxv, lrK_some, lrK1_a, ev_lrng, opd_lrng, dk_lrng, cnF_some, cnK_a, isLs_l, ev_cnt, opd_cnt, dk_cnt, dzK2_a, dzK1_a, ev_dzip, opd_dzip, dk_dzip, opd_lset, dk_lset, ev_callM, ctK2_a, ctK1_a, ev_callT, muKK_a, ev_mu, eoK_a, eoo_som, slK3_a, slK2_a, slK1_a, ev_sl, wvK_a, eit_val, r1K1_a, eit_rng1, r2K2_a, r2K1_a, eit_rng2, enK1_a, eit_enum, lcEK_a, lcE_a, lcCK_t, lcCK_f, lcC_a, aoK_some, lcB_a, lcK1_a, ev_lc, lcK2_a, ev_lcf, flC_nx, flC_ret, flC_brk, xss_cons, asgK_a, xs_asg, unpK_a, xs_unp, parK2_a, parK1_a, xs_par, putK2_a, putK1_a, xs_put, retK_a, xs_ret_mxv, xs_ret_lrng, xs_ret_dzip, xs_ret_cnt, xs_ret_lset, xs_ret_cst, xs_ret_gl, xs_ret_bin, xs_ret_cmp, xs_ret_chain, xs_ret_isN, xs_ret_notN, xs_ret_neg, xs_ret_nt, xs_ret_an, xs_ret_orr, xs_ret_ife, xs_ret_ix, xs_ret_sl, xs_ret_rev, xs_ret_tup, xs_ret_lst, xs_ret_dct, xs_ret_bi, xs_ret_isi, xs_ret_call, xs_ret_callM, xs_ret_callT, xs_ret_mu, xs_ret_lc, xs_ret_lcf, ifsK_t, ifsK_f, xs_ifs, exK_a, xs_ex, frK1_a, frK_none, chK4_a, chK3_t, chK3_f, chK2_a, chK1_a, ev_chain, isNK_n, isNK_i, isNK_t, isNK_l, lcLK2_s, lcLK2_n, lcLK1_a, lcL_c, lcL_n, gt_s, st_s, asgT_nm, as2_some, asgT_tp, asgTs_nil, asgTs_cons, rlsAll_nil, rlsAll_d, rlsAll_v, abK_some, frcB_a, frcK_a, xs_frc, frR_nx, frR_ret, wipeD_nil, wipeD_cons, backD_nil, backD_cons, gt_0, st_0, rls_e, ownL_e, Option.map_some, Option.isSome_some, if_true, List.isEmpty_nil, lstK_0, lstK_1, lstK_2, lstK_3, lstK_4, lstK_5, lstK_6, tupK_0, tupK_1, tupK_2, tupK_3, tupK_4, noV_nil, noV_d, noV_1, noV_2, noV_3, noV_4, noV_5, noV_6, noV_7, noV_8, ite_tt, and_self, List.cons_append, List.nil_append, iL_1, pl_int, pl_bool, pl_none, pl_str, pl_list, pl_dict, Bool.false_eq_true, if_false, Bool.not_true, Bool.not_false, b_add, b_sub, c_eq, c_ne, c_lt, c_le, c_gt, c_ge]
        rw [show y1 + ((j + 1 : Nat) : Int) = y1 + (j : Int) + 1 by omega]⟩) (by simp only [rb_ok, o1_some, o1b_some, o1i_some, f2_some, rvK_some, opK_some, rlK_t, rlK_f, drK_t, drK_f, drp_e, ev_cst, ev_gl, ev_var, opd_var, od_d, od_v, negK_i, tAnd_1, tOr_1, tb_ok, ev_dct, evs_nil, eos_nil, f1_some, oc_some, ods_nil, ods_cons, isiK_some, clK_ok, ca_some, cmK_ok, cm_some, ctK_ok, ctC_some, muK_some, muF2_some, ownK_l, eoo_non, intK_i, slK_some, wkK_some, bwK_some, eit_bor, r1K_i, r2K_i, enK_t, enK_l, lcX_ok, lockI_val, lockI_bor, lockI_rng1, lockI_rng2, lockI_enum, flK_nx, flK_ret, flK_brk, xss_nil, upK_some, ptF_some, ptK_some, rtK_some, xs_retV, xs_brk, asK_some, frB_e, frK_some, xs_fr_val, xs_fr_rng1, xs_fr_rng2, xs_fr_rng3, xs_fr_enum, xs_fr_zip, dk_rng1, dk_rng2, dk_enum, dk_var, dk_cst, dk_gl, dk_bin, dk_cmp, dk_chain, dk_isN, dk_notN, dk_neg, dk_nt, dk_an, dk_orr, dk_ife, dk_ix, dk_sl, dk_rev, dk_tup, dk_lst, dk_dct, dk_bi, dk_isi, dk_call, dk_callM, dk_callT, dk_mu, dk_lc, dk_lcf, whC_a, whB_a, xs_wh, opK0_a, opd_cst, opd_gl, opd_bin, opd_cmp, opd_chain, opd_isN, opd_notN, opd_neg, opd_nt, opd_an, opd_orr, opd_ife, opd_ix, opd_sl, opd_rev, opd_tup, opd_lst, opd_dct, opd_bi, opd_isi, opd_call, opd_callM, opd_callT, opd_mu, opd_lc, opd_lcf, twoL_a, twoK_a, binG_a, cmpG_a, ixG_a, ev_bin, ev_cmp, ev_ix, oneK_a, isNG_a, negG_a, isiG_a, ev_isN, ev_notN, ev_neg, ev_isi, ntK_a, boK_a, ev_nt, ev_an, ev_orr, anK_t, anK_f, orK_t, orK_f, tAnd_2, tOr_2, ifK_t, ifK_f, ev_ife, ev_tup, ev_lst, evsL_a, evsK_a, evs_cons, eosL_a, eosK_a, eos_cons, biK_a, ev_bi, callK_a, ev_call, cmKK_a, lsK_some, lsK1_a, ev_lset, mxK1_a, ev_mxv, opd_mxv, dk_mxv, lrK_some, lrK1_a, ev_lrng, opd_lrng, dk_lrng, cnF_some, cnK_a, isLs_l, ev_cnt, opd_cnt, dk_cnt, dzK2_a, dzK1_a, ev_dzip, opd_dzip, dk_dzip, opd_lset, dk_lset, ev_callM, ctK2_a, ctK1_a, ev_callT, muKK_a, ev_mu, eoK_a, eoo_som, slK3_a, slK2_a, slK1_a, ev_sl, wvK_a, eit_val, r1K1_a, eit_rng1, r2K2_a, r2K1_a, eit_rng2, enK1_a, eit_enum, lcEK_a, lcE_a, lcCK_t, lcCK_f, lcC_a, aoK_some, lcB_a, lcK1_a, ev_lc, lcK2_a, ev_lcf, flC_nx, flC_ret, flC_brk, xss_cons, asgK_a, xs_asg, unpK_a, xs_unp, parK2_a, parK1_a, xs_par, putK2_a, putK1_a, xs_put, retK_a, xs_ret_mxv, xs_ret_lrng, xs_ret_dzip, xs_ret_cnt, xs_ret_lset, xs_ret_cst, xs_ret_gl, xs_ret_bin, xs_ret_cmp, xs_ret_chain, xs_ret_isN, xs_ret_notN, xs_ret_neg, xs_ret_nt, xs_ret_an, xs_ret_orr, xs_ret_ife, xs_ret_ix, xs_ret_sl, xs_ret_rev, xs_ret_tup, xs_ret_lst, xs_ret_dct, xs_ret_bi, xs_ret_isi, xs_ret_call, xs_ret_callM, xs_ret_callT, xs_ret_mu, xs_ret_lc, xs_ret_lcf, ifsK_t, ifsK_f, xs_ifs, exK_a, xs_ex, frK1_a, frK_none, chK4_a, chK3_t, chK3_f, chK2_a, chK1_a, ev_chain, isNK_n, isNK_i, isNK_t, isNK_l, lcLK2_s, lcLK2_n, lcLK1_a, lcL_c, lcL_n, gt_s, st_s, asgT_nm, as2_some, asgT_tp, asgTs_nil, asgTs_cons, rlsAll_nil, rlsAll_d, rlsAll_v, abK_some, frcB_a, frcK_a, xs_frc, frR_nx, frR_ret, wipeD_nil, wipeD_cons, backD_nil, backD_cons, gt_0, st_0, rls_e, ownL_e, Option.map_some, Option.isSome_some, if_true, List.isEmpty_nil, lstK_0, lstK_1, lstK_2, lstK_3, lstK_4, lstK_5, lstK_6, tupK_0, tupK_1, tupK_2, tupK_3, tupK_4, noV_nil, noV_d, noV_1, noV_2, noV_3, noV_4, noV_5, noV_6, noV_7, noV_8, ite_tt, and_self, List.cons_append, List.nil_append, iL_1, pl_int, pl_bool, pl_none, pl_str, pl_list, pl_dict, Bool.false_eq_true, if_false, Bool.not_true, Bool.not_false, b_add, b_sub, c_eq, c_ne, c_lt, c_le, c_gt, c_ge, ct])]
    unfold encL
    simp only [rb_ok, o1_some, o1b_some, o1i_some, f2_some, rvK_some, opK_some, rlK_t, rlK_f, drK_t, drK_f, drp_e, ev_cst, ev_gl, ev_var, opd_var, od_d, od_v, negK_i, tAnd_1, tOr_1, tb_ok, ev_dct, evs_nil, eos_nil, f1_some, oc_some, ods_nil, ods_cons, isiK_some, clK_ok, ca_some, cmK_ok, cm_some, ctK_ok, ctC_some, muK_some, muF2_some, ownK_l, eoo_non, intK_i, slK_some, wkK_some, bwK_some, eit_bor, r1K_i, r2K_i, enK_t, enK_l, lcX_ok, lockI_val, lockI_bor, lockI_rng1, lockI_rng2, lockI_enum, flK_nx, flK_ret, flK_brk, xss_nil, upK_some, ptF_some, ptK_some, rtK_some, xs_retV, xs_brk, asK_some, frB_e, frK_some, xs_fr_val, xs_fr_rng1, xs_fr_rng2, xs_fr_rng3, xs_fr_enum, xs_fr_zip, dk_rng1, dk_rng2, dk_enum, dk_var, dk_cst, dk_gl, dk_bin, dk_cmp, dk_chain, dk_isN, dk_notN, dk_neg, dk_nt, dk_an, dk_orr, dk_ife, dk_ix, dk_sl, dk_rev, dk_tup, dk_lst, dk_dct, dk_bi, dk_isi, dk_call, dk_callM, dk_callT, dk_mu, dk_lc, dk_lcf, whC_a, whB_a, xs_wh, opK0_a, opd_cst, opd_gl, opd_bin, opd_cmp, opd_chain, opd_isN, opd_notN, opd_neg, opd_nt, opd_an, opd_orr, opd_ife, opd_ix, opd_sl, opd_rev, opd_tup, opd_lst, opd_dct, opd_bi, opd_isi, opd_call, opd_callM, opd_callT, opd_mu, opd_lc, opd_lcf, twoL_a, twoK_a, binG_a, cmpG_a, ixG_a, ev_bin, ev_cmp, ev_ix, oneK_a, isNG_a, negG_a, isiG_a, ev_isN, ev_notN, ev_neg, ev_isi, ntK_a, boK_a, ev_nt, ev_an, ev_orr, anK_t, anK_f, orK_t, orK_f, tAnd_2, tOr_2, ifK_t, ifK_f, ev_ife, ev_tup, ev_lst, evsL_a, evsK_a, evs_cons, eosL_a, eosK_a, eos_cons, biK_a, ev_bi, callK_a, ev_call, cmKK_a, lsK_some, lsK1_a, ev_lset, mxK1_a, ev_mxv, opd_mxv, dk_mxv, lrK_some, lrK1_a, ev_lrng, opd_lrng, dk_lrng, cnF_some, cnK_a, isLs_l, ev_cnt, opd_cnt, dk_cnt, dzK2_a, dzK1_a, ev_dzip, opd_dzip, dk_dzip, opd_lset, dk_lset, ev_callM, ctK2_a, ctK1_a, ev_callT, muKK_a, ev_mu, eoK_a, eoo_som, slK3_a, slK2_a, slK1_a, ev_sl, wvK_a, eit_val, r1K1_a, eit_rng1, r2K2_a, r2K1_a, eit_rng2, enK1_a, eit_enum, lcEK_a, lcE_a, lcCK_t, lcCK_f, lcC_a, aoK_some, lcB_a, lcK1_a, ev_lc, lcK2_a, ev_lcf, flC_nx, flC_ret, flC_brk, xss_cons, asgK_a, xs_asg, unpK_a, xs_unp, parK2_a, parK1_a, xs_par, putK2_a, putK1_a, xs_put, retK_a, xs_ret_mxv, xs_ret_lrng, xs_ret_dzip, xs_ret_cnt, xs_ret_lset, xs_ret_cst, xs_ret_gl, xs_ret_bin, xs_ret_cmp, xs_ret_chain, xs_ret_isN, xs_ret_notN, xs_ret_neg, xs_ret_nt, xs_ret_an, xs_ret_orr, xs_ret_ife, xs_ret_ix, xs_ret_sl, xs_ret_rev, xs_ret_tup, xs_ret_lst, xs_ret_dct, xs_ret_bi, xs_ret_isi, xs_ret_call, xs_ret_callM, xs_ret_callT, xs_ret_mu, xs_ret_lc, xs_ret_lcf, ifsK_t, ifsK_f, xs_ifs, exK_a, xs_ex, frK1_a, frK_none, chK4_a, chK3_t, chK3_f, chK2_a, chK1_a, ev_chain, isNK_n, isNK_i, isNK_t, isNK_l, lcLK2_s, lcLK2_n, lcLK1_a, lcL_c, lcL_n, gt_s, st_s, asgT_nm, as2_some, asgT_tp, asgTs_nil, asgTs_cons, rlsAll_nil, rlsAll_d, rlsAll_v, abK_some, frcB_a, frcK_a, xs_frc, frR_nx, frR_ret, wipeD_nil, wipeD_cons, backD_nil, backD_cons, gt_0, st_0, rls_e, ownL_e, Option.map_some, Option.isSome_some, if_true, List.isEmpty_nil, lstK_0, lstK_1, lstK_2, lstK_3, lstK_4, lstK_5, lstK_6, tupK_0, tupK_1, tupK_2, tupK_3, tupK_4, noV_nil, noV_d, noV_1, noV_2, noV_3, noV_4, noV_5, noV_6, noV_7, noV_8, ite_tt, and_self, List.cons_append, List.nil_append, iL_1, pl_int, pl_bool, pl_none, pl_str, pl_list, pl_dict, Bool.false_eq_true, if_false, Bool.not_true, Bool.not_false, b_add, b_sub, c_eq, c_ne, c_lt, c_le, c_gt, c_ge, ownK_l, mu_app hlen]
    refine nr_nx ⟨bx / 3 / 40 / 6, X, ps ++ [(X, y1 + (n : Int))], _, _, _, by rw [List.map_append]; rfl, ?_, by omega, by omega⟩
    refine ⟨by rw [List.length_append, P.len]; rfl, P.rise.snoc fun q hq => by have := P.le q hq; simp only; omega, P.line.snoc hfr, fun q hq => ?_, fun q hq => ?_⟩
    · rcases List.mem_append.mp hq with hq | hq
      · have := P.le q hq; omega
      · rw [List.mem_singleton.mp hq]; exact Int.le_refl _
    · rcases List.mem_append.mp hq with hq | hq
      · exact P.sm q hq
      · rw [List.mem_singleton.mp hq]
        exact ⟨bX.mono (by decide), (Bd.of (k := 20) (by simp only; omega) (by simp only; omega)).mono (by decide)⟩
  · rintro δ ⟨bx, xx, ps, x6, x7, x8, rfl, P, h1, h2⟩
    rw [rngL_len] at P h2
    have hn1 : 1 ≤ (1 + x % (m : Int)).toNat := by omega
    have hnm : (1 + x % (m : Int)).toNat ≤ m := by omega
    by_cases c : bx % 6 = 5
    · have c' : (bx % 6 == 5) = true := by simpa using c
      have p12 : bop .pow (.int 10) (.int 12) = some (.int 1000000000000, false) := rfl
      have p15 : bop .pow (.int 10) (.int 15) = some (.int 1000000000000000, false) := rfl
      unfold encL
      simp only [rb_ok, o1_some, o1b_some, o1i_some, f2_some, rvK_some, opK_some, rlK_t, rlK_f, drK_t, drK_f, drp_e, ev_cst, ev_gl, ev_var, opd_var, od_d, od_v, negK_i, tAnd_1, tOr_1, tb_ok, ev_dct, evs_nil, eos_nil, f1_some, oc_some, ods_nil, ods_cons, isiK_some, clK_ok, ca_some, cmK_ok, cm_some, ctK_ok, ctC_some, muK_some, muF2_some, ownK_l, eoo_non, intK_i, slK_some, wkK_some, bwK_some, eit_bor, r1K_i, r2K_i, enK_t, enK_l, lcX_ok, lockI_val, lockI_bor, lockI_rng1, lockI_rng2, lockI_enum, flK_nx, flK_ret, flK_brk, xss_nil, upK_some, ptF_some, ptK_some, rtK_some, xs_retV, xs_brk, asK_some, frB_e, frK_some, xs_fr_val, xs_fr_rng1, xs_fr_rng2, xs_fr_rng3, xs_fr_enum, xs_fr_zip, dk_rng1, dk_rng2, dk_enum, dk_var, dk_cst, dk_gl, dk_bin, dk_cmp, dk_chain, dk_isN, dk_notN, dk_neg, dk_nt, dk_an, dk_orr, dk_ife, dk_ix, dk_sl, dk_rev, dk_tup, dk_lst, dk_dct, dk_bi, dk_isi, dk_call, dk_callM, dk_callT, dk_mu, dk_lc, dk_lcf, whC_a, whB_a, xs_wh, opK0_a, opd_cst, opd_gl, opd_bin, opd_cmp, opd_chain, opd_isN, opd_notN, opd_neg, opd_nt, opd_an, opd_orr, opd_ife, opd_ix, opd_sl, opd_rev, opd_tup, opd_lst, opd_dct, opd_bi, opd_isi, opd_call, opd_callM, opd_callT, opd_mu, opd_lc, opd_lcf, twoL_a, twoK_a, binG_a, cmpG_a, ixG_a, ev_bin, ev_cmp, ev_ix, oneK_a, isNG_a, negG_a, isiG_a, ev_isN, ev_notN, ev_neg, ev_isi, ntK_a, boK_a, ev_nt, ev_an, ev_orr, anK_t, anK_f, orK_t, orK_f, tAnd_2, tOr_2, ifK_t, ifK_f, ev_ife, ev_tup, ev_lst, evsL_a, evsK_a, evs_cons, eosL_a, eosK_a, eos_cons, biK_a, ev_bi, callK_a, ev_call, cmKK_a, lsK_some, lsK1_a, ev_lset, mxK1_a, ev_mxv, opd_mxv, dk_mxv, lrK_some, lrK1_a, ev_lrng, opd_lrng, dk_lrng, cnF_some, cnK_a, isLs_l, ev_cnt, opd_cnt, dk_cnt, dzK2_a, dzK1_a, ev_dzip, opd_dzip, dk_dzip, opd_lset, dk_lset, ev_callM, ctK2_a, ctK1_a, ev_callT, muKK_a, ev_mu, eoK_a, eoo_som, slK3_a, slK2_a, slK1_a, ev_sl, wvK_a, eit_val, r1K1_a, eit_rng1, r2K2_a, r2K1_a, eit_rng2, enK1_a, eit_enum, lcEK_a, lcE_a, lcCK_t, lcCK_f, lcC_a, aoK_some, lcB_a, lcK1_a, ev_lc, lcK2_a, ev_lcf, flC_nx, flC_ret, flC_brk, xss_cons, asgK_a, xs_asg, unpK_a, xs_unp, parK2_a, parK1_a, xs_par, putK2_a, putK1_a, xs_put, retK_a, xs_ret_mxv, xs_ret_lrng, xs_ret_dzip, xs_ret_cnt, xs_ret_lset, xs_ret_cst, xs_ret_gl, xs_ret_bin, xs_ret_cmp, xs_ret_chain, xs_ret_isN, xs_ret_notN, xs_ret_neg, xs_ret_nt, xs_ret_an, xs_ret_orr, xs_ret_ife, xs_ret_ix, xs_ret_sl, xs_ret_rev, xs_ret_tup, xs_ret_lst, xs_ret_dct, xs_ret_bi, xs_ret_isi, xs_ret_call, xs_ret_callM, xs_ret_callT, xs_ret_mu, xs_ret_lc, xs_ret_lcf, ifsK_t, ifsK_f, xs_ifs, exK_a, xs_ex, frK1_a, frK_none, chK4_a, chK3_t, chK3_f, chK2_a, chK1_a, ev_chain, isNK_n, isNK_i, isNK_t, isNK_l, lcLK2_s, lcLK2_n, lcLK1_a, lcL_c, lcL_n, gt_s, st_s, asgT_nm, as2_some, asgT_tp, asgTs_nil, asgTs_cons, rlsAll_nil, rlsAll_d, rlsAll_v, abK_some, frcB_a, frcK_a, xs_frc, frR_nx, frR_ret, wipeD_nil, wipeD_cons, backD_nil, backD_cons, gt_0, st_0, rls_e, ownL_e, Option.map_some, Option.isSome_some, if_true, List.isEmpty_nil, lstK_0, lstK_1, lstK_2, lstK_3, lstK_4, lstK_5, lstK_6, tupK_0, tupK_1, tupK_2, tupK_3, tupK_4, noV_nil, noV_d, noV_1, noV_2, noV_3, noV_4, noV_5, noV_6, noV_7, noV_8, ite_tt, and_self, List.cons_append, List.nil_append, iL_1, pl_int, pl_bool, pl_none, pl_str, pl_list, pl_dict, Bool.false_eq_true, if_false, Bool.not_true, Bool.not_false, b_add, b_sub, c_eq, c_ne, c_lt, c_le, c_gt, c_ge, t6, c', wd_l, bwK_some]
      obtain ⟨δ', e, x4, x8', rfl⟩ := lcL_map (f := lcB (.tp (.cons (.nm 4) (.cons (.nm 8) .nil))) [4, 8] (lcE cl (.tup (.cons (.bin .mul (.var 4) (.bin .pow (.cst (.int 10)) (.cst (.int 12)))) (.cons (.bin .add (.bin .mul (.var 8) (.bin .pow (.cst (.int 10)) (.cst (.int 15)))) (.cst (.int 7))) .nil)))))
        (g := fun d => match d with | .tuple [.int a, .int b] => encP (scale (a, b)) | _ => .none)
        (fun δ => ∃ x4 x8 : Option (Dt × Bool), δ = [some (.list [.int (bx / 6)], true), some (.int m, false), some (.int (1 + x % (m : Int)), false), some (.int kind, false), x4, none, x6, x7, x8]) (ds := ps.map encP) (δ := [some (.list [.int (bx / 6)], true), some (.int m, false), some (.int (1 + x % (m : Int)), false), some (.int kind, false), some (.int xx, false), none, x6, x7, x8]) ⟨_, _, rfl⟩
        (by
          rintro d δ hd ⟨x4, x8, rfl⟩
          obtain ⟨q, hq, rfl⟩ := List.mem_map.mp hd
          obtain ⟨s1, s2⟩ := P.sm q hq
          have k1 := mul_log s1 (Bd.of (k := 40) (i := 1000000000000) (by decide) (by decide)) (by decide) (by decide) (by decide)
          have k2 := mul_log s2 (Bd.of (k := 50) (i := 1000000000000000) (by decide) (by decide)) (by decide) (by decide) (by decide)
          refine ⟨_, by
            unfold encP
            simp only [rb_ok, o1_some, o1b_some, o1i_some, f2_some, rvK_some, opK_some, rlK_t, rlK_f, drK_t, drK_f, drp_e, ev_cst, ev_gl, ev_var, opd_var, od_d, od_v, negK_i, tAnd_1, tOr_1, tb_ok, ev_dct, evs_nil, eos_nil, f1_some, oc_some, ods_nil, ods_cons, isiK_some, clK_ok, ca_some, cmK_ok, cm_some, ctK_ok, ctC_some, muK_some, muF2_some, ownK_l, eoo_non, intK_i, slK_some, wkK_some, bwK_some, eit_bor, r1K_i, r2K_i, enK_t, enK_l, lcX_ok, lockI_val, lockI_bor, lockI_rng1, lockI_rng2, lockI_enum, flK_nx, flK_ret, flK_brk, xss_nil, upK_some, ptF_some, ptK_some, rtK_some, xs_retV, xs_brk, asK_some, frB_e, frK_some, xs_fr_val, xs_fr_rng1, xs_fr_rng2, xs_fr_rng3, xs_fr_enum, xs_fr_zip, dk_rng1, dk_rng2, dk_enum, dk_var, dk_cst, dk_gl, dk_bin, dk_cmp, dk_chain, dk_isN, dk_notN, dk_neg, dk_nt, dk_an, dk_orr, dk_ife, dk_ix, dk_sl, dk_rev, dk_tup, dk_lst, dk_dct, dk_bi, dk_isi, dk_call, dk_callM, dk_callT, dk_mu, dk_lc, dk_lcf, whC_a, whB_a, xs_wh, opK0_a, opd_cst, opd_gl, opd_bin, opd_cmp, opd_chain, opd_isN, opd_notN, opd_neg, opd_nt, opd_an, opd_orr, opd_ife, opd_ix, opd_sl, opd_rev, opd_tup, opd_lst, opd_dct, opd_bi, opd_isi, opd_call, opd_callM, opd_callT, opd_mu, opd_lc, opd_lcf, twoL_a, twoK_a, binG_a, cmpG_a, ixG_a, ev_bin, ev_cmp, ev_ix, oneK_a, isNG_a, negG_a, isiG_a, ev_isN, ev_notN, ev_neg, ev_isi, ntK_a, boK_a, ev_nt, ev_an, ev_orr, anK_t, anK_f, orK_t, orK_f, tAnd_2, tOr_2, ifK_t, ifK_f, ev_ife, ev_tup, ev_lst, evsL_a, evsK_a, evs_cons, eosL_a, eosK_a, eos_cons, biK_a, ev_bi, callK_a, ev_call, cmKK_a, lsK_some, lsK1_a, ev_lset, mxK1_a, ev_mxv, opd_mxv, dk_mxv, lrK_some, lrK1_a, ev_lrng, opd_lrng, dk_lrng, cnF_some, cnK_a, isLs_l, ev_cnt, opd_cnt, dk_cnt, dzK2_a, dzK1_a, ev_dzip, opd_dzip, dk_dzip, opd_lset, dk_lset, ev_callM, ctK2_a, ctK1_a, ev_callT, muKK_a, ev_mu, eoK_a, eoo_som, slK3_a, slK2_a, slK1_a, ev_sl, wvK_a, eit_val, r1K1_a, eit_rng1, r2K2_a, r2K1_a, eit_rng2, enK1_a, eit_enum, lcEK_a, lcE_a, lcCK_t, lcCK_f, lcC_a, aoK_some, lcB_a, lcK1_a, ev_lc, lcK2_a, ev_lcf, flC_nx, flC_ret, flC_brk, xss_cons, asgK_a, xs_asg, unpK_a, xs_unp, parK2_a, parK1_a, xs_par, putK2_a, putK1_a, xs_put, retK_a, xs_ret_mxv, xs_ret_lrng, xs_ret_dzip, xs_ret_cnt, xs_ret_lset, xs_ret_cst, xs_ret_gl, xs_ret_bin, xs_ret_cmp, xs_ret_chain, xs_ret_isN, xs_ret_notN, xs_ret_neg, xs_ret_nt, xs_ret_an, xs_ret_orr, xs_ret_ife, xs_ret_ix, xs_ret_sl, xs_ret_rev, xs_ret_tup, xs_ret_lst, xs_ret_dct, xs_ret_bi, xs_ret_isi, xs_ret_call, xs_ret_callM, xs_ret_callT, xs_ret_mu, xs_ret_lc, xs_ret_lcf, ifsK_t, ifsK_f, xs_ifs, exK_a, xs_ex, frK1_a, frK_none, chK4_a, chK3_t, chK3_f, chK2_a, chK1_a, ev_chain, isNK_n, isNK_i, isNK_t, isNK_l, lcLK2_s, lcLK2_n, lcLK1_a, lcL_c, lcL_n, gt_s, st_s, asgT_nm, as2_some, asgT_tp, asgTs_nil, asgTs_cons, rlsAll_nil, rlsAll_d, rlsAll_v, abK_some, frcB_a, frcK_a, xs_frc, frR_nx, frR_ret, wipeD_nil, wipeD_cons, backD_nil, backD_cons, gt_0, st_0, rls_e, ownL_e, Option.map_some, Option.isSome_some, if_true, List.isEmpty_nil, lstK_0, lstK_1, lstK_2, lstK_3, lstK_4, lstK_5, lstK_6, tupK_0, tupK_1, tupK_2, tupK_3, tupK_4, noV_nil, noV_d, noV_1, noV_2, noV_3, noV_4, noV_5, noV_6, noV_7, noV_8, ite_tt, and_self, List.cons_append, List.nil_append, iL_1, pl_int, pl_bool, pl_none, pl_str, pl_list, pl_dict, Bool.false_eq_true, if_false, Bool.not_true, Bool.not_false, b_add, b_sub, c_eq, c_ne, c_lt, c_le, c_gt, c_ge, p12, p15, b_mul k1, b_mul k2]
            rfl, _, _, rfl⟩)
      rw [e]
      have hl : (List.map (fun d => match d with | .tuple [.int a, .int b] => encP (scale (a, b)) | _ => PyData.none) (ps.map encP)) = (ps.map scale).map encP := by
        rw [List.map_map, List.map_map]
        apply List.map_congr_left
        intro q hq
        rfl
      rw [hl]
      have hlim : ((ps.map scale).map encP).length ≤ lim := lim_of (by rw [List.length_map, List.length_map, P.len]; omega)
      simp only [rb_ok, o1_some, o1b_some, o1i_some, f2_some, rvK_some, opK_some, rlK_t, rlK_f, drK_t, drK_f, drp_e, ev_cst, ev_gl, ev_var, opd_var, od_d, od_v, negK_i, tAnd_1, tOr_1, tb_ok, ev_dct, evs_nil, eos_nil, f1_some, oc_some, ods_nil, ods_cons, isiK_some, clK_ok, ca_some, cmK_ok, cm_some, ctK_ok, ctC_some, muK_some, muF2_some, ownK_l, eoo_non, intK_i, slK_some, wkK_some, bwK_some, eit_bor, r1K_i, r2K_i, enK_t, enK_l, lcX_ok, lockI_val, lockI_bor, lockI_rng1, lockI_rng2, lockI_enum, flK_nx, flK_ret, flK_brk, xss_nil, upK_some, ptF_some, ptK_some, rtK_some, xs_retV, xs_brk, asK_some, frB_e, frK_some, xs_fr_val, xs_fr_rng1, xs_fr_rng2, xs_fr_rng3, xs_fr_enum, xs_fr_zip, dk_rng1, dk_rng2, dk_enum, dk_var, dk_cst, dk_gl, dk_bin, dk_cmp, dk_chain, dk_isN, dk_notN, dk_neg, dk_nt, dk_an, dk_orr, dk_ife, dk_ix, dk_sl, dk_rev, dk_tup, dk_lst, dk_dct, dk_bi, dk_isi, dk_call, dk_callM, dk_callT, dk_mu, dk_lc, dk_lcf, whC_a, whB_a, xs_wh, opK0_a, opd_cst, opd_gl, opd_bin, opd_cmp, opd_chain, opd_isN, opd_notN, opd_neg, opd_nt, opd_an, opd_orr, opd_ife, opd_ix, opd_sl, opd_rev, opd_tup, opd_lst, opd_dct, opd_bi, opd_isi, opd_call, opd_callM, opd_callT, opd_mu, opd_lc, opd_lcf, twoL_a, twoK_a, binG_a, cmpG_a, ixG_a, ev_bin, ev_cmp, ev_ix, oneK_a, isNG_a, negG_a, isiG_a, ev_isN, ev_notN, ev_neg, ev_isi, ntK_a, boK_a, ev_nt, ev_an, ev_orr, anK_t, anK_f, orK_t, orK_f, tAnd_2, tOr_2, ifK_t, ifK_f, ev_ife, ev_tup, ev_lst, evsL_a, evsK_a, evs_cons, eosL_a, eosK_a, eos_cons, biK_a, ev_bi, callK_a, ev_call, cmKK_a, lsK_some, lsK1_a, ev_lset, mxK1_a, ev_mxv, opd_mxv, dk_mxv, lrK_some, lrK1_a, ev_lrng, opd_lrng, dk_lrng, cnF_some, cnK_a, isLs_l, ev_cnt, opd_cnt, dk_cnt, dzK2_a, dzK1_a, ev_dzip, opd_dzip, dk_dzip, opd_lset, dk_lset, ev_callM, ctK2_a, ctK1_a, ev_callT, muKK_a, ev_mu, eoK_a, eoo_som, slK3_a, slK2_a, slK1_a, ev_sl, wvK_a, eit_val, r1K1_a, eit_rng1, r2K2_a, r2K1_a, eit_rng2, enK1_a, eit_enum, lcEK_a, lcE_a, lcCK_t, lcCK_f, lcC_a, aoK_some, lcB_a, lcK1_a, ev_lc, lcK2_a, ev_lcf, flC_nx, flC_ret, flC_brk, xss_cons, asgK_a, xs_asg, unpK_a, xs_unp, parK2_a, parK1_a, xs_par, putK2_a, putK1_a, xs_put, retK_a, xs_ret_mxv, xs_ret_lrng, xs_ret_dzip, xs_ret_cnt, xs_ret_lset, xs_ret_cst, xs_ret_gl, xs_ret_bin, xs_ret_cmp, xs_ret_chain, xs_ret_isN, xs_ret_notN, xs_ret_neg, xs_ret_nt, xs_ret_an, xs_ret_orr, xs_ret_ife, xs_ret_ix, xs_ret_sl, xs_ret_rev, xs_ret_tup, xs_ret_lst, xs_ret_dct, xs_ret_bi, xs_ret_isi, xs_ret_call, xs_ret_callM, xs_ret_callT, xs_ret_mu, xs_ret_lc, xs_ret_lcf, ifsK_t, ifsK_f, xs_ifs, exK_a, xs_ex, frK1_a, frK_none, chK4_a, chK3_t, chK3_f, chK2_a, chK1_a, ev_chain, isNK_n, isNK_i, isNK_t, isNK_l, lcLK2_s, lcLK2_n, lcLK1_a, lcL_c, lcL_n, gt_s, st_s, asgT_nm, as2_some, asgT_tp, asgTs_nil, asgTs_cons, rlsAll_nil, rlsAll_d, rlsAll_v, abK_some, frcB_a, frcK_a, xs_frc, frR_nx, frR_ret, wipeD_nil, wipeD_cons, backD_nil, backD_cons, gt_0, st_0, rls_e, ownL_e, Option.map_some, Option.isSome_some, if_true, List.isEmpty_nil, lstK_0, lstK_1, lstK_2, lstK_3, lstK_4, lstK_5, lstK_6, tupK_0, tupK_1, tupK_2, tupK_3, tupK_4, noV_nil, noV_d, noV_1, noV_2, noV_3, noV_4, noV_5, noV_6, noV_7, noV_8, ite_tt, and_self, List.cons_append, List.nil_append, iL_1, pl_int, pl_bool, pl_none, pl_str, pl_list, pl_dict, Bool.false_eq_true, if_false, Bool.not_true, Bool.not_false, b_add, b_sub, c_eq, c_ne, c_lt, c_le, c_gt, c_ge, hlim, List.append_eq, List.cons_append, List.nil_append, d_tup]
      refine fin_ret ⟨ps.map scale, bx / 6, rfl, rfl, rfl, P.scaled hn1, by rw [List.length_map, P.len]; exact hnm, P.scaledB⟩
    · have c' : (bx % 6 == 5) = false := by simpa using c
      unfold encL
      simp only [rb_ok, o1_some, o1b_some, o1i_some, f2_some, rvK_some, opK_some, rlK_t, rlK_f, drK_t, drK_f, drp_e, ev_cst, ev_gl, ev_var, opd_var, od_d, od_v, negK_i, tAnd_1, tOr_1, tb_ok, ev_dct, evs_nil, eos_nil, f1_some, oc_some, ods_nil, ods_cons, isiK_some, clK_ok, ca_some, cmK_ok, cm_some, ctK_ok, ctC_some, muK_some, muF2_some, ownK_l, eoo_non, intK_i, slK_some, wkK_some, bwK_some, eit_bor, r1K_i, r2K_i, enK_t, enK_l, lcX_ok, lockI_val, lockI_bor, lockI_rng1, lockI_rng2, lockI_enum, flK_nx, flK_ret, flK_brk, xss_nil, upK_some, ptF_some, ptK_some, rtK_some, xs_retV, xs_brk, asK_some, frB_e, frK_some, xs_fr_val, xs_fr_rng1, xs_fr_rng2, xs_fr_rng3, xs_fr_enum, xs_fr_zip, dk_rng1, dk_rng2, dk_enum, dk_var, dk_cst, dk_gl, dk_bin, dk_cmp, dk_chain, dk_isN, dk_notN, dk_neg, dk_nt, dk_an, dk_orr, dk_ife, dk_ix, dk_sl, dk_rev, dk_tup, dk_lst, dk_dct, dk_bi, dk_isi, dk_call, dk_callM, dk_callT, dk_mu, dk_lc, dk_lcf, whC_a, whB_a, xs_wh, opK0_a, opd_cst, opd_gl, opd_bin, opd_cmp, opd_chain, opd_isN, opd_notN, opd_neg, opd_nt, opd_an, opd_orr, opd_ife, opd_ix, opd_sl, opd_rev, opd_tup, opd_lst, opd_dct, opd_bi, opd_isi, opd_call, opd_callM, opd_callT, opd_mu, opd_lc, opd_lcf, twoL_a, twoK_a, binG_a, cmpG_a, ixG_a, ev_bin, ev_cmp, ev_ix, oneK_a, isNG_a, negG_a, isiG_a, ev_isN, ev_notN, ev_neg, ev_isi, ntK_a, boK_a, ev_nt, ev_an, ev_orr, anK_t, anK_f, orK_t, orK_f, tAnd_2, tOr_2, ifK_t, ifK_f, ev_ife, ev_tup, ev_lst, evsL_a, evsK_a, evs_cons, eosL_a, eosK_a, eos_cons, biK_a, ev_bi, callK_a, ev_call, cmKK_a, lsK_some, lsK1_a, ev_lset, mxK1_a, ev_mxv, opd_mxv, dk_mxv, lrK_some, lrK1_a, ev_lrng, opd_lrng, dk_lrng, cnF_some, cnK_a, isLs_l, ev_cnt, opd_cnt, dk_cnt, dzK2_a, dzK1_a, ev_dzip, opd_dzip, dk_dzip, opd_lset, dk_lset, ev_callM, ctK2_a, ctK1_a, ev_callT, muKK_a, ev_mu, eoK_a, eoo_som, slK3_a, slK2_a, slK1_a, ev_sl, wvK_a, eit_val, r1K1_a, eit_rng1, r2K2_a, r2K1_a, eit_rng2, enK1_a, eit_enum, lcEK_a, lcE_a, lcCK_t, lcCK_f, lcC_a, aoK_some, lcB_a, lcK1_a, ev_lc, lcK2_a, ev_lcf, flC_nx, flC_ret, flC_brk, xss_cons, asgK_a, xs_asg, unpK_a, xs_unp, parK2_a, parK1_a, xs_par, putK2_a, putK1_a, xs_put, retK_a, xs_ret_mxv, xs_ret_lrng, xs_ret_dzip, xs_ret_cnt, xs_ret_lset, xs_ret_cst, xs_ret_gl, xs_ret_bin, xs_ret_cmp, xs_ret_chain, xs_ret_isN, xs_ret_notN, xs_ret_neg, xs_ret_nt, xs_ret_an, xs_ret_orr, xs_ret_ife, xs_ret_ix, xs_ret_sl, xs_ret_rev, xs_ret_tup, xs_ret_lst, xs_ret_dct, xs_ret_bi, xs_ret_isi, xs_ret_call, xs_ret_callM, xs_ret_callT, xs_ret_mu, xs_ret_lc, xs_ret_lcf, ifsK_t, ifsK_f, xs_ifs, exK_a, xs_ex, frK1_a, frK_none, chK4_a, chK3_t, chK3_f, chK2_a, chK1_a, ev_chain, isNK_n, isNK_i, isNK_t, isNK_l, lcLK2_s, lcLK2_n, lcLK1_a, lcL_c, lcL_n, gt_s, st_s, asgT_nm, as2_some, asgT_tp, asgTs_nil, asgTs_cons, rlsAll_nil, rlsAll_d, rlsAll_v, abK_some, frcB_a, frcK_a, xs_frc, frR_nx, frR_ret, wipeD_nil, wipeD_cons, backD_nil, backD_cons, gt_0, st_0, rls_e, ownL_e, Option.map_some, Option.isSome_some, if_true, List.isEmpty_nil, lstK_0, lstK_1, lstK_2, lstK_3, lstK_4, lstK_5, lstK_6, tupK_0, tupK_1, tupK_2, tupK_3, tupK_4, noV_nil, noV_d, noV_1, noV_2, noV_3, noV_4, noV_5, noV_6, noV_7, noV_8, ite_tt, and_self, List.cons_append, List.nil_append, iL_1, pl_int, pl_bool, pl_none, pl_str, pl_list, pl_dict, Bool.false_eq_true, if_false, Bool.not_true, Bool.not_false, b_add, b_sub, c_eq, c_ne, c_lt, c_le, c_gt, c_ge, t6, c', d_tup]
      exact fin_ret ⟨ps, bx / 6, rfl, rfl, rfl, P.sheet hn1, by rw [P.len]; exact hnm, fun p hp => ⟨(P.sm p hp).1.mono (by decide), (P.sm p hp).2.mono (by decide)⟩⟩
end Bw
namespace Bw
open PySem PySem.Spec PyProof.Rows L2
theorem sheet_ok {t : Tb} (h1 : t (Str.ofString "_law_sheet") = some D._law_sheet_v2) (h2 : t (Str.ofString "_law_take") = some D._law_take) (h3 : t (Str.ofString "_law_free") = some D._law_free_v2) (h4 : t (Str.ofString "_law_bend") = some D._law_bend_v2) {n : Nat} {x : Int} {m : Nat} (hm : 1 ≤ m ∧ m ≤ 24) :
    ∃ (ps : List Pt) (x' : Int), run t (n + 3) (Str.ofString "_law_sheet") [.list [.int x], .int m] = .ok (encT ps) false (.list [.int x']) ∧ Sheet ps ∧ ps.length ≤ m ∧ ∀ p ∈ ps, Bd 120 p.1 ∧ Bd 120 p.2 := by
  obtain ⟨d, w, δ, e, ps, x', rfl, rfl, hg, hs, hl⟩ := sheet_body (cl := run t (n + 2)) (x := x) hm (fun x k h0 h1 => take_ok h2 h0 h1) (fun ps p hp hs hsm => free_ok h3 h4 (seqL hp hs) hsm)
  exact ⟨ps, x', run_ret1 h1 rfl rfl e hg, hs, hl⟩
end Bw

set_option maxRecDepth 100000
namespace Bw
open PySem PySem.Spec PyProof.Rows L2
/-! ### the program takes a sheet -/
theorem whole_ok {t : Tb} (h : t (Str.ofString "is_whole") = some D.is_whole) {n : Nat} (i : Int) : run t (n + 1) (Str.ofString "is_whole") [.int i] = .ok (.bool true) false .none := by
  refine run_ret (df := D.is_whole) (δ := [some (.int i, false)]) h rfl rfl ?_
  simp only [D.is_whole, entry, List.map_cons, List.map_nil, List.length_cons, List.length_nil, List.replicate, Nat.zero_add, Nat.reduceAdd, Nat.reduceSub, List.replicate_zero, List.cons_append, List.nil_append]
  simp only [rb_ok, o1_some, o1b_some, o1i_some, f2_some, rvK_some, opK_some, rlK_t, rlK_f, drK_t, drK_f, drp_e, ev_cst, ev_gl, ev_var, opd_var, od_d, od_v, negK_i, tAnd_1, tOr_1, tb_ok, ev_dct, evs_nil, eos_nil, f1_some, oc_some, ods_nil, ods_cons, isiK_some, clK_ok, ca_some, cmK_ok, cm_some, ctK_ok, ctC_some, muK_some, muF2_some, ownK_l, eoo_non, intK_i, slK_some, wkK_some, bwK_some, eit_bor, r1K_i, r2K_i, enK_t, enK_l, lcX_ok, lockI_val, lockI_bor, lockI_rng1, lockI_rng2, lockI_enum, flK_nx, flK_ret, flK_brk, xss_nil, upK_some, ptF_some, ptK_some, rtK_some, xs_retV, xs_brk, asK_some, frB_e, frK_some, xs_fr_val, xs_fr_rng1, xs_fr_rng2, xs_fr_rng3, xs_fr_enum, xs_fr_zip, dk_rng1, dk_rng2, dk_enum, dk_var, dk_cst, dk_gl, dk_bin, dk_cmp, dk_chain, dk_isN, dk_notN, dk_neg, dk_nt, dk_an, dk_orr, dk_ife, dk_ix, dk_sl, dk_rev, dk_tup, dk_lst, dk_dct, dk_bi, dk_isi, dk_call, dk_callM, dk_callT, dk_mu, dk_lc, dk_lcf, whC_a, whB_a, xs_wh, opK0_a, opd_cst, opd_gl, opd_bin, opd_cmp, opd_chain, opd_isN, opd_notN, opd_neg, opd_nt, opd_an, opd_orr, opd_ife, opd_ix, opd_sl, opd_rev, opd_tup, opd_lst, opd_dct, opd_bi, opd_isi, opd_call, opd_callM, opd_callT, opd_mu, opd_lc, opd_lcf, twoL_a, twoK_a, binG_a, cmpG_a, ixG_a, ev_bin, ev_cmp, ev_ix, oneK_a, isNG_a, negG_a, isiG_a, ev_isN, ev_notN, ev_neg, ev_isi, ntK_a, boK_a, ev_nt, ev_an, ev_orr, anK_t, anK_f, orK_t, orK_f, tAnd_2, tOr_2, ifK_t, ifK_f, ev_ife, ev_tup, ev_lst, evsL_a, evsK_a, evs_cons, eosL_a, eosK_a, eos_cons, biK_a, ev_bi, callK_a, ev_call, cmKK_a, lsK_some, lsK1_a, ev_lset, mxK1_a, ev_mxv, opd_mxv, dk_mxv, lrK_some, lrK1_a, ev_lrng, opd_lrng, dk_lrng, cnF_some, cnK_a, isLs_l, ev_cnt, opd_cnt, dk_cnt, dzK2_a, dzK1_a, ev_dzip, opd_dzip, dk_dzip, opd_lset, dk_lset, ev_callM, ctK2_a, ctK1_a, ev_callT, muKK_a, ev_mu, eoK_a, eoo_som, slK3_a, slK2_a, slK1_a, ev_sl, wvK_a, eit_val, r1K1_a, eit_rng1, r2K2_a, r2K1_a, eit_rng2, enK1_a, eit_enum, lcEK_a, lcE_a, lcCK_t, lcCK_f, lcC_a, aoK_some, lcB_a, lcK1_a, ev_lc, lcK2_a, ev_lcf, flC_nx, flC_ret, flC_brk, xss_cons, asgK_a, xs_asg, unpK_a, xs_unp, parK2_a, parK1_a, xs_par, putK2_a, putK1_a, xs_put, retK_a, xs_ret_mxv, xs_ret_lrng, xs_ret_dzip, xs_ret_cnt, xs_ret_lset, xs_ret_cst, xs_ret_gl, xs_ret_bin, xs_ret_cmp, xs_ret_chain, xs_ret_isN, xs_ret_notN, xs_ret_neg, xs_ret_nt, xs_ret_an, xs_ret_orr, xs_ret_ife, xs_ret_ix, xs_ret_sl, xs_ret_rev, xs_ret_tup, xs_ret_lst, xs_ret_dct, xs_ret_bi, xs_ret_isi, xs_ret_call, xs_ret_callM, xs_ret_callT, xs_ret_mu, xs_ret_lc, xs_ret_lcf, ifsK_t, ifsK_f, xs_ifs, exK_a, xs_ex, frK1_a, frK_none, chK4_a, chK3_t, chK3_f, chK2_a, chK1_a, ev_chain, isNK_n, isNK_i, isNK_t, isNK_l, lcLK2_s, lcLK2_n, lcLK1_a, lcL_c, lcL_n, gt_s, st_s, asgT_nm, as2_some, asgT_tp, asgTs_nil, asgTs_cons, rlsAll_nil, rlsAll_d, rlsAll_v, abK_some, frcB_a, frcK_a, xs_frc, frR_nx, frR_ret, wipeD_nil, wipeD_cons, backD_nil, backD_cons, gt_0, st_0, rls_e, ownL_e, Option.map_some, Option.isSome_some, if_true, List.isEmpty_nil, lstK_0, lstK_1, lstK_2, lstK_3, lstK_4, lstK_5, lstK_6, tupK_0, tupK_1, tupK_2, tupK_3, tupK_4, noV_nil, noV_d, noV_1, noV_2, noV_3, noV_4, noV_5, noV_6, noV_7, noV_8, ite_tt, and_self, List.cons_append, List.nil_append, iL_1, pl_int, pl_bool, pl_none, pl_str, pl_list, pl_dict, Bool.false_eq_true, if_false, Bool.not_true, Bool.not_false, b_add, b_sub, c_eq, c_ne, c_lt, c_le, c_gt, c_ge, isiK_some, is_ii, is_ib]
theorem point_ok {t : Tb} (h : t (Str.ofString "is_point") = some D.is_point) (h2 : t (Str.ofString "is_whole") = some D.is_whole) {n : Nat} (p : Pt) : run t (n + 2) (Str.ofString "is_point") [encP p] = .ok (.bool true) false .none := by
  refine run_ret (df := D.is_point) (δ := [some (encP p, false), none]) h rfl rfl ?_
  have w1 := whole_ok h2 (n := n) p.1
  have w2 := whole_ok h2 (n := n) p.2
  have a2 : biD .all [.list [.bool true, .bool true]] = some (.bool true, false) := d_all [true, true]
  have l2 : biD .len [encP p] = some (.int 2, false) := rfl
  have i1 : isiO (encP p) "tuple" = some true := rfl
  have hw : walkD (encP p) = some [.int p.1, .int p.2] := rfl
  have hl : [PyData.bool true, PyData.bool true].length ≤ lim := lim_of (by simp)
  generalize run t (n + 1) = cl at w1 w2 ⊢
  generalize encP p = e at l2 i1 hw ⊢
  simp only [D.is_point, entry, List.map_cons, List.map_nil, List.length_cons, List.length_nil, List.replicate, Nat.zero_add, Nat.reduceAdd, Nat.reduceSub, List.replicate_zero, List.cons_append, List.nil_append]
  simp only [rb_ok, o1_some, o1b_some, o1i_some, f2_some, rvK_some, opK_some, rlK_t, rlK_f, drK_t, drK_f, drp_e, ev_cst, ev_gl, ev_var, opd_var, od_d, od_v, negK_i, tAnd_1, tOr_1, tb_ok, ev_dct, evs_nil, eos_nil, f1_some, oc_some, ods_nil, ods_cons, isiK_some, clK_ok, ca_some, cmK_ok, cm_some, ctK_ok, ctC_some, muK_some, muF2_some, ownK_l, eoo_non, intK_i, slK_some, wkK_some, bwK_some, eit_bor, r1K_i, r2K_i, enK_t, enK_l, lcX_ok, lockI_val, lockI_bor, lockI_rng1, lockI_rng2, lockI_enum, flK_nx, flK_ret, flK_brk, xss_nil, upK_some, ptF_some, ptK_some, rtK_some, xs_retV, xs_brk, asK_some, frB_e, frK_some, xs_fr_val, xs_fr_rng1, xs_fr_rng2, xs_fr_rng3, xs_fr_enum, xs_fr_zip, dk_rng1, dk_rng2, dk_enum, dk_var, dk_cst, dk_gl, dk_bin, dk_cmp, dk_chain, dk_isN, dk_notN, dk_neg, dk_nt, dk_an, dk_orr, dk_ife, dk_ix, dk_sl, dk_rev, dk_tup, dk_lst, dk_dct, dk_bi, dk_isi, dk_call, dk_callM, dk_callT, dk_mu, dk_lc, dk_lcf, whC_a, whB_a, xs_wh, opK0_a, opd_cst, opd_gl, opd_bin, opd_cmp, opd_chain, opd_isN, opd_notN, opd_neg, opd_nt, opd_an, opd_orr, opd_ife, opd_ix, opd_sl, opd_rev, opd_tup, opd_lst, opd_dct, opd_bi, opd_isi, opd_call, opd_callM, opd_callT, opd_mu, opd_lc, opd_lcf, twoL_a, twoK_a, binG_a, cmpG_a, ixG_a, ev_bin, ev_cmp, ev_ix, oneK_a, isNG_a, negG_a, isiG_a, ev_isN, ev_notN, ev_neg, ev_isi, ntK_a, boK_a, ev_nt, ev_an, ev_orr, anK_t, anK_f, orK_t, orK_f, tAnd_2, tOr_2, ifK_t, ifK_f, ev_ife, ev_tup, ev_lst, evsL_a, evsK_a, evs_cons, eosL_a, eosK_a, eos_cons, biK_a, ev_bi, callK_a, ev_call, cmKK_a, lsK_some, lsK1_a, ev_lset, mxK1_a, ev_mxv, opd_mxv, dk_mxv, lrK_some, lrK1_a, ev_lrng, opd_lrng, dk_lrng, cnF_some, cnK_a, isLs_l, ev_cnt, opd_cnt, dk_cnt, dzK2_a, dzK1_a, ev_dzip, opd_dzip, dk_dzip, opd_lset, dk_lset, ev_callM, ctK2_a, ctK1_a, ev_callT, muKK_a, ev_mu, eoK_a, eoo_som, slK3_a, slK2_a, slK1_a, ev_sl, wvK_a, eit_val, r1K1_a, eit_rng1, r2K2_a, r2K1_a, eit_rng2, enK1_a, eit_enum, lcEK_a, lcE_a, lcCK_t, lcCK_f, lcC_a, aoK_some, lcB_a, lcK1_a, ev_lc, lcK2_a, ev_lcf, flC_nx, flC_ret, flC_brk, xss_cons, asgK_a, xs_asg, unpK_a, xs_unp, parK2_a, parK1_a, xs_par, putK2_a, putK1_a, xs_put, retK_a, xs_ret_mxv, xs_ret_lrng, xs_ret_dzip, xs_ret_cnt, xs_ret_lset, xs_ret_cst, xs_ret_gl, xs_ret_bin, xs_ret_cmp, xs_ret_chain, xs_ret_isN, xs_ret_notN, xs_ret_neg, xs_ret_nt, xs_ret_an, xs_ret_orr, xs_ret_ife, xs_ret_ix, xs_ret_sl, xs_ret_rev, xs_ret_tup, xs_ret_lst, xs_ret_dct, xs_ret_bi, xs_ret_isi, xs_ret_call, xs_ret_callM, xs_ret_callT, xs_ret_mu, xs_ret_lc, xs_ret_lcf, ifsK_t, ifsK_f, xs_ifs, exK_a, xs_ex, frK1_a, frK_none, chK4_a, chK3_t, chK3_f, chK2_a, chK1_a, ev_chain, isNK_n, isNK_i, isNK_t, isNK_l, lcLK2_s, lcLK2_n, lcLK1_a, lcL_c, lcL_n, gt_s, st_s, asgT_nm, as2_some, asgT_tp, asgTs_nil, asgTs_cons, rlsAll_nil, rlsAll_d, rlsAll_v, abK_some, frcB_a, frcK_a, xs_frc, frR_nx, frR_ret, wipeD_nil, wipeD_cons, backD_nil, backD_cons, gt_0, st_0, rls_e, ownL_e, Option.map_some, Option.isSome_some, if_true, List.isEmpty_nil, lstK_0, lstK_1, lstK_2, lstK_3, lstK_4, lstK_5, lstK_6, tupK_0, tupK_1, tupK_2, tupK_3, tupK_4, noV_nil, noV_d, noV_1, noV_2, noV_3, noV_4, noV_5, noV_6, noV_7, noV_8, ite_tt, and_self, List.cons_append, List.nil_append, iL_1, pl_int, pl_bool, pl_none, pl_str, pl_list, pl_dict, Bool.false_eq_true, if_false, Bool.not_true, Bool.not_false, b_add, b_sub, c_eq, c_ne, c_lt, c_le, c_gt, c_ge, i1, l2, hw, w1, w2, a2, beq_self_eq_true, hl, List.append_eq]
theorem first_body {cl : Cl} {ps : List Pt} (hs : Sheet ps) (hl : ps.length < 1000) (hb : ∀ a b c : Pt, Sm a → Sm b → Sm c → cl (Str.ofString "bend") [encP a, encP b, encP c] = .ok (.int (bendI a b c)) false .none) :
    RetP (fun d w _ => d = .none ∧ w = false) (xss cl D.first_three.body (entry D.first_three [encT ps])) := by
  have q := seqT (ps := ps) (by omega) hs.sm
  have hbl := big_of q.lt
  have g : ∀ i, i < ps.length → ∃ a, ps[i]? = some a ∧ Sm a := fun i hi => ⟨ps[i], by simp [hi], hs.sm _ (List.getElem_mem hi)⟩
  simp only [D.first_three, entry, List.map_cons, List.map_nil, List.length_cons, List.length_nil, List.replicate, Nat.zero_add, Nat.reduceAdd, Nat.reduceSub, List.replicate_zero, List.cons_append, List.nil_append]
  simp only [rb_ok, o1_some, o1b_some, o1i_some, f2_some, rvK_some, opK_some, rlK_t, rlK_f, drK_t, drK_f, drp_e, ev_cst, ev_gl, ev_var, opd_var, od_d, od_v, negK_i, tAnd_1, tOr_1, tb_ok, ev_dct, evs_nil, eos_nil, f1_some, oc_some, ods_nil, ods_cons, isiK_some, clK_ok, ca_some, cmK_ok, cm_some, ctK_ok, ctC_some, muK_some, muF2_some, ownK_l, eoo_non, intK_i, slK_some, wkK_some, bwK_some, eit_bor, r1K_i, r2K_i, enK_t, enK_l, lcX_ok, lockI_val, lockI_bor, lockI_rng1, lockI_rng2, lockI_enum, flK_nx, flK_ret, flK_brk, xss_nil, upK_some, ptF_some, ptK_some, rtK_some, xs_retV, xs_brk, asK_some, frB_e, frK_some, xs_fr_val, xs_fr_rng1, xs_fr_rng2, xs_fr_rng3, xs_fr_enum, xs_fr_zip, dk_rng1, dk_rng2, dk_enum, dk_var, dk_cst, dk_gl, dk_bin, dk_cmp, dk_chain, dk_isN, dk_notN, dk_neg, dk_nt, dk_an, dk_orr, dk_ife, dk_ix, dk_sl, dk_rev, dk_tup, dk_lst, dk_dct, dk_bi, dk_isi, dk_call, dk_callM, dk_callT, dk_mu, dk_lc, dk_lcf, whC_a, whB_a, xs_wh, opK0_a, opd_cst, opd_gl, opd_bin, opd_cmp, opd_chain, opd_isN, opd_notN, opd_neg, opd_nt, opd_an, opd_orr, opd_ife, opd_ix, opd_sl, opd_rev, opd_tup, opd_lst, opd_dct, opd_bi, opd_isi, opd_call, opd_callM, opd_callT, opd_mu, opd_lc, opd_lcf, twoL_a, twoK_a, binG_a, cmpG_a, ixG_a, ev_bin, ev_cmp, ev_ix, oneK_a, isNG_a, negG_a, isiG_a, ev_isN, ev_notN, ev_neg, ev_isi, ntK_a, boK_a, ev_nt, ev_an, ev_orr, anK_t, anK_f, orK_t, orK_f, tAnd_2, tOr_2, ifK_t, ifK_f, ev_ife, ev_tup, ev_lst, evsL_a, evsK_a, evs_cons, eosL_a, eosK_a, eos_cons, biK_a, ev_bi, callK_a, ev_call, cmKK_a, lsK_some, lsK1_a, ev_lset, mxK1_a, ev_mxv, opd_mxv, dk_mxv, lrK_some, lrK1_a, ev_lrng, opd_lrng, dk_lrng, cnF_some, cnK_a, isLs_l, ev_cnt, opd_cnt, dk_cnt, dzK2_a, dzK1_a, ev_dzip, opd_dzip, dk_dzip, opd_lset, dk_lset, ev_callM, ctK2_a, ctK1_a, ev_callT, muKK_a, ev_mu, eoK_a, eoo_som, slK3_a, slK2_a, slK1_a, ev_sl, wvK_a, eit_val, r1K1_a, eit_rng1, r2K2_a, r2K1_a, eit_rng2, enK1_a, eit_enum, lcEK_a, lcE_a, lcCK_t, lcCK_f, lcC_a, aoK_some, lcB_a, lcK1_a, ev_lc, lcK2_a, ev_lcf, flC_nx, flC_ret, flC_brk, xss_cons, asgK_a, xs_asg, unpK_a, xs_unp, parK2_a, parK1_a, xs_par, putK2_a, putK1_a, xs_put, retK_a, xs_ret_mxv, xs_ret_lrng, xs_ret_dzip, xs_ret_cnt, xs_ret_lset, xs_ret_cst, xs_ret_gl, xs_ret_bin, xs_ret_cmp, xs_ret_chain, xs_ret_isN, xs_ret_notN, xs_ret_neg, xs_ret_nt, xs_ret_an, xs_ret_orr, xs_ret_ife, xs_ret_ix, xs_ret_sl, xs_ret_rev, xs_ret_tup, xs_ret_lst, xs_ret_dct, xs_ret_bi, xs_ret_isi, xs_ret_call, xs_ret_callM, xs_ret_callT, xs_ret_mu, xs_ret_lc, xs_ret_lcf, ifsK_t, ifsK_f, xs_ifs, exK_a, xs_ex, frK1_a, frK_none, chK4_a, chK3_t, chK3_f, chK2_a, chK1_a, ev_chain, isNK_n, isNK_i, isNK_t, isNK_l, lcLK2_s, lcLK2_n, lcLK1_a, lcL_c, lcL_n, gt_s, st_s, asgT_nm, as2_some, asgT_tp, asgTs_nil, asgTs_cons, rlsAll_nil, rlsAll_d, rlsAll_v, abK_some, frcB_a, frcK_a, xs_frc, frR_nx, frR_ret, wipeD_nil, wipeD_cons, backD_nil, backD_cons, gt_0, st_0, rls_e, ownL_e, Option.map_some, Option.isSome_some, if_true, List.isEmpty_nil, lstK_0, lstK_1, lstK_2, lstK_3, lstK_4, lstK_5, lstK_6, tupK_0, tupK_1, tupK_2, tupK_3, tupK_4, noV_nil, noV_d, noV_1, noV_2, noV_3, noV_4, noV_5, noV_6, noV_7, noV_8, ite_tt, and_self, List.cons_append, List.nil_append, iL_1, pl_int, pl_bool, pl_none, pl_str, pl_list, pl_dict, Bool.false_eq_true, if_false, Bool.not_true, Bool.not_false, b_add, b_sub, c_eq, c_ne, c_lt, c_le, c_gt, c_ge, q.len, hbl]
  refine ret_for (fun i δ => ∃ x1 x2 x3 : Option (Dt × Bool), δ = [some (encT ps, false), x1, x2, x3]) ⟨none, none, none, rfl⟩ ?_ ?_
  · rintro i d δ hd ⟨x1, x2, x3, rfl⟩
    obtain ⟨rfl, hi⟩ := rngL_get hd
    rw [Int.toNat_natCast] at hi
    rw [Int.zero_add]
    have hb1 : big ((i : Int) + 1) = true := big_of (n := i + 1) (by omega)
    simp only [rb_ok, o1_some, o1b_some, o1i_some, f2_some, rvK_some, opK_some, rlK_t, rlK_f, drK_t, drK_f, drp_e, ev_cst, ev_gl, ev_var, opd_var, od_d, od_v, negK_i, tAnd_1, tOr_1, tb_ok, ev_dct, evs_nil, eos_nil, f1_some, oc_some, ods_nil, ods_cons, isiK_some, clK_ok, ca_some, cmK_ok, cm_some, ctK_ok, ctC_some, muK_some, muF2_some, ownK_l, eoo_non, intK_i, slK_some, wkK_some, bwK_some, eit_bor, r1K_i, r2K_i, enK_t, enK_l, lcX_ok, lockI_val, lockI_bor, lockI_rng1, lockI_rng2, lockI_enum, flK_nx, flK_ret, flK_brk, xss_nil, upK_some, ptF_some, ptK_some, rtK_some, xs_retV, xs_brk, asK_some, frB_e, frK_some, xs_fr_val, xs_fr_rng1, xs_fr_rng2, xs_fr_rng3, xs_fr_enum, xs_fr_zip, dk_rng1, dk_rng2, dk_enum, dk_var, dk_cst, dk_gl, dk_bin, dk_cmp, dk_chain, dk_isN, dk_notN, dk_neg, dk_nt, dk_an, dk_orr, dk_ife, dk_ix, dk_sl, dk_rev, dk_tup, dk_lst, dk_dct, dk_bi, dk_isi, dk_call, dk_callM, dk_callT, dk_mu, dk_lc, dk_lcf, whC_a, whB_a, xs_wh, opK0_a, opd_cst, opd_gl, opd_bin, opd_cmp, opd_chain, opd_isN, opd_notN, opd_neg, opd_nt, opd_an, opd_orr, opd_ife, opd_ix, opd_sl, opd_rev, opd_tup, opd_lst, opd_dct, opd_bi, opd_isi, opd_call, opd_callM, opd_callT, opd_mu, opd_lc, opd_lcf, twoL_a, twoK_a, binG_a, cmpG_a, ixG_a, ev_bin, ev_cmp, ev_ix, oneK_a, isNG_a, negG_a, isiG_a, ev_isN, ev_notN, ev_neg, ev_isi, ntK_a, boK_a, ev_nt, ev_an, ev_orr, anK_t, anK_f, orK_t, orK_f, tAnd_2, tOr_2, ifK_t, ifK_f, ev_ife, ev_tup, ev_lst, evsL_a, evsK_a, evs_cons, eosL_a, eosK_a, eos_cons, biK_a, ev_bi, callK_a, ev_call, cmKK_a, lsK_some, lsK1_a, ev_lset, mxK1_a, ev_mxv, opd_mxv, dk_mxv, lrK_some, lrK1_a, ev_lrng, opd_lrng, dk_lrng, cnF_some, cnK_a, isLs_l, ev_cnt, opd_cnt, dk_cnt, dzK2_a, dzK1_a, ev_dzip, opd_dzip, dk_dzip, opd_lset, dk_lset, ev_callM, ctK2_a, ctK1_a, ev_callT, muKK_a, ev_mu, eoK_a, eoo_som, slK3_a, slK2_a, slK1_a, ev_sl, wvK_a, eit_val, r1K1_a, eit_rng1, r2K2_a, r2K1_a, eit_rng2, enK1_a, eit_enum, lcEK_a, lcE_a, lcCK_t, lcCK_f, lcC_a, aoK_some, lcB_a, lcK1_a, ev_lc, lcK2_a, ev_lcf, flC_nx, flC_ret, flC_brk, xss_cons, asgK_a, xs_asg, unpK_a, xs_unp, parK2_a, parK1_a, xs_par, putK2_a, putK1_a, xs_put, retK_a, xs_ret_mxv, xs_ret_lrng, xs_ret_dzip, xs_ret_cnt, xs_ret_lset, xs_ret_cst, xs_ret_gl, xs_ret_bin, xs_ret_cmp, xs_ret_chain, xs_ret_isN, xs_ret_notN, xs_ret_neg, xs_ret_nt, xs_ret_an, xs_ret_orr, xs_ret_ife, xs_ret_ix, xs_ret_sl, xs_ret_rev, xs_ret_tup, xs_ret_lst, xs_ret_dct, xs_ret_bi, xs_ret_isi, xs_ret_call, xs_ret_callM, xs_ret_callT, xs_ret_mu, xs_ret_lc, xs_ret_lcf, ifsK_t, ifsK_f, xs_ifs, exK_a, xs_ex, frK1_a, frK_none, chK4_a, chK3_t, chK3_f, chK2_a, chK1_a, ev_chain, isNK_n, isNK_i, isNK_t, isNK_l, lcLK2_s, lcLK2_n, lcLK1_a, lcL_c, lcL_n, gt_s, st_s, asgT_nm, as2_some, asgT_tp, asgTs_nil, asgTs_cons, rlsAll_nil, rlsAll_d, rlsAll_v, abK_some, frcB_a, frcK_a, xs_frc, frR_nx, frR_ret, wipeD_nil, wipeD_cons, backD_nil, backD_cons, gt_0, st_0, rls_e, ownL_e, Option.map_some, Option.isSome_some, if_true, List.isEmpty_nil, lstK_0, lstK_1, lstK_2, lstK_3, lstK_4, lstK_5, lstK_6, tupK_0, tupK_1, tupK_2, tupK_3, tupK_4, noV_nil, noV_d, noV_1, noV_2, noV_3, noV_4, noV_5, noV_6, noV_7, noV_8, ite_tt, and_self, List.cons_append, List.nil_append, iL_1, pl_int, pl_bool, pl_none, pl_str, pl_list, pl_dict, Bool.false_eq_true, if_false, Bool.not_true, Bool.not_false, b_add, b_sub, c_eq, c_ne, c_lt, c_le, c_gt, c_ge, q.len, hbl, hb1]
    refine nr_for (fun j δ => ∃ x2 x3 : Option (Dt × Bool), δ = [some (encT ps, false), some (.int i, false), x2, x3]) ⟨x2, x3, rfl⟩ ?_ ?_
    · rintro j d δ hd ⟨x2, x3, rfl⟩
      obtain ⟨rfl, hj⟩ := rngL_get hd
      have hb2 : big ((i : Int) + 1 + j + 1) = true := big_of (n := i + 1 + j + 1) (by omega)
      simp only [rb_ok, o1_some, o1b_some, o1i_some, f2_some, rvK_some, opK_some, rlK_t, rlK_f, drK_t, drK_f, drp_e, ev_cst, ev_gl, ev_var, opd_var, od_d, od_v, negK_i, tAnd_1, tOr_1, tb_ok, ev_dct, evs_nil, eos_nil, f1_some, oc_some, ods_nil, ods_cons, isiK_some, clK_ok, ca_some, cmK_ok, cm_some, ctK_ok, ctC_some, muK_some, muF2_some, ownK_l, eoo_non, intK_i, slK_some, wkK_some, bwK_some, eit_bor, r1K_i, r2K_i, enK_t, enK_l, lcX_ok, lockI_val, lockI_bor, lockI_rng1, lockI_rng2, lockI_enum, flK_nx, flK_ret, flK_brk, xss_nil, upK_some, ptF_some, ptK_some, rtK_some, xs_retV, xs_brk, asK_some, frB_e, frK_some, xs_fr_val, xs_fr_rng1, xs_fr_rng2, xs_fr_rng3, xs_fr_enum, xs_fr_zip, dk_rng1, dk_rng2, dk_enum, dk_var, dk_cst, dk_gl, dk_bin, dk_cmp, dk_chain, dk_isN, dk_notN, dk_neg, dk_nt, dk_an, dk_orr, dk_ife, dk_ix, dk_sl, dk_rev, dk_tup, dk_lst, dk_dct, dk_bi, dk_isi, dk_call, dk_callM, dk_callT, dk_mu, dk_lc, dk_lcf, whC_a, whB_a, xs_wh, opK0_a, opd_cst, opd_gl, opd_bin, opd_cmp, opd_chain, opd_isN, opd_notN, opd_neg, opd_nt, opd_an, opd_orr, opd_ife, opd_ix, opd_sl, opd_rev, opd_tup, opd_lst, opd_dct, opd_bi, opd_isi, opd_call, opd_callM, opd_callT, opd_mu, opd_lc, opd_lcf, twoL_a, twoK_a, binG_a, cmpG_a, ixG_a, ev_bin, ev_cmp, ev_ix, oneK_a, isNG_a, negG_a, isiG_a, ev_isN, ev_notN, ev_neg, ev_isi, ntK_a, boK_a, ev_nt, ev_an, ev_orr, anK_t, anK_f, orK_t, orK_f, tAnd_2, tOr_2, ifK_t, ifK_f, ev_ife, ev_tup, ev_lst, evsL_a, evsK_a, evs_cons, eosL_a, eosK_a, eos_cons, biK_a, ev_bi, callK_a, ev_call, cmKK_a, lsK_some, lsK1_a, ev_lset, mxK1_a, ev_mxv, opd_mxv, dk_mxv, lrK_some, lrK1_a, ev_lrng, opd_lrng, dk_lrng, cnF_some, cnK_a, isLs_l, ev_cnt, opd_cnt, dk_cnt, dzK2_a, dzK1_a, ev_dzip, opd_dzip, dk_dzip, opd_lset, dk_lset, ev_callM, ctK2_a, ctK1_a, ev_callT, muKK_a, ev_mu, eoK_a, eoo_som, slK3_a, slK2_a, slK1_a, ev_sl, wvK_a, eit_val, r1K1_a, eit_rng1, r2K2_a, r2K1_a, eit_rng2, enK1_a, eit_enum, lcEK_a, lcE_a, lcCK_t, lcCK_f, lcC_a, aoK_some, lcB_a, lcK1_a, ev_lc, lcK2_a, ev_lcf, flC_nx, flC_ret, flC_brk, xss_cons, asgK_a, xs_asg, unpK_a, xs_unp, parK2_a, parK1_a, xs_par, putK2_a, putK1_a, xs_put, retK_a, xs_ret_mxv, xs_ret_lrng, xs_ret_dzip, xs_ret_cnt, xs_ret_lset, xs_ret_cst, xs_ret_gl, xs_ret_bin, xs_ret_cmp, xs_ret_chain, xs_ret_isN, xs_ret_notN, xs_ret_neg, xs_ret_nt, xs_ret_an, xs_ret_orr, xs_ret_ife, xs_ret_ix, xs_ret_sl, xs_ret_rev, xs_ret_tup, xs_ret_lst, xs_ret_dct, xs_ret_bi, xs_ret_isi, xs_ret_call, xs_ret_callM, xs_ret_callT, xs_ret_mu, xs_ret_lc, xs_ret_lcf, ifsK_t, ifsK_f, xs_ifs, exK_a, xs_ex, frK1_a, frK_none, chK4_a, chK3_t, chK3_f, chK2_a, chK1_a, ev_chain, isNK_n, isNK_i, isNK_t, isNK_l, lcLK2_s, lcLK2_n, lcLK1_a, lcL_c, lcL_n, gt_s, st_s, asgT_nm, as2_some, asgT_tp, asgTs_nil, asgTs_cons, rlsAll_nil, rlsAll_d, rlsAll_v, abK_some, frcB_a, frcK_a, xs_frc, frR_nx, frR_ret, wipeD_nil, wipeD_cons, backD_nil, backD_cons, gt_0, st_0, rls_e, ownL_e, Option.map_some, Option.isSome_some, if_true, List.isEmpty_nil, lstK_0, lstK_1, lstK_2, lstK_3, lstK_4, lstK_5, lstK_6, tupK_0, tupK_1, tupK_2, tupK_3, tupK_4, noV_nil, noV_d, noV_1, noV_2, noV_3, noV_4, noV_5, noV_6, noV_7, noV_8, ite_tt, and_self, List.cons_append, List.nil_append, iL_1, pl_int, pl_bool, pl_none, pl_str, pl_list, pl_dict, Bool.false_eq_true, if_false, Bool.not_true, Bool.not_false, b_add, b_sub, c_eq, c_ne, c_lt, c_le, c_gt, c_ge, q.len, hbl, hb2]
      refine nr_for (fun k δ => ∃ x3 : Option (Dt × Bool), δ = [some (encT ps, false), some (.int i, false), some (.int ((i : Int) + 1 + j), false), x3]) ⟨x3, rfl⟩ ?_ ?_
      · rintro k d δ hd ⟨x3, rfl⟩
        obtain ⟨rfl, hk⟩ := rngL_get hd
        obtain ⟨a, ga, sa⟩ := g i hi
        obtain ⟨b, gb, sb⟩ := g (i + 1 + j) (by omega)
        obtain ⟨c, gc, sc⟩ := g (i + 1 + j + 1 + k) (by omega)
        have e := hb a b c sa sb sc
        have ib : ixD (encT ps) (.int ((i : Int) + 1 + j)) = some (encP b) := q.ix (i + 1 + j) b gb
        have ic : ixD (encT ps) (.int ((i : Int) + 1 + j + 1 + k)) = some (encP c) := q.ix (i + 1 + j + 1 + k) c gc
        have ne := hs.line i (i + 1 + j) (i + 1 + j + 1 + k) a b c (by omega) (by omega) ga gb gc
        have c' : (bendI a b c == 0) = false := by simpa using ne
        simp only [rb_ok, o1_some, o1b_some, o1i_some, f2_some, rvK_some, opK_some, rlK_t, rlK_f, drK_t, drK_f, drp_e, ev_cst, ev_gl, ev_var, opd_var, od_d, od_v, negK_i, tAnd_1, tOr_1, tb_ok, ev_dct, evs_nil, eos_nil, f1_some, oc_some, ods_nil, ods_cons, isiK_some, clK_ok, ca_some, cmK_ok, cm_some, ctK_ok, ctC_some, muK_some, muF2_some, ownK_l, eoo_non, intK_i, slK_some, wkK_some, bwK_some, eit_bor, r1K_i, r2K_i, enK_t, enK_l, lcX_ok, lockI_val, lockI_bor, lockI_rng1, lockI_rng2, lockI_enum, flK_nx, flK_ret, flK_brk, xss_nil, upK_some, ptF_some, ptK_some, rtK_some, xs_retV, xs_brk, asK_some, frB_e, frK_some, xs_fr_val, xs_fr_rng1, xs_fr_rng2, xs_fr_rng3, xs_fr_enum, xs_fr_zip, dk_rng1, dk_rng2, dk_enum, dk_var, dk_cst, dk_gl, dk_bin, dk_cmp, dk_chain, dk_isN, dk_notN, dk_neg, dk_nt, dk_an, dk_orr, dk_ife, dk_ix, dk_sl, dk_rev, dk_tup, dk_lst, dk_dct, dk_bi, dk_isi, dk_call, dk_callM, dk_callT, dk_mu, dk_lc, dk_lcf, whC_a, whB_a, xs_wh, opK0_a, opd_cst, opd_gl, opd_bin, opd_cmp, opd_chain, opd_isN, opd_notN, opd_neg, opd_nt, opd_an, opd_orr, opd_ife, opd_ix, opd_sl, opd_rev, opd_tup, opd_lst, opd_dct, opd_bi, opd_isi, opd_call, opd_callM, opd_callT, opd_mu, opd_lc, opd_lcf, twoL_a, twoK_a, binG_a, cmpG_a, ixG_a, ev_bin, ev_cmp, ev_ix, oneK_a, isNG_a, negG_a, isiG_a, ev_isN, ev_notN, ev_neg, ev_isi, ntK_a, boK_a, ev_nt, ev_an, ev_orr, anK_t, anK_f, orK_t, orK_f, tAnd_2, tOr_2, ifK_t, ifK_f, ev_ife, ev_tup, ev_lst, evsL_a, evsK_a, evs_cons, eosL_a, eosK_a, eos_cons, biK_a, ev_bi, callK_a, ev_call, cmKK_a, lsK_some, lsK1_a, ev_lset, mxK1_a, ev_mxv, opd_mxv, dk_mxv, lrK_some, lrK1_a, ev_lrng, opd_lrng, dk_lrng, cnF_some, cnK_a, isLs_l, ev_cnt, opd_cnt, dk_cnt, dzK2_a, dzK1_a, ev_dzip, opd_dzip, dk_dzip, opd_lset, dk_lset, ev_callM, ctK2_a, ctK1_a, ev_callT, muKK_a, ev_mu, eoK_a, eoo_som, slK3_a, slK2_a, slK1_a, ev_sl, wvK_a, eit_val, r1K1_a, eit_rng1, r2K2_a, r2K1_a, eit_rng2, enK1_a, eit_enum, lcEK_a, lcE_a, lcCK_t, lcCK_f, lcC_a, aoK_some, lcB_a, lcK1_a, ev_lc, lcK2_a, ev_lcf, flC_nx, flC_ret, flC_brk, xss_cons, asgK_a, xs_asg, unpK_a, xs_unp, parK2_a, parK1_a, xs_par, putK2_a, putK1_a, xs_put, retK_a, xs_ret_mxv, xs_ret_lrng, xs_ret_dzip, xs_ret_cnt, xs_ret_lset, xs_ret_cst, xs_ret_gl, xs_ret_bin, xs_ret_cmp, xs_ret_chain, xs_ret_isN, xs_ret_notN, xs_ret_neg, xs_ret_nt, xs_ret_an, xs_ret_orr, xs_ret_ife, xs_ret_ix, xs_ret_sl, xs_ret_rev, xs_ret_tup, xs_ret_lst, xs_ret_dct, xs_ret_bi, xs_ret_isi, xs_ret_call, xs_ret_callM, xs_ret_callT, xs_ret_mu, xs_ret_lc, xs_ret_lcf, ifsK_t, ifsK_f, xs_ifs, exK_a, xs_ex, frK1_a, frK_none, chK4_a, chK3_t, chK3_f, chK2_a, chK1_a, ev_chain, isNK_n, isNK_i, isNK_t, isNK_l, lcLK2_s, lcLK2_n, lcLK1_a, lcL_c, lcL_n, gt_s, st_s, asgT_nm, as2_some, asgT_tp, asgTs_nil, asgTs_cons, rlsAll_nil, rlsAll_d, rlsAll_v, abK_some, frcB_a, frcK_a, xs_frc, frR_nx, frR_ret, wipeD_nil, wipeD_cons, backD_nil, backD_cons, gt_0, st_0, rls_e, ownL_e, Option.map_some, Option.isSome_some, if_true, List.isEmpty_nil, lstK_0, lstK_1, lstK_2, lstK_3, lstK_4, lstK_5, lstK_6, tupK_0, tupK_1, tupK_2, tupK_3, tupK_4, noV_nil, noV_d, noV_1, noV_2, noV_3, noV_4, noV_5, noV_6, noV_7, noV_8, ite_tt, and_self, List.cons_append, List.nil_append, iL_1, pl_int, pl_bool, pl_none, pl_str, pl_list, pl_dict, Bool.false_eq_true, if_false, Bool.not_true, Bool.not_false, b_add, b_sub, c_eq, c_ne, c_lt, c_le, c_gt, c_ge, q.ix i a ga, ib, ic, e, c']
        exact nr_nx ⟨_, rfl⟩
      · rintro δ ⟨x3, rfl⟩
        simp only [rb_ok, o1_some, o1b_some, o1i_some, f2_some, rvK_some, opK_some, rlK_t, rlK_f, drK_t, drK_f, drp_e, ev_cst, ev_gl, ev_var, opd_var, od_d, od_v, negK_i, tAnd_1, tOr_1, tb_ok, ev_dct, evs_nil, eos_nil, f1_some, oc_some, ods_nil, ods_cons, isiK_some, clK_ok, ca_some, cmK_ok, cm_some, ctK_ok, ctC_some, muK_some, muF2_some, ownK_l, eoo_non, intK_i, slK_some, wkK_some, bwK_some, eit_bor, r1K_i, r2K_i, enK_t, enK_l, lcX_ok, lockI_val, lockI_bor, lockI_rng1, lockI_rng2, lockI_enum, flK_nx, flK_ret, flK_brk, xss_nil, upK_some, ptF_some, ptK_some, rtK_some, xs_retV, xs_brk, asK_some, frB_e, frK_some, xs_fr_val, xs_fr_rng1, xs_fr_rng2, xs_fr_rng3, xs_fr_enum, xs_fr_zip, dk_rng1, dk_rng2, dk_enum, dk_var, dk_cst, dk_gl, dk_bin, dk_cmp, dk_chain, dk_isN, dk_notN, dk_neg, dk_nt, dk_an, dk_orr, dk_ife, dk_ix, dk_sl, dk_rev, dk_tup, dk_lst, dk_dct, dk_bi, dk_isi, dk_call, dk_callM, dk_callT, dk_mu, dk_lc, dk_lcf, whC_a, whB_a, xs_wh, opK0_a, opd_cst, opd_gl, opd_bin, opd_cmp, opd_chain, opd_isN, opd_notN, opd_neg, opd_nt, opd_an, opd_orr, opd_ife, opd_ix, opd_sl, opd_rev, opd_tup, opd_lst, opd_dct, opd_bi, opd_isi, opd_call, opd_callM, opd_callT, opd_mu, opd_lc, opd_lcf, twoL_a, twoK_a, binG_a, cmpG_a, ixG_a, ev_bin, ev_cmp, ev_ix, oneK_a, isNG_a, negG_a, isiG_a, ev_isN, ev_notN, ev_neg, ev_isi, ntK_a, boK_a, ev_nt, ev_an, ev_orr, anK_t, anK_f, orK_t, orK_f, tAnd_2, tOr_2, ifK_t, ifK_f, ev_ife, ev_tup, ev_lst, evsL_a, evsK_a, evs_cons, eosL_a, eosK_a, eos_cons, biK_a, ev_bi, callK_a, ev_call, cmKK_a, lsK_some, lsK1_a, ev_lset, mxK1_a, ev_mxv, opd_mxv, dk_mxv, lrK_some, lrK1_a, ev_lrng, opd_lrng, dk_lrng, cnF_some, cnK_a, isLs_l, ev_cnt, opd_cnt, dk_cnt, dzK2_a, dzK1_a, ev_dzip, opd_dzip, dk_dzip, opd_lset, dk_lset, ev_callM, ctK2_a, ctK1_a, ev_callT, muKK_a, ev_mu, eoK_a, eoo_som, slK3_a, slK2_a, slK1_a, ev_sl, wvK_a, eit_val, r1K1_a, eit_rng1, r2K2_a, r2K1_a, eit_rng2, enK1_a, eit_enum, lcEK_a, lcE_a, lcCK_t, lcCK_f, lcC_a, aoK_some, lcB_a, lcK1_a, ev_lc, lcK2_a, ev_lcf, flC_nx, flC_ret, flC_brk, xss_cons, asgK_a, xs_asg, unpK_a, xs_unp, parK2_a, parK1_a, xs_par, putK2_a, putK1_a, xs_put, retK_a, xs_ret_mxv, xs_ret_lrng, xs_ret_dzip, xs_ret_cnt, xs_ret_lset, xs_ret_cst, xs_ret_gl, xs_ret_bin, xs_ret_cmp, xs_ret_chain, xs_ret_isN, xs_ret_notN, xs_ret_neg, xs_ret_nt, xs_ret_an, xs_ret_orr, xs_ret_ife, xs_ret_ix, xs_ret_sl, xs_ret_rev, xs_ret_tup, xs_ret_lst, xs_ret_dct, xs_ret_bi, xs_ret_isi, xs_ret_call, xs_ret_callM, xs_ret_callT, xs_ret_mu, xs_ret_lc, xs_ret_lcf, ifsK_t, ifsK_f, xs_ifs, exK_a, xs_ex, frK1_a, frK_none, chK4_a, chK3_t, chK3_f, chK2_a, chK1_a, ev_chain, isNK_n, isNK_i, isNK_t, isNK_l, lcLK2_s, lcLK2_n, lcLK1_a, lcL_c, lcL_n, gt_s, st_s, asgT_nm, as2_some, asgT_tp, asgTs_nil, asgTs_cons, rlsAll_nil, rlsAll_d, rlsAll_v, abK_some, frcB_a, frcK_a, xs_frc, frR_nx, frR_ret, wipeD_nil, wipeD_cons, backD_nil, backD_cons, gt_0, st_0, rls_e, ownL_e, Option.map_some, Option.isSome_some, if_true, List.isEmpty_nil, lstK_0, lstK_1, lstK_2, lstK_3, lstK_4, lstK_5, lstK_6, tupK_0, tupK_1, tupK_2, tupK_3, tupK_4, noV_nil, noV_d, noV_1, noV_2, noV_3, noV_4, noV_5, noV_6, noV_7, noV_8, ite_tt, and_self, List.cons_append, List.nil_append, iL_1, pl_int, pl_bool, pl_none, pl_str, pl_list, pl_dict, Bool.false_eq_true, if_false, Bool.not_true, Bool.not_false, b_add, b_sub, c_eq, c_ne, c_lt, c_le, c_gt, c_ge]
        exact nr_nx ⟨_, _, rfl⟩
    · rintro δ ⟨x2, x3, rfl⟩
      simp only [rb_ok, o1_some, o1b_some, o1i_some, f2_some, rvK_some, opK_some, rlK_t, rlK_f, drK_t, drK_f, drp_e, ev_cst, ev_gl, ev_var, opd_var, od_d, od_v, negK_i, tAnd_1, tOr_1, tb_ok, ev_dct, evs_nil, eos_nil, f1_some, oc_some, ods_nil, ods_cons, isiK_some, clK_ok, ca_some, cmK_ok, cm_some, ctK_ok, ctC_some, muK_some, muF2_some, ownK_l, eoo_non, intK_i, slK_some, wkK_some, bwK_some, eit_bor, r1K_i, r2K_i, enK_t, enK_l, lcX_ok, lockI_val, lockI_bor, lockI_rng1, lockI_rng2, lockI_enum, flK_nx, flK_ret, flK_brk, xss_nil, upK_some, ptF_some, ptK_some, rtK_some, xs_retV, xs_brk, asK_some, frB_e, frK_some, xs_fr_val, xs_fr_rng1, xs_fr_rng2, xs_fr_rng3, xs_fr_enum, xs_fr_zip, dk_rng1, dk_rng2, dk_enum, dk_var, dk_cst, dk_gl, dk_bin, dk_cmp, dk_chain, dk_isN, dk_notN, dk_neg, dk_nt, dk_an, dk_orr, dk_ife, dk_ix, dk_sl, dk_rev, dk_tup, dk_lst, dk_dct, dk_bi, dk_isi, dk_call, dk_callM, dk_callT, dk_mu, dk_lc, dk_lcf, whC_a, whB_a, xs_wh, opK0_a, opd_cst, opd_gl, opd_bin, opd_cmp, opd_chain, opd_isN, opd_notN, opd_neg, opd_nt, opd_an, opd_orr, opd_ife, opd_ix, opd_sl, opd_rev, opd_tup, opd_lst, opd_dct, opd_bi, opd_isi, opd_call, opd_callM, opd_callT, opd_mu, opd_lc, opd_lcf, twoL_a, twoK_a, binG_a, cmpG_a, ixG_a, ev_bin, ev_cmp, ev_ix, oneK_a, isNG_a, negG_a, isiG_a, ev_isN, ev_notN, ev_neg, ev_isi, ntK_a, boK_a, ev_nt, ev_an, ev_orr, anK_t, anK_f, orK_t, orK_f, tAnd_2, tOr_2, ifK_t, ifK_f, ev_ife, ev_tup, ev_lst, evsL_a, evsK_a, evs_cons, eosL_a, eosK_a, eos_cons, biK_a, ev_bi, callK_a, ev_call, cmKK_a, lsK_some, lsK1_a, ev_lset, mxK1_a, ev_mxv, opd_mxv, dk_mxv, lrK_some, lrK1_a, ev_lrng, opd_lrng, dk_lrng, cnF_some, cnK_a, isLs_l, ev_cnt, opd_cnt, dk_cnt, dzK2_a, dzK1_a, ev_dzip, opd_dzip, dk_dzip, opd_lset, dk_lset, ev_callM, ctK2_a, ctK1_a, ev_callT, muKK_a, ev_mu, eoK_a, eoo_som, slK3_a, slK2_a, slK1_a, ev_sl, wvK_a, eit_val, r1K1_a, eit_rng1, r2K2_a, r2K1_a, eit_rng2, enK1_a, eit_enum, lcEK_a, lcE_a, lcCK_t, lcCK_f, lcC_a, aoK_some, lcB_a, lcK1_a, ev_lc, lcK2_a, ev_lcf, flC_nx, flC_ret, flC_brk, xss_cons, asgK_a, xs_asg, unpK_a, xs_unp, parK2_a, parK1_a, xs_par, putK2_a, putK1_a, xs_put, retK_a, xs_ret_mxv, xs_ret_lrng, xs_ret_dzip, xs_ret_cnt, xs_ret_lset, xs_ret_cst, xs_ret_gl, xs_ret_bin, xs_ret_cmp, xs_ret_chain, xs_ret_isN, xs_ret_notN, xs_ret_neg, xs_ret_nt, xs_ret_an, xs_ret_orr, xs_ret_ife, xs_ret_ix, xs_ret_sl, xs_ret_rev, xs_ret_tup, xs_ret_lst, xs_ret_dct, xs_ret_bi, xs_ret_isi, xs_ret_call, xs_ret_callM, xs_ret_callT, xs_ret_mu, xs_ret_lc, xs_ret_lcf, ifsK_t, ifsK_f, xs_ifs, exK_a, xs_ex, frK1_a, frK_none, chK4_a, chK3_t, chK3_f, chK2_a, chK1_a, ev_chain, isNK_n, isNK_i, isNK_t, isNK_l, lcLK2_s, lcLK2_n, lcLK1_a, lcL_c, lcL_n, gt_s, st_s, asgT_nm, as2_some, asgT_tp, asgTs_nil, asgTs_cons, rlsAll_nil, rlsAll_d, rlsAll_v, abK_some, frcB_a, frcK_a, xs_frc, frR_nx, frR_ret, wipeD_nil, wipeD_cons, backD_nil, backD_cons, gt_0, st_0, rls_e, ownL_e, Option.map_some, Option.isSome_some, if_true, List.isEmpty_nil, lstK_0, lstK_1, lstK_2, lstK_3, lstK_4, lstK_5, lstK_6, tupK_0, tupK_1, tupK_2, tupK_3, tupK_4, noV_nil, noV_d, noV_1, noV_2, noV_3, noV_4, noV_5, noV_6, noV_7, noV_8, ite_tt, and_self, List.cons_append, List.nil_append, iL_1, pl_int, pl_bool, pl_none, pl_str, pl_list, pl_dict, Bool.false_eq_true, if_false, Bool.not_true, Bool.not_false, b_add, b_sub, c_eq, c_ne, c_lt, c_le, c_gt, c_ge]
      exact nr_nx ⟨_, _, _, rfl⟩
  · rintro δ ⟨x1, x2, x3, rfl⟩
    simp only [rb_ok, o1_some, o1b_some, o1i_some, f2_some, rvK_some, opK_some, rlK_t, rlK_f, drK_t, drK_f, drp_e, ev_cst, ev_gl, ev_var, opd_var, od_d, od_v, negK_i, tAnd_1, tOr_1, tb_ok, ev_dct, evs_nil, eos_nil, f1_some, oc_some, ods_nil, ods_cons, isiK_some, clK_ok, ca_some, cmK_ok, cm_some, ctK_ok, ctC_some, muK_some, muF2_some, ownK_l, eoo_non, intK_i, slK_some, wkK_some, bwK_some, eit_bor, r1K_i, r2K_i, enK_t, enK_l, lcX_ok, lockI_val, lockI_bor, lockI_rng1, lockI_rng2, lockI_enum, flK_nx, flK_ret, flK_brk, xss_nil, upK_some, ptF_some, ptK_some, rtK_some, xs_retV, xs_brk, asK_some, frB_e, frK_some, xs_fr_val, xs_fr_rng1, xs_fr_rng2, xs_fr_rng3, xs_fr_enum, xs_fr_zip, dk_rng1, dk_rng2, dk_enum, dk_var, dk_cst, dk_gl, dk_bin, dk_cmp, dk_chain, dk_isN, dk_notN, dk_neg, dk_nt, dk_an, dk_orr, dk_ife, dk_ix, dk_sl, dk_rev, dk_tup, dk_lst, dk_dct, dk_bi, dk_isi, dk_call, dk_callM, dk_callT, dk_mu, dk_lc, dk_lcf, whC_a, whB_a, xs_wh, opK0_a, opd_cst, opd_gl, opd_bin, opd_cmp, opd_chain, opd_isN, opd_notN, opd_neg, opd_nt, opd_an, opd_orr, opd_ife, opd_ix, opd_sl, opd_rev, opd_tup, opd_lst, opd_dct, opd_bi, opd_isi, opd_call, opd_callM, opd_callT, opd_mu, opd_lc, opd_lcf, twoL_a, twoK_a, binG_a, cmpG_a, ixG_a, ev_bin, ev_cmp, ev_ix, oneK_a, isNG_a, negG_a, isiG_a, ev_isN, ev_notN, ev_neg, ev_isi, ntK_a, boK_a, ev_nt, ev_an, ev_orr, anK_t, anK_f, orK_t, orK_f, tAnd_2, tOr_2, ifK_t, ifK_f, ev_ife, ev_tup, ev_lst, evsL_a, evsK_a, evs_cons, eosL_a, eosK_a, eos_cons, biK_a, ev_bi, callK_a, ev_call, cmKK_a, lsK_some, lsK1_a, ev_lset, mxK1_a, ev_mxv, opd_mxv, dk_mxv, lrK_some, lrK1_a, ev_lrng, opd_lrng, dk_lrng, cnF_some, cnK_a, isLs_l, ev_cnt, opd_cnt, dk_cnt, dzK2_a, dzK1_a, ev_dzip, opd_dzip, dk_dzip, opd_lset, dk_lset, ev_callM, ctK2_a, ctK1_a, ev_callT, muKK_a, ev_mu, eoK_a, eoo_som, slK3_a, slK2_a, slK1_a, ev_sl, wvK_a, eit_val, r1K1_a, eit_rng1, r2K2_a, r2K1_a, eit_rng2, enK1_a, eit_enum, lcEK_a, lcE_a, lcCK_t, lcCK_f, lcC_a, aoK_some, lcB_a, lcK1_a, ev_lc, lcK2_a, ev_lcf, flC_nx, flC_ret, flC_brk, xss_cons, asgK_a, xs_asg, unpK_a, xs_unp, parK2_a, parK1_a, xs_par, putK2_a, putK1_a, xs_put, retK_a, xs_ret_mxv, xs_ret_lrng, xs_ret_dzip, xs_ret_cnt, xs_ret_lset, xs_ret_cst, xs_ret_gl, xs_ret_bin, xs_ret_cmp, xs_ret_chain, xs_ret_isN, xs_ret_notN, xs_ret_neg, xs_ret_nt, xs_ret_an, xs_ret_orr, xs_ret_ife, xs_ret_ix, xs_ret_sl, xs_ret_rev, xs_ret_tup, xs_ret_lst, xs_ret_dct, xs_ret_bi, xs_ret_isi, xs_ret_call, xs_ret_callM, xs_ret_callT, xs_ret_mu, xs_ret_lc, xs_ret_lcf, ifsK_t, ifsK_f, xs_ifs, exK_a, xs_ex, frK1_a, frK_none, chK4_a, chK3_t, chK3_f, chK2_a, chK1_a, ev_chain, isNK_n, isNK_i, isNK_t, isNK_l, lcLK2_s, lcLK2_n, lcLK1_a, lcL_c, lcL_n, gt_s, st_s, asgT_nm, as2_some, asgT_tp, asgTs_nil, asgTs_cons, rlsAll_nil, rlsAll_d, rlsAll_v, abK_some, frcB_a, frcK_a, xs_frc, frR_nx, frR_ret, wipeD_nil, wipeD_cons, backD_nil, backD_cons, gt_0, st_0, rls_e, ownL_e, Option.map_some, Option.isSome_some, if_true, List.isEmpty_nil, lstK_0, lstK_1, lstK_2, lstK_3, lstK_4, lstK_5, lstK_6, tupK_0, tupK_1, tupK_2, tupK_3, tupK_4, noV_nil, noV_d, noV_1, noV_2, noV_3, noV_4, noV_5, noV_6, noV_7, noV_8, ite_tt, and_self, List.cons_append, List.nil_append, iL_1, pl_int, pl_bool, pl_none, pl_str, pl_list, pl_dict, Bool.false_eq_true, if_false, Bool.not_true, Bool.not_false, b_add, b_sub, c_eq, c_ne, c_lt, c_le, c_gt, c_ge]
    exact retP_ok ⟨rfl, rfl⟩
theorem shpP (p : Pt) : Shp 1 (encP p) := shp_t fun d hd => by
  rcases List.mem_cons.mp hd with rfl | hd
  · exact shp_i _
  · rw [List.mem_singleton.mp hd]; exact shp_i _
theorem shpL (ps : List Pt) : Shp 2 (encL ps) := shp_l fun d hd => by
  obtain ⟨p, _, rfl⟩ := List.mem_map.mp hd
  exact shpP p
theorem shpT (ps : List Pt) : Shp 2 (encT ps) := shp_t fun d hd => by
  obtain ⟨p, _, rfl⟩ := List.mem_map.mp hd
  exact shpP p
theorem pairs_of_rise {ps : List Pt} (h : Rising ps) : ps.Pairwise (fun a b => a.1 < b.1) := by
  rw [List.pairwise_iff_getElem]
  intro i j hi hj hij
  exact h i j ps[i] ps[j] hij (by simp [hi]) (by simp [hj])
theorem sort_sheet {ps : List Pt} (h : Rising ps) : biD .sorted [encT ps] = some (encL ps, true) := by
  have h1 : sortT (ps.map encP) = true := by
    unfold sortT
    rw [List.all_map, List.all_eq_true]
    intro p _; rfl
  have h2 : srtD (ps.map encP) = ps.map encP := by
    refine srtG_id ?_
    rw [List.pairwise_map]
    refine (pairs_of_rise h).imp fun {a b} hab => ?_
    show HT.lexLt [b.1, b.2] [a.1, a.2] = false
    rw [HT.lexLt_cons, if_neg (by omega)]
    exact decide_eq_false (by omega)
  show (if sortT (ps.map encP) then some (PyData.list (srtD (ps.map encP)), true) else none) = _
  rw [h1, h2]; rfl
theorem nodup_x {ps : List Pt} (h : Rising ps) : (ps.map (·.1)).Nodup := by
  rw [List.nodup_iff_pairwise_ne, List.pairwise_map]
  exact (pairs_of_rise h).imp fun {a b} hab => by omega
theorem intsD_map : ∀ ns : List Int, intsD (ns.map PyData.int) = some ns
  | [] => rfl
  | n :: ns => by
    show (intsD (ns.map PyData.int)).map (n :: ·) = _
    rw [intsD_map ns]; rfl
theorem points_body {cl : Cl} {ps : List Pt} (hs : Sheet ps) (hl : ps.length ≤ 24) (hp : ∀ p : Pt, cl (Str.ofString "is_point") [encP p] = .ok (.bool true) false .none) :
    ∃ δ, xss cl D.are_points.body (entry D.are_points [encT ps]) = .ok (.ret (.bool true) false) δ := by
  have q := seqT (ps := ps) (by omega) hs.sm
  have hw : walkD (encT ps) = some (ps.map encP) := rfl
  have c1 : decide ((1 : Int) ≤ (ps.length : Int)) = true := decide_eq_true (by have := hs.ne; omega)
  have c2 : decide ((ps.length : Int) ≤ 24) = true := decide_eq_true (by omega)
  have l1 : (ps.map encP).length ≤ lim := lim_of (by rw [List.length_map]; omega)
  generalize encT ps = e at q hw
  obtain ⟨δ1, e1, x1, rfl⟩ := lcL_map (f := lcB (.nm 1) [1] (lcE cl (.call (Str.ofString "is_point") (.cons (.var 1) .nil)))) (g := fun _ => .bool true) (fun δ => ∃ x1 : Option (Dt × Bool), δ = [none, x1, none, none]) (ds := ps.map encP) (δ := [none, none, none, none]) ⟨_, rfl⟩ (by
    rintro d δ hd ⟨x1, rfl⟩
    obtain ⟨p, _, rfl⟩ := List.mem_map.mp hd
    exact ⟨_, by simp only [rb_ok, o1_some, o1b_some, o1i_some, f2_some, rvK_some, opK_some, rlK_t, rlK_f, drK_t, drK_f, drp_e, ev_cst, ev_gl, ev_var, opd_var, od_d, od_v, negK_i, tAnd_1, tOr_1, tb_ok, ev_dct, evs_nil, eos_nil, f1_some, oc_some, ods_nil, ods_cons, isiK_some, clK_ok, ca_some, cmK_ok, cm_some, ctK_ok, ctC_some, muK_some, muF2_some, ownK_l, eoo_non, intK_i, slK_some, wkK_some, bwK_some, eit_bor, r1K_i, r2K_i, enK_t, enK_l, lcX_ok, lockI_val, lockI_bor, lockI_rng1, lockI_rng2, lockI_enum, flK_nx, flK_ret, flK_brk, xss_nil, upK_some, ptF_some, ptK_some, rtK_some, xs_retV, xs_brk, asK_some, frB_e, frK_some, xs_fr_val, xs_fr_rng1, xs_fr_rng2, xs_fr_rng3, xs_fr_enum, xs_fr_zip, dk_rng1, dk_rng2, dk_enum, dk_var, dk_cst, dk_gl, dk_bin, dk_cmp, dk_chain, dk_isN, dk_notN, dk_neg, dk_nt, dk_an, dk_orr, dk_ife, dk_ix, dk_sl, dk_rev, dk_tup, dk_lst, dk_dct, dk_bi, dk_isi, dk_call, dk_callM, dk_callT, dk_mu, dk_lc, dk_lcf, whC_a, whB_a, xs_wh, opK0_a, opd_cst, opd_gl, opd_bin, opd_cmp, opd_chain, opd_isN, opd_notN, opd_neg, opd_nt, opd_an, opd_orr, opd_ife, opd_ix, opd_sl, opd_rev, opd_tup, opd_lst, opd_dct, opd_bi, opd_isi, opd_call, opd_callM, opd_callT, opd_mu, opd_lc, opd_lcf, twoL_a, twoK_a, binG_a, cmpG_a, ixG_a, ev_bin, ev_cmp, ev_ix, oneK_a, isNG_a, negG_a, isiG_a, ev_isN, ev_notN, ev_neg, ev_isi, ntK_a, boK_a, ev_nt, ev_an, ev_orr, anK_t, anK_f, orK_t, orK_f, tAnd_2, tOr_2, ifK_t, ifK_f, ev_ife, ev_tup, ev_lst, evsL_a, evsK_a, evs_cons, eosL_a, eosK_a, eos_cons, biK_a, ev_bi, callK_a, ev_call, cmKK_a, lsK_some, lsK1_a, ev_lset, mxK1_a, ev_mxv, opd_mxv, dk_mxv, lrK_some, lrK1_a, ev_lrng, opd_lrng, dk_lrng, cnF_some, cnK_a, isLs_l, ev_cnt, opd_cnt, dk_cnt, dzK2_a, dzK1_a, ev_dzip, opd_dzip, dk_dzip, opd_lset, dk_lset, ev_callM, ctK2_a, ctK1_a, ev_callT, muKK_a, ev_mu, eoK_a, eoo_som, slK3_a, slK2_a, slK1_a, ev_sl, wvK_a, eit_val, r1K1_a, eit_rng1, r2K2_a, r2K1_a, eit_rng2, enK1_a, eit_enum, lcEK_a, lcE_a, lcCK_t, lcCK_f, lcC_a, aoK_some, lcB_a, lcK1_a, ev_lc, lcK2_a, ev_lcf, flC_nx, flC_ret, flC_brk, xss_cons, asgK_a, xs_asg, unpK_a, xs_unp, parK2_a, parK1_a, xs_par, putK2_a, putK1_a, xs_put, retK_a, xs_ret_mxv, xs_ret_lrng, xs_ret_dzip, xs_ret_cnt, xs_ret_lset, xs_ret_cst, xs_ret_gl, xs_ret_bin, xs_ret_cmp, xs_ret_chain, xs_ret_isN, xs_ret_notN, xs_ret_neg, xs_ret_nt, xs_ret_an, xs_ret_orr, xs_ret_ife, xs_ret_ix, xs_ret_sl, xs_ret_rev, xs_ret_tup, xs_ret_lst, xs_ret_dct, xs_ret_bi, xs_ret_isi, xs_ret_call, xs_ret_callM, xs_ret_callT, xs_ret_mu, xs_ret_lc, xs_ret_lcf, ifsK_t, ifsK_f, xs_ifs, exK_a, xs_ex, frK1_a, frK_none, chK4_a, chK3_t, chK3_f, chK2_a, chK1_a, ev_chain, isNK_n, isNK_i, isNK_t, isNK_l, lcLK2_s, lcLK2_n, lcLK1_a, lcL_c, lcL_n, gt_s, st_s, asgT_nm, as2_some, asgT_tp, asgTs_nil, asgTs_cons, rlsAll_nil, rlsAll_d, rlsAll_v, abK_some, frcB_a, frcK_a, xs_frc, frR_nx, frR_ret, wipeD_nil, wipeD_cons, backD_nil, backD_cons, gt_0, st_0, rls_e, ownL_e, Option.map_some, Option.isSome_some, if_true, List.isEmpty_nil, lstK_0, lstK_1, lstK_2, lstK_3, lstK_4, lstK_5, lstK_6, tupK_0, tupK_1, tupK_2, tupK_3, tupK_4, noV_nil, noV_d, noV_1, noV_2, noV_3, noV_4, noV_5, noV_6, noV_7, noV_8, ite_tt, and_self, List.cons_append, List.nil_append, iL_1, pl_int, pl_bool, pl_none, pl_str, pl_list, pl_dict, Bool.false_eq_true, if_false, Bool.not_true, Bool.not_false, b_add, b_sub, c_eq, c_ne, c_lt, c_le, c_gt, c_ge, hp]; rfl, _, rfl⟩)
  obtain ⟨δ2, e2, x2, x3, rfl⟩ := lcL_map (f := lcB (.tp (.cons (.nm 2) (.cons (.nm 3) .nil))) [2, 3] (lcE cl (.var 2))) (g := fun d => match d with | .tuple [a, _] => a | _ => .none) (fun δ => ∃ x2 x3 : Option (Dt × Bool), δ = [none, none, x2, x3]) (ds := ps.map encP) (δ := [none, none, none, none]) ⟨_, _, rfl⟩ (by
    rintro d δ hd ⟨x2, x3, rfl⟩
    obtain ⟨p, _, rfl⟩ := List.mem_map.mp hd
    exact ⟨_, by
      unfold encP
      simp only [rb_ok, o1_some, o1b_some, o1i_some, f2_some, rvK_some, opK_some, rlK_t, rlK_f, drK_t, drK_f, drp_e, ev_cst, ev_gl, ev_var, opd_var, od_d, od_v, negK_i, tAnd_1, tOr_1, tb_ok, ev_dct, evs_nil, eos_nil, f1_some, oc_some, ods_nil, ods_cons, isiK_some, clK_ok, ca_some, cmK_ok, cm_some, ctK_ok, ctC_some, muK_some, muF2_some, ownK_l, eoo_non, intK_i, slK_some, wkK_some, bwK_some, eit_bor, r1K_i, r2K_i, enK_t, enK_l, lcX_ok, lockI_val, lockI_bor, lockI_rng1, lockI_rng2, lockI_enum, flK_nx, flK_ret, flK_brk, xss_nil, upK_some, ptF_some, ptK_some, rtK_some, xs_retV, xs_brk, asK_some, frB_e, frK_some, xs_fr_val, xs_fr_rng1, xs_fr_rng2, xs_fr_rng3, xs_fr_enum, xs_fr_zip, dk_rng1, dk_rng2, dk_enum, dk_var, dk_cst, dk_gl, dk_bin, dk_cmp, dk_chain, dk_isN, dk_notN, dk_neg, dk_nt, dk_an, dk_orr, dk_ife, dk_ix, dk_sl, dk_rev, dk_tup, dk_lst, dk_dct, dk_bi, dk_isi, dk_call, dk_callM, dk_callT, dk_mu, dk_lc, dk_lcf, whC_a, whB_a, xs_wh, opK0_a, opd_cst, opd_gl, opd_bin, opd_cmp, opd_chain, opd_isN, opd_notN, opd_neg, opd_nt, opd_an, opd_orr, opd_ife, opd_ix, opd_sl, opd_rev, opd_tup, opd_lst, opd_dct, opd_bi, opd_isi, opd_call, opd_callM, opd_callT, opd_mu, opd_lc, opd_lcf, twoL_a, twoK_a, binG_a, cmpG_a, ixG_a, ev_bin, ev_cmp, ev_ix, oneK_a, isNG_a, negG_a, isiG_a, ev_isN, ev_notN, ev_neg, ev_isi, ntK_a, boK_a, ev_nt, ev_an, ev_orr, anK_t, anK_f, orK_t, orK_f, tAnd_2, tOr_2, ifK_t, ifK_f, ev_ife, ev_tup, ev_lst, evsL_a, evsK_a, evs_cons, eosL_a, eosK_a, eos_cons, biK_a, ev_bi, callK_a, ev_call, cmKK_a, lsK_some, lsK1_a, ev_lset, mxK1_a, ev_mxv, opd_mxv, dk_mxv, lrK_some, lrK1_a, ev_lrng, opd_lrng, dk_lrng, cnF_some, cnK_a, isLs_l, ev_cnt, opd_cnt, dk_cnt, dzK2_a, dzK1_a, ev_dzip, opd_dzip, dk_dzip, opd_lset, dk_lset, ev_callM, ctK2_a, ctK1_a, ev_callT, muKK_a, ev_mu, eoK_a, eoo_som, slK3_a, slK2_a, slK1_a, ev_sl, wvK_a, eit_val, r1K1_a, eit_rng1, r2K2_a, r2K1_a, eit_rng2, enK1_a, eit_enum, lcEK_a, lcE_a, lcCK_t, lcCK_f, lcC_a, aoK_some, lcB_a, lcK1_a, ev_lc, lcK2_a, ev_lcf, flC_nx, flC_ret, flC_brk, xss_cons, asgK_a, xs_asg, unpK_a, xs_unp, parK2_a, parK1_a, xs_par, putK2_a, putK1_a, xs_put, retK_a, xs_ret_mxv, xs_ret_lrng, xs_ret_dzip, xs_ret_cnt, xs_ret_lset, xs_ret_cst, xs_ret_gl, xs_ret_bin, xs_ret_cmp, xs_ret_chain, xs_ret_isN, xs_ret_notN, xs_ret_neg, xs_ret_nt, xs_ret_an, xs_ret_orr, xs_ret_ife, xs_ret_ix, xs_ret_sl, xs_ret_rev, xs_ret_tup, xs_ret_lst, xs_ret_dct, xs_ret_bi, xs_ret_isi, xs_ret_call, xs_ret_callM, xs_ret_callT, xs_ret_mu, xs_ret_lc, xs_ret_lcf, ifsK_t, ifsK_f, xs_ifs, exK_a, xs_ex, frK1_a, frK_none, chK4_a, chK3_t, chK3_f, chK2_a, chK1_a, ev_chain, isNK_n, isNK_i, isNK_t, isNK_l, lcLK2_s, lcLK2_n, lcLK1_a, lcL_c, lcL_n, gt_s, st_s, asgT_nm, as2_some, asgT_tp, asgTs_nil, asgTs_cons, rlsAll_nil, rlsAll_d, rlsAll_v, abK_some, frcB_a, frcK_a, xs_frc, frR_nx, frR_ret, wipeD_nil, wipeD_cons, backD_nil, backD_cons, gt_0, st_0, rls_e, ownL_e, Option.map_some, Option.isSome_some, if_true, List.isEmpty_nil, lstK_0, lstK_1, lstK_2, lstK_3, lstK_4, lstK_5, lstK_6, tupK_0, tupK_1, tupK_2, tupK_3, tupK_4, noV_nil, noV_d, noV_1, noV_2, noV_3, noV_4, noV_5, noV_6, noV_7, noV_8, ite_tt, and_self, List.cons_append, List.nil_append, iL_1, pl_int, pl_bool, pl_none, pl_str, pl_list, pl_dict, Bool.false_eq_true, if_false, Bool.not_true, Bool.not_false, b_add, b_sub, c_eq, c_ne, c_lt, c_le, c_gt, c_ge]
      rfl, _, _, rfl⟩)
  have hx : (ps.map encP).map (fun d => match d with | .tuple [a, _] => a | _ => PyData.none) = (ps.map (·.1)).map PyData.int := by
    rw [List.map_map, List.map_map]
    apply List.map_congr_left
    intro p _; rfl
  have hls : lsD (.list ((ps.map (·.1)).map PyData.int)) = some (ps.length : Int) := by
    show (match intsD ((ps.map (·.1)).map PyData.int) with
      | some ns => if ns.length ≤ 4000 then some ((metI ns).length : Int) else none
      | none => none) = _
    rw [intsD_map]
    simp only
    rw [if_pos (by rw [List.length_map]; omega)]
    unfold metI
    rw [RZ.firstMet_nodup (nodup_x hs.rise) _ (Nat.le_refl _), List.take_length, List.length_map]
  have l2 : ((ps.map (·.1)).map PyData.int).length ≤ lim := lim_of (by rw [List.length_map, List.length_map]; omega)
  have l1' : ((ps.map encP).map fun _ => PyData.bool true).length ≤ lim := by rw [List.length_map]; exact l1
  rw [hx] at e2
  simp only [D.are_points, entry, List.map_cons, List.map_nil, List.length_cons, List.length_nil, List.replicate, Nat.zero_add, Nat.reduceAdd, Nat.reduceSub, List.replicate_zero, List.cons_append, List.nil_append]
  simp only [rb_ok, o1_some, o1b_some, o1i_some, f2_some, rvK_some, opK_some, rlK_t, rlK_f, drK_t, drK_f, drp_e, ev_cst, ev_gl, ev_var, opd_var, od_d, od_v, negK_i, tAnd_1, tOr_1, tb_ok, ev_dct, evs_nil, eos_nil, f1_some, oc_some, ods_nil, ods_cons, isiK_some, clK_ok, ca_some, cmK_ok, cm_some, ctK_ok, ctC_some, muK_some, muF2_some, ownK_l, eoo_non, intK_i, slK_some, wkK_some, bwK_some, eit_bor, r1K_i, r2K_i, enK_t, enK_l, lcX_ok, lockI_val, lockI_bor, lockI_rng1, lockI_rng2, lockI_enum, flK_nx, flK_ret, flK_brk, xss_nil, upK_some, ptF_some, ptK_some, rtK_some, xs_retV, xs_brk, asK_some, frB_e, frK_some, xs_fr_val, xs_fr_rng1, xs_fr_rng2, xs_fr_rng3, xs_fr_enum, xs_fr_zip, dk_rng1, dk_rng2, dk_enum, dk_var, dk_cst, dk_gl, dk_bin, dk_cmp, dk_chain, dk_isN, dk_notN, dk_neg, dk_nt, dk_an, dk_orr, dk_ife, dk_ix, dk_sl, dk_rev, dk_tup, dk_lst, dk_dct, dk_bi, dk_isi, dk_call, dk_callM, dk_callT, dk_mu, dk_lc, dk_lcf, whC_a, whB_a, xs_wh, opK0_a, opd_cst, opd_gl, opd_bin, opd_cmp, opd_chain, opd_isN, opd_notN, opd_neg, opd_nt, opd_an, opd_orr, opd_ife, opd_ix, opd_sl, opd_rev, opd_tup, opd_lst, opd_dct, opd_bi, opd_isi, opd_call, opd_callM, opd_callT, opd_mu, opd_lc, opd_lcf, twoL_a, twoK_a, binG_a, cmpG_a, ixG_a, ev_bin, ev_cmp, ev_ix, oneK_a, isNG_a, negG_a, isiG_a, ev_isN, ev_notN, ev_neg, ev_isi, ntK_a, boK_a, ev_nt, ev_an, ev_orr, anK_t, anK_f, orK_t, orK_f, tAnd_2, tOr_2, ifK_t, ifK_f, ev_ife, ev_tup, ev_lst, evsL_a, evsK_a, evs_cons, eosL_a, eosK_a, eos_cons, biK_a, ev_bi, callK_a, ev_call, cmKK_a, lsK_some, lsK1_a, ev_lset, mxK1_a, ev_mxv, opd_mxv, dk_mxv, lrK_some, lrK1_a, ev_lrng, opd_lrng, dk_lrng, cnF_some, cnK_a, isLs_l, ev_cnt, opd_cnt, dk_cnt, dzK2_a, dzK1_a, ev_dzip, opd_dzip, dk_dzip, opd_lset, dk_lset, ev_callM, ctK2_a, ctK1_a, ev_callT, muKK_a, ev_mu, eoK_a, eoo_som, slK3_a, slK2_a, slK1_a, ev_sl, wvK_a, eit_val, r1K1_a, eit_rng1, r2K2_a, r2K1_a, eit_rng2, enK1_a, eit_enum, lcEK_a, lcE_a, lcCK_t, lcCK_f, lcC_a, aoK_some, lcB_a, lcK1_a, ev_lc, lcK2_a, ev_lcf, flC_nx, flC_ret, flC_brk, xss_cons, asgK_a, xs_asg, unpK_a, xs_unp, parK2_a, parK1_a, xs_par, putK2_a, putK1_a, xs_put, retK_a, xs_ret_mxv, xs_ret_lrng, xs_ret_dzip, xs_ret_cnt, xs_ret_lset, xs_ret_cst, xs_ret_gl, xs_ret_bin, xs_ret_cmp, xs_ret_chain, xs_ret_isN, xs_ret_notN, xs_ret_neg, xs_ret_nt, xs_ret_an, xs_ret_orr, xs_ret_ife, xs_ret_ix, xs_ret_sl, xs_ret_rev, xs_ret_tup, xs_ret_lst, xs_ret_dct, xs_ret_bi, xs_ret_isi, xs_ret_call, xs_ret_callM, xs_ret_callT, xs_ret_mu, xs_ret_lc, xs_ret_lcf, ifsK_t, ifsK_f, xs_ifs, exK_a, xs_ex, frK1_a, frK_none, chK4_a, chK3_t, chK3_f, chK2_a, chK1_a, ev_chain, isNK_n, isNK_i, isNK_t, isNK_l, lcLK2_s, lcLK2_n, lcLK1_a, lcL_c, lcL_n, gt_s, st_s, asgT_nm, as2_some, asgT_tp, asgTs_nil, asgTs_cons, rlsAll_nil, rlsAll_d, rlsAll_v, abK_some, frcB_a, frcK_a, xs_frc, frR_nx, frR_ret, wipeD_nil, wipeD_cons, backD_nil, backD_cons, gt_0, st_0, rls_e, ownL_e, Option.map_some, Option.isSome_some, if_true, List.isEmpty_nil, lstK_0, lstK_1, lstK_2, lstK_3, lstK_4, lstK_5, lstK_6, tupK_0, tupK_1, tupK_2, tupK_3, tupK_4, noV_nil, noV_d, noV_1, noV_2, noV_3, noV_4, noV_5, noV_6, noV_7, noV_8, ite_tt, and_self, List.cons_append, List.nil_append, iL_1, pl_int, pl_bool, pl_none, pl_str, pl_list, pl_dict, Bool.false_eq_true, if_false, Bool.not_true, Bool.not_false, b_add, b_sub, c_eq, c_ne, c_lt, c_le, c_gt, c_ge, q.len, c1, c2, hw, e1, l1', d_allT, e2, l2, hls, beq_self_eq_true, List.append_eq]
  exact ⟨_, rfl⟩
theorem need_ok {t : Tb} (g1 : t (Str.ofString "need_sheet") = some D.need_sheet) (g2 : t (Str.ofString "is_sheet") = some D.is_sheet) (g3 : t (Str.ofString "are_points") = some D.are_points) (g4 : t (Str.ofString "is_point") = some D.is_point) (g5 : t (Str.ofString "is_whole") = some D.is_whole) (g6 : t (Str.ofString "first_three") = some D.first_three) (g7 : t (Str.ofString "bend") = some D.bend)
    {n : Nat} {ps : List Pt} (hs : Sheet ps) (hl : ps.length ≤ 24) : run t (n + 4) (Str.ofString "is_sheet") [encT ps] = .ok (.bool true) false .none ∧ run t (n + 5) (Str.ofString "need_sheet") [encT ps] = .ok .none false .none := by
  have k1 : run t (n + 3) (Str.ofString "are_points") [encT ps] = .ok (.bool true) false .none := by
    obtain ⟨δ, e⟩ := points_body (cl := run t (n + 2)) hs hl fun p => point_ok g4 g5 p
    exact run_ret g3 rfl rfl e
  have k2 : run t (n + 3) (Str.ofString "first_three") [encT ps] = .ok .none false .none := by
    obtain ⟨d, w, δ, e, rfl, rfl⟩ := first_body (cl := run t (n + 2)) hs (by omega) fun a b c ha hb hc => bend_ok g7 ha hb hc
    exact run_ret g6 rfl rfl e
  have k3 : run t (n + 4) (Str.ofString "is_sheet") [encT ps] = .ok (.bool true) false .none := by
    have i1 : isiO (encT ps) "tuple" = some true := rfl
    have d1 : biD .list [encT ps] = some (encL ps, true) := rfl
    have d2 := sort_sheet hs.rise
    have d3 := c_eqR (shpL ps) (by decide)
    have key : ∃ δ, xss (run t (n + 3)) D.is_sheet.body (entry D.is_sheet [encT ps]) = .ok (.ret (.bool true) false) δ := by
      generalize run t (n + 3) = cl at k1 k2 ⊢
      generalize encT ps = e at i1 d1 d2 k1 k2 ⊢
      simp only [D.is_sheet, entry, List.map_cons, List.map_nil, List.length_cons, List.length_nil, List.replicate, Nat.zero_add, Nat.reduceAdd, Nat.reduceSub, List.replicate_zero, List.cons_append, List.nil_append]
      simp only [rb_ok, o1_some, o1b_some, o1i_some, f2_some, rvK_some, opK_some, rlK_t, rlK_f, drK_t, drK_f, drp_e, ev_cst, ev_gl, ev_var, opd_var, od_d, od_v, negK_i, tAnd_1, tOr_1, tb_ok, ev_dct, evs_nil, eos_nil, f1_some, oc_some, ods_nil, ods_cons, isiK_some, clK_ok, ca_some, cmK_ok, cm_some, ctK_ok, ctC_some, muK_some, muF2_some, ownK_l, eoo_non, intK_i, slK_some, wkK_some, bwK_some, eit_bor, r1K_i, r2K_i, enK_t, enK_l, lcX_ok, lockI_val, lockI_bor, lockI_rng1, lockI_rng2, lockI_enum, flK_nx, flK_ret, flK_brk, xss_nil, upK_some, ptF_some, ptK_some, rtK_some, xs_retV, xs_brk, asK_some, frB_e, frK_some, xs_fr_val, xs_fr_rng1, xs_fr_rng2, xs_fr_rng3, xs_fr_enum, xs_fr_zip, dk_rng1, dk_rng2, dk_enum, dk_var, dk_cst, dk_gl, dk_bin, dk_cmp, dk_chain, dk_isN, dk_notN, dk_neg, dk_nt, dk_an, dk_orr, dk_ife, dk_ix, dk_sl, dk_rev, dk_tup, dk_lst, dk_dct, dk_bi, dk_isi, dk_call, dk_callM, dk_callT, dk_mu, dk_lc, dk_lcf, whC_a, whB_a, xs_wh, opK0_a, opd_cst, opd_gl, opd_bin, opd_cmp, opd_chain, opd_isN, opd_notN, opd_neg, opd_nt, opd_an, opd_orr, opd_ife, opd_ix, opd_sl, opd_rev, opd_tup, opd_lst, opd_dct, opd_bi, opd_isi, opd_call, opd_callM, opd_callT, opd_mu, opd_lc, opd_lcf, twoL_a, twoK_a, binG_a, cmpG_a, ixG_a, ev_bin, ev_cmp, ev_ix, oneK_a, isNG_a, negG_a, isiG_a, ev_isN, ev_notN, ev_neg, ev_isi, ntK_a, boK_a, ev_nt, ev_an, ev_orr, anK_t, anK_f, orK_t, orK_f, tAnd_2, tOr_2, ifK_t, ifK_f, ev_ife, ev_tup, ev_lst, evsL_a, evsK_a, evs_cons, eosL_a, eosK_a, eos_cons, biK_a, ev_bi, callK_a, ev_call, cmKK_a, lsK_some, lsK1_a, ev_lset, mxK1_a, ev_mxv, opd_mxv, dk_mxv, lrK_some, lrK1_a, ev_lrng, opd_lrng, dk_lrng, cnF_some, cnK_a, isLs_l, ev_cnt, opd_cnt, dk_cnt, dzK2_a, dzK1_a, ev_dzip, opd_dzip, dk_dzip, opd_lset, dk_lset, ev_callM, ctK2_a, ctK1_a, ev_callT, muKK_a, ev_mu, eoK_a, eoo_som, slK3_a, slK2_a, slK1_a, ev_sl, wvK_a, eit_val, r1K1_a, eit_rng1, r2K2_a, r2K1_a, eit_rng2, enK1_a, eit_enum, lcEK_a, lcE_a, lcCK_t, lcCK_f, lcC_a, aoK_some, lcB_a, lcK1_a, ev_lc, lcK2_a, ev_lcf, flC_nx, flC_ret, flC_brk, xss_cons, asgK_a, xs_asg, unpK_a, xs_unp, parK2_a, parK1_a, xs_par, putK2_a, putK1_a, xs_put, retK_a, xs_ret_mxv, xs_ret_lrng, xs_ret_dzip, xs_ret_cnt, xs_ret_lset, xs_ret_cst, xs_ret_gl, xs_ret_bin, xs_ret_cmp, xs_ret_chain, xs_ret_isN, xs_ret_notN, xs_ret_neg, xs_ret_nt, xs_ret_an, xs_ret_orr, xs_ret_ife, xs_ret_ix, xs_ret_sl, xs_ret_rev, xs_ret_tup, xs_ret_lst, xs_ret_dct, xs_ret_bi, xs_ret_isi, xs_ret_call, xs_ret_callM, xs_ret_callT, xs_ret_mu, xs_ret_lc, xs_ret_lcf, ifsK_t, ifsK_f, xs_ifs, exK_a, xs_ex, frK1_a, frK_none, chK4_a, chK3_t, chK3_f, chK2_a, chK1_a, ev_chain, isNK_n, isNK_i, isNK_t, isNK_l, lcLK2_s, lcLK2_n, lcLK1_a, lcL_c, lcL_n, gt_s, st_s, asgT_nm, as2_some, asgT_tp, asgTs_nil, asgTs_cons, rlsAll_nil, rlsAll_d, rlsAll_v, abK_some, frcB_a, frcK_a, xs_frc, frR_nx, frR_ret, wipeD_nil, wipeD_cons, backD_nil, backD_cons, gt_0, st_0, rls_e, ownL_e, Option.map_some, Option.isSome_some, if_true, List.isEmpty_nil, lstK_0, lstK_1, lstK_2, lstK_3, lstK_4, lstK_5, lstK_6, tupK_0, tupK_1, tupK_2, tupK_3, tupK_4, noV_nil, noV_d, noV_1, noV_2, noV_3, noV_4, noV_5, noV_6, noV_7, noV_8, ite_tt, and_self, List.cons_append, List.nil_append, iL_1, pl_int, pl_bool, pl_none, pl_str, pl_list, pl_dict, Bool.false_eq_true, if_false, Bool.not_true, Bool.not_false, b_add, b_sub, c_eq, c_ne, c_lt, c_le, c_gt, c_ge, isiK_some, i1, k1, d1, d2, d3, k2]
      exact ⟨_, rfl⟩
    obtain ⟨δ, e⟩ := key
    exact run_ret g2 rfl rfl e
  refine ⟨k3, ?_⟩
  have key : xss (run t (n + 4)) D.need_sheet.body (entry D.need_sheet [encT ps]) = .ok .nx [some (encT ps, false)] := by
    generalize run t (n + 4) = cl at k3 ⊢
    generalize encT ps = e at k3 ⊢
    simp only [D.need_sheet, entry, List.map_cons, List.map_nil, List.length_cons, List.length_nil, List.replicate, Nat.zero_add, Nat.reduceAdd, Nat.reduceSub, List.replicate_zero, List.cons_append, List.nil_append]
    simp only [rb_ok, o1_some, o1b_some, o1i_some, f2_some, rvK_some, opK_some, rlK_t, rlK_f, drK_t, drK_f, drp_e, ev_cst, ev_gl, ev_var, opd_var, od_d, od_v, negK_i, tAnd_1, tOr_1, tb_ok, ev_dct, evs_nil, eos_nil, f1_some, oc_some, ods_nil, ods_cons, isiK_some, clK_ok, ca_some, cmK_ok, cm_some, ctK_ok, ctC_some, muK_some, muF2_some, ownK_l, eoo_non, intK_i, slK_some, wkK_some, bwK_some, eit_bor, r1K_i, r2K_i, enK_t, enK_l, lcX_ok, lockI_val, lockI_bor, lockI_rng1, lockI_rng2, lockI_enum, flK_nx, flK_ret, flK_brk, xss_nil, upK_some, ptF_some, ptK_some, rtK_some, xs_retV, xs_brk, asK_some, frB_e, frK_some, xs_fr_val, xs_fr_rng1, xs_fr_rng2, xs_fr_rng3, xs_fr_enum, xs_fr_zip, dk_rng1, dk_rng2, dk_enum, dk_var, dk_cst, dk_gl, dk_bin, dk_cmp, dk_chain, dk_isN, dk_notN, dk_neg, dk_nt, dk_an, dk_orr, dk_ife, dk_ix, dk_sl, dk_rev, dk_tup, dk_lst, dk_dct, dk_bi, dk_isi, dk_call, dk_callM, dk_callT, dk_mu, dk_lc, dk_lcf, whC_a, whB_a, xs_wh, opK0_a, opd_cst, opd_gl, opd_bin, opd_cmp, opd_chain, opd_isN, opd_notN, opd_neg, opd_nt, opd_an, opd_orr, opd_ife, opd_ix, opd_sl, opd_rev, opd_tup, opd_lst, opd_dct, opd_bi, opd_isi, opd_call, opd_callM, opd_callT, opd_mu, opd_lc, opd_lcf, twoL_a, twoK_a, binG_a, cmpG_a, ixG_a, ev_bin, ev_cmp, ev_ix, oneK_a, isNG_a, negG_a, isiG_a, ev_isN, ev_notN, ev_neg, ev_isi, ntK_a, boK_a, ev_nt, ev_an, ev_orr, anK_t, anK_f, orK_t, orK_f, tAnd_2, tOr_2, ifK_t, ifK_f, ev_ife, ev_tup, ev_lst, evsL_a, evsK_a, evs_cons, eosL_a, eosK_a, eos_cons, biK_a, ev_bi, callK_a, ev_call, cmKK_a, lsK_some, lsK1_a, ev_lset, mxK1_a, ev_mxv, opd_mxv, dk_mxv, lrK_some, lrK1_a, ev_lrng, opd_lrng, dk_lrng, cnF_some, cnK_a, isLs_l, ev_cnt, opd_cnt, dk_cnt, dzK2_a, dzK1_a, ev_dzip, opd_dzip, dk_dzip, opd_lset, dk_lset, ev_callM, ctK2_a, ctK1_a, ev_callT, muKK_a, ev_mu, eoK_a, eoo_som, slK3_a, slK2_a, slK1_a, ev_sl, wvK_a, eit_val, r1K1_a, eit_rng1, r2K2_a, r2K1_a, eit_rng2, enK1_a, eit_enum, lcEK_a, lcE_a, lcCK_t, lcCK_f, lcC_a, aoK_some, lcB_a, lcK1_a, ev_lc, lcK2_a, ev_lcf, flC_nx, flC_ret, flC_brk, xss_cons, asgK_a, xs_asg, unpK_a, xs_unp, parK2_a, parK1_a, xs_par, putK2_a, putK1_a, xs_put, retK_a, xs_ret_mxv, xs_ret_lrng, xs_ret_dzip, xs_ret_cnt, xs_ret_lset, xs_ret_cst, xs_ret_gl, xs_ret_bin, xs_ret_cmp, xs_ret_chain, xs_ret_isN, xs_ret_notN, xs_ret_neg, xs_ret_nt, xs_ret_an, xs_ret_orr, xs_ret_ife, xs_ret_ix, xs_ret_sl, xs_ret_rev, xs_ret_tup, xs_ret_lst, xs_ret_dct, xs_ret_bi, xs_ret_isi, xs_ret_call, xs_ret_callM, xs_ret_callT, xs_ret_mu, xs_ret_lc, xs_ret_lcf, ifsK_t, ifsK_f, xs_ifs, exK_a, xs_ex, frK1_a, frK_none, chK4_a, chK3_t, chK3_f, chK2_a, chK1_a, ev_chain, isNK_n, isNK_i, isNK_t, isNK_l, lcLK2_s, lcLK2_n, lcLK1_a, lcL_c, lcL_n, gt_s, st_s, asgT_nm, as2_some, asgT_tp, asgTs_nil, asgTs_cons, rlsAll_nil, rlsAll_d, rlsAll_v, abK_some, frcB_a, frcK_a, xs_frc, frR_nx, frR_ret, wipeD_nil, wipeD_cons, backD_nil, backD_cons, gt_0, st_0, rls_e, ownL_e, Option.map_some, Option.isSome_some, if_true, List.isEmpty_nil, lstK_0, lstK_1, lstK_2, lstK_3, lstK_4, lstK_5, lstK_6, tupK_0, tupK_1, tupK_2, tupK_3, tupK_4, noV_nil, noV_d, noV_1, noV_2, noV_3, noV_4, noV_5, noV_6, noV_7, noV_8, ite_tt, and_self, List.cons_append, List.nil_append, iL_1, pl_int, pl_bool, pl_none, pl_str, pl_list, pl_dict, Bool.false_eq_true, if_false, Bool.not_true, Bool.not_false, b_add, b_sub, c_eq, c_ne, c_lt, c_le, c_gt, c_ge, k3]
  rw [run_at g1 rfl, key]
  rfl
end Bw

set_option maxRecDepth 100000
namespace Bw
open PySem PySem.Spec PyProof.Rows L2
/-! ### threes of places -/
abbrev Tr := Nat × Nat × Nat
def enc3 (t : Tr) : Dt := .tuple [.int t.1, .int t.2.1, .int t.2.2]
def rowT (n i j : Nat) : List Tr := (List.range' (j + 1) (n - (j + 1))).map fun k => (i, j, k)
def rowsT (n i : Nat) : List Tr := (List.range' (i + 1) (n - (i + 1))).flatMap (rowT n i)
def T3 (n : Nat) : List Tr := (List.range n).flatMap (rowsT n)
theorem row_len (n i j : Nat) : (rowT n i j).length = n - (j + 1) := by simp [rowT]
theorem rngL_nat : ∀ (n lo : Nat), rngL (lo : Int) n = (List.range' lo n).map fun (k : Nat) => PyData.int (k : Int)
  | 0, _ => rfl
  | n + 1, lo => by
    rw [List.range'_succ, List.map_cons]
    show PyData.int lo :: rngL ((lo : Int) + 1) n = _
    have : ((lo : Int) + 1) = ((lo + 1 : Nat) : Int) := by omega
    rw [this, rngL_nat n (lo + 1)]
theorem range'_snoc (s n : Nat) : List.range' s (n + 1) = List.range' s n ++ [s + n] := by
  rw [List.range'_concat]; simp
/-- the row of a comprehension -/
theorem row_lc {cl : Cl} {n i j : Nat} {s0 s1 x4 : Option (Dt × Bool)} : ∃ x4', lcL (lcB (.nm 4) [4] (lcE cl (.tup (.cons (.var 2) (.cons (.var 3) (.cons (.var 4) .nil)))))) (rngL ((j : Int) + 1) (n - (j + 1))) [s0, s1, some (.int i, false), some (.int j, false), x4] =
    .ok ((rowT n i j).map enc3) [s0, s1, some (.int i, false), some (.int j, false), x4'] := by
  obtain ⟨δ, e, x, rfl⟩ := lcL_map (f := lcB (.nm 4) [4] (lcE cl (.tup (.cons (.var 2) (.cons (.var 3) (.cons (.var 4) .nil)))))) (g := fun d => .tuple [.int i, .int j, d]) (fun δ => ∃ x : Option (Dt × Bool), δ = [s0, s1, some (.int i, false), some (.int j, false), x])
    (ds := rngL ((j : Int) + 1) (n - (j + 1))) (δ := [s0, s1, some (.int i, false), some (.int j, false), x4]) ⟨_, rfl⟩ (by
      rintro d δ hd ⟨x, rfl⟩
      exact ⟨_, by simp only [rb_ok, o1_some, o1b_some, o1i_some, f2_some, rvK_some, opK_some, rlK_t, rlK_f, drK_t, drK_f, drp_e, ev_cst, ev_gl, ev_var, opd_var, od_d, od_v, negK_i, tAnd_1, tOr_1, tb_ok, ev_dct, evs_nil, eos_nil, f1_some, oc_some, ods_nil, ods_cons, isiK_some, clK_ok, ca_some, cmK_ok, cm_some, ctK_ok, ctC_some, muK_some, muF2_some, ownK_l, eoo_non, intK_i, slK_some, wkK_some, bwK_some, eit_bor, r1K_i, r2K_i, enK_t, enK_l, lcX_ok, lockI_val, lockI_bor, lockI_rng1, lockI_rng2, lockI_enum, flK_nx, flK_ret, flK_brk, xss_nil, upK_some, ptF_some, ptK_some, rtK_some, xs_retV, xs_brk, asK_some, frB_e, frK_some, xs_fr_val, xs_fr_rng1, xs_fr_rng2, xs_fr_rng3, xs_fr_enum, xs_fr_zip, dk_rng1, dk_rng2, dk_enum, dk_var, dk_cst, dk_gl, dk_bin, dk_cmp, dk_chain, dk_isN, dk_notN, dk_neg, dk_nt, dk_an, dk_orr, dk_ife, dk_ix, dk_sl, dk_rev, dk_tup, dk_lst, dk_dct, dk_bi, dk_isi, dk_call, dk_callM, dk_callT, dk_mu, dk_lc, dk_lcf, whC_a, whB_a, xs_wh, opK0_a, opd_cst, opd_gl, opd_bin, opd_cmp, opd_chain, opd_isN, opd_notN, opd_neg, opd_nt, opd_an, opd_orr, opd_ife, opd_ix, opd_sl, opd_rev, opd_tup, opd_lst, opd_dct, opd_bi, opd_isi, opd_call, opd_callM, opd_callT, opd_mu, opd_lc, opd_lcf, twoL_a, twoK_a, binG_a, cmpG_a, ixG_a, ev_bin, ev_cmp, ev_ix, oneK_a, isNG_a, negG_a, isiG_a, ev_isN, ev_notN, ev_neg, ev_isi, ntK_a, boK_a, ev_nt, ev_an, ev_orr, anK_t, anK_f, orK_t, orK_f, tAnd_2, tOr_2, ifK_t, ifK_f, ev_ife, ev_tup, ev_lst, evsL_a, evsK_a, evs_cons, eosL_a, eosK_a, eos_cons, biK_a, ev_bi, callK_a, ev_call, cmKK_a, lsK_some, lsK1_a, ev_lset, mxK1_a, ev_mxv, opd_mxv, dk_mxv, lrK_some, lrK1_a, ev_lrng, opd_lrng, dk_lrng, cnF_some, cnK_a, isLs_l, ev_cnt, opd_cnt, dk_cnt, dzK2_a, dzK1_a, ev_dzip, opd_dzip, dk_dzip, opd_lset, dk_lset, ev_callM, ctK2_a, ctK1_a, ev_callT, muKK_a, ev_mu, eoK_a, eoo_som, slK3_a, slK2_a, slK1_a, ev_sl, wvK_a, eit_val, r1K1_a, eit_rng1, r2K2_a, r2K1_a, eit_rng2, enK1_a, eit_enum, lcEK_a, lcE_a, lcCK_t, lcCK_f, lcC_a, aoK_some, lcB_a, lcK1_a, ev_lc, lcK2_a, ev_lcf, flC_nx, flC_ret, flC_brk, xss_cons, asgK_a, xs_asg, unpK_a, xs_unp, parK2_a, parK1_a, xs_par, putK2_a, putK1_a, xs_put, retK_a, xs_ret_mxv, xs_ret_lrng, xs_ret_dzip, xs_ret_cnt, xs_ret_lset, xs_ret_cst, xs_ret_gl, xs_ret_bin, xs_ret_cmp, xs_ret_chain, xs_ret_isN, xs_ret_notN, xs_ret_neg, xs_ret_nt, xs_ret_an, xs_ret_orr, xs_ret_ife, xs_ret_ix, xs_ret_sl, xs_ret_rev, xs_ret_tup, xs_ret_lst, xs_ret_dct, xs_ret_bi, xs_ret_isi, xs_ret_call, xs_ret_callM, xs_ret_callT, xs_ret_mu, xs_ret_lc, xs_ret_lcf, ifsK_t, ifsK_f, xs_ifs, exK_a, xs_ex, frK1_a, frK_none, chK4_a, chK3_t, chK3_f, chK2_a, chK1_a, ev_chain, isNK_n, isNK_i, isNK_t, isNK_l, lcLK2_s, lcLK2_n, lcLK1_a, lcL_c, lcL_n, gt_s, st_s, asgT_nm, as2_some, asgT_tp, asgTs_nil, asgTs_cons, rlsAll_nil, rlsAll_d, rlsAll_v, abK_some, frcB_a, frcK_a, xs_frc, frR_nx, frR_ret, wipeD_nil, wipeD_cons, backD_nil, backD_cons, gt_0, st_0, rls_e, ownL_e, Option.map_some, Option.isSome_some, if_true, List.isEmpty_nil, lstK_0, lstK_1, lstK_2, lstK_3, lstK_4, lstK_5, lstK_6, tupK_0, tupK_1, tupK_2, tupK_3, tupK_4, noV_nil, noV_d, noV_1, noV_2, noV_3, noV_4, noV_5, noV_6, noV_7, noV_8, ite_tt, and_self, List.cons_append, List.nil_append, iL_1, pl_int, pl_bool, pl_none, pl_str, pl_list, pl_dict, Bool.false_eq_true, if_false, Bool.not_true, Bool.not_false, b_add, b_sub, c_eq, c_ne, c_lt, c_le, c_gt, c_ge]; rfl, _, rfl⟩)
  refine ⟨x, e.trans ?_⟩
  have : ((j : Int) + 1) = ((j + 1 : Nat) : Int) := by omega
  rw [this, rngL_nat]
  unfold rowT enc3
  rw [List.map_map, List.map_map]; rfl
theorem threes_body {cl : Cl} {n : Nat} (hn : n ≤ 24) : RetP (fun d w _ => d = .list ((T3 n).map enc3) ∧ w = true) (xss cl D.threes_of.body (entry D.threes_of [.int n])) := by
  have hbn : big (n : Int) = true := big_of (by omega)
  simp only [D.threes_of, entry, List.map_cons, List.map_nil, List.length_cons, List.length_nil, List.replicate, Nat.zero_add, Nat.reduceAdd, Nat.reduceSub, List.replicate_zero, List.cons_append, List.nil_append]
  simp only [rb_ok, o1_some, o1b_some, o1i_some, f2_some, rvK_some, opK_some, rlK_t, rlK_f, drK_t, drK_f, drp_e, ev_cst, ev_gl, ev_var, opd_var, od_d, od_v, negK_i, tAnd_1, tOr_1, tb_ok, ev_dct, evs_nil, eos_nil, f1_some, oc_some, ods_nil, ods_cons, isiK_some, clK_ok, ca_some, cmK_ok, cm_some, ctK_ok, ctC_some, muK_some, muF2_some, ownK_l, eoo_non, intK_i, slK_some, wkK_some, bwK_some, eit_bor, r1K_i, r2K_i, enK_t, enK_l, lcX_ok, lockI_val, lockI_bor, lockI_rng1, lockI_rng2, lockI_enum, flK_nx, flK_ret, flK_brk, xss_nil, upK_some, ptF_some, ptK_some, rtK_some, xs_retV, xs_brk, asK_some, frB_e, frK_some, xs_fr_val, xs_fr_rng1, xs_fr_rng2, xs_fr_rng3, xs_fr_enum, xs_fr_zip, dk_rng1, dk_rng2, dk_enum, dk_var, dk_cst, dk_gl, dk_bin, dk_cmp, dk_chain, dk_isN, dk_notN, dk_neg, dk_nt, dk_an, dk_orr, dk_ife, dk_ix, dk_sl, dk_rev, dk_tup, dk_lst, dk_dct, dk_bi, dk_isi, dk_call, dk_callM, dk_callT, dk_mu, dk_lc, dk_lcf, whC_a, whB_a, xs_wh, opK0_a, opd_cst, opd_gl, opd_bin, opd_cmp, opd_chain, opd_isN, opd_notN, opd_neg, opd_nt, opd_an, opd_orr, opd_ife, opd_ix, opd_sl, opd_rev, opd_tup, opd_lst, opd_dct, opd_bi, opd_isi, opd_call, opd_callM, opd_callT, opd_mu, opd_lc, opd_lcf, twoL_a, twoK_a, binG_a, cmpG_a, ixG_a, ev_bin, ev_cmp, ev_ix, oneK_a, isNG_a, negG_a, isiG_a, ev_isN, ev_notN, ev_neg, ev_isi, ntK_a, boK_a, ev_nt, ev_an, ev_orr, anK_t, anK_f, orK_t, orK_f, tAnd_2, tOr_2, ifK_t, ifK_f, ev_ife, ev_tup, ev_lst, evsL_a, evsK_a, evs_cons, eosL_a, eosK_a, eos_cons, biK_a, ev_bi, callK_a, ev_call, cmKK_a, lsK_some, lsK1_a, ev_lset, mxK1_a, ev_mxv, opd_mxv, dk_mxv, lrK_some, lrK1_a, ev_lrng, opd_lrng, dk_lrng, cnF_some, cnK_a, isLs_l, ev_cnt, opd_cnt, dk_cnt, dzK2_a, dzK1_a, ev_dzip, opd_dzip, dk_dzip, opd_lset, dk_lset, ev_callM, ctK2_a, ctK1_a, ev_callT, muKK_a, ev_mu, eoK_a, eoo_som, slK3_a, slK2_a, slK1_a, ev_sl, wvK_a, eit_val, r1K1_a, eit_rng1, r2K2_a, r2K1_a, eit_rng2, enK1_a, eit_enum, lcEK_a, lcE_a, lcCK_t, lcCK_f, lcC_a, aoK_some, lcB_a, lcK1_a, ev_lc, lcK2_a, ev_lcf, flC_nx, flC_ret, flC_brk, xss_cons, asgK_a, xs_asg, unpK_a, xs_unp, parK2_a, parK1_a, xs_par, putK2_a, putK1_a, xs_put, retK_a, xs_ret_mxv, xs_ret_lrng, xs_ret_dzip, xs_ret_cnt, xs_ret_lset, xs_ret_cst, xs_ret_gl, xs_ret_bin, xs_ret_cmp, xs_ret_chain, xs_ret_isN, xs_ret_notN, xs_ret_neg, xs_ret_nt, xs_ret_an, xs_ret_orr, xs_ret_ife, xs_ret_ix, xs_ret_sl, xs_ret_rev, xs_ret_tup, xs_ret_lst, xs_ret_dct, xs_ret_bi, xs_ret_isi, xs_ret_call, xs_ret_callM, xs_ret_callT, xs_ret_mu, xs_ret_lc, xs_ret_lcf, ifsK_t, ifsK_f, xs_ifs, exK_a, xs_ex, frK1_a, frK_none, chK4_a, chK3_t, chK3_f, chK2_a, chK1_a, ev_chain, isNK_n, isNK_i, isNK_t, isNK_l, lcLK2_s, lcLK2_n, lcLK1_a, lcL_c, lcL_n, gt_s, st_s, asgT_nm, as2_some, asgT_tp, asgTs_nil, asgTs_cons, rlsAll_nil, rlsAll_d, rlsAll_v, abK_some, frcB_a, frcK_a, xs_frc, frR_nx, frR_ret, wipeD_nil, wipeD_cons, backD_nil, backD_cons, gt_0, st_0, rls_e, ownL_e, Option.map_some, Option.isSome_some, if_true, List.isEmpty_nil, lstK_0, lstK_1, lstK_2, lstK_3, lstK_4, lstK_5, lstK_6, tupK_0, tupK_1, tupK_2, tupK_3, tupK_4, noV_nil, noV_d, noV_1, noV_2, noV_3, noV_4, noV_5, noV_6, noV_7, noV_8, ite_tt, and_self, List.cons_append, List.nil_append, iL_1, pl_int, pl_bool, pl_none, pl_str, pl_list, pl_dict, Bool.false_eq_true, if_false, Bool.not_true, Bool.not_false, b_add, b_sub, c_eq, c_ne, c_lt, c_le, c_gt, c_ge, hbn]
  refine ret_for (fun i δ => ∃ x2 x3 x4 : Option (Dt × Bool), δ = [some (.int n, false), some (.list (((List.range i).flatMap (rowsT n)).map enc3), true), x2, x3, x4] ∧ ((List.range i).flatMap (rowsT n)).length ≤ i * 576) ⟨none, none, none, rfl, by simp⟩ ?_ ?_
  · rintro i d δ hd ⟨x2, x3, x4, rfl, hI⟩
    obtain ⟨rfl, hi⟩ := rngL_get hd
    rw [Int.toNat_natCast] at hi
    rw [Int.zero_add]
    have hb1 : big ((i : Int) + 1) = true := big_of (n := i + 1) (by omega)
    simp only [rb_ok, o1_some, o1b_some, o1i_some, f2_some, rvK_some, opK_some, rlK_t, rlK_f, drK_t, drK_f, drp_e, ev_cst, ev_gl, ev_var, opd_var, od_d, od_v, negK_i, tAnd_1, tOr_1, tb_ok, ev_dct, evs_nil, eos_nil, f1_some, oc_some, ods_nil, ods_cons, isiK_some, clK_ok, ca_some, cmK_ok, cm_some, ctK_ok, ctC_some, muK_some, muF2_some, ownK_l, eoo_non, intK_i, slK_some, wkK_some, bwK_some, eit_bor, r1K_i, r2K_i, enK_t, enK_l, lcX_ok, lockI_val, lockI_bor, lockI_rng1, lockI_rng2, lockI_enum, flK_nx, flK_ret, flK_brk, xss_nil, upK_some, ptF_some, ptK_some, rtK_some, xs_retV, xs_brk, asK_some, frB_e, frK_some, xs_fr_val, xs_fr_rng1, xs_fr_rng2, xs_fr_rng3, xs_fr_enum, xs_fr_zip, dk_rng1, dk_rng2, dk_enum, dk_var, dk_cst, dk_gl, dk_bin, dk_cmp, dk_chain, dk_isN, dk_notN, dk_neg, dk_nt, dk_an, dk_orr, dk_ife, dk_ix, dk_sl, dk_rev, dk_tup, dk_lst, dk_dct, dk_bi, dk_isi, dk_call, dk_callM, dk_callT, dk_mu, dk_lc, dk_lcf, whC_a, whB_a, xs_wh, opK0_a, opd_cst, opd_gl, opd_bin, opd_cmp, opd_chain, opd_isN, opd_notN, opd_neg, opd_nt, opd_an, opd_orr, opd_ife, opd_ix, opd_sl, opd_rev, opd_tup, opd_lst, opd_dct, opd_bi, opd_isi, opd_call, opd_callM, opd_callT, opd_mu, opd_lc, opd_lcf, twoL_a, twoK_a, binG_a, cmpG_a, ixG_a, ev_bin, ev_cmp, ev_ix, oneK_a, isNG_a, negG_a, isiG_a, ev_isN, ev_notN, ev_neg, ev_isi, ntK_a, boK_a, ev_nt, ev_an, ev_orr, anK_t, anK_f, orK_t, orK_f, tAnd_2, tOr_2, ifK_t, ifK_f, ev_ife, ev_tup, ev_lst, evsL_a, evsK_a, evs_cons, eosL_a, eosK_a, eos_cons, biK_a, ev_bi, callK_a, ev_call, cmKK_a, lsK_some, lsK1_a, ev_lset, mxK1_a, ev_mxv, opd_mxv, dk_mxv, lrK_some, lrK1_a, ev_lrng, opd_lrng, dk_lrng, cnF_some, cnK_a, isLs_l, ev_cnt, opd_cnt, dk_cnt, dzK2_a, dzK1_a, ev_dzip, opd_dzip, dk_dzip, opd_lset, dk_lset, ev_callM, ctK2_a, ctK1_a, ev_callT, muKK_a, ev_mu, eoK_a, eoo_som, slK3_a, slK2_a, slK1_a, ev_sl, wvK_a, eit_val, r1K1_a, eit_rng1, r2K2_a, r2K1_a, eit_rng2, enK1_a, eit_enum, lcEK_a, lcE_a, lcCK_t, lcCK_f, lcC_a, aoK_some, lcB_a, lcK1_a, ev_lc, lcK2_a, ev_lcf, flC_nx, flC_ret, flC_brk, xss_cons, asgK_a, xs_asg, unpK_a, xs_unp, parK2_a, parK1_a, xs_par, putK2_a, putK1_a, xs_put, retK_a, xs_ret_mxv, xs_ret_lrng, xs_ret_dzip, xs_ret_cnt, xs_ret_lset, xs_ret_cst, xs_ret_gl, xs_ret_bin, xs_ret_cmp, xs_ret_chain, xs_ret_isN, xs_ret_notN, xs_ret_neg, xs_ret_nt, xs_ret_an, xs_ret_orr, xs_ret_ife, xs_ret_ix, xs_ret_sl, xs_ret_rev, xs_ret_tup, xs_ret_lst, xs_ret_dct, xs_ret_bi, xs_ret_isi, xs_ret_call, xs_ret_callM, xs_ret_callT, xs_ret_mu, xs_ret_lc, xs_ret_lcf, ifsK_t, ifsK_f, xs_ifs, exK_a, xs_ex, frK1_a, frK_none, chK4_a, chK3_t, chK3_f, chK2_a, chK1_a, ev_chain, isNK_n, isNK_i, isNK_t, isNK_l, lcLK2_s, lcLK2_n, lcLK1_a, lcL_c, lcL_n, gt_s, st_s, asgT_nm, as2_some, asgT_tp, asgTs_nil, asgTs_cons, rlsAll_nil, rlsAll_d, rlsAll_v, abK_some, frcB_a, frcK_a, xs_frc, frR_nx, frR_ret, wipeD_nil, wipeD_cons, backD_nil, backD_cons, gt_0, st_0, rls_e, ownL_e, Option.map_some, Option.isSome_some, if_true, List.isEmpty_nil, lstK_0, lstK_1, lstK_2, lstK_3, lstK_4, lstK_5, lstK_6, tupK_0, tupK_1, tupK_2, tupK_3, tupK_4, noV_nil, noV_d, noV_1, noV_2, noV_3, noV_4, noV_5, noV_6, noV_7, noV_8, ite_tt, and_self, List.cons_append, List.nil_append, iL_1, pl_int, pl_bool, pl_none, pl_str, pl_list, pl_dict, Bool.false_eq_true, if_false, Bool.not_true, Bool.not_false, b_add, b_sub, c_eq, c_ne, c_lt, c_le, c_gt, c_ge, hbn, hb1]
    refine nr_for (fun j δ => ∃ x3 x4 : Option (Dt × Bool), δ = [some (.int n, false), some (.list (((List.range i).flatMap (rowsT n) ++ (List.range' (i + 1) j).flatMap (rowT n i)).map enc3), true), some (.int i, false), x3, x4] ∧ ((List.range i).flatMap (rowsT n) ++ (List.range' (i + 1) j).flatMap (rowT n i)).length ≤ i * 576 + j * 24) ⟨x3, x4, by simp, by simpa using hI⟩ ?_ ?_
    · rintro j d δ hd ⟨x3, x4, rfl, hJ⟩
      obtain ⟨rfl, hj⟩ := rngL_get hd
      have ej : ((i : Int) + 1 + (j : Int)) = ((i + 1 + j : Nat) : Int) := by omega
      rw [ej]
      have hb2 : big (((i + 1 + j : Nat) : Int) + 1) = true := big_of (n := i + 1 + j + 1) (by omega)
      have hc : ((n : Int) - (((i + 1 + j : Nat) : Int) + 1)).toNat = n - (i + 1 + j + 1) := by omega
      generalize hL : (List.range i).flatMap (rowsT n) ++ (List.range' (i + 1) j).flatMap (rowT n i) = L at hJ ⊢
      obtain ⟨x4', e⟩ := row_lc (cl := cl) (n := n) (i := i) (j := i + 1 + j) (s0 := some (.int n, false)) (s1 := some (.list (L.map enc3), true)) (x4 := x4)
      have hl : ((rowT n i (i + 1 + j)).map enc3).length ≤ lim := lim_of (by rw [List.length_map, row_len]; omega)
      have he : (L.map enc3).length + ((rowT n i (i + 1 + j)).map enc3).length ≤ lim := lim_of (by rw [List.length_map, List.length_map, row_len]; omega)
      simp only [rb_ok, o1_some, o1b_some, o1i_some, f2_some, rvK_some, opK_some, rlK_t, rlK_f, drK_t, drK_f, drp_e, ev_cst, ev_gl, ev_var, opd_var, od_d, od_v, negK_i, tAnd_1, tOr_1, tb_ok, ev_dct, evs_nil, eos_nil, f1_some, oc_some, ods_nil, ods_cons, isiK_some, clK_ok, ca_some, cmK_ok, cm_some, ctK_ok, ctC_some, muK_some, muF2_some, ownK_l, eoo_non, intK_i, slK_some, wkK_some, bwK_some, eit_bor, r1K_i, r2K_i, enK_t, enK_l, lcX_ok, lockI_val, lockI_bor, lockI_rng1, lockI_rng2, lockI_enum, flK_nx, flK_ret, flK_brk, xss_nil, upK_some, ptF_some, ptK_some, rtK_some, xs_retV, xs_brk, asK_some, frB_e, frK_some, xs_fr_val, xs_fr_rng1, xs_fr_rng2, xs_fr_rng3, xs_fr_enum, xs_fr_zip, dk_rng1, dk_rng2, dk_enum, dk_var, dk_cst, dk_gl, dk_bin, dk_cmp, dk_chain, dk_isN, dk_notN, dk_neg, dk_nt, dk_an, dk_orr, dk_ife, dk_ix, dk_sl, dk_rev, dk_tup, dk_lst, dk_dct, dk_bi, dk_isi, dk_call, dk_callM, dk_callT, dk_mu, dk_lc, dk_lcf, whC_a, whB_a, xs_wh, opK0_a, opd_cst, opd_gl, opd_bin, opd_cmp, opd_chain, opd_isN, opd_notN, opd_neg, opd_nt, opd_an, opd_orr, opd_ife, opd_ix, opd_sl, opd_rev, opd_tup, opd_lst, opd_dct, opd_bi, opd_isi, opd_call, opd_callM, opd_callT, opd_mu, opd_lc, opd_lcf, twoL_a, twoK_a, binG_a, cmpG_a, ixG_a, ev_bin, ev_cmp, ev_ix, oneK_a, isNG_a, negG_a, isiG_a, ev_isN, ev_notN, ev_neg, ev_isi, ntK_a, boK_a, ev_nt, ev_an, ev_orr, anK_t, anK_f, orK_t, orK_f, tAnd_2, tOr_2, ifK_t, ifK_f, ev_ife, ev_tup, ev_lst, evsL_a, evsK_a, evs_cons, eosL_a, eosK_a, eos_cons, biK_a, ev_bi, callK_a, ev_call, cmKK_a, lsK_some, lsK1_a, ev_lset, mxK1_a, ev_mxv, opd_mxv, dk_mxv, lrK_some, lrK1_a, ev_lrng, opd_lrng, dk_lrng, cnF_some, cnK_a, isLs_l, ev_cnt, opd_cnt, dk_cnt, dzK2_a, dzK1_a, ev_dzip, opd_dzip, dk_dzip, opd_lset, dk_lset, ev_callM, ctK2_a, ctK1_a, ev_callT, muKK_a, ev_mu, eoK_a, eoo_som, slK3_a, slK2_a, slK1_a, ev_sl, wvK_a, eit_val, r1K1_a, eit_rng1, r2K2_a, r2K1_a, eit_rng2, enK1_a, eit_enum, lcEK_a, lcE_a, lcCK_t, lcCK_f, lcC_a, aoK_some, lcB_a, lcK1_a, ev_lc, lcK2_a, ev_lcf, flC_nx, flC_ret, flC_brk, xss_cons, asgK_a, xs_asg, unpK_a, xs_unp, parK2_a, parK1_a, xs_par, putK2_a, putK1_a, xs_put, retK_a, xs_ret_mxv, xs_ret_lrng, xs_ret_dzip, xs_ret_cnt, xs_ret_lset, xs_ret_cst, xs_ret_gl, xs_ret_bin, xs_ret_cmp, xs_ret_chain, xs_ret_isN, xs_ret_notN, xs_ret_neg, xs_ret_nt, xs_ret_an, xs_ret_orr, xs_ret_ife, xs_ret_ix, xs_ret_sl, xs_ret_rev, xs_ret_tup, xs_ret_lst, xs_ret_dct, xs_ret_bi, xs_ret_isi, xs_ret_call, xs_ret_callM, xs_ret_callT, xs_ret_mu, xs_ret_lc, xs_ret_lcf, ifsK_t, ifsK_f, xs_ifs, exK_a, xs_ex, frK1_a, frK_none, chK4_a, chK3_t, chK3_f, chK2_a, chK1_a, ev_chain, isNK_n, isNK_i, isNK_t, isNK_l, lcLK2_s, lcLK2_n, lcLK1_a, lcL_c, lcL_n, gt_s, st_s, asgT_nm, as2_some, asgT_tp, asgTs_nil, asgTs_cons, rlsAll_nil, rlsAll_d, rlsAll_v, abK_some, frcB_a, frcK_a, xs_frc, frR_nx, frR_ret, wipeD_nil, wipeD_cons, backD_nil, backD_cons, gt_0, st_0, rls_e, ownL_e, Option.map_some, Option.isSome_some, if_true, List.isEmpty_nil, lstK_0, lstK_1, lstK_2, lstK_3, lstK_4, lstK_5, lstK_6, tupK_0, tupK_1, tupK_2, tupK_3, tupK_4, noV_nil, noV_d, noV_1, noV_2, noV_3, noV_4, noV_5, noV_6, noV_7, noV_8, ite_tt, and_self, List.cons_append, List.nil_append, iL_1, pl_int, pl_bool, pl_none, pl_str, pl_list, pl_dict, Bool.false_eq_true, if_false, Bool.not_true, Bool.not_false, b_add, b_sub, c_eq, c_ne, c_lt, c_le, c_gt, c_ge, ownK_l, hbn, hb2, hc, e, hl, mu_ext he]
      refine nr_nx ⟨_, _, by
        rw [← List.map_append, range'_snoc, List.flatMap_append, ← List.append_assoc, hL]
        simp only [List.flatMap_cons, List.flatMap_nil, List.append_nil]
        rfl, ?_⟩
      rw [range'_snoc, List.flatMap_append, ← List.append_assoc, hL]
      simp only [List.flatMap_cons, List.flatMap_nil, List.append_nil, List.length_append, row_len]
      omega
    · rintro δ ⟨x3, x4, rfl, hJ⟩
      rw [rngL_len] at hJ ⊢
      have hc : ((n : Int) - ((i : Int) + 1)).toNat = n - (i + 1) := by omega
      rw [hc] at hJ ⊢
      simp only [rb_ok, o1_some, o1b_some, o1i_some, f2_some, rvK_some, opK_some, rlK_t, rlK_f, drK_t, drK_f, drp_e, ev_cst, ev_gl, ev_var, opd_var, od_d, od_v, negK_i, tAnd_1, tOr_1, tb_ok, ev_dct, evs_nil, eos_nil, f1_some, oc_some, ods_nil, ods_cons, isiK_some, clK_ok, ca_some, cmK_ok, cm_some, ctK_ok, ctC_some, muK_some, muF2_some, ownK_l, eoo_non, intK_i, slK_some, wkK_some, bwK_some, eit_bor, r1K_i, r2K_i, enK_t, enK_l, lcX_ok, lockI_val, lockI_bor, lockI_rng1, lockI_rng2, lockI_enum, flK_nx, flK_ret, flK_brk, xss_nil, upK_some, ptF_some, ptK_some, rtK_some, xs_retV, xs_brk, asK_some, frB_e, frK_some, xs_fr_val, xs_fr_rng1, xs_fr_rng2, xs_fr_rng3, xs_fr_enum, xs_fr_zip, dk_rng1, dk_rng2, dk_enum, dk_var, dk_cst, dk_gl, dk_bin, dk_cmp, dk_chain, dk_isN, dk_notN, dk_neg, dk_nt, dk_an, dk_orr, dk_ife, dk_ix, dk_sl, dk_rev, dk_tup, dk_lst, dk_dct, dk_bi, dk_isi, dk_call, dk_callM, dk_callT, dk_mu, dk_lc, dk_lcf, whC_a, whB_a, xs_wh, opK0_a, opd_cst, opd_gl, opd_bin, opd_cmp, opd_chain, opd_isN, opd_notN, opd_neg, opd_nt, opd_an, opd_orr, opd_ife, opd_ix, opd_sl, opd_rev, opd_tup, opd_lst, opd_dct, opd_bi, opd_isi, opd_call, opd_callM, opd_callT, opd_mu, opd_lc, opd_lcf, twoL_a, twoK_a, binG_a, cmpG_a, ixG_a, ev_bin, ev_cmp, ev_ix, oneK_a, isNG_a, negG_a, isiG_a, ev_isN, ev_notN, ev_neg, ev_isi, ntK_a, boK_a, ev_nt, ev_an, ev_orr, anK_t, anK_f, orK_t, orK_f, tAnd_2, tOr_2, ifK_t, ifK_f, ev_ife, ev_tup, ev_lst, evsL_a, evsK_a, evs_cons, eosL_a, eosK_a, eos_cons, biK_a, ev_bi, callK_a, ev_call, cmKK_a, lsK_some, lsK1_a, ev_lset, mxK1_a, ev_mxv, opd_mxv, dk_mxv, lrK_some, lrK1_a, ev_lrng, opd_lrng, dk_lrng, cnF_some, cnK_a, isLs_l, ev_cnt, opd_cnt, dk_cnt, dzK2_a, dzK1_a, ev_dzip, opd_dzip, dk_dzip, opd_lset, dk_lset, ev_callM, ctK2_a, ctK1_a, ev_callT, muKK_a, ev_mu, eoK_a, eoo_som, slK3_a, slK2_a, slK1_a, ev_sl, wvK_a, eit_val, r1K1_a, eit_rng1, r2K2_a, r2K1_a, eit_rng2, enK1_a, eit_enum, lcEK_a, lcE_a, lcCK_t, lcCK_f, lcC_a, aoK_some, lcB_a, lcK1_a, ev_lc, lcK2_a, ev_lcf, flC_nx, flC_ret, flC_brk, xss_cons, asgK_a, xs_asg, unpK_a, xs_unp, parK2_a, parK1_a, xs_par, putK2_a, putK1_a, xs_put, retK_a, xs_ret_mxv, xs_ret_lrng, xs_ret_dzip, xs_ret_cnt, xs_ret_lset, xs_ret_cst, xs_ret_gl, xs_ret_bin, xs_ret_cmp, xs_ret_chain, xs_ret_isN, xs_ret_notN, xs_ret_neg, xs_ret_nt, xs_ret_an, xs_ret_orr, xs_ret_ife, xs_ret_ix, xs_ret_sl, xs_ret_rev, xs_ret_tup, xs_ret_lst, xs_ret_dct, xs_ret_bi, xs_ret_isi, xs_ret_call, xs_ret_callM, xs_ret_callT, xs_ret_mu, xs_ret_lc, xs_ret_lcf, ifsK_t, ifsK_f, xs_ifs, exK_a, xs_ex, frK1_a, frK_none, chK4_a, chK3_t, chK3_f, chK2_a, chK1_a, ev_chain, isNK_n, isNK_i, isNK_t, isNK_l, lcLK2_s, lcLK2_n, lcLK1_a, lcL_c, lcL_n, gt_s, st_s, asgT_nm, as2_some, asgT_tp, asgTs_nil, asgTs_cons, rlsAll_nil, rlsAll_d, rlsAll_v, abK_some, frcB_a, frcK_a, xs_frc, frR_nx, frR_ret, wipeD_nil, wipeD_cons, backD_nil, backD_cons, gt_0, st_0, rls_e, ownL_e, Option.map_some, Option.isSome_some, if_true, List.isEmpty_nil, lstK_0, lstK_1, lstK_2, lstK_3, lstK_4, lstK_5, lstK_6, tupK_0, tupK_1, tupK_2, tupK_3, tupK_4, noV_nil, noV_d, noV_1, noV_2, noV_3, noV_4, noV_5, noV_6, noV_7, noV_8, ite_tt, and_self, List.cons_append, List.nil_append, iL_1, pl_int, pl_bool, pl_none, pl_str, pl_list, pl_dict, Bool.false_eq_true, if_false, Bool.not_true, Bool.not_false, b_add, b_sub, c_eq, c_ne, c_lt, c_le, c_gt, c_ge]
      have e : (List.range i).flatMap (rowsT n) ++ (List.range' (i + 1) (n - (i + 1))).flatMap (rowT n i) = (List.range (i + 1)).flatMap (rowsT n) := by
        rw [List.range_succ, List.flatMap_append]
        simp only [List.flatMap_cons, List.flatMap_nil, List.append_nil]
        rfl
      rw [e] at hJ ⊢
      exact nr_nx ⟨_, _, _, rfl, by omega⟩
  · rintro δ ⟨x2, x3, x4, rfl, hI⟩
    rw [rngL_len, Int.toNat_natCast]
    simp only [rb_ok, o1_some, o1b_some, o1i_some, f2_some, rvK_some, opK_some, rlK_t, rlK_f, drK_t, drK_f, drp_e, ev_cst, ev_gl, ev_var, opd_var, od_d, od_v, negK_i, tAnd_1, tOr_1, tb_ok, ev_dct, evs_nil, eos_nil, f1_some, oc_some, ods_nil, ods_cons, isiK_some, clK_ok, ca_some, cmK_ok, cm_some, ctK_ok, ctC_some, muK_some, muF2_some, ownK_l, eoo_non, intK_i, slK_some, wkK_some, bwK_some, eit_bor, r1K_i, r2K_i, enK_t, enK_l, lcX_ok, lockI_val, lockI_bor, lockI_rng1, lockI_rng2, lockI_enum, flK_nx, flK_ret, flK_brk, xss_nil, upK_some, ptF_some, ptK_some, rtK_some, xs_retV, xs_brk, asK_some, frB_e, frK_some, xs_fr_val, xs_fr_rng1, xs_fr_rng2, xs_fr_rng3, xs_fr_enum, xs_fr_zip, dk_rng1, dk_rng2, dk_enum, dk_var, dk_cst, dk_gl, dk_bin, dk_cmp, dk_chain, dk_isN, dk_notN, dk_neg, dk_nt, dk_an, dk_orr, dk_ife, dk_ix, dk_sl, dk_rev, dk_tup, dk_lst, dk_dct, dk_bi, dk_isi, dk_call, dk_callM, dk_callT, dk_mu, dk_lc, dk_lcf, whC_a, whB_a, xs_wh, opK0_a, opd_cst, opd_gl, opd_bin, opd_cmp, opd_chain, opd_isN, opd_notN, opd_neg, opd_nt, opd_an, opd_orr, opd_ife, opd_ix, opd_sl, opd_rev, opd_tup, opd_lst, opd_dct, opd_bi, opd_isi, opd_call, opd_callM, opd_callT, opd_mu, opd_lc, opd_lcf, twoL_a, twoK_a, binG_a, cmpG_a, ixG_a, ev_bin, ev_cmp, ev_ix, oneK_a, isNG_a, negG_a, isiG_a, ev_isN, ev_notN, ev_neg, ev_isi, ntK_a, boK_a, ev_nt, ev_an, ev_orr, anK_t, anK_f, orK_t, orK_f, tAnd_2, tOr_2, ifK_t, ifK_f, ev_ife, ev_tup, ev_lst, evsL_a, evsK_a, evs_cons, eosL_a, eosK_a, eos_cons, biK_a, ev_bi, callK_a, ev_call, cmKK_a, lsK_some, lsK1_a, ev_lset, mxK1_a, ev_mxv, opd_mxv, dk_mxv, lrK_some, lrK1_a, ev_lrng, opd_lrng, dk_lrng, cnF_some, cnK_a, isLs_l, ev_cnt, opd_cnt, dk_cnt, dzK2_a, dzK1_a, ev_dzip, opd_dzip, dk_dzip, opd_lset, dk_lset, ev_callM, ctK2_a, ctK1_a, ev_callT, muKK_a, ev_mu, eoK_a, eoo_som, slK3_a, slK2_a, slK1_a, ev_sl, wvK_a, eit_val, r1K1_a, eit_rng1, r2K2_a, r2K1_a, eit_rng2, enK1_a, eit_enum, lcEK_a, lcE_a, lcCK_t, lcCK_f, lcC_a, aoK_some, lcB_a, lcK1_a, ev_lc, lcK2_a, ev_lcf, flC_nx, flC_ret, flC_brk, xss_cons, asgK_a, xs_asg, unpK_a, xs_unp, parK2_a, parK1_a, xs_par, putK2_a, putK1_a, xs_put, retK_a, xs_ret_mxv, xs_ret_lrng, xs_ret_dzip, xs_ret_cnt, xs_ret_lset, xs_ret_cst, xs_ret_gl, xs_ret_bin, xs_ret_cmp, xs_ret_chain, xs_ret_isN, xs_ret_notN, xs_ret_neg, xs_ret_nt, xs_ret_an, xs_ret_orr, xs_ret_ife, xs_ret_ix, xs_ret_sl, xs_ret_rev, xs_ret_tup, xs_ret_lst, xs_ret_dct, xs_ret_bi, xs_ret_isi, xs_ret_call, xs_ret_callM, xs_ret_callT, xs_ret_mu, xs_ret_lc, xs_ret_lcf, ifsK_t, ifsK_f, xs_ifs, exK_a, xs_ex, frK1_a, frK_none, chK4_a, chK3_t, chK3_f, chK2_a, chK1_a, ev_chain, isNK_n, isNK_i, isNK_t, isNK_l, lcLK2_s, lcLK2_n, lcLK1_a, lcL_c, lcL_n, gt_s, st_s, asgT_nm, as2_some, asgT_tp, asgTs_nil, asgTs_cons, rlsAll_nil, rlsAll_d, rlsAll_v, abK_some, frcB_a, frcK_a, xs_frc, frR_nx, frR_ret, wipeD_nil, wipeD_cons, backD_nil, backD_cons, gt_0, st_0, rls_e, ownL_e, Option.map_some, Option.isSome_some, if_true, List.isEmpty_nil, lstK_0, lstK_1, lstK_2, lstK_3, lstK_4, lstK_5, lstK_6, tupK_0, tupK_1, tupK_2, tupK_3, tupK_4, noV_nil, noV_d, noV_1, noV_2, noV_3, noV_4, noV_5, noV_6, noV_7, noV_8, ite_tt, and_self, List.cons_append, List.nil_append, iL_1, pl_int, pl_bool, pl_none, pl_str, pl_list, pl_dict, Bool.false_eq_true, if_false, Bool.not_true, Bool.not_false, b_add, b_sub, c_eq, c_ne, c_lt, c_le, c_gt, c_ge]
    exact retP_ok ⟨rfl, rfl⟩
theorem lthrees_body {cl : Cl} {n : Nat} (hn : n ≤ 24) : RetP (fun d w _ => d = .list ((T3 n).map enc3) ∧ w = true) (xss cl D._law_threes_v2.body (entry D._law_threes_v2 [.int n])) := by
  have hbn : big (n : Int) = true := big_of (by omega)
  simp only [D._law_threes_v2, entry, List.map_cons, List.map_nil, List.length_cons, List.length_nil, List.replicate, Nat.zero_add, Nat.reduceAdd, Nat.reduceSub, List.replicate_zero, List.cons_append, List.nil_append]
  simp only [rb_ok, o1_some, o1b_some, o1i_some, f2_some, rvK_some, opK_some, rlK_t, rlK_f, drK_t, drK_f, drp_e, ev_cst, ev_gl, ev_var, opd_var, od_d, od_v, negK_i, tAnd_1, tOr_1, tb_ok, ev_dct, evs_nil, eos_nil, f1_some, oc_some, ods_nil, ods_cons, isiK_some, clK_ok, ca_some, cmK_ok, cm_some, ctK_ok, ctC_some, muK_some, muF2_some, ownK_l, eoo_non, intK_i, slK_some, wkK_some, bwK_some, eit_bor, r1K_i, r2K_i, enK_t, enK_l, lcX_ok, lockI_val, lockI_bor, lockI_rng1, lockI_rng2, lockI_enum, flK_nx, flK_ret, flK_brk, xss_nil, upK_some, ptF_some, ptK_some, rtK_some, xs_retV, xs_brk, asK_some, frB_e, frK_some, xs_fr_val, xs_fr_rng1, xs_fr_rng2, xs_fr_rng3, xs_fr_enum, xs_fr_zip, dk_rng1, dk_rng2, dk_enum, dk_var, dk_cst, dk_gl, dk_bin, dk_cmp, dk_chain, dk_isN, dk_notN, dk_neg, dk_nt, dk_an, dk_orr, dk_ife, dk_ix, dk_sl, dk_rev, dk_tup, dk_lst, dk_dct, dk_bi, dk_isi, dk_call, dk_callM, dk_callT, dk_mu, dk_lc, dk_lcf, whC_a, whB_a, xs_wh, opK0_a, opd_cst, opd_gl, opd_bin, opd_cmp, opd_chain, opd_isN, opd_notN, opd_neg, opd_nt, opd_an, opd_orr, opd_ife, opd_ix, opd_sl, opd_rev, opd_tup, opd_lst, opd_dct, opd_bi, opd_isi, opd_call, opd_callM, opd_callT, opd_mu, opd_lc, opd_lcf, twoL_a, twoK_a, binG_a, cmpG_a, ixG_a, ev_bin, ev_cmp, ev_ix, oneK_a, isNG_a, negG_a, isiG_a, ev_isN, ev_notN, ev_neg, ev_isi, ntK_a, boK_a, ev_nt, ev_an, ev_orr, anK_t, anK_f, orK_t, orK_f, tAnd_2, tOr_2, ifK_t, ifK_f, ev_ife, ev_tup, ev_lst, evsL_a, evsK_a, evs_cons, eosL_a, eosK_a, eos_cons, biK_a, ev_bi, callK_a, ev_call, cmKK_a, lsK_some, lsK1_a, ev_lset, mxK1_a, ev_mxv, opd_mxv, dk_mxv, lrK_some, lrK1_a, ev_lrng, opd_lrng, dk_lrng, cnF_some, cnK_a, isLs_l, ev_cnt, opd_cnt, dk_cnt, dzK2_a, dzK1_a, ev_dzip, opd_dzip, dk_dzip, opd_lset, dk_lset, ev_callM, ctK2_a, ctK1_a, ev_callT, muKK_a, ev_mu, eoK_a, eoo_som, slK3_a, slK2_a, slK1_a, ev_sl, wvK_a, eit_val, r1K1_a, eit_rng1, r2K2_a, r2K1_a, eit_rng2, enK1_a, eit_enum, lcEK_a, lcE_a, lcCK_t, lcCK_f, lcC_a, aoK_some, lcB_a, lcK1_a, ev_lc, lcK2_a, ev_lcf, flC_nx, flC_ret, flC_brk, xss_cons, asgK_a, xs_asg, unpK_a, xs_unp, parK2_a, parK1_a, xs_par, putK2_a, putK1_a, xs_put, retK_a, xs_ret_mxv, xs_ret_lrng, xs_ret_dzip, xs_ret_cnt, xs_ret_lset, xs_ret_cst, xs_ret_gl, xs_ret_bin, xs_ret_cmp, xs_ret_chain, xs_ret_isN, xs_ret_notN, xs_ret_neg, xs_ret_nt, xs_ret_an, xs_ret_orr, xs_ret_ife, xs_ret_ix, xs_ret_sl, xs_ret_rev, xs_ret_tup, xs_ret_lst, xs_ret_dct, xs_ret_bi, xs_ret_isi, xs_ret_call, xs_ret_callM, xs_ret_callT, xs_ret_mu, xs_ret_lc, xs_ret_lcf, ifsK_t, ifsK_f, xs_ifs, exK_a, xs_ex, frK1_a, frK_none, chK4_a, chK3_t, chK3_f, chK2_a, chK1_a, ev_chain, isNK_n, isNK_i, isNK_t, isNK_l, lcLK2_s, lcLK2_n, lcLK1_a, lcL_c, lcL_n, gt_s, st_s, asgT_nm, as2_some, asgT_tp, asgTs_nil, asgTs_cons, rlsAll_nil, rlsAll_d, rlsAll_v, abK_some, frcB_a, frcK_a, xs_frc, frR_nx, frR_ret, wipeD_nil, wipeD_cons, backD_nil, backD_cons, gt_0, st_0, rls_e, ownL_e, Option.map_some, Option.isSome_some, if_true, List.isEmpty_nil, lstK_0, lstK_1, lstK_2, lstK_3, lstK_4, lstK_5, lstK_6, tupK_0, tupK_1, tupK_2, tupK_3, tupK_4, noV_nil, noV_d, noV_1, noV_2, noV_3, noV_4, noV_5, noV_6, noV_7, noV_8, ite_tt, and_self, List.cons_append, List.nil_append, iL_1, pl_int, pl_bool, pl_none, pl_str, pl_list, pl_dict, Bool.false_eq_true, if_false, Bool.not_true, Bool.not_false, b_add, b_sub, c_eq, c_ne, c_lt, c_le, c_gt, c_ge, hbn]
  refine ret_for (fun i δ => ∃ x2 x3 x4 : Option (Dt × Bool), δ = [some (.int n, false), some (.list (((List.range i).flatMap (rowsT n)).map enc3), true), x2, x3, x4] ∧ ((List.range i).flatMap (rowsT n)).length ≤ i * 576) ⟨none, none, none, rfl, by simp⟩ ?_ ?_
  · rintro i d δ hd ⟨x2, x3, x4, rfl, hI⟩
    obtain ⟨rfl, hi⟩ := rngL_get hd
    rw [Int.toNat_natCast] at hi
    rw [Int.zero_add]
    have hb1 : big ((i : Int) + 1) = true := big_of (n := i + 1) (by omega)
    simp only [rb_ok, o1_some, o1b_some, o1i_some, f2_some, rvK_some, opK_some, rlK_t, rlK_f, drK_t, drK_f, drp_e, ev_cst, ev_gl, ev_var, opd_var, od_d, od_v, negK_i, tAnd_1, tOr_1, tb_ok, ev_dct, evs_nil, eos_nil, f1_some, oc_some, ods_nil, ods_cons, isiK_some, clK_ok, ca_some, cmK_ok, cm_some, ctK_ok, ctC_some, muK_some, muF2_some, ownK_l, eoo_non, intK_i, slK_some, wkK_some, bwK_some, eit_bor, r1K_i, r2K_i, enK_t, enK_l, lcX_ok, lockI_val, lockI_bor, lockI_rng1, lockI_rng2, lockI_enum, flK_nx, flK_ret, flK_brk, xss_nil, upK_some, ptF_some, ptK_some, rtK_some, xs_retV, xs_brk, asK_some, frB_e, frK_some, xs_fr_val, xs_fr_rng1, xs_fr_rng2, xs_fr_rng3, xs_fr_enum, xs_fr_zip, dk_rng1, dk_rng2, dk_enum, dk_var, dk_cst, dk_gl, dk_bin, dk_cmp, dk_chain, dk_isN, dk_notN, dk_neg, dk_nt, dk_an, dk_orr, dk_ife, dk_ix, dk_sl, dk_rev, dk_tup, dk_lst, dk_dct, dk_bi, dk_isi, dk_call, dk_callM, dk_callT, dk_mu, dk_lc, dk_lcf, whC_a, whB_a, xs_wh, opK0_a, opd_cst, opd_gl, opd_bin, opd_cmp, opd_chain, opd_isN, opd_notN, opd_neg, opd_nt, opd_an, opd_orr, opd_ife, opd_ix, opd_sl, opd_rev, opd_tup, opd_lst, opd_dct, opd_bi, opd_isi, opd_call, opd_callM, opd_callT, opd_mu, opd_lc, opd_lcf, twoL_a, twoK_a, binG_a, cmpG_a, ixG_a, ev_bin, ev_cmp, ev_ix, oneK_a, isNG_a, negG_a, isiG_a, ev_isN, ev_notN, ev_neg, ev_isi, ntK_a, boK_a, ev_nt, ev_an, ev_orr, anK_t, anK_f, orK_t, orK_f, tAnd_2, tOr_2, ifK_t, ifK_f, ev_ife, ev_tup, ev_lst, evsL_a, evsK_a, evs_cons, eosL_a, eosK_a, eos_cons, biK_a, ev_bi, callK_a, ev_call, cmKK_a, lsK_some, lsK1_a, ev_lset, mxK1_a, ev_mxv, opd_mxv, dk_mxv, lrK_some, lrK1_a, ev_lrng, opd_lrng, dk_lrng, cnF_some, cnK_a, isLs_l, ev_cnt, opd_cnt, dk_cnt, dzK2_a, dzK1_a, ev_dzip, opd_dzip, dk_dzip, opd_lset, dk_lset, ev_callM, ctK2_a, ctK1_a, ev_callT, muKK_a, ev_mu, eoK_a, eoo_som, slK3_a, slK2_a, slK1_a, ev_sl, wvK_a, eit_val, r1K1_a, eit_rng1, r2K2_a, r2K1_a, eit_rng2, enK1_a, eit_enum, lcEK_a, lcE_a, lcCK_t, lcCK_f, lcC_a, aoK_some, lcB_a, lcK1_a, ev_lc, lcK2_a, ev_lcf, flC_nx, flC_ret, flC_brk, xss_cons, asgK_a, xs_asg, unpK_a, xs_unp, parK2_a, parK1_a, xs_par, putK2_a, putK1_a, xs_put, retK_a, xs_ret_mxv, xs_ret_lrng, xs_ret_dzip, xs_ret_cnt, xs_ret_lset, xs_ret_cst, xs_ret_gl, xs_ret_bin, xs_ret_cmp, xs_ret_chain, xs_ret_isN, xs_ret_notN, xs_ret_neg, xs_ret_nt, xs_ret_an, xs_ret_orr, xs_ret_ife, xs_ret_ix, xs_ret_sl, xs_ret_rev, xs_ret_tup, xs_ret_lst, xs_ret_dct, xs_ret_bi, xs_ret_isi, xs_ret_call, xs_ret_callM, xs_ret_callT, xs_ret_mu, xs_ret_lc, xs_ret_lcf, ifsK_t, ifsK_f, xs_ifs, exK_a, xs_ex, frK1_a, frK_none, chK4_a, chK3_t, chK3_f, chK2_a, chK1_a, ev_chain, isNK_n, isNK_i, isNK_t, isNK_l, lcLK2_s, lcLK2_n, lcLK1_a, lcL_c, lcL_n, gt_s, st_s, asgT_nm, as2_some, asgT_tp, asgTs_nil, asgTs_cons, rlsAll_nil, rlsAll_d, rlsAll_v, abK_some, frcB_a, frcK_a, xs_frc, frR_nx, frR_ret, wipeD_nil, wipeD_cons, backD_nil, backD_cons, gt_0, st_0, rls_e, ownL_e, Option.map_some, Option.isSome_some, if_true, List.isEmpty_nil, lstK_0, lstK_1, lstK_2, lstK_3, lstK_4, lstK_5, lstK_6, tupK_0, tupK_1, tupK_2, tupK_3, tupK_4, noV_nil, noV_d, noV_1, noV_2, noV_3, noV_4, noV_5, noV_6, noV_7, noV_8, ite_tt, and_self, List.cons_append, List.nil_append, iL_1, pl_int, pl_bool, pl_none, pl_str, pl_list, pl_dict, Bool.false_eq_true, if_false, Bool.not_true, Bool.not_false, b_add, b_sub, c_eq, c_ne, c_lt, c_le, c_gt, c_ge, hbn, hb1]
    refine nr_for (fun j δ => ∃ x3 x4 : Option (Dt × Bool), δ = [some (.int n, false), some (.list (((List.range i).flatMap (rowsT n) ++ (List.range' (i + 1) j).flatMap (rowT n i)).map enc3), true), some (.int i, false), x3, x4] ∧ ((List.range i).flatMap (rowsT n) ++ (List.range' (i + 1) j).flatMap (rowT n i)).length ≤ i * 576 + j * 24) ⟨x3, x4, by simp, by simpa using hI⟩ ?_ ?_
    · rintro j d δ hd ⟨x3, x4, rfl, hJ⟩
      obtain ⟨rfl, hj⟩ := rngL_get hd
      have ej : ((i : Int) + 1 + (j : Int)) = ((i + 1 + j : Nat) : Int) := by omega
      rw [ej]
      have hb2 : big (((i + 1 + j : Nat) : Int) + 1) = true := big_of (n := i + 1 + j + 1) (by omega)
      have hc : ((n : Int) - (((i + 1 + j : Nat) : Int) + 1)).toNat = n - (i + 1 + j + 1) := by omega
      generalize hL : (List.range i).flatMap (rowsT n) ++ (List.range' (i + 1) j).flatMap (rowT n i) = L at hJ ⊢
      obtain ⟨x4', e⟩ := row_lc (cl := cl) (n := n) (i := i) (j := i + 1 + j) (s0 := some (.int n, false)) (s1 := some (.list (L.map enc3), true)) (x4 := x4)
      have hl : ((rowT n i (i + 1 + j)).map enc3).length ≤ lim := lim_of (by rw [List.length_map, row_len]; omega)
      have he : bop .add (.list (L.map enc3)) (.list ((rowT n i (i + 1 + j)).map enc3)) = some (.list (L.map enc3 ++ (rowT n i (i + 1 + j)).map enc3), true) := if_pos (lim_of (by rw [List.length_map, List.length_map, row_len]; omega))
      simp only [rb_ok, o1_some, o1b_some, o1i_some, f2_some, rvK_some, opK_some, rlK_t, rlK_f, drK_t, drK_f, drp_e, ev_cst, ev_gl, ev_var, opd_var, od_d, od_v, negK_i, tAnd_1, tOr_1, tb_ok, ev_dct, evs_nil, eos_nil, f1_some, oc_some, ods_nil, ods_cons, isiK_some, clK_ok, ca_some, cmK_ok, cm_some, ctK_ok, ctC_some, muK_some, muF2_some, ownK_l, eoo_non, intK_i, slK_some, wkK_some, bwK_some, eit_bor, r1K_i, r2K_i, enK_t, enK_l, lcX_ok, lockI_val, lockI_bor, lockI_rng1, lockI_rng2, lockI_enum, flK_nx, flK_ret, flK_brk, xss_nil, upK_some, ptF_some, ptK_some, rtK_some, xs_retV, xs_brk, asK_some, frB_e, frK_some, xs_fr_val, xs_fr_rng1, xs_fr_rng2, xs_fr_rng3, xs_fr_enum, xs_fr_zip, dk_rng1, dk_rng2, dk_enum, dk_var, dk_cst, dk_gl, dk_bin, dk_cmp, dk_chain, dk_isN, dk_notN, dk_neg, dk_nt, dk_an, dk_orr, dk_ife, dk_ix, dk_sl, dk_rev, dk_tup, dk_lst, dk_dct, dk_bi, dk_isi, dk_call, dk_callM, dk_callT, dk_mu, dk_lc, dk_lcf, whC_a, whB_a, xs_wh, opK0_a, opd_cst, opd_gl, opd_bin, opd_cmp, opd_chain, opd_isN, opd_notN, opd_neg, opd_nt, opd_an, opd_orr, opd_ife, opd_ix, opd_sl, opd_rev, opd_tup, opd_lst, opd_dct, opd_bi, opd_isi, opd_call, opd_callM, opd_callT, opd_mu, opd_lc, opd_lcf, twoL_a, twoK_a, binG_a, cmpG_a, ixG_a, ev_bin, ev_cmp, ev_ix, oneK_a, isNG_a, negG_a, isiG_a, ev_isN, ev_notN, ev_neg, ev_isi, ntK_a, boK_a, ev_nt, ev_an, ev_orr, anK_t, anK_f, orK_t, orK_f, tAnd_2, tOr_2, ifK_t, ifK_f, ev_ife, ev_tup, ev_lst, evsL_a, evsK_a, evs_cons, eosL_a, eosK_a, eos_cons, biK_a, ev_bi, callK_a, ev_call, cmKK_a, lsK_some, lsK1_a, ev_lset, mxK1_a, ev_mxv, opd_mxv, dk_mxv, lrK_some, lrK1_a, ev_lrng, opd_lrng, dk_lrng, cnF_some, cnK_a, isLs_l, ev_cnt, opd_cnt, dk_cnt, dzK2_a, dzK1_a, ev_dzip, opd_dzip, dk_dzip, opd_lset, dk_lset, ev_callM, ctK2_a, ctK1_a, ev_callT, muKK_a, ev_mu, eoK_a, eoo_som, slK3_a, slK2_a, slK1_a, ev_sl, wvK_a, eit_val, r1K1_a, eit_rng1, r2K2_a, r2K1_a, eit_rng2, enK1_a, eit_enum, lcEK_a, lcE_a, lcCK_t, lcCK_f, lcC_a, aoK_some, lcB_a, lcK1_a, ev_lc, lcK2_a, ev_lcf, flC_nx, flC_ret, flC_brk, xss_cons, asgK_a, xs_asg, unpK_a, xs_unp, parK2_a, parK1_a, xs_par, putK2_a, putK1_a, xs_put, retK_a, xs_ret_mxv, xs_ret_lrng, xs_ret_dzip, xs_ret_cnt, xs_ret_lset, xs_ret_cst, xs_ret_gl, xs_ret_bin, xs_ret_cmp, xs_ret_chain, xs_ret_isN, xs_ret_notN, xs_ret_neg, xs_ret_nt, xs_ret_an, xs_ret_orr, xs_ret_ife, xs_ret_ix, xs_ret_sl, xs_ret_rev, xs_ret_tup, xs_ret_lst, xs_ret_dct, xs_ret_bi, xs_ret_isi, xs_ret_call, xs_ret_callM, xs_ret_callT, xs_ret_mu, xs_ret_lc, xs_ret_lcf, ifsK_t, ifsK_f, xs_ifs, exK_a, xs_ex, frK1_a, frK_none, chK4_a, chK3_t, chK3_f, chK2_a, chK1_a, ev_chain, isNK_n, isNK_i, isNK_t, isNK_l, lcLK2_s, lcLK2_n, lcLK1_a, lcL_c, lcL_n, gt_s, st_s, asgT_nm, as2_some, asgT_tp, asgTs_nil, asgTs_cons, rlsAll_nil, rlsAll_d, rlsAll_v, abK_some, frcB_a, frcK_a, xs_frc, frR_nx, frR_ret, wipeD_nil, wipeD_cons, backD_nil, backD_cons, gt_0, st_0, rls_e, ownL_e, Option.map_some, Option.isSome_some, if_true, List.isEmpty_nil, lstK_0, lstK_1, lstK_2, lstK_3, lstK_4, lstK_5, lstK_6, tupK_0, tupK_1, tupK_2, tupK_3, tupK_4, noV_nil, noV_d, noV_1, noV_2, noV_3, noV_4, noV_5, noV_6, noV_7, noV_8, ite_tt, and_self, List.cons_append, List.nil_append, iL_1, pl_int, pl_bool, pl_none, pl_str, pl_list, pl_dict, Bool.false_eq_true, if_false, Bool.not_true, Bool.not_false, b_add, b_sub, c_eq, c_ne, c_lt, c_le, c_gt, c_ge, ownK_l, hbn, hb2, hc, e, hl, he]
      refine nr_nx ⟨_, _, by
        rw [← List.map_append, range'_snoc, List.flatMap_append, ← List.append_assoc, hL]
        simp only [List.flatMap_cons, List.flatMap_nil, List.append_nil]
        rfl, ?_⟩
      rw [range'_snoc, List.flatMap_append, ← List.append_assoc, hL]
      simp only [List.flatMap_cons, List.flatMap_nil, List.append_nil, List.length_append, row_len]
      omega
    · rintro δ ⟨x3, x4, rfl, hJ⟩
      rw [rngL_len] at hJ ⊢
      have hc : ((n : Int) - ((i : Int) + 1)).toNat = n - (i + 1) := by omega
      rw [hc] at hJ ⊢
      simp only [rb_ok, o1_some, o1b_some, o1i_some, f2_some, rvK_some, opK_some, rlK_t, rlK_f, drK_t, drK_f, drp_e, ev_cst, ev_gl, ev_var, opd_var, od_d, od_v, negK_i, tAnd_1, tOr_1, tb_ok, ev_dct, evs_nil, eos_nil, f1_some, oc_some, ods_nil, ods_cons, isiK_some, clK_ok, ca_some, cmK_ok, cm_some, ctK_ok, ctC_some, muK_some, muF2_some, ownK_l, eoo_non, intK_i, slK_some, wkK_some, bwK_some, eit_bor, r1K_i, r2K_i, enK_t, enK_l, lcX_ok, lockI_val, lockI_bor, lockI_rng1, lockI_rng2, lockI_enum, flK_nx, flK_ret, flK_brk, xss_nil, upK_some, ptF_some, ptK_some, rtK_some, xs_retV, xs_brk, asK_some, frB_e, frK_some, xs_fr_val, xs_fr_rng1, xs_fr_rng2, xs_fr_rng3, xs_fr_enum, xs_fr_zip, dk_rng1, dk_rng2, dk_enum, dk_var, dk_cst, dk_gl, dk_bin, dk_cmp, dk_chain, dk_isN, dk_notN, dk_neg, dk_nt, dk_an, dk_orr, dk_ife, dk_ix, dk_sl, dk_rev, dk_tup, dk_lst, dk_dct, dk_bi, dk_isi, dk_call, dk_callM, dk_callT, dk_mu, dk_lc, dk_lcf, whC_a, whB_a, xs_wh, opK0_a, opd_cst, opd_gl, opd_bin, opd_cmp, opd_chain, opd_isN, opd_notN, opd_neg, opd_nt, opd_an, opd_orr, opd_ife, opd_ix, opd_sl, opd_rev, opd_tup, opd_lst, opd_dct, opd_bi, opd_isi, opd_call, opd_callM, opd_callT, opd_mu, opd_lc, opd_lcf, twoL_a, twoK_a, binG_a, cmpG_a, ixG_a, ev_bin, ev_cmp, ev_ix, oneK_a, isNG_a, negG_a, isiG_a, ev_isN, ev_notN, ev_neg, ev_isi, ntK_a, boK_a, ev_nt, ev_an, ev_orr, anK_t, anK_f, orK_t, orK_f, tAnd_2, tOr_2, ifK_t, ifK_f, ev_ife, ev_tup, ev_lst, evsL_a, evsK_a, evs_cons, eosL_a, eosK_a, eos_cons, biK_a, ev_bi, callK_a, ev_call, cmKK_a, lsK_some, lsK1_a, ev_lset, mxK1_a, ev_mxv, opd_mxv, dk_mxv, lrK_some, lrK1_a, ev_lrng, opd_lrng, dk_lrng, cnF_some, cnK_a, isLs_l, ev_cnt, opd_cnt, dk_cnt, dzK2_a, dzK1_a, ev_dzip, opd_dzip, dk_dzip, opd_lset, dk_lset, ev_callM, ctK2_a, ctK1_a, ev_callT, muKK_a, ev_mu, eoK_a, eoo_som, slK3_a, slK2_a, slK1_a, ev_sl, wvK_a, eit_val, r1K1_a, eit_rng1, r2K2_a, r2K1_a, eit_rng2, enK1_a, eit_enum, lcEK_a, lcE_a, lcCK_t, lcCK_f, lcC_a, aoK_some, lcB_a, lcK1_a, ev_lc, lcK2_a, ev_lcf, flC_nx, flC_ret, flC_brk, xss_cons, asgK_a, xs_asg, unpK_a, xs_unp, parK2_a, parK1_a, xs_par, putK2_a, putK1_a, xs_put, retK_a, xs_ret_mxv, xs_ret_lrng, xs_ret_dzip, xs_ret_cnt, xs_ret_lset, xs_ret_cst, xs_ret_gl, xs_ret_bin, xs_ret_cmp, xs_ret_chain, xs_ret_isN, xs_ret_notN, xs_ret_neg, xs_ret_nt, xs_ret_an, xs_ret_orr, xs_ret_ife, xs_ret_ix, xs_ret_sl, xs_ret_rev, xs_ret_tup, xs_ret_lst, xs_ret_dct, xs_ret_bi, xs_ret_isi, xs_ret_call, xs_ret_callM, xs_ret_callT, xs_ret_mu, xs_ret_lc, xs_ret_lcf, ifsK_t, ifsK_f, xs_ifs, exK_a, xs_ex, frK1_a, frK_none, chK4_a, chK3_t, chK3_f, chK2_a, chK1_a, ev_chain, isNK_n, isNK_i, isNK_t, isNK_l, lcLK2_s, lcLK2_n, lcLK1_a, lcL_c, lcL_n, gt_s, st_s, asgT_nm, as2_some, asgT_tp, asgTs_nil, asgTs_cons, rlsAll_nil, rlsAll_d, rlsAll_v, abK_some, frcB_a, frcK_a, xs_frc, frR_nx, frR_ret, wipeD_nil, wipeD_cons, backD_nil, backD_cons, gt_0, st_0, rls_e, ownL_e, Option.map_some, Option.isSome_some, if_true, List.isEmpty_nil, lstK_0, lstK_1, lstK_2, lstK_3, lstK_4, lstK_5, lstK_6, tupK_0, tupK_1, tupK_2, tupK_3, tupK_4, noV_nil, noV_d, noV_1, noV_2, noV_3, noV_4, noV_5, noV_6, noV_7, noV_8, ite_tt, and_self, List.cons_append, List.nil_append, iL_1, pl_int, pl_bool, pl_none, pl_str, pl_list, pl_dict, Bool.false_eq_true, if_false, Bool.not_true, Bool.not_false, b_add, b_sub, c_eq, c_ne, c_lt, c_le, c_gt, c_ge]
      have e : (List.range i).flatMap (rowsT n) ++ (List.range' (i + 1) (n - (i + 1))).flatMap (rowT n i) = (List.range (i + 1)).flatMap (rowsT n) := by
        rw [List.range_succ, List.flatMap_append]
        simp only [List.flatMap_cons, List.flatMap_nil, List.append_nil]
        rfl
      rw [e] at hJ ⊢
      exact nr_nx ⟨_, _, _, rfl, by omega⟩
  · rintro δ ⟨x2, x3, x4, rfl, hI⟩
    rw [rngL_len, Int.toNat_natCast]
    simp only [rb_ok, o1_some, o1b_some, o1i_some, f2_some, rvK_some, opK_some, rlK_t, rlK_f, drK_t, drK_f, drp_e, ev_cst, ev_gl, ev_var, opd_var, od_d, od_v, negK_i, tAnd_1, tOr_1, tb_ok, ev_dct, evs_nil, eos_nil, f1_some, oc_some, ods_nil, ods_cons, isiK_some, clK_ok, ca_some, cmK_ok, cm_some, ctK_ok, ctC_some, muK_some, muF2_some, ownK_l, eoo_non, intK_i, slK_some, wkK_some, bwK_some, eit_bor, r1K_i, r2K_i, enK_t, enK_l, lcX_ok, lockI_val, lockI_bor, lockI_rng1, lockI_rng2, lockI_enum, flK_nx, flK_ret, flK_brk, xss_nil, upK_some, ptF_some, ptK_some, rtK_some, xs_retV, xs_brk, asK_some, frB_e, frK_some, xs_fr_val, xs_fr_rng1, xs_fr_rng2, xs_fr_rng3, xs_fr_enum, xs_fr_zip, dk_rng1, dk_rng2, dk_enum, dk_var, dk_cst, dk_gl, dk_bin, dk_cmp, dk_chain, dk_isN, dk_notN, dk_neg, dk_nt, dk_an, dk_orr, dk_ife, dk_ix, dk_sl, dk_rev, dk_tup, dk_lst, dk_dct, dk_bi, dk_isi, dk_call, dk_callM, dk_callT, dk_mu, dk_lc, dk_lcf, whC_a, whB_a, xs_wh, opK0_a, opd_cst, opd_gl, opd_bin, opd_cmp, opd_chain, opd_isN, opd_notN, opd_neg, opd_nt, opd_an, opd_orr, opd_ife, opd_ix, opd_sl, opd_rev, opd_tup, opd_lst, opd_dct, opd_bi, opd_isi, opd_call, opd_callM, opd_callT, opd_mu, opd_lc, opd_lcf, twoL_a, twoK_a, binG_a, cmpG_a, ixG_a, ev_bin, ev_cmp, ev_ix, oneK_a, isNG_a, negG_a, isiG_a, ev_isN, ev_notN, ev_neg, ev_isi, ntK_a, boK_a, ev_nt, ev_an, ev_orr, anK_t, anK_f, orK_t, orK_f, tAnd_2, tOr_2, ifK_t, ifK_f, ev_ife, ev_tup, ev_lst, evsL_a, evsK_a, evs_cons, eosL_a, eosK_a, eos_cons, biK_a, ev_bi, callK_a, ev_call, cmKK_a, lsK_some, lsK1_a, ev_lset, mxK1_a, ev_mxv, opd_mxv, dk_mxv, lrK_some, lrK1_a, ev_lrng, opd_lrng, dk_lrng, cnF_some, cnK_a, isLs_l, ev_cnt, opd_cnt, dk_cnt, dzK2_a, dzK1_a, ev_dzip, opd_dzip, dk_dzip, opd_lset, dk_lset, ev_callM, ctK2_a, ctK1_a, ev_callT, muKK_a, ev_mu, eoK_a, eoo_som, slK3_a, slK2_a, slK1_a, ev_sl, wvK_a, eit_val, r1K1_a, eit_rng1, r2K2_a, r2K1_a, eit_rng2, enK1_a, eit_enum, lcEK_a, lcE_a, lcCK_t, lcCK_f, lcC_a, aoK_some, lcB_a, lcK1_a, ev_lc, lcK2_a, ev_lcf, flC_nx, flC_ret, flC_brk, xss_cons, asgK_a, xs_asg, unpK_a, xs_unp, parK2_a, parK1_a, xs_par, putK2_a, putK1_a, xs_put, retK_a, xs_ret_mxv, xs_ret_lrng, xs_ret_dzip, xs_ret_cnt, xs_ret_lset, xs_ret_cst, xs_ret_gl, xs_ret_bin, xs_ret_cmp, xs_ret_chain, xs_ret_isN, xs_ret_notN, xs_ret_neg, xs_ret_nt, xs_ret_an, xs_ret_orr, xs_ret_ife, xs_ret_ix, xs_ret_sl, xs_ret_rev, xs_ret_tup, xs_ret_lst, xs_ret_dct, xs_ret_bi, xs_ret_isi, xs_ret_call, xs_ret_callM, xs_ret_callT, xs_ret_mu, xs_ret_lc, xs_ret_lcf, ifsK_t, ifsK_f, xs_ifs, exK_a, xs_ex, frK1_a, frK_none, chK4_a, chK3_t, chK3_f, chK2_a, chK1_a, ev_chain, isNK_n, isNK_i, isNK_t, isNK_l, lcLK2_s, lcLK2_n, lcLK1_a, lcL_c, lcL_n, gt_s, st_s, asgT_nm, as2_some, asgT_tp, asgTs_nil, asgTs_cons, rlsAll_nil, rlsAll_d, rlsAll_v, abK_some, frcB_a, frcK_a, xs_frc, frR_nx, frR_ret, wipeD_nil, wipeD_cons, backD_nil, backD_cons, gt_0, st_0, rls_e, ownL_e, Option.map_some, Option.isSome_some, if_true, List.isEmpty_nil, lstK_0, lstK_1, lstK_2, lstK_3, lstK_4, lstK_5, lstK_6, tupK_0, tupK_1, tupK_2, tupK_3, tupK_4, noV_nil, noV_d, noV_1, noV_2, noV_3, noV_4, noV_5, noV_6, noV_7, noV_8, ite_tt, and_self, List.cons_append, List.nil_append, iL_1, pl_int, pl_bool, pl_none, pl_str, pl_list, pl_dict, Bool.false_eq_true, if_false, Bool.not_true, Bool.not_false, b_add, b_sub, c_eq, c_ne, c_lt, c_le, c_gt, c_ge]
    exact retP_ok ⟨rfl, rfl⟩
theorem threes_ok {t : Tb} (h : t (Str.ofString "threes_of") = some D.threes_of) {m n : Nat} (hn : n ≤ 24) : run t (m + 1) (Str.ofString "threes_of") [.int n] = .ok (.list ((T3 n).map enc3)) true .none := by
  obtain ⟨d, w, δ, e, rfl, rfl⟩ := threes_body (cl := run t m) hn
  exact run_ret h rfl rfl e
theorem lthrees_ok {t : Tb} (h : t (Str.ofString "_law_threes") = some D._law_threes_v2) {m n : Nat} (hn : n ≤ 24) : run t (m + 1) (Str.ofString "_law_threes") [.int n] = .ok (.list ((T3 n).map enc3)) true .none := by
  obtain ⟨d, w, δ, e, rfl, rfl⟩ := lthrees_body (cl := run t m) hn
  exact run_ret h rfl rfl e
theorem T3_mem {n : Nat} {t : Tr} (h : t ∈ T3 n) : t.1 < t.2.1 ∧ t.2.1 < t.2.2 ∧ t.2.2 < n := by
  unfold T3 rowsT rowT at h
  simp only [List.mem_flatMap, List.mem_range, List.mem_range', List.mem_map] at h
  obtain ⟨i, hi, j, ⟨j', hj', rfl⟩, k, ⟨k', hk', rfl⟩, rfl⟩ := h
  simp only
  omega
theorem T3_len {n : Nat} (hn : n ≤ 24) : (T3 n).length < 20000 := by
  have h1 : ∀ i, (rowsT n i).length ≤ 576 := fun i => by
    unfold rowsT
    rw [List.length_flatMap]
    have : ∀ l : List Nat, (l.map fun a => (rowT n i a).length).sum ≤ l.length * 24 := by
      intro l
      induction l with
      | nil => simp
      | cons a l ih => rw [List.map_cons, List.sum_cons, List.length_cons, row_len]; omega
    have h2 := this (List.range' (i + 1) (n - (i + 1)))
    rw [List.length_range'] at h2
    omega
  unfold T3
  rw [List.length_flatMap]
  have : ∀ l : List Nat, (l.map fun a => (rowsT n a).length).sum ≤ l.length * 576 := by
    intro l
    induction l with
    | nil => simp
    | cons a l ih =>
      have := h1 a
      rw [List.map_cons, List.sum_cons, List.length_cons]; omega
  have h2 := this (List.range n)
  rw [List.length_range] at h2
  omega
end Bw

set_option maxRecDepth 100000
namespace Bw
open PySem PySem.Spec PyProof.Rows L2
/-! ### turns -/
def sgB (b : Bool) : Int := if b = true then 1 else -1
def upB (ps : List Pt) (t : Tr) : Bool := match ps[t.1]?, ps[t.2.1]?, ps[t.2.2]? with
  | some a, some b, some c => decide (0 < bendI a b c)
  | _, _, _ => false
def sg (ps : List Pt) (t : Tr) : Int := sgB (upB ps t)
theorem T3_at {ps : List Pt} {t : Tr} (h : t ∈ T3 ps.length) : ∃ a b c, ps[t.1]? = some a ∧ ps[t.2.1]? = some b ∧ ps[t.2.2]? = some c ∧ upB ps t = decide (0 < bendI a b c) := by
  obtain ⟨h1, h2, h3⟩ := T3_mem h
  have g1 : ps[t.1]? = some ps[t.1] := by simp [Nat.lt_trans h1 (Nat.lt_trans h2 h3)]
  have g2 : ps[t.2.1]? = some ps[t.2.1] := by simp [Nat.lt_trans h2 h3]
  have g3 : ps[t.2.2]? = some ps[t.2.2] := by simp [h3]
  refine ⟨_, _, _, g1, g2, g3, ?_⟩
  unfold upB
  rw [g1, g2, g3]
theorem up_ok {t : Tb} (h : t (Str.ofString "is_up") = some D.is_up) (h2 : t (Str.ofString "bend") = some D.bend) {n : Nat} {ps : List Pt} (hs : ∀ p ∈ ps, Sm p) (hl : ps.length < 1000) {x : Tr} (hx : x ∈ T3 ps.length) :
    run t (n + 2) (Str.ofString "is_up") [encT ps, .int x.1, .int x.2.1, .int x.2.2] = .ok (.bool (upB ps x)) false .none := by
  obtain ⟨a, b, c, g1, g2, g3, hu⟩ := T3_at hx
  have q := seqT (ps := ps) (by omega) hs
  have e := bend_ok h2 (n := n) (hs a (List.mem_of_getElem? g1)) (hs b (List.mem_of_getElem? g2)) (hs c (List.mem_of_getElem? g3))
  have i1 := q.ix _ _ g1
  have i2 := q.ix _ _ g2
  have i3 := q.ix _ _ g3
  refine run_ret (df := D.is_up) (δ := [some (encT ps, false), some (.int x.1, false), some (.int x.2.1, false), some (.int x.2.2, false)]) h rfl rfl ?_
  generalize run t (n + 1) = cl at e ⊢
  generalize encT ps = s at i1 i2 i3 ⊢
  simp only [D.is_up, entry, List.map_cons, List.map_nil, List.length_cons, List.length_nil, List.replicate, Nat.zero_add, Nat.reduceAdd, Nat.reduceSub, List.replicate_zero, List.cons_append, List.nil_append]
  simp only [rb_ok, o1_some, o1b_some, o1i_some, f2_some, rvK_some, opK_some, rlK_t, rlK_f, drK_t, drK_f, drp_e, ev_cst, ev_gl, ev_var, opd_var, od_d, od_v, negK_i, tAnd_1, tOr_1, tb_ok, ev_dct, evs_nil, eos_nil, f1_some, oc_some, ods_nil, ods_cons, isiK_some, clK_ok, ca_some, cmK_ok, cm_some, ctK_ok, ctC_some, muK_some, muF2_some, ownK_l, eoo_non, intK_i, slK_some, wkK_some, bwK_some, eit_bor, r1K_i, r2K_i, enK_t, enK_l, lcX_ok, lockI_val, lockI_bor, lockI_rng1, lockI_rng2, lockI_enum, flK_nx, flK_ret, flK_brk, xss_nil, upK_some, ptF_some, ptK_some, rtK_some, xs_retV, xs_brk, asK_some, frB_e, frK_some, xs_fr_val, xs_fr_rng1, xs_fr_rng2, xs_fr_rng3, xs_fr_enum, xs_fr_zip, dk_rng1, dk_rng2, dk_enum, dk_var, dk_cst, dk_gl, dk_bin, dk_cmp, dk_chain, dk_isN, dk_notN, dk_neg, dk_nt, dk_an, dk_orr, dk_ife, dk_ix, dk_sl, dk_rev, dk_tup, dk_lst, dk_dct, dk_bi, dk_isi, dk_call, dk_callM, dk_callT, dk_mu, dk_lc, dk_lcf, whC_a, whB_a, xs_wh, opK0_a, opd_cst, opd_gl, opd_bin, opd_cmp, opd_chain, opd_isN, opd_notN, opd_neg, opd_nt, opd_an, opd_orr, opd_ife, opd_ix, opd_sl, opd_rev, opd_tup, opd_lst, opd_dct, opd_bi, opd_isi, opd_call, opd_callM, opd_callT, opd_mu, opd_lc, opd_lcf, twoL_a, twoK_a, binG_a, cmpG_a, ixG_a, ev_bin, ev_cmp, ev_ix, oneK_a, isNG_a, negG_a, isiG_a, ev_isN, ev_notN, ev_neg, ev_isi, ntK_a, boK_a, ev_nt, ev_an, ev_orr, anK_t, anK_f, orK_t, orK_f, tAnd_2, tOr_2, ifK_t, ifK_f, ev_ife, ev_tup, ev_lst, evsL_a, evsK_a, evs_cons, eosL_a, eosK_a, eos_cons, biK_a, ev_bi, callK_a, ev_call, cmKK_a, lsK_some, lsK1_a, ev_lset, mxK1_a, ev_mxv, opd_mxv, dk_mxv, lrK_some, lrK1_a, ev_lrng, opd_lrng, dk_lrng, cnF_some, cnK_a, isLs_l, ev_cnt, opd_cnt, dk_cnt, dzK2_a, dzK1_a, ev_dzip, opd_dzip, dk_dzip, opd_lset, dk_lset, ev_callM, ctK2_a, ctK1_a, ev_callT, muKK_a, ev_mu, eoK_a, eoo_som, slK3_a, slK2_a, slK1_a, ev_sl, wvK_a, eit_val, r1K1_a, eit_rng1, r2K2_a, r2K1_a, eit_rng2, enK1_a, eit_enum, lcEK_a, lcE_a, lcCK_t, lcCK_f, lcC_a, aoK_some, lcB_a, lcK1_a, ev_lc, lcK2_a, ev_lcf, flC_nx, flC_ret, flC_brk, xss_cons, asgK_a, xs_asg, unpK_a, xs_unp, parK2_a, parK1_a, xs_par, putK2_a, putK1_a, xs_put, retK_a, xs_ret_mxv, xs_ret_lrng, xs_ret_dzip, xs_ret_cnt, xs_ret_lset, xs_ret_cst, xs_ret_gl, xs_ret_bin, xs_ret_cmp, xs_ret_chain, xs_ret_isN, xs_ret_notN, xs_ret_neg, xs_ret_nt, xs_ret_an, xs_ret_orr, xs_ret_ife, xs_ret_ix, xs_ret_sl, xs_ret_rev, xs_ret_tup, xs_ret_lst, xs_ret_dct, xs_ret_bi, xs_ret_isi, xs_ret_call, xs_ret_callM, xs_ret_callT, xs_ret_mu, xs_ret_lc, xs_ret_lcf, ifsK_t, ifsK_f, xs_ifs, exK_a, xs_ex, frK1_a, frK_none, chK4_a, chK3_t, chK3_f, chK2_a, chK1_a, ev_chain, isNK_n, isNK_i, isNK_t, isNK_l, lcLK2_s, lcLK2_n, lcLK1_a, lcL_c, lcL_n, gt_s, st_s, asgT_nm, as2_some, asgT_tp, asgTs_nil, asgTs_cons, rlsAll_nil, rlsAll_d, rlsAll_v, abK_some, frcB_a, frcK_a, xs_frc, frR_nx, frR_ret, wipeD_nil, wipeD_cons, backD_nil, backD_cons, gt_0, st_0, rls_e, ownL_e, Option.map_some, Option.isSome_some, if_true, List.isEmpty_nil, lstK_0, lstK_1, lstK_2, lstK_3, lstK_4, lstK_5, lstK_6, tupK_0, tupK_1, tupK_2, tupK_3, tupK_4, noV_nil, noV_d, noV_1, noV_2, noV_3, noV_4, noV_5, noV_6, noV_7, noV_8, ite_tt, and_self, List.cons_append, List.nil_append, iL_1, pl_int, pl_bool, pl_none, pl_str, pl_list, pl_dict, Bool.false_eq_true, if_false, Bool.not_true, Bool.not_false, b_add, b_sub, c_eq, c_ne, c_lt, c_le, c_gt, c_ge, i1, i2, i3, e, hu]
theorem turn_ok {t : Tb} (h0 : t (Str.ofString "turn_at") = some D.turn_at) (h : t (Str.ofString "is_up") = some D.is_up) (h2 : t (Str.ofString "bend") = some D.bend) {n : Nat} {ps : List Pt} (hs : ∀ p ∈ ps, Sm p) (hl : ps.length < 1000) {x : Tr} (hx : x ∈ T3 ps.length) :
    run t (n + 3) (Str.ofString "turn_at") [encT ps, .int x.1, .int x.2.1, .int x.2.2] = .ok (.int (sg ps x)) false .none := by
  have e := up_ok h h2 (n := n) hs hl hx
  refine run_ret (df := D.turn_at) (δ := [some (encT ps, false), some (.int x.1, false), some (.int x.2.1, false), some (.int x.2.2, false)]) h0 rfl rfl ?_
  have hm : (2 : Int).natAbs.log2 + (if upB ps x = true then (1 : Int) else 0).natAbs.log2 < 1000000 := by
    cases upB ps x <;> decide
  have hv : 2 * (if upB ps x = true then (1 : Int) else 0) - 1 = sg ps x := by
    unfold sg sgB
    cases upB ps x <;> rfl
  generalize run t (n + 2) = cl at e ⊢
  generalize encT ps = s at e ⊢
  simp only [D.turn_at, entry, List.map_cons, List.map_nil, List.length_cons, List.length_nil, List.replicate, Nat.zero_add, Nat.reduceAdd, Nat.reduceSub, List.replicate_zero, List.cons_append, List.nil_append]
  simp only [rb_ok, o1_some, o1b_some, o1i_some, f2_some, rvK_some, opK_some, rlK_t, rlK_f, drK_t, drK_f, drp_e, ev_cst, ev_gl, ev_var, opd_var, od_d, od_v, negK_i, tAnd_1, tOr_1, tb_ok, ev_dct, evs_nil, eos_nil, f1_some, oc_some, ods_nil, ods_cons, isiK_some, clK_ok, ca_some, cmK_ok, cm_some, ctK_ok, ctC_some, muK_some, muF2_some, ownK_l, eoo_non, intK_i, slK_some, wkK_some, bwK_some, eit_bor, r1K_i, r2K_i, enK_t, enK_l, lcX_ok, lockI_val, lockI_bor, lockI_rng1, lockI_rng2, lockI_enum, flK_nx, flK_ret, flK_brk, xss_nil, upK_some, ptF_some, ptK_some, rtK_some, xs_retV, xs_brk, asK_some, frB_e, frK_some, xs_fr_val, xs_fr_rng1, xs_fr_rng2, xs_fr_rng3, xs_fr_enum, xs_fr_zip, dk_rng1, dk_rng2, dk_enum, dk_var, dk_cst, dk_gl, dk_bin, dk_cmp, dk_chain, dk_isN, dk_notN, dk_neg, dk_nt, dk_an, dk_orr, dk_ife, dk_ix, dk_sl, dk_rev, dk_tup, dk_lst, dk_dct, dk_bi, dk_isi, dk_call, dk_callM, dk_callT, dk_mu, dk_lc, dk_lcf, whC_a, whB_a, xs_wh, opK0_a, opd_cst, opd_gl, opd_bin, opd_cmp, opd_chain, opd_isN, opd_notN, opd_neg, opd_nt, opd_an, opd_orr, opd_ife, opd_ix, opd_sl, opd_rev, opd_tup, opd_lst, opd_dct, opd_bi, opd_isi, opd_call, opd_callM, opd_callT, opd_mu, opd_lc, opd_lcf, twoL_a, twoK_a, binG_a, cmpG_a, ixG_a, ev_bin, ev_cmp, ev_ix, oneK_a, isNG_a, negG_a, isiG_a, ev_isN, ev_notN, ev_neg, ev_isi, ntK_a, boK_a, ev_nt, ev_an, ev_orr, anK_t, anK_f, orK_t, orK_f, tAnd_2, tOr_2, ifK_t, ifK_f, ev_ife, ev_tup, ev_lst, evsL_a, evsK_a, evs_cons, eosL_a, eosK_a, eos_cons, biK_a, ev_bi, callK_a, ev_call, cmKK_a, lsK_some, lsK1_a, ev_lset, mxK1_a, ev_mxv, opd_mxv, dk_mxv, lrK_some, lrK1_a, ev_lrng, opd_lrng, dk_lrng, cnF_some, cnK_a, isLs_l, ev_cnt, opd_cnt, dk_cnt, dzK2_a, dzK1_a, ev_dzip, opd_dzip, dk_dzip, opd_lset, dk_lset, ev_callM, ctK2_a, ctK1_a, ev_callT, muKK_a, ev_mu, eoK_a, eoo_som, slK3_a, slK2_a, slK1_a, ev_sl, wvK_a, eit_val, r1K1_a, eit_rng1, r2K2_a, r2K1_a, eit_rng2, enK1_a, eit_enum, lcEK_a, lcE_a, lcCK_t, lcCK_f, lcC_a, aoK_some, lcB_a, lcK1_a, ev_lc, lcK2_a, ev_lcf, flC_nx, flC_ret, flC_brk, xss_cons, asgK_a, xs_asg, unpK_a, xs_unp, parK2_a, parK1_a, xs_par, putK2_a, putK1_a, xs_put, retK_a, xs_ret_mxv, xs_ret_lrng, xs_ret_dzip, xs_ret_cnt, xs_ret_lset, xs_ret_cst, xs_ret_gl, xs_ret_bin, xs_ret_cmp, xs_ret_chain, xs_ret_isN, xs_ret_notN, xs_ret_neg, xs_ret_nt, xs_ret_an, xs_ret_orr, xs_ret_ife, xs_ret_ix, xs_ret_sl, xs_ret_rev, xs_ret_tup, xs_ret_lst, xs_ret_dct, xs_ret_bi, xs_ret_isi, xs_ret_call, xs_ret_callM, xs_ret_callT, xs_ret_mu, xs_ret_lc, xs_ret_lcf, ifsK_t, ifsK_f, xs_ifs, exK_a, xs_ex, frK1_a, frK_none, chK4_a, chK3_t, chK3_f, chK2_a, chK1_a, ev_chain, isNK_n, isNK_i, isNK_t, isNK_l, lcLK2_s, lcLK2_n, lcLK1_a, lcL_c, lcL_n, gt_s, st_s, asgT_nm, as2_some, asgT_tp, asgTs_nil, asgTs_cons, rlsAll_nil, rlsAll_d, rlsAll_v, abK_some, frcB_a, frcK_a, xs_frc, frR_nx, frR_ret, wipeD_nil, wipeD_cons, backD_nil, backD_cons, gt_0, st_0, rls_e, ownL_e, Option.map_some, Option.isSome_some, if_true, List.isEmpty_nil, lstK_0, lstK_1, lstK_2, lstK_3, lstK_4, lstK_5, lstK_6, tupK_0, tupK_1, tupK_2, tupK_3, tupK_4, noV_nil, noV_d, noV_1, noV_2, noV_3, noV_4, noV_5, noV_6, noV_7, noV_8, ite_tt, and_self, List.cons_append, List.nil_append, iL_1, pl_int, pl_bool, pl_none, pl_str, pl_list, pl_dict, Bool.false_eq_true, if_false, Bool.not_true, Bool.not_false, b_add, b_sub, c_eq, c_ne, c_lt, c_le, c_gt, c_ge, e, d_intB, b_mul hm, hv]
def encG (ps : List Pt) (n : Nat) : Dt := .tuple ((T3 n).map fun t => .int (sg ps t))
theorem signs_body {cl : Cl} {ps : List Pt} (hs : ∀ p ∈ ps, Sm p) (hl : ps.length ≤ 24) (h3 : cl (Str.ofString "_law_threes") [.int ps.length] = .ok (.list ((T3 ps.length).map enc3)) true .none)
    (hb : ∀ a b c : Pt, Sm a → Sm b → Sm c → cl (Str.ofString "_law_bend") [encP a, encP b, encP c] = .ok (.int (bendI a b c)) false .none) :
    RetP (fun d w _ => d = encG ps ps.length ∧ w = false) (xss cl D._law_signs.body (entry D._law_signs [encT ps])) := by
  have q := seqT (ps := ps) (by omega) hs
  simp only [D._law_signs, entry, List.map_cons, List.map_nil, List.length_cons, List.length_nil, List.replicate, Nat.zero_add, Nat.reduceAdd, Nat.reduceSub, List.replicate_zero, List.cons_append, List.nil_append]
  simp only [rb_ok, o1_some, o1b_some, o1i_some, f2_some, rvK_some, opK_some, rlK_t, rlK_f, drK_t, drK_f, drp_e, ev_cst, ev_gl, ev_var, opd_var, od_d, od_v, negK_i, tAnd_1, tOr_1, tb_ok, ev_dct, evs_nil, eos_nil, f1_some, oc_some, ods_nil, ods_cons, isiK_some, clK_ok, ca_some, cmK_ok, cm_some, ctK_ok, ctC_some, muK_some, muF2_some, ownK_l, eoo_non, intK_i, slK_some, wkK_some, bwK_some, eit_bor, r1K_i, r2K_i, enK_t, enK_l, lcX_ok, lockI_val, lockI_bor, lockI_rng1, lockI_rng2, lockI_enum, flK_nx, flK_ret, flK_brk, xss_nil, upK_some, ptF_some, ptK_some, rtK_some, xs_retV, xs_brk, asK_some, frB_e, frK_some, xs_fr_val, xs_fr_rng1, xs_fr_rng2, xs_fr_rng3, xs_fr_enum, xs_fr_zip, dk_rng1, dk_rng2, dk_enum, dk_var, dk_cst, dk_gl, dk_bin, dk_cmp, dk_chain, dk_isN, dk_notN, dk_neg, dk_nt, dk_an, dk_orr, dk_ife, dk_ix, dk_sl, dk_rev, dk_tup, dk_lst, dk_dct, dk_bi, dk_isi, dk_call, dk_callM, dk_callT, dk_mu, dk_lc, dk_lcf, whC_a, whB_a, xs_wh, opK0_a, opd_cst, opd_gl, opd_bin, opd_cmp, opd_chain, opd_isN, opd_notN, opd_neg, opd_nt, opd_an, opd_orr, opd_ife, opd_ix, opd_sl, opd_rev, opd_tup, opd_lst, opd_dct, opd_bi, opd_isi, opd_call, opd_callM, opd_callT, opd_mu, opd_lc, opd_lcf, twoL_a, twoK_a, binG_a, cmpG_a, ixG_a, ev_bin, ev_cmp, ev_ix, oneK_a, isNG_a, negG_a, isiG_a, ev_isN, ev_notN, ev_neg, ev_isi, ntK_a, boK_a, ev_nt, ev_an, ev_orr, anK_t, anK_f, orK_t, orK_f, tAnd_2, tOr_2, ifK_t, ifK_f, ev_ife, ev_tup, ev_lst, evsL_a, evsK_a, evs_cons, eosL_a, eosK_a, eos_cons, biK_a, ev_bi, callK_a, ev_call, cmKK_a, lsK_some, lsK1_a, ev_lset, mxK1_a, ev_mxv, opd_mxv, dk_mxv, lrK_some, lrK1_a, ev_lrng, opd_lrng, dk_lrng, cnF_some, cnK_a, isLs_l, ev_cnt, opd_cnt, dk_cnt, dzK2_a, dzK1_a, ev_dzip, opd_dzip, dk_dzip, opd_lset, dk_lset, ev_callM, ctK2_a, ctK1_a, ev_callT, muKK_a, ev_mu, eoK_a, eoo_som, slK3_a, slK2_a, slK1_a, ev_sl, wvK_a, eit_val, r1K1_a, eit_rng1, r2K2_a, r2K1_a, eit_rng2, enK1_a, eit_enum, lcEK_a, lcE_a, lcCK_t, lcCK_f, lcC_a, aoK_some, lcB_a, lcK1_a, ev_lc, lcK2_a, ev_lcf, flC_nx, flC_ret, flC_brk, xss_cons, asgK_a, xs_asg, unpK_a, xs_unp, parK2_a, parK1_a, xs_par, putK2_a, putK1_a, xs_put, retK_a, xs_ret_mxv, xs_ret_lrng, xs_ret_dzip, xs_ret_cnt, xs_ret_lset, xs_ret_cst, xs_ret_gl, xs_ret_bin, xs_ret_cmp, xs_ret_chain, xs_ret_isN, xs_ret_notN, xs_ret_neg, xs_ret_nt, xs_ret_an, xs_ret_orr, xs_ret_ife, xs_ret_ix, xs_ret_sl, xs_ret_rev, xs_ret_tup, xs_ret_lst, xs_ret_dct, xs_ret_bi, xs_ret_isi, xs_ret_call, xs_ret_callM, xs_ret_callT, xs_ret_mu, xs_ret_lc, xs_ret_lcf, ifsK_t, ifsK_f, xs_ifs, exK_a, xs_ex, frK1_a, frK_none, chK4_a, chK3_t, chK3_f, chK2_a, chK1_a, ev_chain, isNK_n, isNK_i, isNK_t, isNK_l, lcLK2_s, lcLK2_n, lcLK1_a, lcL_c, lcL_n, gt_s, st_s, asgT_nm, as2_some, asgT_tp, asgTs_nil, asgTs_cons, rlsAll_nil, rlsAll_d, rlsAll_v, abK_some, frcB_a, frcK_a, xs_frc, frR_nx, frR_ret, wipeD_nil, wipeD_cons, backD_nil, backD_cons, gt_0, st_0, rls_e, ownL_e, Option.map_some, Option.isSome_some, if_true, List.isEmpty_nil, lstK_0, lstK_1, lstK_2, lstK_3, lstK_4, lstK_5, lstK_6, tupK_0, tupK_1, tupK_2, tupK_3, tupK_4, noV_nil, noV_d, noV_1, noV_2, noV_3, noV_4, noV_5, noV_6, noV_7, noV_8, ite_tt, and_self, List.cons_append, List.nil_append, iL_1, pl_int, pl_bool, pl_none, pl_str, pl_list, pl_dict, Bool.false_eq_true, if_false, Bool.not_true, Bool.not_false, b_add, b_sub, c_eq, c_ne, c_lt, c_le, c_gt, c_ge, q.len, h3, wd_l]
  refine ret_forL (fun p δ => ∃ x2 x3 x4 : Option (Dt × Bool), δ = [some (encT ps, false), some (.list (p.map fun t => PyData.int (sg ps t)), true), x2, x3, x4]) ⟨none, none, none, rfl⟩ ?_ ?_
  · rintro p x s δ hd ⟨x2, x3, x4, rfl⟩
    have hx : x ∈ T3 ps.length := by rw [hd]; simp
    obtain ⟨a, b, c, g1, g2, g3, hu⟩ := T3_at hx
    have e := hb a b c (hs a (List.mem_of_getElem? g1)) (hs b (List.mem_of_getElem? g2)) (hs c (List.mem_of_getElem? g3))
    have i1 := q.ix _ _ g1
    have i2 := q.ix _ _ g2
    have i3 := q.ix _ _ g3
    have hp : p.length < 20000 := by
      have := T3_len hl
      rw [hd, List.length_append, List.length_cons] at this; omega
    have hv : ixD (.list [.int (-1), .int 1]) (.int (if upB ps x = true then 1 else 0)) = some (.int (sg ps x)) := by
      unfold sg
      cases upB ps x <;> rfl
    have ha : muD .append (.list (p.map fun t => PyData.int (sg ps t))) [.int (sg ps x)] = some (.none, .list ((p ++ [x]).map fun t => PyData.int (sg ps t))) := by
      rw [mu_app (lim_lt (by rw [List.length_map]; omega)), List.map_append]; rfl
    unfold enc3
    simp only [rb_ok, o1_some, o1b_some, o1i_some, f2_some, rvK_some, opK_some, rlK_t, rlK_f, drK_t, drK_f, drp_e, ev_cst, ev_gl, ev_var, opd_var, od_d, od_v, negK_i, tAnd_1, tOr_1, tb_ok, ev_dct, evs_nil, eos_nil, f1_some, oc_some, ods_nil, ods_cons, isiK_some, clK_ok, ca_some, cmK_ok, cm_some, ctK_ok, ctC_some, muK_some, muF2_some, ownK_l, eoo_non, intK_i, slK_some, wkK_some, bwK_some, eit_bor, r1K_i, r2K_i, enK_t, enK_l, lcX_ok, lockI_val, lockI_bor, lockI_rng1, lockI_rng2, lockI_enum, flK_nx, flK_ret, flK_brk, xss_nil, upK_some, ptF_some, ptK_some, rtK_some, xs_retV, xs_brk, asK_some, frB_e, frK_some, xs_fr_val, xs_fr_rng1, xs_fr_rng2, xs_fr_rng3, xs_fr_enum, xs_fr_zip, dk_rng1, dk_rng2, dk_enum, dk_var, dk_cst, dk_gl, dk_bin, dk_cmp, dk_chain, dk_isN, dk_notN, dk_neg, dk_nt, dk_an, dk_orr, dk_ife, dk_ix, dk_sl, dk_rev, dk_tup, dk_lst, dk_dct, dk_bi, dk_isi, dk_call, dk_callM, dk_callT, dk_mu, dk_lc, dk_lcf, whC_a, whB_a, xs_wh, opK0_a, opd_cst, opd_gl, opd_bin, opd_cmp, opd_chain, opd_isN, opd_notN, opd_neg, opd_nt, opd_an, opd_orr, opd_ife, opd_ix, opd_sl, opd_rev, opd_tup, opd_lst, opd_dct, opd_bi, opd_isi, opd_call, opd_callM, opd_callT, opd_mu, opd_lc, opd_lcf, twoL_a, twoK_a, binG_a, cmpG_a, ixG_a, ev_bin, ev_cmp, ev_ix, oneK_a, isNG_a, negG_a, isiG_a, ev_isN, ev_notN, ev_neg, ev_isi, ntK_a, boK_a, ev_nt, ev_an, ev_orr, anK_t, anK_f, orK_t, orK_f, tAnd_2, tOr_2, ifK_t, ifK_f, ev_ife, ev_tup, ev_lst, evsL_a, evsK_a, evs_cons, eosL_a, eosK_a, eos_cons, biK_a, ev_bi, callK_a, ev_call, cmKK_a, lsK_some, lsK1_a, ev_lset, mxK1_a, ev_mxv, opd_mxv, dk_mxv, lrK_some, lrK1_a, ev_lrng, opd_lrng, dk_lrng, cnF_some, cnK_a, isLs_l, ev_cnt, opd_cnt, dk_cnt, dzK2_a, dzK1_a, ev_dzip, opd_dzip, dk_dzip, opd_lset, dk_lset, ev_callM, ctK2_a, ctK1_a, ev_callT, muKK_a, ev_mu, eoK_a, eoo_som, slK3_a, slK2_a, slK1_a, ev_sl, wvK_a, eit_val, r1K1_a, eit_rng1, r2K2_a, r2K1_a, eit_rng2, enK1_a, eit_enum, lcEK_a, lcE_a, lcCK_t, lcCK_f, lcC_a, aoK_some, lcB_a, lcK1_a, ev_lc, lcK2_a, ev_lcf, flC_nx, flC_ret, flC_brk, xss_cons, asgK_a, xs_asg, unpK_a, xs_unp, parK2_a, parK1_a, xs_par, putK2_a, putK1_a, xs_put, retK_a, xs_ret_mxv, xs_ret_lrng, xs_ret_dzip, xs_ret_cnt, xs_ret_lset, xs_ret_cst, xs_ret_gl, xs_ret_bin, xs_ret_cmp, xs_ret_chain, xs_ret_isN, xs_ret_notN, xs_ret_neg, xs_ret_nt, xs_ret_an, xs_ret_orr, xs_ret_ife, xs_ret_ix, xs_ret_sl, xs_ret_rev, xs_ret_tup, xs_ret_lst, xs_ret_dct, xs_ret_bi, xs_ret_isi, xs_ret_call, xs_ret_callM, xs_ret_callT, xs_ret_mu, xs_ret_lc, xs_ret_lcf, ifsK_t, ifsK_f, xs_ifs, exK_a, xs_ex, frK1_a, frK_none, chK4_a, chK3_t, chK3_f, chK2_a, chK1_a, ev_chain, isNK_n, isNK_i, isNK_t, isNK_l, lcLK2_s, lcLK2_n, lcLK1_a, lcL_c, lcL_n, gt_s, st_s, asgT_nm, as2_some, asgT_tp, asgTs_nil, asgTs_cons, rlsAll_nil, rlsAll_d, rlsAll_v, abK_some, frcB_a, frcK_a, xs_frc, frR_nx, frR_ret, wipeD_nil, wipeD_cons, backD_nil, backD_cons, gt_0, st_0, rls_e, ownL_e, Option.map_some, Option.isSome_some, if_true, List.isEmpty_nil, lstK_0, lstK_1, lstK_2, lstK_3, lstK_4, lstK_5, lstK_6, tupK_0, tupK_1, tupK_2, tupK_3, tupK_4, noV_nil, noV_d, noV_1, noV_2, noV_3, noV_4, noV_5, noV_6, noV_7, noV_8, ite_tt, and_self, List.cons_append, List.nil_append, iL_1, pl_int, pl_bool, pl_none, pl_str, pl_list, pl_dict, Bool.false_eq_true, if_false, Bool.not_true, Bool.not_false, b_add, b_sub, c_eq, c_ne, c_lt, c_le, c_gt, c_ge, ownK_l, i1, i2, i3, e, d_intB, ← hu, hv, ha]
    exact nr_nx ⟨_, _, _, rfl⟩
  · rintro δ ⟨x2, x3, x4, rfl⟩
    simp only [rb_ok, o1_some, o1b_some, o1i_some, f2_some, rvK_some, opK_some, rlK_t, rlK_f, drK_t, drK_f, drp_e, ev_cst, ev_gl, ev_var, opd_var, od_d, od_v, negK_i, tAnd_1, tOr_1, tb_ok, ev_dct, evs_nil, eos_nil, f1_some, oc_some, ods_nil, ods_cons, isiK_some, clK_ok, ca_some, cmK_ok, cm_some, ctK_ok, ctC_some, muK_some, muF2_some, ownK_l, eoo_non, intK_i, slK_some, wkK_some, bwK_some, eit_bor, r1K_i, r2K_i, enK_t, enK_l, lcX_ok, lockI_val, lockI_bor, lockI_rng1, lockI_rng2, lockI_enum, flK_nx, flK_ret, flK_brk, xss_nil, upK_some, ptF_some, ptK_some, rtK_some, xs_retV, xs_brk, asK_some, frB_e, frK_some, xs_fr_val, xs_fr_rng1, xs_fr_rng2, xs_fr_rng3, xs_fr_enum, xs_fr_zip, dk_rng1, dk_rng2, dk_enum, dk_var, dk_cst, dk_gl, dk_bin, dk_cmp, dk_chain, dk_isN, dk_notN, dk_neg, dk_nt, dk_an, dk_orr, dk_ife, dk_ix, dk_sl, dk_rev, dk_tup, dk_lst, dk_dct, dk_bi, dk_isi, dk_call, dk_callM, dk_callT, dk_mu, dk_lc, dk_lcf, whC_a, whB_a, xs_wh, opK0_a, opd_cst, opd_gl, opd_bin, opd_cmp, opd_chain, opd_isN, opd_notN, opd_neg, opd_nt, opd_an, opd_orr, opd_ife, opd_ix, opd_sl, opd_rev, opd_tup, opd_lst, opd_dct, opd_bi, opd_isi, opd_call, opd_callM, opd_callT, opd_mu, opd_lc, opd_lcf, twoL_a, twoK_a, binG_a, cmpG_a, ixG_a, ev_bin, ev_cmp, ev_ix, oneK_a, isNG_a, negG_a, isiG_a, ev_isN, ev_notN, ev_neg, ev_isi, ntK_a, boK_a, ev_nt, ev_an, ev_orr, anK_t, anK_f, orK_t, orK_f, tAnd_2, tOr_2, ifK_t, ifK_f, ev_ife, ev_tup, ev_lst, evsL_a, evsK_a, evs_cons, eosL_a, eosK_a, eos_cons, biK_a, ev_bi, callK_a, ev_call, cmKK_a, lsK_some, lsK1_a, ev_lset, mxK1_a, ev_mxv, opd_mxv, dk_mxv, lrK_some, lrK1_a, ev_lrng, opd_lrng, dk_lrng, cnF_some, cnK_a, isLs_l, ev_cnt, opd_cnt, dk_cnt, dzK2_a, dzK1_a, ev_dzip, opd_dzip, dk_dzip, opd_lset, dk_lset, ev_callM, ctK2_a, ctK1_a, ev_callT, muKK_a, ev_mu, eoK_a, eoo_som, slK3_a, slK2_a, slK1_a, ev_sl, wvK_a, eit_val, r1K1_a, eit_rng1, r2K2_a, r2K1_a, eit_rng2, enK1_a, eit_enum, lcEK_a, lcE_a, lcCK_t, lcCK_f, lcC_a, aoK_some, lcB_a, lcK1_a, ev_lc, lcK2_a, ev_lcf, flC_nx, flC_ret, flC_brk, xss_cons, asgK_a, xs_asg, unpK_a, xs_unp, parK2_a, parK1_a, xs_par, putK2_a, putK1_a, xs_put, retK_a, xs_ret_mxv, xs_ret_lrng, xs_ret_dzip, xs_ret_cnt, xs_ret_lset, xs_ret_cst, xs_ret_gl, xs_ret_bin, xs_ret_cmp, xs_ret_chain, xs_ret_isN, xs_ret_notN, xs_ret_neg, xs_ret_nt, xs_ret_an, xs_ret_orr, xs_ret_ife, xs_ret_ix, xs_ret_sl, xs_ret_rev, xs_ret_tup, xs_ret_lst, xs_ret_dct, xs_ret_bi, xs_ret_isi, xs_ret_call, xs_ret_callM, xs_ret_callT, xs_ret_mu, xs_ret_lc, xs_ret_lcf, ifsK_t, ifsK_f, xs_ifs, exK_a, xs_ex, frK1_a, frK_none, chK4_a, chK3_t, chK3_f, chK2_a, chK1_a, ev_chain, isNK_n, isNK_i, isNK_t, isNK_l, lcLK2_s, lcLK2_n, lcLK1_a, lcL_c, lcL_n, gt_s, st_s, asgT_nm, as2_some, asgT_tp, asgTs_nil, asgTs_cons, rlsAll_nil, rlsAll_d, rlsAll_v, abK_some, frcB_a, frcK_a, xs_frc, frR_nx, frR_ret, wipeD_nil, wipeD_cons, backD_nil, backD_cons, gt_0, st_0, rls_e, ownL_e, Option.map_some, Option.isSome_some, if_true, List.isEmpty_nil, lstK_0, lstK_1, lstK_2, lstK_3, lstK_4, lstK_5, lstK_6, tupK_0, tupK_1, tupK_2, tupK_3, tupK_4, noV_nil, noV_d, noV_1, noV_2, noV_3, noV_4, noV_5, noV_6, noV_7, noV_8, ite_tt, and_self, List.cons_append, List.nil_append, iL_1, pl_int, pl_bool, pl_none, pl_str, pl_list, pl_dict, Bool.false_eq_true, if_false, Bool.not_true, Bool.not_false, b_add, b_sub, c_eq, c_ne, c_lt, c_le, c_gt, c_ge, d_tup]
    exact retP_ok ⟨rfl, rfl⟩
/-- the threes that turn otherwise -/
def diff (ps qs : List Pt) (t : Tr) : Bool := !(sg ps t == sg qs t)
def encO (ps qs : List Pt) : Dt := .list (((T3 ps.length).filter (diff ps qs)).map enc3)
theorem othw_body {cl : Cl} {ps qs : List Pt} (hl : ps.length ≤ 24) (hlq : qs.length = ps.length) (hsp : ∀ p ∈ ps, Sm p) (hsq : ∀ p ∈ qs, Sm p) (n1 : cl (Str.ofString "need_sheet") [encT ps] = .ok .none false .none) (n2 : cl (Str.ofString "need_sheet") [encT qs] = .ok .none false .none)
    (h3 : cl (Str.ofString "threes_of") [.int ps.length] = .ok (.list ((T3 ps.length).map enc3)) true .none) (t1 : ∀ x ∈ T3 ps.length, cl (Str.ofString "turn_at") [encT ps, .int x.1, .int x.2.1, .int x.2.2] = .ok (.int (sg ps x)) false .none)
    (t2 : ∀ x ∈ T3 ps.length, cl (Str.ofString "turn_at") [encT qs, .int x.1, .int x.2.1, .int x.2.2] = .ok (.int (sg qs x)) false .none) :
    RetP (fun d w _ => d = encO ps qs ∧ w = true) (xss cl D.turned_otherwise.body (entry D.turned_otherwise [encT ps, encT qs])) := by
  have q1 := seqT (ps := ps) (by omega) hsp
  have q2 := seqT (ps := qs) (by omega) hsq
  have q2l := q2.len
  rw [hlq] at q2l
  simp only [D.turned_otherwise, entry, List.map_cons, List.map_nil, List.length_cons, List.length_nil, List.replicate, Nat.zero_add, Nat.reduceAdd, Nat.reduceSub, List.replicate_zero, List.cons_append, List.nil_append]
  simp only [rb_ok, o1_some, o1b_some, o1i_some, f2_some, rvK_some, opK_some, rlK_t, rlK_f, drK_t, drK_f, drp_e, ev_cst, ev_gl, ev_var, opd_var, od_d, od_v, negK_i, tAnd_1, tOr_1, tb_ok, ev_dct, evs_nil, eos_nil, f1_some, oc_some, ods_nil, ods_cons, isiK_some, clK_ok, ca_some, cmK_ok, cm_some, ctK_ok, ctC_some, muK_some, muF2_some, ownK_l, eoo_non, intK_i, slK_some, wkK_some, bwK_some, eit_bor, r1K_i, r2K_i, enK_t, enK_l, lcX_ok, lockI_val, lockI_bor, lockI_rng1, lockI_rng2, lockI_enum, flK_nx, flK_ret, flK_brk, xss_nil, upK_some, ptF_some, ptK_some, rtK_some, xs_retV, xs_brk, asK_some, frB_e, frK_some, xs_fr_val, xs_fr_rng1, xs_fr_rng2, xs_fr_rng3, xs_fr_enum, xs_fr_zip, dk_rng1, dk_rng2, dk_enum, dk_var, dk_cst, dk_gl, dk_bin, dk_cmp, dk_chain, dk_isN, dk_notN, dk_neg, dk_nt, dk_an, dk_orr, dk_ife, dk_ix, dk_sl, dk_rev, dk_tup, dk_lst, dk_dct, dk_bi, dk_isi, dk_call, dk_callM, dk_callT, dk_mu, dk_lc, dk_lcf, whC_a, whB_a, xs_wh, opK0_a, opd_cst, opd_gl, opd_bin, opd_cmp, opd_chain, opd_isN, opd_notN, opd_neg, opd_nt, opd_an, opd_orr, opd_ife, opd_ix, opd_sl, opd_rev, opd_tup, opd_lst, opd_dct, opd_bi, opd_isi, opd_call, opd_callM, opd_callT, opd_mu, opd_lc, opd_lcf, twoL_a, twoK_a, binG_a, cmpG_a, ixG_a, ev_bin, ev_cmp, ev_ix, oneK_a, isNG_a, negG_a, isiG_a, ev_isN, ev_notN, ev_neg, ev_isi, ntK_a, boK_a, ev_nt, ev_an, ev_orr, anK_t, anK_f, orK_t, orK_f, tAnd_2, tOr_2, ifK_t, ifK_f, ev_ife, ev_tup, ev_lst, evsL_a, evsK_a, evs_cons, eosL_a, eosK_a, eos_cons, biK_a, ev_bi, callK_a, ev_call, cmKK_a, lsK_some, lsK1_a, ev_lset, mxK1_a, ev_mxv, opd_mxv, dk_mxv, lrK_some, lrK1_a, ev_lrng, opd_lrng, dk_lrng, cnF_some, cnK_a, isLs_l, ev_cnt, opd_cnt, dk_cnt, dzK2_a, dzK1_a, ev_dzip, opd_dzip, dk_dzip, opd_lset, dk_lset, ev_callM, ctK2_a, ctK1_a, ev_callT, muKK_a, ev_mu, eoK_a, eoo_som, slK3_a, slK2_a, slK1_a, ev_sl, wvK_a, eit_val, r1K1_a, eit_rng1, r2K2_a, r2K1_a, eit_rng2, enK1_a, eit_enum, lcEK_a, lcE_a, lcCK_t, lcCK_f, lcC_a, aoK_some, lcB_a, lcK1_a, ev_lc, lcK2_a, ev_lcf, flC_nx, flC_ret, flC_brk, xss_cons, asgK_a, xs_asg, unpK_a, xs_unp, parK2_a, parK1_a, xs_par, putK2_a, putK1_a, xs_put, retK_a, xs_ret_mxv, xs_ret_lrng, xs_ret_dzip, xs_ret_cnt, xs_ret_lset, xs_ret_cst, xs_ret_gl, xs_ret_bin, xs_ret_cmp, xs_ret_chain, xs_ret_isN, xs_ret_notN, xs_ret_neg, xs_ret_nt, xs_ret_an, xs_ret_orr, xs_ret_ife, xs_ret_ix, xs_ret_sl, xs_ret_rev, xs_ret_tup, xs_ret_lst, xs_ret_dct, xs_ret_bi, xs_ret_isi, xs_ret_call, xs_ret_callM, xs_ret_callT, xs_ret_mu, xs_ret_lc, xs_ret_lcf, ifsK_t, ifsK_f, xs_ifs, exK_a, xs_ex, frK1_a, frK_none, chK4_a, chK3_t, chK3_f, chK2_a, chK1_a, ev_chain, isNK_n, isNK_i, isNK_t, isNK_l, lcLK2_s, lcLK2_n, lcLK1_a, lcL_c, lcL_n, gt_s, st_s, asgT_nm, as2_some, asgT_tp, asgTs_nil, asgTs_cons, rlsAll_nil, rlsAll_d, rlsAll_v, abK_some, frcB_a, frcK_a, xs_frc, frR_nx, frR_ret, wipeD_nil, wipeD_cons, backD_nil, backD_cons, gt_0, st_0, rls_e, ownL_e, Option.map_some, Option.isSome_some, if_true, List.isEmpty_nil, lstK_0, lstK_1, lstK_2, lstK_3, lstK_4, lstK_5, lstK_6, tupK_0, tupK_1, tupK_2, tupK_3, tupK_4, noV_nil, noV_d, noV_1, noV_2, noV_3, noV_4, noV_5, noV_6, noV_7, noV_8, ite_tt, and_self, List.cons_append, List.nil_append, iL_1, pl_int, pl_bool, pl_none, pl_str, pl_list, pl_dict, Bool.false_eq_true, if_false, Bool.not_true, Bool.not_false, b_add, b_sub, c_eq, c_ne, c_lt, c_le, c_gt, c_ge, n1, n2, q1.len, q2l, beq_self_eq_true, h3, wd_l]
  refine ret_forL (fun p δ => ∃ x3 x4 x5 : Option (Dt × Bool), δ = [some (encT ps, false), some (encT qs, false), some (.list ((p.filter (diff ps qs)).map enc3), true), x3, x4, x5]) ⟨none, none, none, rfl⟩ ?_ ?_
  · rintro p x s δ hd ⟨x3, x4, x5, rfl⟩
    have hx : x ∈ T3 ps.length := by rw [hd]; simp
    have hp : p.length < 20000 := by
      have := T3_len hl
      rw [hd, List.length_append, List.length_cons] at this; omega
    have e1 := t1 x hx
    have e2 := t2 x hx
    have hf : ((p.filter (diff ps qs)).map enc3).length < lim := lim_lt (by
      rw [List.length_map]
      have := List.length_filter_le (diff ps qs) p
      omega)
    cases c : (sg ps x == sg qs x) with
    | true =>
      unfold enc3
      simp only [rb_ok, o1_some, o1b_some, o1i_some, f2_some, rvK_some, opK_some, rlK_t, rlK_f, drK_t, drK_f, drp_e, ev_cst, ev_gl, ev_var, opd_var, od_d, od_v, negK_i, tAnd_1, tOr_1, tb_ok, ev_dct, evs_nil, eos_nil, f1_some, oc_some, ods_nil, ods_cons, isiK_some, clK_ok, ca_some, cmK_ok, cm_some, ctK_ok, ctC_some, muK_some, muF2_some, ownK_l, eoo_non, intK_i, slK_some, wkK_some, bwK_some, eit_bor, r1K_i, r2K_i, enK_t, enK_l, lcX_ok, lockI_val, lockI_bor, lockI_rng1, lockI_rng2, lockI_enum, flK_nx, flK_ret, flK_brk, xss_nil, upK_some, ptF_some, ptK_some, rtK_some, xs_retV, xs_brk, asK_some, frB_e, frK_some, xs_fr_val, xs_fr_rng1, xs_fr_rng2, xs_fr_rng3, xs_fr_enum, xs_fr_zip, dk_rng1, dk_rng2, dk_enum, dk_var, dk_cst, dk_gl, dk_bin, dk_cmp, dk_chain, dk_isN, dk_notN, dk_neg, dk_nt, dk_an, dk_orr, dk_ife, dk_ix, dk_sl, dk_rev, dk_tup, dk_lst, dk_dct, dk_bi, dk_isi, dk_call, dk_callM, dk_callT, dk_mu, dk_lc, dk_lcf, whC_a, whB_a, xs_wh, opK0_a, opd_cst, opd_gl, opd_bin, opd_cmp, opd_chain, opd_isN, opd_notN, opd_neg, opd_nt, opd_an, opd_orr, opd_ife, opd_ix, opd_sl, opd_rev, opd_tup, opd_lst, opd_dct, opd_bi, opd_isi, opd_call, opd_callM, opd_callT, opd_mu, opd_lc, opd_lcf, twoL_a, twoK_a, binG_a, cmpG_a, ixG_a, ev_bin, ev_cmp, ev_ix, oneK_a, isNG_a, negG_a, isiG_a, ev_isN, ev_notN, ev_neg, ev_isi, ntK_a, boK_a, ev_nt, ev_an, ev_orr, anK_t, anK_f, orK_t, orK_f, tAnd_2, tOr_2, ifK_t, ifK_f, ev_ife, ev_tup, ev_lst, evsL_a, evsK_a, evs_cons, eosL_a, eosK_a, eos_cons, biK_a, ev_bi, callK_a, ev_call, cmKK_a, lsK_some, lsK1_a, ev_lset, mxK1_a, ev_mxv, opd_mxv, dk_mxv, lrK_some, lrK1_a, ev_lrng, opd_lrng, dk_lrng, cnF_some, cnK_a, isLs_l, ev_cnt, opd_cnt, dk_cnt, dzK2_a, dzK1_a, ev_dzip, opd_dzip, dk_dzip, opd_lset, dk_lset, ev_callM, ctK2_a, ctK1_a, ev_callT, muKK_a, ev_mu, eoK_a, eoo_som, slK3_a, slK2_a, slK1_a, ev_sl, wvK_a, eit_val, r1K1_a, eit_rng1, r2K2_a, r2K1_a, eit_rng2, enK1_a, eit_enum, lcEK_a, lcE_a, lcCK_t, lcCK_f, lcC_a, aoK_some, lcB_a, lcK1_a, ev_lc, lcK2_a, ev_lcf, flC_nx, flC_ret, flC_brk, xss_cons, asgK_a, xs_asg, unpK_a, xs_unp, parK2_a, parK1_a, xs_par, putK2_a, putK1_a, xs_put, retK_a, xs_ret_mxv, xs_ret_lrng, xs_ret_dzip, xs_ret_cnt, xs_ret_lset, xs_ret_cst, xs_ret_gl, xs_ret_bin, xs_ret_cmp, xs_ret_chain, xs_ret_isN, xs_ret_notN, xs_ret_neg, xs_ret_nt, xs_ret_an, xs_ret_orr, xs_ret_ife, xs_ret_ix, xs_ret_sl, xs_ret_rev, xs_ret_tup, xs_ret_lst, xs_ret_dct, xs_ret_bi, xs_ret_isi, xs_ret_call, xs_ret_callM, xs_ret_callT, xs_ret_mu, xs_ret_lc, xs_ret_lcf, ifsK_t, ifsK_f, xs_ifs, exK_a, xs_ex, frK1_a, frK_none, chK4_a, chK3_t, chK3_f, chK2_a, chK1_a, ev_chain, isNK_n, isNK_i, isNK_t, isNK_l, lcLK2_s, lcLK2_n, lcLK1_a, lcL_c, lcL_n, gt_s, st_s, asgT_nm, as2_some, asgT_tp, asgTs_nil, asgTs_cons, rlsAll_nil, rlsAll_d, rlsAll_v, abK_some, frcB_a, frcK_a, xs_frc, frR_nx, frR_ret, wipeD_nil, wipeD_cons, backD_nil, backD_cons, gt_0, st_0, rls_e, ownL_e, Option.map_some, Option.isSome_some, if_true, List.isEmpty_nil, lstK_0, lstK_1, lstK_2, lstK_3, lstK_4, lstK_5, lstK_6, tupK_0, tupK_1, tupK_2, tupK_3, tupK_4, noV_nil, noV_d, noV_1, noV_2, noV_3, noV_4, noV_5, noV_6, noV_7, noV_8, ite_tt, and_self, List.cons_append, List.nil_append, iL_1, pl_int, pl_bool, pl_none, pl_str, pl_list, pl_dict, Bool.false_eq_true, if_false, Bool.not_true, Bool.not_false, b_add, b_sub, c_eq, c_ne, c_lt, c_le, c_gt, c_ge, e1, e2, c]
      refine nr_nx ⟨_, _, _, by
        rw [List.filter_append]
        have : [x].filter (diff ps qs) = [] := by simp [diff, c]
        rw [this, List.append_nil]⟩
    | false =>
      have hm := mu_app (x := enc3 x) hf
      unfold enc3 at hm ⊢
      simp only [rb_ok, o1_some, o1b_some, o1i_some, f2_some, rvK_some, opK_some, rlK_t, rlK_f, drK_t, drK_f, drp_e, ev_cst, ev_gl, ev_var, opd_var, od_d, od_v, negK_i, tAnd_1, tOr_1, tb_ok, ev_dct, evs_nil, eos_nil, f1_some, oc_some, ods_nil, ods_cons, isiK_some, clK_ok, ca_some, cmK_ok, cm_some, ctK_ok, ctC_some, muK_some, muF2_some, ownK_l, eoo_non, intK_i, slK_some, wkK_some, bwK_some, eit_bor, r1K_i, r2K_i, enK_t, enK_l, lcX_ok, lockI_val, lockI_bor, lockI_rng1, lockI_rng2, lockI_enum, flK_nx, flK_ret, flK_brk, xss_nil, upK_some, ptF_some, ptK_some, rtK_some, xs_retV, xs_brk, asK_some, frB_e, frK_some, xs_fr_val, xs_fr_rng1, xs_fr_rng2, xs_fr_rng3, xs_fr_enum, xs_fr_zip, dk_rng1, dk_rng2, dk_enum, dk_var, dk_cst, dk_gl, dk_bin, dk_cmp, dk_chain, dk_isN, dk_notN, dk_neg, dk_nt, dk_an, dk_orr, dk_ife, dk_ix, dk_sl, dk_rev, dk_tup, dk_lst, dk_dct, dk_bi, dk_isi, dk_call, dk_callM, dk_callT, dk_mu, dk_lc, dk_lcf, whC_a, whB_a, xs_wh, opK0_a, opd_cst, opd_gl, opd_bin, opd_cmp, opd_chain, opd_isN, opd_notN, opd_neg, opd_nt, opd_an, opd_orr, opd_ife, opd_ix, opd_sl, opd_rev, opd_tup, opd_lst, opd_dct, opd_bi, opd_isi, opd_call, opd_callM, opd_callT, opd_mu, opd_lc, opd_lcf, twoL_a, twoK_a, binG_a, cmpG_a, ixG_a, ev_bin, ev_cmp, ev_ix, oneK_a, isNG_a, negG_a, isiG_a, ev_isN, ev_notN, ev_neg, ev_isi, ntK_a, boK_a, ev_nt, ev_an, ev_orr, anK_t, anK_f, orK_t, orK_f, tAnd_2, tOr_2, ifK_t, ifK_f, ev_ife, ev_tup, ev_lst, evsL_a, evsK_a, evs_cons, eosL_a, eosK_a, eos_cons, biK_a, ev_bi, callK_a, ev_call, cmKK_a, lsK_some, lsK1_a, ev_lset, mxK1_a, ev_mxv, opd_mxv, dk_mxv, lrK_some, lrK1_a, ev_lrng, opd_lrng, dk_lrng, cnF_some, cnK_a, isLs_l, ev_cnt, opd_cnt, dk_cnt, dzK2_a, dzK1_a, ev_dzip, opd_dzip, dk_dzip, opd_lset, dk_lset, ev_callM, ctK2_a, ctK1_a, ev_callT, muKK_a, ev_mu, eoK_a, eoo_som, slK3_a, slK2_a, slK1_a, ev_sl, wvK_a, eit_val, r1K1_a, eit_rng1, r2K2_a, r2K1_a, eit_rng2, enK1_a, eit_enum, lcEK_a, lcE_a, lcCK_t, lcCK_f, lcC_a, aoK_some, lcB_a, lcK1_a, ev_lc, lcK2_a, ev_lcf, flC_nx, flC_ret, flC_brk, xss_cons, asgK_a, xs_asg, unpK_a, xs_unp, parK2_a, parK1_a, xs_par, putK2_a, putK1_a, xs_put, retK_a, xs_ret_mxv, xs_ret_lrng, xs_ret_dzip, xs_ret_cnt, xs_ret_lset, xs_ret_cst, xs_ret_gl, xs_ret_bin, xs_ret_cmp, xs_ret_chain, xs_ret_isN, xs_ret_notN, xs_ret_neg, xs_ret_nt, xs_ret_an, xs_ret_orr, xs_ret_ife, xs_ret_ix, xs_ret_sl, xs_ret_rev, xs_ret_tup, xs_ret_lst, xs_ret_dct, xs_ret_bi, xs_ret_isi, xs_ret_call, xs_ret_callM, xs_ret_callT, xs_ret_mu, xs_ret_lc, xs_ret_lcf, ifsK_t, ifsK_f, xs_ifs, exK_a, xs_ex, frK1_a, frK_none, chK4_a, chK3_t, chK3_f, chK2_a, chK1_a, ev_chain, isNK_n, isNK_i, isNK_t, isNK_l, lcLK2_s, lcLK2_n, lcLK1_a, lcL_c, lcL_n, gt_s, st_s, asgT_nm, as2_some, asgT_tp, asgTs_nil, asgTs_cons, rlsAll_nil, rlsAll_d, rlsAll_v, abK_some, frcB_a, frcK_a, xs_frc, frR_nx, frR_ret, wipeD_nil, wipeD_cons, backD_nil, backD_cons, gt_0, st_0, rls_e, ownL_e, Option.map_some, Option.isSome_some, if_true, List.isEmpty_nil, lstK_0, lstK_1, lstK_2, lstK_3, lstK_4, lstK_5, lstK_6, tupK_0, tupK_1, tupK_2, tupK_3, tupK_4, noV_nil, noV_d, noV_1, noV_2, noV_3, noV_4, noV_5, noV_6, noV_7, noV_8, ite_tt, and_self, List.cons_append, List.nil_append, iL_1, pl_int, pl_bool, pl_none, pl_str, pl_list, pl_dict, Bool.false_eq_true, if_false, Bool.not_true, Bool.not_false, b_add, b_sub, c_eq, c_ne, c_lt, c_le, c_gt, c_ge, e1, e2, c, ownK_l, hm]
      refine nr_nx ⟨_, _, _, by
        rw [List.filter_append]
        have : [x].filter (diff ps qs) = [x] := by simp [diff, c]
        rw [this, List.map_append]; rfl⟩
  · rintro δ ⟨x3, x4, x5, rfl⟩
    simp only [rb_ok, o1_some, o1b_some, o1i_some, f2_some, rvK_some, opK_some, rlK_t, rlK_f, drK_t, drK_f, drp_e, ev_cst, ev_gl, ev_var, opd_var, od_d, od_v, negK_i, tAnd_1, tOr_1, tb_ok, ev_dct, evs_nil, eos_nil, f1_some, oc_some, ods_nil, ods_cons, isiK_some, clK_ok, ca_some, cmK_ok, cm_some, ctK_ok, ctC_some, muK_some, muF2_some, ownK_l, eoo_non, intK_i, slK_some, wkK_some, bwK_some, eit_bor, r1K_i, r2K_i, enK_t, enK_l, lcX_ok, lockI_val, lockI_bor, lockI_rng1, lockI_rng2, lockI_enum, flK_nx, flK_ret, flK_brk, xss_nil, upK_some, ptF_some, ptK_some, rtK_some, xs_retV, xs_brk, asK_some, frB_e, frK_some, xs_fr_val, xs_fr_rng1, xs_fr_rng2, xs_fr_rng3, xs_fr_enum, xs_fr_zip, dk_rng1, dk_rng2, dk_enum, dk_var, dk_cst, dk_gl, dk_bin, dk_cmp, dk_chain, dk_isN, dk_notN, dk_neg, dk_nt, dk_an, dk_orr, dk_ife, dk_ix, dk_sl, dk_rev, dk_tup, dk_lst, dk_dct, dk_bi, dk_isi, dk_call, dk_callM, dk_callT, dk_mu, dk_lc, dk_lcf, whC_a, whB_a, xs_wh, opK0_a, opd_cst, opd_gl, opd_bin, opd_cmp, opd_chain, opd_isN, opd_notN, opd_neg, opd_nt, opd_an, opd_orr, opd_ife, opd_ix, opd_sl, opd_rev, opd_tup, opd_lst, opd_dct, opd_bi, opd_isi, opd_call, opd_callM, opd_callT, opd_mu, opd_lc, opd_lcf, twoL_a, twoK_a, binG_a, cmpG_a, ixG_a, ev_bin, ev_cmp, ev_ix, oneK_a, isNG_a, negG_a, isiG_a, ev_isN, ev_notN, ev_neg, ev_isi, ntK_a, boK_a, ev_nt, ev_an, ev_orr, anK_t, anK_f, orK_t, orK_f, tAnd_2, tOr_2, ifK_t, ifK_f, ev_ife, ev_tup, ev_lst, evsL_a, evsK_a, evs_cons, eosL_a, eosK_a, eos_cons, biK_a, ev_bi, callK_a, ev_call, cmKK_a, lsK_some, lsK1_a, ev_lset, mxK1_a, ev_mxv, opd_mxv, dk_mxv, lrK_some, lrK1_a, ev_lrng, opd_lrng, dk_lrng, cnF_some, cnK_a, isLs_l, ev_cnt, opd_cnt, dk_cnt, dzK2_a, dzK1_a, ev_dzip, opd_dzip, dk_dzip, opd_lset, dk_lset, ev_callM, ctK2_a, ctK1_a, ev_callT, muKK_a, ev_mu, eoK_a, eoo_som, slK3_a, slK2_a, slK1_a, ev_sl, wvK_a, eit_val, r1K1_a, eit_rng1, r2K2_a, r2K1_a, eit_rng2, enK1_a, eit_enum, lcEK_a, lcE_a, lcCK_t, lcCK_f, lcC_a, aoK_some, lcB_a, lcK1_a, ev_lc, lcK2_a, ev_lcf, flC_nx, flC_ret, flC_brk, xss_cons, asgK_a, xs_asg, unpK_a, xs_unp, parK2_a, parK1_a, xs_par, putK2_a, putK1_a, xs_put, retK_a, xs_ret_mxv, xs_ret_lrng, xs_ret_dzip, xs_ret_cnt, xs_ret_lset, xs_ret_cst, xs_ret_gl, xs_ret_bin, xs_ret_cmp, xs_ret_chain, xs_ret_isN, xs_ret_notN, xs_ret_neg, xs_ret_nt, xs_ret_an, xs_ret_orr, xs_ret_ife, xs_ret_ix, xs_ret_sl, xs_ret_rev, xs_ret_tup, xs_ret_lst, xs_ret_dct, xs_ret_bi, xs_ret_isi, xs_ret_call, xs_ret_callM, xs_ret_callT, xs_ret_mu, xs_ret_lc, xs_ret_lcf, ifsK_t, ifsK_f, xs_ifs, exK_a, xs_ex, frK1_a, frK_none, chK4_a, chK3_t, chK3_f, chK2_a, chK1_a, ev_chain, isNK_n, isNK_i, isNK_t, isNK_l, lcLK2_s, lcLK2_n, lcLK1_a, lcL_c, lcL_n, gt_s, st_s, asgT_nm, as2_some, asgT_tp, asgTs_nil, asgTs_cons, rlsAll_nil, rlsAll_d, rlsAll_v, abK_some, frcB_a, frcK_a, xs_frc, frR_nx, frR_ret, wipeD_nil, wipeD_cons, backD_nil, backD_cons, gt_0, st_0, rls_e, ownL_e, Option.map_some, Option.isSome_some, if_true, List.isEmpty_nil, lstK_0, lstK_1, lstK_2, lstK_3, lstK_4, lstK_5, lstK_6, tupK_0, tupK_1, tupK_2, tupK_3, tupK_4, noV_nil, noV_d, noV_1, noV_2, noV_3, noV_4, noV_5, noV_6, noV_7, noV_8, ite_tt, and_self, List.cons_append, List.nil_append, iL_1, pl_int, pl_bool, pl_none, pl_str, pl_list, pl_dict, Bool.false_eq_true, if_false, Bool.not_true, Bool.not_false, b_add, b_sub, c_eq, c_ne, c_lt, c_le, c_gt, c_ge]
    exact retP_ok ⟨rfl, rfl⟩
end Bw

set_option maxRecDepth 100000
namespace Bw
open PySem PySem.Spec PyProof.Rows L2
/-! ### a sheet turned over, a point lifted -/
theorem bend_expand (a b c : Pt) : bendI a b c = b.1 * c.2 - b.1 * a.2 - a.1 * c.2 - (b.2 * c.1 - b.2 * a.1 - a.2 * c.1) := by
  unfold bendI
  rw [Int.sub_mul, Int.mul_sub, Int.mul_sub, Int.sub_mul, Int.mul_sub, Int.mul_sub, Int.mul_comm a.2 a.1]
  omega
theorem bend_cyc (a b c : Pt) : bendI a b c = bendI b c a := by
  rw [bend_expand, bend_expand, Int.mul_comm c.1 a.2, Int.mul_comm c.1 b.2, Int.mul_comm b.1 a.2, Int.mul_comm c.2 a.1, Int.mul_comm c.2 b.1, Int.mul_comm b.2 a.1]
  omega
theorem bend_swap (a b c : Pt) : bendI a c b = -bendI a b c := by
  rw [bend_expand, bend_expand, Int.mul_comm c.1 b.2, Int.mul_comm c.1 a.2, Int.mul_comm c.2 b.1, Int.mul_comm c.2 a.1, Int.mul_comm b.1 a.2, Int.mul_comm b.2 a.1]
  omega
def neg (p : Pt) : Pt := (p.1, 0 - p.2)
theorem bend_neg (a b c : Pt) : bendI (neg a) (neg b) (neg c) = -bendI a b c := by
  unfold bendI neg
  simp only
  have h1 : 0 - c.2 - (0 - a.2) = -(c.2 - a.2) := by omega
  have h2 : 0 - b.2 - (0 - a.2) = -(b.2 - a.2) := by omega
  rw [h1, h2, Int.mul_neg, Int.neg_mul]
  omega
theorem Sheet.neg {ps : List Pt} (h : Sheet ps) : Sheet (ps.map neg) := by
  refine ⟨by rw [List.length_map]; exact h.ne, fun i j a b h1 h2 h3 => ?_, fun i j k a b c h1 h2 h3 h4 h5 => ?_, fun p hp => ?_⟩
  · obtain ⟨a', g1, rfl⟩ := get_map h2
    obtain ⟨b', g2, rfl⟩ := get_map h3
    exact h.rise i j a' b' h1 g1 g2
  · obtain ⟨a', g1, rfl⟩ := get_map h3
    obtain ⟨b', g2, rfl⟩ := get_map h4
    obtain ⟨c', g3, rfl⟩ := get_map h5
    rw [bend_neg]
    have := h.line i j k a' b' c' h1 h2 g1 g2 g3
    omega
  · obtain ⟨q, hq, rfl⟩ := List.mem_map.mp hp
    obtain ⟨b1, b2⟩ := h.sm q hq
    refine ⟨b1, ?_⟩
    show Bd 2000 (0 - q.2)
    unfold Bd at *
    rw [Int.zero_sub, Int.natAbs_neg]; exact b2
def rest (ps : List Pt) (p : Nat) : List Pt := ps.take p ++ ps.drop (p + 1)
theorem rest_lt {ps : List Pt} {p i : Nat} {a : Pt} (hp : p < ps.length) (h : i < p) (g : ps[i]? = some a) : (rest ps p)[i]? = some a := by
  unfold rest
  rw [List.getElem?_append_left (by rw [List.length_take]; omega), List.getElem?_take_of_lt h]; exact g
theorem rest_gt {ps : List Pt} {p i : Nat} {a : Pt} (hp : p < ps.length) (h : p < i) (g : ps[i]? = some a) : (rest ps p)[i - 1]? = some a := by
  unfold rest
  rw [List.getElem?_append_right (by rw [List.length_take]; omega), List.length_take, List.getElem?_drop, Nat.min_eq_left (Nat.le_of_lt hp)]
  rw [show p + 1 + (i - 1 - p) = i by omega]; exact g
theorem rest_mem {ps : List Pt} {p : Nat} {a : Pt} (h : a ∈ rest ps p) : a ∈ ps := by
  rcases List.mem_append.mp h with h | h
  · exact List.mem_of_mem_take h
  · exact List.mem_of_mem_drop h
theorem set_get {ps : List Pt} {p i : Nat} {q a : Pt} (g : (ps.set p q)[i]? = some a) : (i = p ∧ a = q) ∨ (i ≠ p ∧ ps[i]? = some a) := by
  by_cases hi : p = i
  · subst hi
    by_cases hl : p < ps.length
    · rw [List.getElem?_set_self hl] at g; cases g; exact .inl ⟨rfl, rfl⟩
    · rw [List.getElem?_eq_none (by rw [List.length_set]; omega)] at g; cases g
  · rw [List.getElem?_set_ne hi] at g
    exact .inr ⟨fun z => hi z.symm, g⟩
theorem Sheet.lift {ps : List Pt} (h : Sheet ps) {p : Nat} {o q : Pt} (hp : ps[p]? = some o) (hx : q.1 = o.1) (hq : Sm q) (f : Free (rest ps p) q) : Sheet (ps.set p q) := by
  have hpl := (List.getElem?_eq_some_iff.mp hp).1
  refine ⟨by rw [List.length_set]; exact h.ne, fun i j a b h1 h2 h3 => ?_, fun i j k a b c h1 h2 h3 h4 h5 => ?_, fun a ha => ?_⟩
  · rcases set_get h2 with ⟨rfl, rfl⟩ | ⟨n1, g1⟩
    · rcases set_get h3 with ⟨rfl, rfl⟩ | ⟨n2, g2⟩
      · omega
      · rw [hx]; exact h.rise i j o b h1 hp g2
    · rcases set_get h3 with ⟨rfl, rfl⟩ | ⟨n2, g2⟩
      · rw [hx]; exact h.rise i j a o h1 g1 hp
      · exact h.rise i j a b h1 g1 g2
  · rcases set_get h3 with ⟨rfl, rfl⟩ | ⟨n1, g1⟩
    · rcases set_get h4 with ⟨rfl, rfl⟩ | ⟨n2, g2⟩
      · omega
      · rcases set_get h5 with ⟨rfl, rfl⟩ | ⟨n3, g3⟩
        · omega
        · rw [bend_cyc]
          exact f (j - 1) (k - 1) b c (by omega) (rest_gt hpl h1 g2) (rest_gt hpl (by omega) g3)
    · rcases set_get h4 with ⟨rfl, rfl⟩ | ⟨n2, g2⟩
      · rcases set_get h5 with ⟨rfl, rfl⟩ | ⟨n3, g3⟩
        · omega
        · have := f i (k - 1) a c (by omega) (rest_lt hpl h1 g1) (rest_gt hpl h2 g3)
          rw [bend_swap] at this
          omega
      · rcases set_get h5 with ⟨rfl, rfl⟩ | ⟨n3, g3⟩
        · exact f i j a b h1 (rest_lt hpl (by omega) g1) (rest_lt hpl h2 g2)
        · exact h.line i j k a b c h1 h2 g1 g2 g3
  · obtain ⟨i, hi⟩ := List.getElem?_of_mem ha
    rcases set_get hi with ⟨_, rfl⟩ | ⟨_, g⟩
    · exact hq
    · exact h.sm a (List.mem_of_getElem? g)
theorem rest_rise {ps : List Pt} (h : Rising ps) {p : Nat} (hp : p < ps.length) : Rising (rest ps p) := by
  have sub : (rest ps p).Sublist ps := by
    unfold rest
    have : ps.take p ++ ps.drop p = ps := List.take_append_drop p ps
    conv => rhs; rw [← this]
    refine List.Sublist.append (List.Sublist.refl _) ?_
    rw [List.drop_eq_getElem_cons hp]
    exact List.sublist_cons_self _ _
  have hp' := (pairs_of_rise h).sublist sub
  intro i j a b hij g1 g2
  rw [List.pairwise_iff_getElem] at hp'
  obtain ⟨i1, e1⟩ := List.getElem?_eq_some_iff.mp g1
  obtain ⟨i2, e2⟩ := List.getElem?_eq_some_iff.mp g2
  have := hp' i j i1 i2 hij
  rw [e1, e2] at this; exact this
theorem near_free' {ps : List Pt} (hr : Rising ps) (x y : Int) : ∃ n : Nat, n ≤ ps.length * ps.length ∧ Free ps (x, y + n) ∧ ∀ i : Nat, i < n → ¬ Free ps (x, y + i) := by
  have hl : (ps.flatMap fun a => ps.map fun b => a.2 + ((b.2 - a.2) * (x - a.1)) / (b.1 - a.1)).length = ps.length * ps.length := by
    rw [List.length_flatMap]
    simp only [List.length_map]
    exact sum_const ps ps.length
  obtain ⟨t, h1, h2⟩ := pigeon _ (ps.flatMap fun a => ps.map fun b => a.2 + ((b.2 - a.2) * (x - a.1)) / (b.1 - a.1)) y rfl
  have hf : Free ps (x, y + t) := fun j k a b hjk ha hb e => h2 (List.mem_flatMap.mpr ⟨a, List.mem_of_getElem? ha, List.mem_map.mpr ⟨b, List.mem_of_getElem? hb, ?_⟩⟩)
  · obtain ⟨n, g1, g2, g3⟩ := least (P := fun n => Free ps (x, y + (n : Int))) hf
    exact ⟨n, by omega, g2, g3⟩
  · have hd : 0 < b.1 - a.1 := by have := hr j k a b hjk ha hb; omega
    unfold bendI at e
    simp only at e
    have e2 : (b.2 - a.2) * (x - a.1) = (b.1 - a.1) * (y + t - a.2) := by omega
    rw [e2, Int.mul_ediv_cancel_left _ (by omega)]
    omega
theorem other_body {cl : Cl} {x : Int} {ps : List Pt} (hs : Sheet ps) (hl : ps.length ≤ 24) (hbd : ∀ p ∈ ps, Bd 120 p.1 ∧ Bd 120 p.2) (ht : ∀ x k : Int, 0 < k → k < 1073741824 → cl (Str.ofString "_law_take") [.list [.int x], .int k] = .ok (.int (x % k)) false (.list [.int (x / k)]))
    (hf : ∀ (s : Dt) (ps : List Pt) (p : Pt), IsSeq s ps → Sm p → (Free ps p ∧ cl (Str.ofString "_law_free") [s, encP p] = .ok (.bool true) false .none) ∨ (¬ Free ps p ∧ cl (Str.ofString "_law_free") [s, encP p] = .ok (.bool false) false .none)) :
    RetP (fun d w δ => ∃ (qs : List Pt) (x' : Int), d = encT qs ∧ w = false ∧ gt δ 0 = some (.list [.int x'], true) ∧ Sheet qs ∧ qs.length = ps.length) (xss cl D._law_other.body (entry D._law_other [.list [.int x], encT ps])) := by
  have q := seqT (ps := ps) (by omega) hs.sm
  have h1 := hs.ne
  have t4 := fun x => ht x 4 (by decide) (by decide)
  have tn := fun x => ht x (ps.length : Int) (by omega) (by omega)
  have t61 := fun x => ht x 61 (by decide) (by decide)
  have hk : 0 ≤ x % 4 ∧ x % 4 < 4 := ⟨Int.emod_nonneg _ (by decide), Int.emod_lt_of_pos _ (by decide)⟩
  have hp : 0 ≤ x / 4 % (ps.length : Int) ∧ x / 4 % (ps.length : Int) < ps.length := ⟨Int.emod_nonneg _ (by omega), Int.emod_lt_of_pos _ (by omega)⟩
  obtain ⟨p, ep⟩ : ∃ p : Nat, x / 4 % (ps.length : Int) = p := ⟨(x / 4 % (ps.length : Int)).toNat, by omega⟩
  have hpl : p < ps.length := by omega
  obtain ⟨o, go⟩ : ∃ o, ps[p]? = some o := ⟨ps[p], by simp [hpl]⟩
  have io := q.ix p o go
  have hw : walkD (encT ps) = some (ps.map encP) := rfl
  simp only [D._law_other, entry, List.map_cons, List.map_nil, List.length_cons, List.length_nil, List.replicate, Nat.zero_add, Nat.reduceAdd, Nat.reduceSub, List.replicate_zero, List.cons_append, List.nil_append]
  by_cases c0 : x % 4 = 0
  · have c0' : (x % 4 == 0) = true := by simpa using c0
    obtain ⟨δ', e, x6, x7, rfl⟩ := lcL_map (f := lcB (.tp (.cons (.nm 6) (.cons (.nm 7) .nil))) [6, 7] (lcE cl (.tup (.cons (.var 6) (.cons (.bin .sub (.cst (.int 0)) (.var 7)) .nil)))))
      (g := fun d => match d with | .tuple [.int a, .int b] => encP (neg (a, b)) | _ => .none)
      (fun δ => ∃ x6 x7 : Option (Dt × Bool), δ = [some (.list [.int (x / 4 / (ps.length : Int))], true), none, some (.int (x % 4), false), some (.int p, false), some (.int o.1, false), some (.int o.2, false), x6, x7, none, none]) (ds := ps.map encP) (δ := [some (.list [.int (x / 4 / (ps.length : Int))], true), none, some (.int (x % 4), false), some (.int p, false), some (.int o.1, false), some (.int o.2, false), none, none, none, none]) ⟨_, _, rfl⟩
      (by
        rintro d δ hd ⟨x6, x7, rfl⟩
        obtain ⟨r, hr, rfl⟩ := List.mem_map.mp hd
        exact ⟨_, by
          unfold encP
          simp only [rb_ok, o1_some, o1b_some, o1i_some, f2_some, rvK_some, opK_some, rlK_t, rlK_f, drK_t, drK_f, drp_e, ev_cst, ev_gl, ev_var, opd_var, od_d, od_v, negK_i, tAnd_1, tOr_1, tb_ok, ev_dct, evs_nil, eos_nil, f1_some, oc_some, ods_nil, ods_cons, isiK_some, clK_ok, ca_some, cmK_ok, cm_some, ctK_ok, ctC_some, muK_some, muF2_some, ownK_l, eoo_non, intK_i, slK_some, wkK_some, bwK_some, eit_bor, r1K_i, r2K_i, enK_t, enK_l, lcX_ok, lockI_val, lockI_bor, lockI_rng1, lockI_rng2, lockI_enum, flK_nx, flK_ret, flK_brk, xss_nil, upK_some, ptF_some, ptK_some, rtK_some, xs_retV, xs_brk, asK_some, frB_e, frK_some, xs_fr_val, xs_fr_rng1, xs_fr_rng2, xs_fr_rng3, xs_fr_enum, xs_fr_zip, dk_rng1, dk_rng2, dk_enum, dk_var, dk_cst, dk_gl, dk_bin, dk_cmp, dk_chain, dk_isN, dk_notN, dk_neg, dk_nt, dk_an, dk_orr, dk_ife, dk_ix, dk_sl, dk_rev, dk_tup, dk_lst, dk_dct, dk_bi, dk_isi, dk_call, dk_callM, dk_callT, dk_mu, dk_lc, dk_lcf, whC_a, whB_a, xs_wh, opK0_a, opd_cst, opd_gl, opd_bin, opd_cmp, opd_chain, opd_isN, opd_notN, opd_neg, opd_nt, opd_an, opd_orr, opd_ife, opd_ix, opd_sl, opd_rev, opd_tup, opd_lst, opd_dct, opd_bi, opd_isi, opd_call, opd_callM, opd_callT, opd_mu, opd_lc, opd_lcf, twoL_a, twoK_a, binG_a, cmpG_a, ixG_a, ev_bin, ev_cmp, ev_ix, oneK_a, isNG_a, negG_a, isiG_a, ev_isN, ev_notN, ev_neg, ev_isi, ntK_a, boK_a, ev_nt, ev_an, ev_orr, anK_t, anK_f, orK_t, orK_f, tAnd_2, tOr_2, ifK_t, ifK_f, ev_ife, ev_tup, ev_lst, evsL_a, evsK_a, evs_cons, eosL_a, eosK_a, eos_cons, biK_a, ev_bi, callK_a, ev_call, cmKK_a, lsK_some, lsK1_a, ev_lset, mxK1_a, ev_mxv, opd_mxv, dk_mxv, lrK_some, lrK1_a, ev_lrng, opd_lrng, dk_lrng, cnF_some, cnK_a, isLs_l, ev_cnt, opd_cnt, dk_cnt, dzK2_a, dzK1_a, ev_dzip, opd_dzip, dk_dzip, opd_lset, dk_lset, ev_callM, ctK2_a, ctK1_a, ev_callT, muKK_a, ev_mu, eoK_a, eoo_som, slK3_a, slK2_a, slK1_a, ev_sl, wvK_a, eit_val, r1K1_a, eit_rng1, r2K2_a, r2K1_a, eit_rng2, enK1_a, eit_enum, lcEK_a, lcE_a, lcCK_t, lcCK_f, lcC_a, aoK_some, lcB_a, lcK1_a, ev_lc, lcK2_a, ev_lcf, flC_nx, flC_ret, flC_brk, xss_cons, asgK_a, xs_asg, unpK_a, xs_unp, parK2_a, parK1_a, xs_par, putK2_a, putK1_a, xs_put, retK_a, xs_ret_mxv, xs_ret_lrng, xs_ret_dzip, xs_ret_cnt, xs_ret_lset, xs_ret_cst, xs_ret_gl, xs_ret_bin, xs_ret_cmp, xs_ret_chain, xs_ret_isN, xs_ret_notN, xs_ret_neg, xs_ret_nt, xs_ret_an, xs_ret_orr, xs_ret_ife, xs_ret_ix, xs_ret_sl, xs_ret_rev, xs_ret_tup, xs_ret_lst, xs_ret_dct, xs_ret_bi, xs_ret_isi, xs_ret_call, xs_ret_callM, xs_ret_callT, xs_ret_mu, xs_ret_lc, xs_ret_lcf, ifsK_t, ifsK_f, xs_ifs, exK_a, xs_ex, frK1_a, frK_none, chK4_a, chK3_t, chK3_f, chK2_a, chK1_a, ev_chain, isNK_n, isNK_i, isNK_t, isNK_l, lcLK2_s, lcLK2_n, lcLK1_a, lcL_c, lcL_n, gt_s, st_s, asgT_nm, as2_some, asgT_tp, asgTs_nil, asgTs_cons, rlsAll_nil, rlsAll_d, rlsAll_v, abK_some, frcB_a, frcK_a, xs_frc, frR_nx, frR_ret, wipeD_nil, wipeD_cons, backD_nil, backD_cons, gt_0, st_0, rls_e, ownL_e, Option.map_some, Option.isSome_some, if_true, List.isEmpty_nil, lstK_0, lstK_1, lstK_2, lstK_3, lstK_4, lstK_5, lstK_6, tupK_0, tupK_1, tupK_2, tupK_3, tupK_4, noV_nil, noV_d, noV_1, noV_2, noV_3, noV_4, noV_5, noV_6, noV_7, noV_8, ite_tt, and_self, List.cons_append, List.nil_append, iL_1, pl_int, pl_bool, pl_none, pl_str, pl_list, pl_dict, Bool.false_eq_true, if_false, Bool.not_true, Bool.not_false, b_add, b_sub, c_eq, c_ne, c_lt, c_le, c_gt, c_ge]
          rfl, _, _, rfl⟩)
    have hm : (ps.map encP).map (fun d => match d with | .tuple [.int a, .int b] => encP (neg (a, b)) | _ => PyData.none) = (ps.map neg).map encP := by
      rw [List.map_map, List.map_map]
      apply List.map_congr_left
      intro r _; rfl
    rw [hm] at e
    have hlim : ((ps.map neg).map encP).length ≤ lim := lim_of (by rw [List.length_map, List.length_map]; omega)
    generalize encT ps = s at io hw q ⊢
    unfold encP at io
    simp only [rb_ok, o1_some, o1b_some, o1i_some, f2_some, rvK_some, opK_some, rlK_t, rlK_f, drK_t, drK_f, drp_e, ev_cst, ev_gl, ev_var, opd_var, od_d, od_v, negK_i, tAnd_1, tOr_1, tb_ok, ev_dct, evs_nil, eos_nil, f1_some, oc_some, ods_nil, ods_cons, isiK_some, clK_ok, ca_some, cmK_ok, cm_some, ctK_ok, ctC_some, muK_some, muF2_some, ownK_l, eoo_non, intK_i, slK_some, wkK_some, bwK_some, eit_bor, r1K_i, r2K_i, enK_t, enK_l, lcX_ok, lockI_val, lockI_bor, lockI_rng1, lockI_rng2, lockI_enum, flK_nx, flK_ret, flK_brk, xss_nil, upK_some, ptF_some, ptK_some, rtK_some, xs_retV, xs_brk, asK_some, frB_e, frK_some, xs_fr_val, xs_fr_rng1, xs_fr_rng2, xs_fr_rng3, xs_fr_enum, xs_fr_zip, dk_rng1, dk_rng2, dk_enum, dk_var, dk_cst, dk_gl, dk_bin, dk_cmp, dk_chain, dk_isN, dk_notN, dk_neg, dk_nt, dk_an, dk_orr, dk_ife, dk_ix, dk_sl, dk_rev, dk_tup, dk_lst, dk_dct, dk_bi, dk_isi, dk_call, dk_callM, dk_callT, dk_mu, dk_lc, dk_lcf, whC_a, whB_a, xs_wh, opK0_a, opd_cst, opd_gl, opd_bin, opd_cmp, opd_chain, opd_isN, opd_notN, opd_neg, opd_nt, opd_an, opd_orr, opd_ife, opd_ix, opd_sl, opd_rev, opd_tup, opd_lst, opd_dct, opd_bi, opd_isi, opd_call, opd_callM, opd_callT, opd_mu, opd_lc, opd_lcf, twoL_a, twoK_a, binG_a, cmpG_a, ixG_a, ev_bin, ev_cmp, ev_ix, oneK_a, isNG_a, negG_a, isiG_a, ev_isN, ev_notN, ev_neg, ev_isi, ntK_a, boK_a, ev_nt, ev_an, ev_orr, anK_t, anK_f, orK_t, orK_f, tAnd_2, tOr_2, ifK_t, ifK_f, ev_ife, ev_tup, ev_lst, evsL_a, evsK_a, evs_cons, eosL_a, eosK_a, eos_cons, biK_a, ev_bi, callK_a, ev_call, cmKK_a, lsK_some, lsK1_a, ev_lset, mxK1_a, ev_mxv, opd_mxv, dk_mxv, lrK_some, lrK1_a, ev_lrng, opd_lrng, dk_lrng, cnF_some, cnK_a, isLs_l, ev_cnt, opd_cnt, dk_cnt, dzK2_a, dzK1_a, ev_dzip, opd_dzip, dk_dzip, opd_lset, dk_lset, ev_callM, ctK2_a, ctK1_a, ev_callT, muKK_a, ev_mu, eoK_a, eoo_som, slK3_a, slK2_a, slK1_a, ev_sl, wvK_a, eit_val, r1K1_a, eit_rng1, r2K2_a, r2K1_a, eit_rng2, enK1_a, eit_enum, lcEK_a, lcE_a, lcCK_t, lcCK_f, lcC_a, aoK_some, lcB_a, lcK1_a, ev_lc, lcK2_a, ev_lcf, flC_nx, flC_ret, flC_brk, xss_cons, asgK_a, xs_asg, unpK_a, xs_unp, parK2_a, parK1_a, xs_par, putK2_a, putK1_a, xs_put, retK_a, xs_ret_mxv, xs_ret_lrng, xs_ret_dzip, xs_ret_cnt, xs_ret_lset, xs_ret_cst, xs_ret_gl, xs_ret_bin, xs_ret_cmp, xs_ret_chain, xs_ret_isN, xs_ret_notN, xs_ret_neg, xs_ret_nt, xs_ret_an, xs_ret_orr, xs_ret_ife, xs_ret_ix, xs_ret_sl, xs_ret_rev, xs_ret_tup, xs_ret_lst, xs_ret_dct, xs_ret_bi, xs_ret_isi, xs_ret_call, xs_ret_callM, xs_ret_callT, xs_ret_mu, xs_ret_lc, xs_ret_lcf, ifsK_t, ifsK_f, xs_ifs, exK_a, xs_ex, frK1_a, frK_none, chK4_a, chK3_t, chK3_f, chK2_a, chK1_a, ev_chain, isNK_n, isNK_i, isNK_t, isNK_l, lcLK2_s, lcLK2_n, lcLK1_a, lcL_c, lcL_n, gt_s, st_s, asgT_nm, as2_some, asgT_tp, asgTs_nil, asgTs_cons, rlsAll_nil, rlsAll_d, rlsAll_v, abK_some, frcB_a, frcK_a, xs_frc, frR_nx, frR_ret, wipeD_nil, wipeD_cons, backD_nil, backD_cons, gt_0, st_0, rls_e, ownL_e, Option.map_some, Option.isSome_some, if_true, List.isEmpty_nil, lstK_0, lstK_1, lstK_2, lstK_3, lstK_4, lstK_5, lstK_6, tupK_0, tupK_1, tupK_2, tupK_3, tupK_4, noV_nil, noV_d, noV_1, noV_2, noV_3, noV_4, noV_5, noV_6, noV_7, noV_8, ite_tt, and_self, List.cons_append, List.nil_append, iL_1, pl_int, pl_bool, pl_none, pl_str, pl_list, pl_dict, Bool.false_eq_true, if_false, Bool.not_true, Bool.not_false, b_add, b_sub, c_eq, c_ne, c_lt, c_le, c_gt, c_ge, t4, q.len, tn, ep, io, c0', hw, bwK_some, e, hlim, d_tup]
    exact fin_ret ⟨ps.map neg, _, rfl, rfl, rfl, hs.neg, List.length_map _⟩
  · have c0' : (x % 4 == 0) = false := by simpa using c0
    by_cases c1 : x % 4 = 1
    · have c1' : (x % 4 == 1) = true := by simpa using c1
      unfold encP at io
      simp only [rb_ok, o1_some, o1b_some, o1i_some, f2_some, rvK_some, opK_some, rlK_t, rlK_f, drK_t, drK_f, drp_e, ev_cst, ev_gl, ev_var, opd_var, od_d, od_v, negK_i, tAnd_1, tOr_1, tb_ok, ev_dct, evs_nil, eos_nil, f1_some, oc_some, ods_nil, ods_cons, isiK_some, clK_ok, ca_some, cmK_ok, cm_some, ctK_ok, ctC_some, muK_some, muF2_some, ownK_l, eoo_non, intK_i, slK_some, wkK_some, bwK_some, eit_bor, r1K_i, r2K_i, enK_t, enK_l, lcX_ok, lockI_val, lockI_bor, lockI_rng1, lockI_rng2, lockI_enum, flK_nx, flK_ret, flK_brk, xss_nil, upK_some, ptF_some, ptK_some, rtK_some, xs_retV, xs_brk, asK_some, frB_e, frK_some, xs_fr_val, xs_fr_rng1, xs_fr_rng2, xs_fr_rng3, xs_fr_enum, xs_fr_zip, dk_rng1, dk_rng2, dk_enum, dk_var, dk_cst, dk_gl, dk_bin, dk_cmp, dk_chain, dk_isN, dk_notN, dk_neg, dk_nt, dk_an, dk_orr, dk_ife, dk_ix, dk_sl, dk_rev, dk_tup, dk_lst, dk_dct, dk_bi, dk_isi, dk_call, dk_callM, dk_callT, dk_mu, dk_lc, dk_lcf, whC_a, whB_a, xs_wh, opK0_a, opd_cst, opd_gl, opd_bin, opd_cmp, opd_chain, opd_isN, opd_notN, opd_neg, opd_nt, opd_an, opd_orr, opd_ife, opd_ix, opd_sl, opd_rev, opd_tup, opd_lst, opd_dct, opd_bi, opd_isi, opd_call, opd_callM, opd_callT, opd_mu, opd_lc, opd_lcf, twoL_a, twoK_a, binG_a, cmpG_a, ixG_a, ev_bin, ev_cmp, ev_ix, oneK_a, isNG_a, negG_a, isiG_a, ev_isN, ev_notN, ev_neg, ev_isi, ntK_a, boK_a, ev_nt, ev_an, ev_orr, anK_t, anK_f, orK_t, orK_f, tAnd_2, tOr_2, ifK_t, ifK_f, ev_ife, ev_tup, ev_lst, evsL_a, evsK_a, evs_cons, eosL_a, eosK_a, eos_cons, biK_a, ev_bi, callK_a, ev_call, cmKK_a, lsK_some, lsK1_a, ev_lset, mxK1_a, ev_mxv, opd_mxv, dk_mxv, lrK_some, lrK1_a, ev_lrng, opd_lrng, dk_lrng, cnF_some, cnK_a, isLs_l, ev_cnt, opd_cnt, dk_cnt, dzK2_a, dzK1_a, ev_dzip, opd_dzip, dk_dzip, opd_lset, dk_lset, ev_callM, ctK2_a, ctK1_a, ev_callT, muKK_a, ev_mu, eoK_a, eoo_som, slK3_a, slK2_a, slK1_a, ev_sl, wvK_a, eit_val, r1K1_a, eit_rng1, r2K2_a, r2K1_a, eit_rng2, enK1_a, eit_enum, lcEK_a, lcE_a, lcCK_t, lcCK_f, lcC_a, aoK_some, lcB_a, lcK1_a, ev_lc, lcK2_a, ev_lcf, flC_nx, flC_ret, flC_brk, xss_cons, asgK_a, xs_asg, unpK_a, xs_unp, parK2_a, parK1_a, xs_par, putK2_a, putK1_a, xs_put, retK_a, xs_ret_mxv, xs_ret_lrng, xs_ret_dzip, xs_ret_cnt, xs_ret_lset, xs_ret_cst, xs_ret_gl, xs_ret_bin, xs_ret_cmp, xs_ret_chain, xs_ret_isN, xs_ret_notN, xs_ret_neg, xs_ret_nt, xs_ret_an, xs_ret_orr, xs_ret_ife, xs_ret_ix, xs_ret_sl, xs_ret_rev, xs_ret_tup, xs_ret_lst, xs_ret_dct, xs_ret_bi, xs_ret_isi, xs_ret_call, xs_ret_callM, xs_ret_callT, xs_ret_mu, xs_ret_lc, xs_ret_lcf, ifsK_t, ifsK_f, xs_ifs, exK_a, xs_ex, frK1_a, frK_none, chK4_a, chK3_t, chK3_f, chK2_a, chK1_a, ev_chain, isNK_n, isNK_i, isNK_t, isNK_l, lcLK2_s, lcLK2_n, lcLK1_a, lcL_c, lcL_n, gt_s, st_s, asgT_nm, as2_some, asgT_tp, asgTs_nil, asgTs_cons, rlsAll_nil, rlsAll_d, rlsAll_v, abK_some, frcB_a, frcK_a, xs_frc, frR_nx, frR_ret, wipeD_nil, wipeD_cons, backD_nil, backD_cons, gt_0, st_0, rls_e, ownL_e, Option.map_some, Option.isSome_some, if_true, List.isEmpty_nil, lstK_0, lstK_1, lstK_2, lstK_3, lstK_4, lstK_5, lstK_6, tupK_0, tupK_1, tupK_2, tupK_3, tupK_4, noV_nil, noV_d, noV_1, noV_2, noV_3, noV_4, noV_5, noV_6, noV_7, noV_8, ite_tt, and_self, List.cons_append, List.nil_append, iL_1, pl_int, pl_bool, pl_none, pl_str, pl_list, pl_dict, Bool.false_eq_true, if_false, Bool.not_true, Bool.not_false, b_add, b_sub, c_eq, c_ne, c_lt, c_le, c_gt, c_ge, t4, q.len, tn, ep, io, c0', c1']
      exact fin_ret ⟨ps, _, rfl, rfl, rfl, hs, rfl⟩
    · have c1' : (x % 4 == 1) = false := by simpa using c1
      have hmem : o ∈ ps := List.mem_of_getElem? go
      have m61 : 0 ≤ x / 4 / (ps.length : Int) % 61 ∧ x / 4 / (ps.length : Int) % 61 < 61 := ⟨Int.emod_nonneg _ (by decide), Int.emod_lt_of_pos _ (by decide)⟩
      obtain ⟨y1, ey⟩ : ∃ y1 : Int, o.2 + x / 4 / (ps.length : Int) % 61 - 30 = y1 + ((0 : Nat) : Int) := ⟨o.2 + x / 4 / (ps.length : Int) % 61 - 30, by simp⟩
      obtain ⟨n, hn, hfr, hnf⟩ := near_free' (rest_rise hs.rise hpl) o.1 y1
      have hrl : (rest ps p).length ≤ 24 := by
        unfold rest
        rw [List.length_append, List.length_take, List.length_drop]; omega
      have hn2 : n ≤ 576 := Nat.le_trans hn (Nat.mul_le_mul hrl hrl)
      have qr := seqT (ps := rest ps p) (by omega) fun a ha => hs.sm a (rest_mem ha)
      have smy : ∀ j : Nat, j ≤ n → Sm (o.1, y1 + (j : Int)) := fun j hj => by
        obtain ⟨b1, b2⟩ := hbd o hmem
        have hj2 : Bd 10 ((x / 4 / (ps.length : Int) % 61) - 30 + (j : Int)) := Bd.of (by omega) (by omega)
        have : y1 + (j : Int) = o.2 + ((x / 4 / (ps.length : Int) % 61) - 30 + (j : Int)) := by omega
        refine ⟨b1.mono (by decide), ?_⟩
        show Bd 2000 (y1 + (j : Int))
        rw [this]
        exact (b2.add hj2).mono (by decide)
      have cf : ∀ j : Nat, j < n → cl (Str.ofString "_law_free") [encT (rest ps p), .tuple [.int o.1, .int (y1 + (j : Int))]] = .ok (.bool false) false .none := fun j hj => by
        rcases hf _ _ (o.1, y1 + (j : Int)) qr (smy j (by omega)) with ⟨z, _⟩ | ⟨_, z⟩
        · exact absurd z (hnf j hj)
        · exact z
      have ct : cl (Str.ofString "_law_free") [encT (rest ps p), .tuple [.int o.1, .int (y1 + (n : Int))]] = .ok (.bool true) false .none := by
        rcases hf _ _ (o.1, y1 + (n : Int)) qr (smy n (Nat.le_refl _)) with ⟨_, z⟩ | ⟨z, _⟩
        · exact z
        · exact absurd hfr z
      have s1 : slD (encT ps) none (some (p : Int)) = some (.tuple ((ps.take p).map encP), false) := by
        unfold encT
        rw [sl_to (by rw [List.length_map]; omega), List.map_take]
      have s2 : slD (encT ps) (some ((p : Int) + 1)) none = some (.tuple ((ps.drop (p + 1)).map encP), false) := by
        unfold encT
        have : (p : Int) + 1 = ((p + 1 : Nat) : Int) := by omega
        rw [this, sl_from (by rw [List.length_map]; omega), List.map_drop]
      have a1 : bop .add (.tuple ((ps.take p).map encP)) (.tuple ((ps.drop (p + 1)).map encP)) = some (encT (rest ps p), false) := by
        rw [b_addT (lim_of (by rw [List.length_map, List.length_map, List.length_take, List.length_drop]; omega)), ← List.map_append]; rfl
      have a2 : bop .add (.tuple ((ps.take p).map encP)) (.tuple [.tuple [.int o.1, .int (y1 + (n : Int))]]) = some (.tuple ((ps.take p ++ [(o.1, y1 + (n : Int))]).map encP), false) := by
        rw [b_addT (lim_of (by rw [List.length_map, List.length_take]; simp; omega)), List.map_append]; rfl
      have a3 : bop .add (.tuple ((ps.take p ++ [(o.1, y1 + (n : Int))]).map encP)) (.tuple ((ps.drop (p + 1)).map encP)) = some (encT (ps.set p (o.1, y1 + (n : Int))), false) := by
        rw [b_addT (lim_of (by rw [List.length_map, List.length_map, List.length_append, List.length_take, List.length_drop]; simp; omega)), ← List.map_append, List.append_assoc, List.set_eq_take_append_cons_drop, if_pos hpl]; rfl
      unfold encP at io
      generalize hr : encT (rest ps p) = r at cf ct a1
      simp only [rb_ok, o1_some, o1b_some, o1i_some, f2_some, rvK_some, opK_some, rlK_t, rlK_f, drK_t, drK_f, drp_e, ev_cst, ev_gl, ev_var, opd_var, od_d, od_v, negK_i, tAnd_1, tOr_1, tb_ok, ev_dct, evs_nil, eos_nil, f1_some, oc_some, ods_nil, ods_cons, isiK_some, clK_ok, ca_some, cmK_ok, cm_some, ctK_ok, ctC_some, muK_some, muF2_some, ownK_l, eoo_non, intK_i, slK_some, wkK_some, bwK_some, eit_bor, r1K_i, r2K_i, enK_t, enK_l, lcX_ok, lockI_val, lockI_bor, lockI_rng1, lockI_rng2, lockI_enum, flK_nx, flK_ret, flK_brk, xss_nil, upK_some, ptF_some, ptK_some, rtK_some, xs_retV, xs_brk, asK_some, frB_e, frK_some, xs_fr_val, xs_fr_rng1, xs_fr_rng2, xs_fr_rng3, xs_fr_enum, xs_fr_zip, dk_rng1, dk_rng2, dk_enum, dk_var, dk_cst, dk_gl, dk_bin, dk_cmp, dk_chain, dk_isN, dk_notN, dk_neg, dk_nt, dk_an, dk_orr, dk_ife, dk_ix, dk_sl, dk_rev, dk_tup, dk_lst, dk_dct, dk_bi, dk_isi, dk_call, dk_callM, dk_callT, dk_mu, dk_lc, dk_lcf, whC_a, whB_a, xs_wh, opK0_a, opd_cst, opd_gl, opd_bin, opd_cmp, opd_chain, opd_isN, opd_notN, opd_neg, opd_nt, opd_an, opd_orr, opd_ife, opd_ix, opd_sl, opd_rev, opd_tup, opd_lst, opd_dct, opd_bi, opd_isi, opd_call, opd_callM, opd_callT, opd_mu, opd_lc, opd_lcf, twoL_a, twoK_a, binG_a, cmpG_a, ixG_a, ev_bin, ev_cmp, ev_ix, oneK_a, isNG_a, negG_a, isiG_a, ev_isN, ev_notN, ev_neg, ev_isi, ntK_a, boK_a, ev_nt, ev_an, ev_orr, anK_t, anK_f, orK_t, orK_f, tAnd_2, tOr_2, ifK_t, ifK_f, ev_ife, ev_tup, ev_lst, evsL_a, evsK_a, evs_cons, eosL_a, eosK_a, eos_cons, biK_a, ev_bi, callK_a, ev_call, cmKK_a, lsK_some, lsK1_a, ev_lset, mxK1_a, ev_mxv, opd_mxv, dk_mxv, lrK_some, lrK1_a, ev_lrng, opd_lrng, dk_lrng, cnF_some, cnK_a, isLs_l, ev_cnt, opd_cnt, dk_cnt, dzK2_a, dzK1_a, ev_dzip, opd_dzip, dk_dzip, opd_lset, dk_lset, ev_callM, ctK2_a, ctK1_a, ev_callT, muKK_a, ev_mu, eoK_a, eoo_som, slK3_a, slK2_a, slK1_a, ev_sl, wvK_a, eit_val, r1K1_a, eit_rng1, r2K2_a, r2K1_a, eit_rng2, enK1_a, eit_enum, lcEK_a, lcE_a, lcCK_t, lcCK_f, lcC_a, aoK_some, lcB_a, lcK1_a, ev_lc, lcK2_a, ev_lcf, flC_nx, flC_ret, flC_brk, xss_cons, asgK_a, xs_asg, unpK_a, xs_unp, parK2_a, parK1_a, xs_par, putK2_a, putK1_a, xs_put, retK_a, xs_ret_mxv, xs_ret_lrng, xs_ret_dzip, xs_ret_cnt, xs_ret_lset, xs_ret_cst, xs_ret_gl, xs_ret_bin, xs_ret_cmp, xs_ret_chain, xs_ret_isN, xs_ret_notN, xs_ret_neg, xs_ret_nt, xs_ret_an, xs_ret_orr, xs_ret_ife, xs_ret_ix, xs_ret_sl, xs_ret_rev, xs_ret_tup, xs_ret_lst, xs_ret_dct, xs_ret_bi, xs_ret_isi, xs_ret_call, xs_ret_callM, xs_ret_callT, xs_ret_mu, xs_ret_lc, xs_ret_lcf, ifsK_t, ifsK_f, xs_ifs, exK_a, xs_ex, frK1_a, frK_none, chK4_a, chK3_t, chK3_f, chK2_a, chK1_a, ev_chain, isNK_n, isNK_i, isNK_t, isNK_l, lcLK2_s, lcLK2_n, lcLK1_a, lcL_c, lcL_n, gt_s, st_s, asgT_nm, as2_some, asgT_tp, asgTs_nil, asgTs_cons, rlsAll_nil, rlsAll_d, rlsAll_v, abK_some, frcB_a, frcK_a, xs_frc, frR_nx, frR_ret, wipeD_nil, wipeD_cons, backD_nil, backD_cons, gt_0, st_0, rls_e, ownL_e, Option.map_some, Option.isSome_some, if_true, List.isEmpty_nil, lstK_0, lstK_1, lstK_2, lstK_3, lstK_4, lstK_5, lstK_6, tupK_0, tupK_1, tupK_2, tupK_3, tupK_4, noV_nil, noV_d, noV_1, noV_2, noV_3, noV_4, noV_5, noV_6, noV_7, noV_8, ite_tt, and_self, List.cons_append, List.nil_append, iL_1, pl_int, pl_bool, pl_none, pl_str, pl_list, pl_dict, Bool.false_eq_true, if_false, Bool.not_true, Bool.not_false, b_add, b_sub, c_eq, c_ne, c_lt, c_le, c_gt, c_ge, t4, q.len, tn, ep, io, c0', c1', slK_some, s1, s2, a1, t61, ey]
      rw [whL_upto n most (fun j => [some (.list [.int (x / 4 / (ps.length : Int) / 61)], true), some (encT ps, false), some (.int (x % 4), false), some (.int p, false), some (.int o.1, false), some (.int o.2, false), none, none, some (r, false), some (.int (y1 + (j : Int)), false)])
        (by unfold most; omega) (fun j hj => ⟨by simp only [rb_ok, o1_some, o1b_some, o1i_some, f2_some, rvK_some, opK_some, rlK_t, rlK_f, drK_t, drK_f, drp_e, ev_cst, ev_gl, ev_var, opd_var, od_d, od_v, negK_i, tAnd_1, tOr_1, tb_ok, ev_dct, evs_nil, eos_nil, f1_some, oc_some, ods_nil, ods_cons, isiK_some, clK_ok, ca_some, cmK_ok, cm_some, ctK_ok, ctC_some, muK_some, muF2_some, ownK_l, eoo_non, intK_i, slK_some, wkK_some, bwK_some, eit_bor, r1K_i, r2K_i, enK_t, enK_l, lcX_ok, lockI_val, lockI_bor, lockI_rng1, lockI_rng2, lockI_enum, flK_nx, flK_ret, flK_brk, xss_nil, upK_some, ptF_some, ptK_some, rtK_some, xs_retV, xs_brk, asK_some, frB_e, frK_some, xs_fr_val, xs_fr_rng1, xs_fr_rng2, xs_fr_rng3, xs_fr_enum, xs_fr_zip, dk_rng1, dk_rng2, dk_enum, dk_var, dk_cst, dk_gl, dk_bin, dk_cmp, dk_chain, dk_isN, dk_notN, dk_neg, dk_nt, dk_an, dk_orr, dk_ife, dk_ix, dk_sl, dk_rev, dk_tup, dk_lst, dk_dct, dk_bi, dk_isi, dk_call, dk_callM, dk_callT, dk_mu, dk_lc, dk_lcf, whC_a, whB_a, xs_wh, opK0_a, opd_cst, opd_gl, opd_bin, opd_cmp, opd_chain, opd_isN, opd_notN, opd_neg, opd_nt, opd_an, opd_orr, opd_ife, opd_ix, opd_sl, opd_rev, opd_tup, opd_lst, opd_dct, opd_bi, opd_isi, opd_call, opd_callM, opd_callT, opd_mu, opd_lc, opd_lcf, twoL_a, twoK_a, binG_a, cmpG_a, ixG_a, ev_bin, ev_cmp, ev_ix, oneK_a, isNG_a, negG_a, isiG_a, ev_isN, ev_notN, ev_neg, ev_isi, ntK_a, boK_a, ev_nt, ev_an, ev_orr, anK_t, anK_f, orK_t, orK_f, tAnd_2, tOr_2, ifK_t, ifK_f, ev_ife, ev_tup, ev_lst, evsL_a, evsK_a, evs_cons, eosL_a, eosK_a, eos_cons, biK_a, ev_bi, callK_a, ev_call, cmKK_a, lsK_some, lsK1_a, ev_lset, mxK1_a, ev_mxv, opd_mxv, dk_mxv, lrK_some, lrK1_a, ev_lrng, opd_lrng, dk_lrng, cnF_some, cnK_a, isLs_l, ev_cnt, opd_cnt, dk_cnt, dzK2_a, dzK1_a, ev_dzip, opd_dzip, dk_dzip, opd_lset, dk_lset, ev_callM, ctK2_a, ctK1_a, ev_callT, muKK_a, ev_mu, eoK_a, eoo_som, slK3_a, slK2_a, slK1_a, ev_sl, wvK_a, eit_val, r1K1_a, eit_rng1, r2K2_a, r2K1_a, eit_rng2, enK1_a, eit_enum, lcEK_a, lcE_a, lcCK_t, lcCK_f, lcC_a, aoK_some, lcB_a, lcK1_a, ev_lc, lcK2_a, ev_lcf, flC_nx, flC_ret, flC_brk, xss_cons, asgK_a, xs_asg, unpK_a, xs_unp, parK2_a, parK1_a, xs_par, putK2_a, putK1_a, xs_put, retK_a, xs_ret_mxv, xs_ret_lrng, xs_ret_dzip, xs_ret_cnt, xs_ret_lset, xs_ret_cst, xs_ret_gl, xs_ret_bin, xs_ret_cmp, xs_ret_chain, xs_ret_isN, xs_ret_notN, xs_ret_neg, xs_ret_nt, xs_ret_an, xs_ret_orr, xs_ret_ife, xs_ret_ix, xs_ret_sl, xs_ret_rev, xs_ret_tup, xs_ret_lst, xs_ret_dct, xs_ret_bi, xs_ret_isi, xs_ret_call, xs_ret_callM, xs_ret_callT, xs_ret_mu, xs_ret_lc, xs_ret_lcf, ifsK_t, ifsK_f, xs_ifs, exK_a, xs_ex, frK1_a, frK_none, chK4_a, chK3_t, chK3_f, chK2_a, chK1_a, ev_chain, isNK_n, isNK_i, isNK_t, isNK_l, lcLK2_s, lcLK2_n, lcLK1_a, lcL_c, lcL_n, gt_s, st_s, asgT_nm, as2_some, asgT_tp, asgTs_nil, asgTs_cons, rlsAll_nil, rlsAll_d, rlsAll_v, abK_some, frcB_a, frcK_a, xs_frc, frR_nx, frR_ret, wipeD_nil, wipeD_cons, backD_nil, backD_cons, gt_0, st_0, rls_e, ownL_e, Option.map_some, Option.isSome_some, if_true, List.isEmpty_nil, lstK_0, lstK_1, lstK_2, lstK_3, lstK_4, lstK_5, lstK_6, tupK_0, tupK_1, tupK_2, tupK_3, tupK_4, noV_nil, noV_d, noV_1, noV_2, noV_3, noV_4, noV_5, noV_6, noV_7, noV_8, ite_tt, and_self, List.cons_append, List.nil_append, iL_1, pl_int, pl_bool, pl_none, pl_str, pl_list, pl_dict, Bool.false_eq_true, if_false, Bool.not_true, Bool.not_false, b_add, b_sub, c_eq, c_ne, c_lt, c_le, c_gt, c_ge, cf j hj], by
          simp only [rb_ok, o1_some, o1b_some, o1i_some, f2_some, rvK_some, opK_some, rlK_t, rlK_f, drK_t, drK_f, drp_e, ev_cst, ev_gl, ev_var, opd_var, od_d, od_v, negK_i, tAnd_1, tOr_1, tb_ok, ev_dct, evs_nil, eos_nil, f1_some, oc_some, ods_nil, ods_cons, isiK_some, clK_ok, ca_some, cmK_ok, cm_some, ctK_ok, ctC_some, muK_some, muF2_some, ownK_l, eoo_non, intK_i, slK_some, wkK_some, bwK_some, eit_bor, r1K_i, r2K_i, enK_t, enK_l, lcX_ok, lockI_val, lockI_bor, lockI_rng1, lockI_rng2, lockI_enum, flK_nx, flK_ret, flK_brk, xss_nil, upK_some, ptF_some, ptK_some, rtK_some, xs_retV, xs_brk, asK_some, frB_e, frK_some, xs_fr_val, xs_fr_rng1, xs_fr_rng2, xs_fr_rng3, xs_fr_enum, xs_fr_zip, dk_rng1, dk_rng2, dk_enum, dk_var, dk_cst, dk_gl, dk_bin, dk_cmp, dk_chain, dk_isN, dk_notN, dk_neg, dk_nt, dk_an, dk_orr, dk_ife, dk_ix, dk_sl, dk_rev, dk_tup, dk_lst, dk_dct, dk_bi, dk_isi, dk_call, dk_callM, dk_callT, dk_mu, dk_lc, dk_lcf, whC_a, whB_a, xs_wh, opK0_a, opd_cst, opd_gl, opd_bin, opd_cmp, opd_chain, opd_isN, opd_notN, opd_neg, opd_nt, opd_an, opd_orr, opd_ife, opd_ix, opd_sl, opd_rev, opd_tup, opd_lst, opd_dct, opd_bi, opd_isi, opd_call, opd_callM, opd_callT, opd_mu, opd_lc, opd_lcf, twoL_a, twoK_a, binG_a, cmpG_a, ixG_a, ev_bin, ev_cmp, ev_ix, oneK_a, isNG_a, negG_a, isiG_a, ev_isN, ev_notN, ev_neg, ev_isi, ntK_a, boK_a, ev_nt, ev_an, ev_orr, anK_t, anK_f, orK_t, orK_f, tAnd_2, tOr_2, ifK_t, ifK_f, ev_ife, ev_tup, ev_lst, evsL_a, evsK_a, evs_cons, eosL_a, eosK_a, eos_cons, biK_a, ev_bi, callK_a, ev_call, cmKK_a, lsK_some, lsK1_a, ev_lset, mxK1_a, ev_mxv, opd_mxv, dk_mxv, lrK_some, lrK1_a, ev_lrng, opd_lrng, dk_lrng, cnF_some, cnK_a, isLs_l, ev_cnt, opd_cnt, dk_cnt, dzK2_a, dzK1_a, ev_dzip, opd_dzip, dk_dzip, opd_lset, dk_lset, ev_callM, ctK2_a, ctK1_a, ev_callT, muKK_a, ev_mu, eoK_a, eoo_som, slK3_a, slK2_a, slK1_a, ev_sl, wvK_a, eit_val, r1K1_a, eit_rng1, r2K2_a, r2K1_a, eit_rng2, enK1_a, eit_enum, lcEK_a, lcE_a, lcCK_t, lcCK_f, lcC_a, aoK_some, lcB_a, lcK1_a, ev_lc, lcK2_a, ev_lcf, flC_nx, flC_ret, flC_brk, xss_cons, asgK_a, xs_asg, unpK_a, xs_unp, parK2_a, parK1_a, xs_par, putK2_a, putK1_a, xs_put, retK_a, xs_ret_mxv, xs_ret_lrng, xs_ret_dzip, xs_ret_cnt, xs_ret_lset, xs_ret_cst, xs_ret_gl, xs_ret_bin, xs_ret_cmp, xs_ret_chain, xs_ret_isN, xs_ret_notN, xs_ret_neg, xs_ret_nt, xs_ret_an, xs_ret_orr, xs_ret_ife, xs_ret_ix, xs_ret_sl, xs_ret_rev, xs_ret_tup, xs_ret_lst, xs_ret_dct, xs_ret_bi, xs_ret_isi, xs_ret_call, xs_ret_callM, xs_ret_callT, xs_ret_mu, xs_ret_lc, xs_ret_lcf, ifsK_t, ifsK_f, xs_ifs, exK_a, xs_ex, frK1_a, frK_none, chK4_a, chK3_t, chK3_f, chK2_a, chK1_a, ev_chain, isNK_n, isNK_i, isNK_t, isNK_l, lcLK2_s, lcLK2_n, lcLK1_a, lcL_c, lcL_n, gt_s, st_s, asgT_nm, as2_some, asgT_tp, asgTs_nil, asgTs_cons, rlsAll_nil, rlsAll_d, rlsAll_v, abK_some, frcB_a, frcK_a, xs_frc, frR_nx, frR_ret, wipeD_nil, wipeD_cons, backD_nil, backD_cons, gt_0, st_0, rls_e, ownL_e, Option.map_some, Option.isSome_some, if_true, List.isEmpty_nil, lstK_0, lstK_1, lstK_2, lstK_3, lstK_4, lstK_5, lstK_6, tupK_0, tupK_1, tupK_2, tupK_3, tupK_4, noV_nil, noV_d, noV_1, noV_2, noV_3, noV_4, noV_5, noV_6, noV_7, noV_8, ite_tt, and_self, List.cons_append, List.nil_append, iL_1, pl_int, pl_bool, pl_none, pl_str, pl_list, pl_dict, Bool.false_eq_true, if_false, Bool.not_true, Bool.not_false, b_add, b_sub, c_eq, c_ne, c_lt, c_le, c_gt, c_ge]
          rw [show y1 + ((j + 1 : Nat) : Int) = y1 + (j : Int) + 1 by omega]⟩) (by simp only [rb_ok, o1_some, o1b_some, o1i_some, f2_some, rvK_some, opK_some, rlK_t, rlK_f, drK_t, drK_f, drp_e, ev_cst, ev_gl, ev_var, opd_var, od_d, od_v, negK_i, tAnd_1, tOr_1, tb_ok, ev_dct, evs_nil, eos_nil, f1_some, oc_some, ods_nil, ods_cons, isiK_some, clK_ok, ca_some, cmK_ok, cm_some, ctK_ok, ctC_some, muK_some, muF2_some, ownK_l, eoo_non, intK_i, slK_some, wkK_some, bwK_some, eit_bor, r1K_i, r2K_i, enK_t, enK_l, lcX_ok, lockI_val, lockI_bor, lockI_rng1, lockI_rng2, lockI_enum, flK_nx, flK_ret, flK_brk, xss_nil, upK_some, ptF_some, ptK_some, rtK_some, xs_retV, xs_brk, asK_some, frB_e, frK_some, xs_fr_val, xs_fr_rng1, xs_fr_rng2, xs_fr_rng3, xs_fr_enum, xs_fr_zip, dk_rng1, dk_rng2, dk_enum, dk_var, dk_cst, dk_gl, dk_bin, dk_cmp, dk_chain, dk_isN, dk_notN, dk_neg, dk_nt, dk_an, dk_orr, dk_ife, dk_ix, dk_sl, dk_rev, dk_tup, dk_lst, dk_dct, dk_bi, dk_isi, dk_call, dk_callM, dk_callT, dk_mu, dk_lc, dk_lcf, whC_a, whB_a, xs_wh, opK0_a, opd_cst, opd_gl, opd_bin, opd_cmp, opd_chain, opd_isN, opd_notN, opd_neg, opd_nt, opd_an, opd_orr, opd_ife, opd_ix, opd_sl, opd_rev, opd_tup, opd_lst, opd_dct, opd_bi, opd_isi, opd_call, opd_callM, opd_callT, opd_mu, opd_lc, opd_lcf, twoL_a, twoK_a, binG_a, cmpG_a, ixG_a, ev_bin, ev_cmp, ev_ix, oneK_a, isNG_a, negG_a, isiG_a, ev_isN, ev_notN, ev_neg, ev_isi, ntK_a, boK_a, ev_nt, ev_an, ev_orr, anK_t, anK_f, orK_t, orK_f, tAnd_2, tOr_2, ifK_t, ifK_f, ev_ife, ev_tup, ev_lst, evsL_a, evsK_a, evs_cons, eosL_a, eosK_a, eos_cons, biK_a, ev_bi, callK_a, ev_call, cmKK_a, lsK_some, lsK1_a, ev_lset, mxK1_a, ev_mxv, opd_mxv, dk_mxv, lrK_some, lrK1_a, ev_lrng, opd_lrng, dk_lrng, cnF_some, cnK_a, isLs_l, ev_cnt, opd_cnt, dk_cnt, dzK2_a, dzK1_a, ev_dzip, opd_dzip, dk_dzip, opd_lset, dk_lset, ev_callM, ctK2_a, ctK1_a, ev_callT, muKK_a, ev_mu, eoK_a, eoo_som, slK3_a, slK2_a, slK1_a, ev_sl, wvK_a, eit_val, r1K1_a, eit_rng1, r2K2_a, r2K1_a, eit_rng2, enK1_a, eit_enum, lcEK_a, lcE_a, lcCK_t, lcCK_f, lcC_a, aoK_some, lcB_a, lcK1_a, ev_lc, lcK2_a, ev_lcf, flC_nx, flC_ret, flC_brk, xss_cons, asgK_a, xs_asg, unpK_a, xs_unp, parK2_a, parK1_a, xs_par, putK2_a, putK1_a, xs_put, retK_a, xs_ret_mxv, xs_ret_lrng, xs_ret_dzip, xs_ret_cnt, xs_ret_lset, xs_ret_cst, xs_ret_gl, xs_ret_bin, xs_ret_cmp, xs_ret_chain, xs_ret_isN, xs_ret_notN, xs_ret_neg, xs_ret_nt, xs_ret_an, xs_ret_orr, xs_ret_ife, xs_ret_ix, xs_ret_sl, xs_ret_rev, xs_ret_tup, xs_ret_lst, xs_ret_dct, xs_ret_bi, xs_ret_isi, xs_ret_call, xs_ret_callM, xs_ret_callT, xs_ret_mu, xs_ret_lc, xs_ret_lcf, ifsK_t, ifsK_f, xs_ifs, exK_a, xs_ex, frK1_a, frK_none, chK4_a, chK3_t, chK3_f, chK2_a, chK1_a, ev_chain, isNK_n, isNK_i, isNK_t, isNK_l, lcLK2_s, lcLK2_n, lcLK1_a, lcL_c, lcL_n, gt_s, st_s, asgT_nm, as2_some, asgT_tp, asgTs_nil, asgTs_cons, rlsAll_nil, rlsAll_d, rlsAll_v, abK_some, frcB_a, frcK_a, xs_frc, frR_nx, frR_ret, wipeD_nil, wipeD_cons, backD_nil, backD_cons, gt_0, st_0, rls_e, ownL_e, Option.map_some, Option.isSome_some, if_true, List.isEmpty_nil, lstK_0, lstK_1, lstK_2, lstK_3, lstK_4, lstK_5, lstK_6, tupK_0, tupK_1, tupK_2, tupK_3, tupK_4, noV_nil, noV_d, noV_1, noV_2, noV_3, noV_4, noV_5, noV_6, noV_7, noV_8, ite_tt, and_self, List.cons_append, List.nil_append, iL_1, pl_int, pl_bool, pl_none, pl_str, pl_list, pl_dict, Bool.false_eq_true, if_false, Bool.not_true, Bool.not_false, b_add, b_sub, c_eq, c_ne, c_lt, c_le, c_gt, c_ge, ct])]
      simp only [rb_ok, o1_some, o1b_some, o1i_some, f2_some, rvK_some, opK_some, rlK_t, rlK_f, drK_t, drK_f, drp_e, ev_cst, ev_gl, ev_var, opd_var, od_d, od_v, negK_i, tAnd_1, tOr_1, tb_ok, ev_dct, evs_nil, eos_nil, f1_some, oc_some, ods_nil, ods_cons, isiK_some, clK_ok, ca_some, cmK_ok, cm_some, ctK_ok, ctC_some, muK_some, muF2_some, ownK_l, eoo_non, intK_i, slK_some, wkK_some, bwK_some, eit_bor, r1K_i, r2K_i, enK_t, enK_l, lcX_ok, lockI_val, lockI_bor, lockI_rng1, lockI_rng2, lockI_enum, flK_nx, flK_ret, flK_brk, xss_nil, upK_some, ptF_some, ptK_some, rtK_some, xs_retV, xs_brk, asK_some, frB_e, frK_some, xs_fr_val, xs_fr_rng1, xs_fr_rng2, xs_fr_rng3, xs_fr_enum, xs_fr_zip, dk_rng1, dk_rng2, dk_enum, dk_var, dk_cst, dk_gl, dk_bin, dk_cmp, dk_chain, dk_isN, dk_notN, dk_neg, dk_nt, dk_an, dk_orr, dk_ife, dk_ix, dk_sl, dk_rev, dk_tup, dk_lst, dk_dct, dk_bi, dk_isi, dk_call, dk_callM, dk_callT, dk_mu, dk_lc, dk_lcf, whC_a, whB_a, xs_wh, opK0_a, opd_cst, opd_gl, opd_bin, opd_cmp, opd_chain, opd_isN, opd_notN, opd_neg, opd_nt, opd_an, opd_orr, opd_ife, opd_ix, opd_sl, opd_rev, opd_tup, opd_lst, opd_dct, opd_bi, opd_isi, opd_call, opd_callM, opd_callT, opd_mu, opd_lc, opd_lcf, twoL_a, twoK_a, binG_a, cmpG_a, ixG_a, ev_bin, ev_cmp, ev_ix, oneK_a, isNG_a, negG_a, isiG_a, ev_isN, ev_notN, ev_neg, ev_isi, ntK_a, boK_a, ev_nt, ev_an, ev_orr, anK_t, anK_f, orK_t, orK_f, tAnd_2, tOr_2, ifK_t, ifK_f, ev_ife, ev_tup, ev_lst, evsL_a, evsK_a, evs_cons, eosL_a, eosK_a, eos_cons, biK_a, ev_bi, callK_a, ev_call, cmKK_a, lsK_some, lsK1_a, ev_lset, mxK1_a, ev_mxv, opd_mxv, dk_mxv, lrK_some, lrK1_a, ev_lrng, opd_lrng, dk_lrng, cnF_some, cnK_a, isLs_l, ev_cnt, opd_cnt, dk_cnt, dzK2_a, dzK1_a, ev_dzip, opd_dzip, dk_dzip, opd_lset, dk_lset, ev_callM, ctK2_a, ctK1_a, ev_callT, muKK_a, ev_mu, eoK_a, eoo_som, slK3_a, slK2_a, slK1_a, ev_sl, wvK_a, eit_val, r1K1_a, eit_rng1, r2K2_a, r2K1_a, eit_rng2, enK1_a, eit_enum, lcEK_a, lcE_a, lcCK_t, lcCK_f, lcC_a, aoK_some, lcB_a, lcK1_a, ev_lc, lcK2_a, ev_lcf, flC_nx, flC_ret, flC_brk, xss_cons, asgK_a, xs_asg, unpK_a, xs_unp, parK2_a, parK1_a, xs_par, putK2_a, putK1_a, xs_put, retK_a, xs_ret_mxv, xs_ret_lrng, xs_ret_dzip, xs_ret_cnt, xs_ret_lset, xs_ret_cst, xs_ret_gl, xs_ret_bin, xs_ret_cmp, xs_ret_chain, xs_ret_isN, xs_ret_notN, xs_ret_neg, xs_ret_nt, xs_ret_an, xs_ret_orr, xs_ret_ife, xs_ret_ix, xs_ret_sl, xs_ret_rev, xs_ret_tup, xs_ret_lst, xs_ret_dct, xs_ret_bi, xs_ret_isi, xs_ret_call, xs_ret_callM, xs_ret_callT, xs_ret_mu, xs_ret_lc, xs_ret_lcf, ifsK_t, ifsK_f, xs_ifs, exK_a, xs_ex, frK1_a, frK_none, chK4_a, chK3_t, chK3_f, chK2_a, chK1_a, ev_chain, isNK_n, isNK_i, isNK_t, isNK_l, lcLK2_s, lcLK2_n, lcLK1_a, lcL_c, lcL_n, gt_s, st_s, asgT_nm, as2_some, asgT_tp, asgTs_nil, asgTs_cons, rlsAll_nil, rlsAll_d, rlsAll_v, abK_some, frcB_a, frcK_a, xs_frc, frR_nx, frR_ret, wipeD_nil, wipeD_cons, backD_nil, backD_cons, gt_0, st_0, rls_e, ownL_e, Option.map_some, Option.isSome_some, if_true, List.isEmpty_nil, lstK_0, lstK_1, lstK_2, lstK_3, lstK_4, lstK_5, lstK_6, tupK_0, tupK_1, tupK_2, tupK_3, tupK_4, noV_nil, noV_d, noV_1, noV_2, noV_3, noV_4, noV_5, noV_6, noV_7, noV_8, ite_tt, and_self, List.cons_append, List.nil_append, iL_1, pl_int, pl_bool, pl_none, pl_str, pl_list, pl_dict, Bool.false_eq_true, if_false, Bool.not_true, Bool.not_false, b_add, b_sub, c_eq, c_ne, c_lt, c_le, c_gt, c_ge, s1, s2, a2, a3]
      exact fin_ret ⟨ps.set p (o.1, y1 + (n : Int)), _, rfl, rfl, rfl, hs.lift go rfl (smy n (Nat.le_refl _)) hfr, List.length_set ..⟩
end Bw

set_option maxRecDepth 100000
namespace Bw
open PySem PySem.Spec PyProof.Rows L2
/-! ### ranges downwards, loops that end early, tables by pairs -/
section
variable (cl : Cl) (δ : De)
def r3K (δ : De) : Dt → Dt → Dt → R (List Dt)
  | .int i, .int j, .int k => if big i = true ∧ big j = true ∧ k = -1 then .ok (rngC i (-1) (i - j).toNat) δ else .bad
  | _, _, _ => .bad
theorem r3K_i (i j : Int) : r3K δ (.int i) (.int j) (.int (-1)) = if big i = true ∧ big j = true then .ok (rngC i (-1) (i - j).toNat) δ else .bad := by
  show (if big i = true ∧ big j = true ∧ (-1 : Int) = -1 then R.ok (rngC i (-1) (i - j).toNat) δ else .bad) = _
  simp
def r3K3 (x y : Dt × Bool) : Dt × Bool → De → R (List Dt) := fun z δ3 => r3K δ3 x.1 y.1 z.1
theorem r3K3_a (x y z : Dt × Bool) : r3K3 x y z δ = r3K δ x.1 y.1 z.1 := (rfl)
def r3K2 (c : E) (x : Dt × Bool) : Dt × Bool → De → R (List Dt) := fun y δ2 => (ev cl c δ2).bd (r3K3 x y)
theorem r3K2_a (c : E) (x y : Dt × Bool) : r3K2 cl c x y δ = (ev cl c δ).bd (r3K3 x y) := (rfl)
def r3K1 (b c : E) : Dt × Bool → De → R (List Dt) := fun x δ1 => (ev cl b δ1).bd (r3K2 cl c x)
theorem r3K1_a (b c : E) (x : Dt × Bool) : r3K1 cl b c x δ = (ev cl b δ).bd (r3K2 cl c x) := (rfl)
theorem eit_rng3 (a b c : E) : eit cl (.rng3 a b c) δ = (ev cl a δ).bd (r3K1 cl b c) := by
  show (ev cl a δ).bind _ = (ev cl a δ).bind _
  refine congrArg (R.bind _) (funext fun x => funext fun δ1 => ?_)
  show (ev cl b δ1).bind _ = (ev cl b δ1).bind _
  refine congrArg (R.bind _) (funext fun y => funext fun δ2 => ?_)
  show (ev cl c δ2).bind _ = (ev cl c δ2).bind _
  refine congrArg (R.bind _) (funext fun z => funext fun δ3 => ?_)
  obtain ⟨d, w⟩ := x
  obtain ⟨e, w'⟩ := y
  obtain ⟨f, w''⟩ := z
  cases d <;> cases e <;> cases f <;> rfl
theorem dk_rng3 (a b c : E) : dkOf (.rng3 a b c) δ = none := (rfl)
theorem lockI_rng3 (a b c : E) : lockI (.rng3 a b c) = [] := (rfl)
end
theorem rngC_get {lo : Int} {n i : Nat} {d : Dt} (h : (rngC lo (-1) n)[i]? = some d) : d = .int (lo - i) ∧ i < n := by
  refine ⟨?_, ?_⟩
  · rw [rngC_at n lo i d h]
    congr 1; omega
  · have := (List.getElem?_eq_some_iff.mp h).1
    rwa [rngC_len] at this
theorem big_neg : big (-1) = true := by decide
theorem big_sub {n : Nat} (h : n < 1000000) : big ((n : Int) - 1) = true := by
  unfold big
  rw [decide_eq_true (by omega), decide_eq_true (by omega)]; rfl
theorem bigI {i : Int} (h : -1000000 < i) (h2 : i < 1000000) : big i = true := by
  unfold big
  rw [decide_eq_true (by omega), decide_eq_true (by omega)]; rfl
/-- a loop that may break off -/
theorem frL_until {f : Dt → De → R Fl} (I : Nat → De → Prop) (J : De → Prop) {ds : List Dt} {δ : De} (h0 : I 0 δ) (hs : ∀ i d δ, ds[i]? = some d → I i δ → (∃ δ', f d δ = .ok .nx δ' ∧ I (i + 1) δ') ∨ ∃ δ', f d δ = .ok .brk δ' ∧ J δ') : ∃ δ', frL f ds δ = .ok .nx δ' ∧ (I ds.length δ' ∨ J δ') := by
  induction ds generalizing I δ with
  | nil => exact ⟨δ, rfl, .inl h0⟩
  | cons d ds ih =>
    rcases hs 0 d δ rfl h0 with ⟨δ1, e, h1⟩ | ⟨δ1, e, h1⟩
    · obtain ⟨δ2, e2, h2⟩ := ih (fun i => I (i + 1)) h1 fun i d δ g => hs (i + 1) d δ (by simpa using g)
      exact ⟨δ2, by rw [frL_go e]; exact e2, h2⟩
    · exact ⟨δ1, by rw [frL_cons, e], .inr h1⟩
def frLK (f : Dt → De → R Fl) (ds : List Dt) : Fl → De → R Fl
  | .nx, δ => frL f ds δ
  | .brk, δ => .ok .nx δ
  | .ret d w, δ => .ok (.ret d w) δ
theorem frLK_nx (f : Dt → De → R Fl) (ds : List Dt) (δ : De) : frLK f ds .nx δ = frL f ds δ := (rfl)
theorem frLK_brk (f : Dt → De → R Fl) (ds : List Dt) (δ : De) : frLK f ds .brk δ = .ok .nx δ := (rfl)
theorem frLK_ret (f : Dt → De → R Fl) (ds : List Dt) (d : Dt) (w : Bool) (δ : De) : frLK f ds (.ret d w) δ = .ok (.ret d w) δ := (rfl)
theorem frL_c (f : Dt → De → R Fl) (d : Dt) (ds : List Dt) (δ : De) : frL f (d :: ds) δ = (f d δ).bd (frLK f ds) := by
  rw [frL_cons]
  refine congrArg (R.bind _) (funext fun o => funext fun δ' => ?_)
  cases o <;> rfl
/-- a while by a measure -/
theorem whL_meas {c : De → R Bool} {f : De → R Fl} (I : Nat → De → Prop) (h0 : ∀ δ, I 0 δ → c δ = .ok false δ) (hs : ∀ m δ, I (m + 1) δ → c δ = .ok true δ ∧ ∃ δ', f δ = .ok .nx δ' ∧ I m δ') : ∀ (m fuel : Nat) (δ : De), m < fuel → I m δ → ∃ δ', whL c f fuel δ = .ok .nx δ' ∧ I 0 δ'
  | 0, fuel + 1, δ, _, h => ⟨δ, by
      show ((c δ).bind fun b δ' => if b = true then (f δ').bind fun o δ'' => match o with
        | .nx => whL c f fuel δ''
        | .brk => .ok .nx δ''
        | .ret d w => .ok (.ret d w) δ'' else .ok .nx δ') = _
      rw [h0 δ h]; rfl, h⟩
  | m + 1, fuel + 1, δ, hf, h => by
    obtain ⟨h1, δ1, h2, h3⟩ := hs m δ h
    obtain ⟨δ2, e2, q⟩ := whL_meas I h0 hs m fuel δ1 (by omega) h3
    refine ⟨δ2, ?_, q⟩
    show ((c δ).bind fun b δ' => if b = true then (f δ').bind fun o δ'' => match o with
      | .nx => whL c f fuel δ''
      | .brk => .ok .nx δ''
      | .ret d w => .ok (.ret d w) δ'' else .ok .nx δ') = _
    rw [h1]
    show ((f δ).bind fun o δ'' => match o with
      | .nx => whL c f fuel δ''
      | .brk => .ok .nx δ''
      | .ret d w => .ok (.ret d w) δ'') = _
    rw [h2]
    exact e2
/-- a comprehension whose items are not told by the walked ones alone -/
theorem lcL_ex {α : Type} {enc : α → Dt} {f : Dt → De → R (Option Dt)} (I : De → Prop) (P : α → Prop) {ds : List Dt} {δ : De} (h0 : I δ) (hs : ∀ d δ, d ∈ ds → I δ → ∃ x δ', f d δ = .ok (some (enc x)) δ' ∧ P x ∧ I δ') : ∃ (l : List α) (δ' : De), lcL f ds δ = .ok (l.map enc) δ' ∧ l.length = ds.length ∧ (∀ x ∈ l, P x) ∧ I δ' := by
  induction ds generalizing δ with
  | nil => exact ⟨[], δ, rfl, rfl, fun x hx => (by cases hx), h0⟩
  | cons d ds ih =>
    obtain ⟨x, δ1, e, px, h1⟩ := hs d δ List.mem_cons_self h0
    obtain ⟨l, δ2, e2, hl, hp, h2⟩ := ih h1 fun d δ hd => hs d δ (List.mem_cons_of_mem _ hd)
    refine ⟨x :: l, δ2, ?_, by simp [hl], fun y hy => ?_, h2⟩
    · show ((f d δ).bind fun o δ' => (lcL f ds δ').bind fun r δ'' => match o with
        | some x => .ok (x :: r) δ''
        | none => .ok r δ'') = _
      rw [e]
      show ((lcL f ds δ1).bind fun r δ'' => .ok (enc x :: r) δ'') = _
      rw [e2]; rfl
    · rcases List.mem_cons.mp hy with rfl | hy
      · exact px
      · exact hp y hy
/-! tables -/
abbrev KL := Key ⊕ List Key
def kk (i j : Nat) : KL := .inr [.inl (i : Int), .inl (j : Int)]
def dT (kvs : List (Dt × Dt)) : Dt := .dict ((.bool true, .none) :: kvs)
theorem kk_inj {i j a b : Nat} (h : kk i j = kk a b) : i = a ∧ j = b := by
  unfold kk at h
  injection h with h
  injection h with h1 h2
  injection h2 with h2 h3
  injection h1 with h1
  injection h2 with h2
  omega
theorem findK_map {k : KL} {d : Dt} : ∀ {l : List (Dt × Dt)}, (l.any fun p => decide (toK p.1 = some k)) = true → findK k (l.map fun p => if toK p.1 = some k then (p.1, d) else p) = some d
  | [], h => by cases h
  | (a, e) :: l, h => by
    rw [List.map_cons]
    by_cases c : toK a = some k
    · show findK k ((if toK a = some k then (a, d) else (a, e)) :: _) = _
      rw [if_pos c]
      show (if toK a = some k then some d else _) = _
      rw [if_pos c]
    · show findK k ((if toK a = some k then (a, d) else (a, e)) :: _) = _
      rw [if_neg c]
      show (if toK a = some k then some e else findK k (l.map _)) = _
      rw [if_neg c]
      refine findK_map ?_
      rw [List.any_cons, decide_eq_false c] at h
      exact h
theorem findK_map_ne {k k' : KL} (hk : k' ≠ k) {d : Dt} : ∀ {l : List (Dt × Dt)}, findK k' (l.map fun p => if toK p.1 = some k then (p.1, d) else p) = findK k' l
  | [] => rfl
  | (a, e) :: l => by
    rw [List.map_cons]
    by_cases c : toK a = some k
    · show findK k' ((if toK a = some k then (a, d) else (a, e)) :: _) = _
      rw [if_pos c]
      have c' : toK a ≠ some k' := fun z => hk (by rw [c] at z; injection z with z; exact z.symm)
      show (if toK a = some k' then some d else findK k' (l.map _)) = (if toK a = some k' then some e else findK k' l)
      rw [if_neg c', if_neg c']
      exact findK_map_ne hk
    · show findK k' ((if toK a = some k then (a, d) else (a, e)) :: _) = _
      rw [if_neg c]
      show (if toK a = some k' then some e else findK k' (l.map _)) = (if toK a = some k' then some e else findK k' l)
      rw [findK_map_ne hk]
theorem findK_snoc {k : KL} {kd d : Dt} (hd : toK kd = some k) : ∀ {l : List (Dt × Dt)}, (l.any fun p => decide (toK p.1 = some k)) = false → findK k (l ++ [(kd, d)]) = some d
  | [], _ => by
    show (if toK kd = some k then some d else _) = _
    rw [if_pos hd]
  | (a, e) :: l, h => by
    rw [List.any_cons, Bool.or_eq_false_iff] at h
    have c : ¬ toK a = some k := of_decide_eq_false h.1
    show (if toK a = some k then some e else findK k (l ++ [(kd, d)])) = _
    rw [if_neg c]
    exact findK_snoc hd h.2
theorem findK_snoc_ne {k k' : KL} (hk : k' ≠ k) {kd d : Dt} (hd : toK kd = some k) : ∀ {l : List (Dt × Dt)}, findK k' (l ++ [(kd, d)]) = findK k' l
  | [] => by
    have c : toK kd ≠ some k' := fun z => hk (by rw [hd] at z; injection z with z; exact z.symm)
    show (if toK kd = some k' then some d else none) = none
    rw [if_neg c]
  | (a, e) :: l => by
    show (if toK a = some k' then some e else findK k' (l ++ [(kd, d)])) = (if toK a = some k' then some e else findK k' l)
    rw [findK_snoc_ne hk hd]
theorem findK_put {k : KL} {kd d : Dt} (hd : toK kd = some k) (l : List (Dt × Dt)) : findK k (putD kd d k l) = some d := by
  unfold putD
  by_cases c : (l.any fun p => decide (toK p.1 = some k)) = true
  · rw [if_pos c]; exact findK_map c
  · rw [if_neg c]; exact findK_snoc hd (by simpa using c)
theorem findK_put_ne {k k' : KL} (hk : k' ≠ k) {kd d : Dt} (hd : toK kd = some k) (l : List (Dt × Dt)) : findK k' (putD kd d k l) = findK k' l := by
  unfold putD
  by_cases c : (l.any fun p => decide (toK p.1 = some k)) = true
  · rw [if_pos c]; exact findK_map_ne hk
  · rw [if_neg c]; exact findK_snoc_ne hk hd
theorem putD_len (kd d : Dt) (k : KL) (l : List (Dt × Dt)) : (putD kd d k l).length ≤ l.length + 1 := by
  unfold putD
  by_cases c : (l.any fun p => decide (toK p.1 = some k)) = true
  · rw [if_pos c, List.length_map]; omega
  · rw [if_neg c, List.length_append]; simp
/-- what a table by pairs of places holds -/
def Tab (kvs : List (Dt × Dt)) (F : Nat → Nat → Option Int) : Prop := ∀ i j, findK (kk i j) kvs = (F i j).map PyData.int
def updF (F : Nat → Nat → Option Int) (i j : Nat) (v : Int) : Nat → Nat → Option Int := fun a b => if a = i ∧ b = j then some v else F a b
theorem updF_at (F : Nat → Nat → Option Int) (i j : Nat) (v : Int) : updF F i j v i j = some v := if_pos ⟨rfl, rfl⟩
theorem updF_ne (F : Nat → Nat → Option Int) {i j a b : Nat} (v : Int) (h : ¬ (a = i ∧ b = j)) : updF F i j v a b = F a b := if_neg h
theorem tab_nil : Tab [] fun _ _ => none := fun _ _ => rfl
theorem tab_ix {kvs : List (Dt × Dt)} {F : Nat → Nat → Option Int} (h : Tab kvs F) {i j : Nat} {v : Int} (e : F i j = some v) : ixD (dT kvs) (.tuple [.int i, .int j]) = some (.int v) := by
  have : ixD (dT kvs) (.tuple [.int i, .int j]) = findK (kk i j) kvs := rfl
  rw [this, h i j, e]; rfl
theorem tab_put {kvs : List (Dt × Dt)} {F : Nat → Nat → Option Int} (h : Tab kvs F) (hl : kvs.length < 100000) (i j : Nat) (v : Int) :
    ∃ kvs', putX (dT kvs) (.tuple [.int i, .int j]) (.int v) = some (dT kvs') ∧ Tab kvs' (updF F i j v) ∧ kvs'.length ≤ kvs.length + 1 := by
  refine ⟨putD (.tuple [.int i, .int j]) (.int v) (kk i j) kvs, ?_, fun a b => ?_, putD_len _ _ _ _⟩
  · show (if kvs.length < lim then some (PyData.dict ((.bool true, .none) :: putD (.tuple [.int i, .int j]) (.int v) (kk i j) kvs)) else none) = _
    rw [if_pos (lim_lt (by omega))]; rfl
  · by_cases c : a = i ∧ b = j
    · obtain ⟨rfl, rfl⟩ := c
      rw [findK_put rfl, updF_at]; rfl
    · rw [findK_put_ne (fun z => c (kk_inj z)) rfl, updF_ne _ _ c]
      exact h a b
theorem run_retE {t : Tb} {n : Nat} {f : Str} {df : Df} {as : List Dt} {r : Dt} {w : Bool} (h : t f = some df) (hl : as.length = df.np) (hio : df.io = false) (e : ∃ δ, xss (run t n) df.body (entry df as) = .ok (.ret r w) δ) : run t (n + 1) f as = .ok r w .none := by
  obtain ⟨δ, e⟩ := e
  exact run_ret h hl hio e
end Bw

set_option maxRecDepth 100000
namespace Bw.K56
open PySem PySem.Spec PyProof.Rows L2 Bw
def dlaw : Df := ⟨7, 1, false,
   (.cons (.asg 1 (.call (Str.ofString "_law_box") (.cons (.var 0) (.cons (.cst (.int 0)) .nil))))
    (.cons (.fr (.nm 2) (.rng2 (.cst (.int 1)) (.cst (.int 5))) (.cons (.asg 3 (.call (Str.ofString "all_signs") (.cons (.var 2) .nil)))
    (.cons (.asg 4 (.callM (Str.ofString "_law_take") 1 (.cons (.bi .len (.cons (.var 3) .nil)) .nil)))
    (.cons (.fr (.nm 5) (.val (.bin .add (.sl (.var 3) (.som (.var 4)) .non) (.sl (.var 3) .non (.som (.var 4))))) (.cons (.asg 6 (.call (Str.ofString "sheet_by_signs") (.cons (.var 2) (.cons (.var 5) .nil))))
    (.cons (.ifs (.orr (.cons (.nt (.call (Str.ofString "_law_is_sheet") (.cons (.var 6) .nil))) (.cons (.cmp .ne (.bi .len (.cons (.var 6) .nil)) (.var 2)) (.cons (.cmp .ne (.call (Str.ofString "_law_signs") (.cons (.var 6) .nil)) (.var 5)) .nil)))) (.cons (.ret (.cst (.bool false)))
    .nil) .nil)
    (.cons (.ifs (.cmp .ne (.call (Str.ofString "sheet_by_signs") (.cons (.var 2) (.cons (.var 5) .nil))) (.var 6)) (.cons (.ret (.cst (.bool false)))
    .nil) .nil)
    .nil))))
    .nil))))
    (.cons (.ret (.cst (.bool true)))
    .nil)))⟩
def T : Ts := [(Str.ofString "is_whole", D.is_whole), (Str.ofString "bend", D.bend), (Str.ofString "is_up", D.is_up), (Str.ofString "turn_at", D.turn_at), (Str.ofString "threes_of", D.threes_of), (Str.ofString "fours_of", D.fours_of), (Str.ofString "changes", D.changes), (Str.ofString "need_number", D.need_number), (Str.ofString "signs_good", D.signs_good), (Str.ofString "told_by", D.told_by), (Str.ofString "all_signs", D.all_signs), (Str.ofString "sheet_by_signs", D.sheet_by_signs), (Str.ofString "_law_box", D._law_box_v2), (Str.ofString "_law_take", D._law_take), (Str.ofString "_law_whole", D._law_whole), (Str.ofString "_law_bend", D._law_bend_v2), (Str.ofString "_law_is_sheet", D._law_is_sheet_v2), (Str.ofString "_law_threes", D._law_threes_v2), (Str.ofString "_law_signs", D._law_signs), (Str.ofString "law", dlaw)]
def C : List (Str × Const) := [(Str.ofString "MOST_ALL", .int 5), (Str.ofString "MOST_DRAWN", .int 4)]
end Bw.K56

set_option maxRecDepth 100000
namespace Bw.K56
open PySem PySem.Spec PyProof.Rows L2 Bw
def tI (l : List Int) : Dt := .tuple (l.map PyData.int)
abbrev Cd := run (tabOf T) 29
theorem all1 : Cd (Str.ofString "all_signs") [.int 1] = .ok (.list [tI []]) true .none := by kernel_rfl
def S1_0 : Dt := .tuple [.tuple [.int 0, .int 0]]
theorem a1_0 : Cd (Str.ofString "sheet_by_signs") [.int 1, tI []] = .ok (S1_0) false .none := by kernel_rfl
theorem b1_0 : Cd (Str.ofString "_law_is_sheet") [S1_0] = .ok (.bool true) false .none := by kernel_rfl
theorem c1_0 : Cd (Str.ofString "_law_signs") [S1_0] = .ok (tI []) false .none := by kernel_rfl
theorem all2 : Cd (Str.ofString "all_signs") [.int 2] = .ok (.list [tI []]) true .none := by kernel_rfl
def S2_0 : Dt := .tuple [.tuple [.int 0, .int 0], .tuple [.int 1, .int 0]]
theorem a2_0 : Cd (Str.ofString "sheet_by_signs") [.int 2, tI []] = .ok (S2_0) false .none := by kernel_rfl
theorem b2_0 : Cd (Str.ofString "_law_is_sheet") [S2_0] = .ok (.bool true) false .none := by kernel_rfl
theorem c2_0 : Cd (Str.ofString "_law_signs") [S2_0] = .ok (tI []) false .none := by kernel_rfl
theorem all3 : Cd (Str.ofString "all_signs") [.int 3] = .ok (.list [tI [-1], tI [1]]) true .none := by kernel_rfl
def S3_0 : Dt := .tuple [.tuple [.int 0, .int 0], .tuple [.int 1, .int 0], .tuple [.int 2, .int (-4)]]
theorem a3_0 : Cd (Str.ofString "sheet_by_signs") [.int 3, tI [-1]] = .ok (S3_0) false .none := by kernel_rfl
theorem b3_0 : Cd (Str.ofString "_law_is_sheet") [S3_0] = .ok (.bool true) false .none := by kernel_rfl
theorem c3_0 : Cd (Str.ofString "_law_signs") [S3_0] = .ok (tI [-1]) false .none := by kernel_rfl
def S3_1 : Dt := .tuple [.tuple [.int 0, .int 0], .tuple [.int 1, .int 0], .tuple [.int 2, .int 4]]
theorem a3_1 : Cd (Str.ofString "sheet_by_signs") [.int 3, tI [1]] = .ok (S3_1) false .none := by kernel_rfl
theorem b3_1 : Cd (Str.ofString "_law_is_sheet") [S3_1] = .ok (.bool true) false .none := by kernel_rfl
theorem c3_1 : Cd (Str.ofString "_law_signs") [S3_1] = .ok (tI [1]) false .none := by kernel_rfl
theorem all4 : Cd (Str.ofString "all_signs") [.int 4] = .ok (.list [tI [-1, -1, -1, -1], tI [-1, -1, -1, 1], tI [-1, -1, 1, 1], tI [-1, 1, 1, 1], tI [1, -1, -1, -1], tI [1, 1, -1, -1], tI [1, 1, 1, -1], tI [1, 1, 1, 1]]) true .none := by kernel_rfl
def S4_0 : Dt := .tuple [.tuple [.int 0, .int 0], .tuple [.int 1, .int 0], .tuple [.int 2, .int (-4)], .tuple [.int 3, .int (-9)]]
theorem a4_0 : Cd (Str.ofString "sheet_by_signs") [.int 4, tI [-1, -1, -1, -1]] = .ok (S4_0) false .none := by kernel_rfl
theorem b4_0 : Cd (Str.ofString "_law_is_sheet") [S4_0] = .ok (.bool true) false .none := by kernel_rfl
theorem c4_0 : Cd (Str.ofString "_law_signs") [S4_0] = .ok (tI [-1, -1, -1, -1]) false .none := by kernel_rfl
def S4_1 : Dt := .tuple [.tuple [.int 0, .int 0], .tuple [.int 1, .int 0], .tuple [.int 2, .int (-4)], .tuple [.int 3, .int (-7)]]
theorem a4_1 : Cd (Str.ofString "sheet_by_signs") [.int 4, tI [-1, -1, -1, 1]] = .ok (S4_1) false .none := by kernel_rfl
theorem b4_1 : Cd (Str.ofString "_law_is_sheet") [S4_1] = .ok (.bool true) false .none := by kernel_rfl
theorem c4_1 : Cd (Str.ofString "_law_signs") [S4_1] = .ok (tI [-1, -1, -1, 1]) false .none := by kernel_rfl
def S4_2 : Dt := .tuple [.tuple [.int 0, .int 0], .tuple [.int 1, .int 0], .tuple [.int 2, .int (-4)], .tuple [.int 3, .int (-5)]]
theorem a4_2 : Cd (Str.ofString "sheet_by_signs") [.int 4, tI [-1, -1, 1, 1]] = .ok (S4_2) false .none := by kernel_rfl
theorem b4_2 : Cd (Str.ofString "_law_is_sheet") [S4_2] = .ok (.bool true) false .none := by kernel_rfl
theorem c4_2 : Cd (Str.ofString "_law_signs") [S4_2] = .ok (tI [-1, -1, 1, 1]) false .none := by kernel_rfl
def S4_3 : Dt := .tuple [.tuple [.int 0, .int 0], .tuple [.int 1, .int 0], .tuple [.int 2, .int (-4)], .tuple [.int 3, .int 1]]
theorem a4_3 : Cd (Str.ofString "sheet_by_signs") [.int 4, tI [-1, 1, 1, 1]] = .ok (S4_3) false .none := by kernel_rfl
theorem b4_3 : Cd (Str.ofString "_law_is_sheet") [S4_3] = .ok (.bool true) false .none := by kernel_rfl
theorem c4_3 : Cd (Str.ofString "_law_signs") [S4_3] = .ok (tI [-1, 1, 1, 1]) false .none := by kernel_rfl
def S4_4 : Dt := .tuple [.tuple [.int 0, .int 0], .tuple [.int 1, .int 0], .tuple [.int 2, .int 4], .tuple [.int 3, .int (-1)]]
theorem a4_4 : Cd (Str.ofString "sheet_by_signs") [.int 4, tI [1, -1, -1, -1]] = .ok (S4_4) false .none := by kernel_rfl
theorem b4_4 : Cd (Str.ofString "_law_is_sheet") [S4_4] = .ok (.bool true) false .none := by kernel_rfl
theorem c4_4 : Cd (Str.ofString "_law_signs") [S4_4] = .ok (tI [1, -1, -1, -1]) false .none := by kernel_rfl
def S4_5 : Dt := .tuple [.tuple [.int 0, .int 0], .tuple [.int 1, .int 0], .tuple [.int 2, .int 4], .tuple [.int 3, .int 1]]
theorem a4_5 : Cd (Str.ofString "sheet_by_signs") [.int 4, tI [1, 1, -1, -1]] = .ok (S4_5) false .none := by kernel_rfl
theorem b4_5 : Cd (Str.ofString "_law_is_sheet") [S4_5] = .ok (.bool true) false .none := by kernel_rfl
theorem c4_5 : Cd (Str.ofString "_law_signs") [S4_5] = .ok (tI [1, 1, -1, -1]) false .none := by kernel_rfl
def S4_6 : Dt := .tuple [.tuple [.int 0, .int 0], .tuple [.int 1, .int 0], .tuple [.int 2, .int 4], .tuple [.int 3, .int 7]]
theorem a4_6 : Cd (Str.ofString "sheet_by_signs") [.int 4, tI [1, 1, 1, -1]] = .ok (S4_6) false .none := by kernel_rfl
theorem b4_6 : Cd (Str.ofString "_law_is_sheet") [S4_6] = .ok (.bool true) false .none := by kernel_rfl
theorem c4_6 : Cd (Str.ofString "_law_signs") [S4_6] = .ok (tI [1, 1, 1, -1]) false .none := by kernel_rfl
def S4_7 : Dt := .tuple [.tuple [.int 0, .int 0], .tuple [.int 1, .int 0], .tuple [.int 2, .int 4], .tuple [.int 3, .int 9]]
theorem a4_7 : Cd (Str.ofString "sheet_by_signs") [.int 4, tI [1, 1, 1, 1]] = .ok (S4_7) false .none := by kernel_rfl
theorem b4_7 : Cd (Str.ofString "_law_is_sheet") [S4_7] = .ok (.bool true) false .none := by kernel_rfl
theorem c4_7 : Cd (Str.ofString "_law_signs") [S4_7] = .ok (tI [1, 1, 1, 1]) false .none := by kernel_rfl
/-- what is asked of signs -/
structure Row (cl : Cl) (n : Nat) (r : List Int) : Prop where
  ex : ∃ S, cl (Str.ofString "sheet_by_signs") [.int n, tI r] = .ok S false .none ∧ cl (Str.ofString "_law_is_sheet") [S] = .ok (.bool true) false .none ∧ cl (Str.ofString "_law_signs") [S] = .ok (tI r) false .none ∧ plain S = true ∧ biD .len [S] = some (.int n, false) ∧ SeqAt.shaped S = true ∧ PyData.eqv S S = true
theorem rows1 : ∃ rows : List (List Int), Cd (Str.ofString "all_signs") [.int (1 : Nat)] = .ok (.list (rows.map tI)) true .none ∧ 1 ≤ rows.length ∧ rows.length ≤ 8 ∧ ∀ r ∈ rows, Row Cd 1 r := by
  refine ⟨[[]], all1, by decide, by decide, fun r hr => ?_⟩
  simp only [List.mem_cons, List.not_mem_nil, or_false] at hr
  rcases hr with rfl
  · exact ⟨S1_0, a1_0, b1_0, c1_0, rfl, rfl, by kernel_rfl, by kernel_rfl⟩
theorem rows2 : ∃ rows : List (List Int), Cd (Str.ofString "all_signs") [.int (2 : Nat)] = .ok (.list (rows.map tI)) true .none ∧ 1 ≤ rows.length ∧ rows.length ≤ 8 ∧ ∀ r ∈ rows, Row Cd 2 r := by
  refine ⟨[[]], all2, by decide, by decide, fun r hr => ?_⟩
  simp only [List.mem_cons, List.not_mem_nil, or_false] at hr
  rcases hr with rfl
  · exact ⟨S2_0, a2_0, b2_0, c2_0, rfl, rfl, by kernel_rfl, by kernel_rfl⟩
theorem rows3 : ∃ rows : List (List Int), Cd (Str.ofString "all_signs") [.int (3 : Nat)] = .ok (.list (rows.map tI)) true .none ∧ 1 ≤ rows.length ∧ rows.length ≤ 8 ∧ ∀ r ∈ rows, Row Cd 3 r := by
  refine ⟨[[-1], [1]], all3, by decide, by decide, fun r hr => ?_⟩
  simp only [List.mem_cons, List.not_mem_nil, or_false] at hr
  rcases hr with rfl | rfl
  · exact ⟨S3_0, a3_0, b3_0, c3_0, rfl, rfl, by kernel_rfl, by kernel_rfl⟩
  · exact ⟨S3_1, a3_1, b3_1, c3_1, rfl, rfl, by kernel_rfl, by kernel_rfl⟩
theorem rows4 : ∃ rows : List (List Int), Cd (Str.ofString "all_signs") [.int (4 : Nat)] = .ok (.list (rows.map tI)) true .none ∧ 1 ≤ rows.length ∧ rows.length ≤ 8 ∧ ∀ r ∈ rows, Row Cd 4 r := by
  refine ⟨[[-1, -1, -1, -1], [-1, -1, -1, 1], [-1, -1, 1, 1], [-1, 1, 1, 1], [1, -1, -1, -1], [1, 1, -1, -1], [1, 1, 1, -1], [1, 1, 1, 1]], all4, by decide, by decide, fun r hr => ?_⟩
  simp only [List.mem_cons, List.not_mem_nil, or_false] at hr
  rcases hr with rfl | rfl | rfl | rfl | rfl | rfl | rfl | rfl
  · exact ⟨S4_0, a4_0, b4_0, c4_0, rfl, rfl, by kernel_rfl, by kernel_rfl⟩
  · exact ⟨S4_1, a4_1, b4_1, c4_1, rfl, rfl, by kernel_rfl, by kernel_rfl⟩
  · exact ⟨S4_2, a4_2, b4_2, c4_2, rfl, rfl, by kernel_rfl, by kernel_rfl⟩
  · exact ⟨S4_3, a4_3, b4_3, c4_3, rfl, rfl, by kernel_rfl, by kernel_rfl⟩
  · exact ⟨S4_4, a4_4, b4_4, c4_4, rfl, rfl, by kernel_rfl, by kernel_rfl⟩
  · exact ⟨S4_5, a4_5, b4_5, c4_5, rfl, rfl, by kernel_rfl, by kernel_rfl⟩
  · exact ⟨S4_6, a4_6, b4_6, c4_6, rfl, rfl, by kernel_rfl, by kernel_rfl⟩
  · exact ⟨S4_7, a4_7, b4_7, c4_7, rfl, rfl, by kernel_rfl, by kernel_rfl⟩
theorem shpI (r : List Int) : Shp 1 (tI r) := shp_t fun d hd => by
  obtain ⟨t, _, rfl⟩ := List.mem_map.mp hd
  exact shp_i _
theorem plI (r : List Int) : plain (tI r) = true := by
  show plains (r.map PyData.int) = true
  induction r with
  | nil => rfl
  | cons p l ih =>
    show (plain (PyData.int p) && plains (l.map PyData.int)) = true
    rw [ih]; rfl
theorem sl_toL {xs : List Dt} {k : Nat} (h : k ≤ xs.length) : slD (.list xs) none (some (k : Int)) = some (.list (xs.take k), true) := by
  show some (PyData.list (cutD xs none (some (k : Int))), true) = _
  unfold cutD
  rw [HT.sIx_none, HT.sIx_nat, Nat.min_eq_left h]; simp
theorem sl_fromL {xs : List Dt} {k : Nat} (h : k ≤ xs.length) : slD (.list xs) (some (k : Int)) none = some (.list (xs.drop k), true) := by
  show some (PyData.list (cutD xs (some (k : Int)) none), true) = _
  unfold cutD
  rw [HT.sIx_none, HT.sIx_nat, Nat.min_eq_left h]
  congr 3
  exact List.take_of_length_le (by simp)
structure Fs (cl : Cl) (ns : List Int) : Prop where
  box : ∃ x, cl (Str.ofString "_law_box") [scr ns, .int 0] = .ok (.list [.int x]) true .none
  take : ∀ x k : Int, 0 < k → k < 1073741824 → cl (Str.ofString "_law_take") [.list [.int x], .int k] = .ok (.int (x % k)) false (.list [.int (x / k)])
  rows : ∀ n : Nat, 1 ≤ n → n ≤ 4 → ∃ rows : List (List Int), cl (Str.ofString "all_signs") [.int n] = .ok (.list (rows.map tI)) true .none ∧ 1 ≤ rows.length ∧ rows.length ≤ 8 ∧ ∀ r ∈ rows, Row cl n r
theorem body_ok {cl : Cl} {ns : List Int} (F : Fs cl ns) : RetP (fun d w _ => d = .bool true ∧ w = false) (xss cl dlaw.body (entry dlaw [scr ns])) := by
  obtain ⟨bx0, ebx⟩ := F.box
  have hb1 : big 1 = true := by decide
  have hb5 : big 5 = true := by decide
  have e0 : ((5 : Int) - 1).toNat = 4 := by decide
  simp only [dlaw, entry, List.map_cons, List.map_nil, List.length_cons, List.length_nil, List.replicate, Nat.zero_add, Nat.reduceAdd, Nat.reduceSub, List.replicate_zero, List.cons_append, List.nil_append]
  simp only [rb_ok, o1_some, o1b_some, o1i_some, f2_some, rvK_some, opK_some, rlK_t, rlK_f, drK_t, drK_f, drp_e, ev_cst, ev_gl, ev_var, opd_var, od_d, od_v, negK_i, tAnd_1, tOr_1, tb_ok, ev_dct, evs_nil, eos_nil, f1_some, oc_some, ods_nil, ods_cons, isiK_some, clK_ok, ca_some, cmK_ok, cm_some, ctK_ok, ctC_some, muK_some, muF2_some, ownK_l, eoo_non, intK_i, slK_some, wkK_some, bwK_some, eit_bor, r1K_i, r2K_i, enK_t, enK_l, lcX_ok, lockI_val, lockI_bor, lockI_rng1, lockI_rng2, lockI_enum, flK_nx, flK_ret, flK_brk, xss_nil, upK_some, ptF_some, ptK_some, rtK_some, xs_retV, xs_brk, asK_some, frB_e, frK_some, xs_fr_val, xs_fr_rng1, xs_fr_rng2, xs_fr_rng3, xs_fr_enum, xs_fr_zip, dk_rng1, dk_rng2, dk_enum, dk_var, dk_cst, dk_gl, dk_bin, dk_cmp, dk_chain, dk_isN, dk_notN, dk_neg, dk_nt, dk_an, dk_orr, dk_ife, dk_ix, dk_sl, dk_rev, dk_tup, dk_lst, dk_dct, dk_bi, dk_isi, dk_call, dk_callM, dk_callT, dk_mu, dk_lc, dk_lcf, whC_a, whB_a, xs_wh, opK0_a, opd_cst, opd_gl, opd_bin, opd_cmp, opd_chain, opd_isN, opd_notN, opd_neg, opd_nt, opd_an, opd_orr, opd_ife, opd_ix, opd_sl, opd_rev, opd_tup, opd_lst, opd_dct, opd_bi, opd_isi, opd_call, opd_callM, opd_callT, opd_mu, opd_lc, opd_lcf, twoL_a, twoK_a, binG_a, cmpG_a, ixG_a, ev_bin, ev_cmp, ev_ix, oneK_a, isNG_a, negG_a, isiG_a, ev_isN, ev_notN, ev_neg, ev_isi, ntK_a, boK_a, ev_nt, ev_an, ev_orr, anK_t, anK_f, orK_t, orK_f, tAnd_2, tOr_2, ifK_t, ifK_f, ev_ife, ev_tup, ev_lst, evsL_a, evsK_a, evs_cons, eosL_a, eosK_a, eos_cons, biK_a, ev_bi, callK_a, ev_call, cmKK_a, lsK_some, lsK1_a, ev_lset, mxK1_a, ev_mxv, opd_mxv, dk_mxv, lrK_some, lrK1_a, ev_lrng, opd_lrng, dk_lrng, cnF_some, cnK_a, isLs_l, ev_cnt, opd_cnt, dk_cnt, dzK2_a, dzK1_a, ev_dzip, opd_dzip, dk_dzip, opd_lset, dk_lset, ev_callM, ctK2_a, ctK1_a, ev_callT, muKK_a, ev_mu, eoK_a, eoo_som, slK3_a, slK2_a, slK1_a, ev_sl, wvK_a, eit_val, r1K1_a, eit_rng1, r2K2_a, r2K1_a, eit_rng2, enK1_a, eit_enum, lcEK_a, lcE_a, lcCK_t, lcCK_f, lcC_a, aoK_some, lcB_a, lcK1_a, ev_lc, lcK2_a, ev_lcf, flC_nx, flC_ret, flC_brk, xss_cons, asgK_a, xs_asg, unpK_a, xs_unp, parK2_a, parK1_a, xs_par, putK2_a, putK1_a, xs_put, retK_a, xs_ret_mxv, xs_ret_lrng, xs_ret_dzip, xs_ret_cnt, xs_ret_lset, xs_ret_cst, xs_ret_gl, xs_ret_bin, xs_ret_cmp, xs_ret_chain, xs_ret_isN, xs_ret_notN, xs_ret_neg, xs_ret_nt, xs_ret_an, xs_ret_orr, xs_ret_ife, xs_ret_ix, xs_ret_sl, xs_ret_rev, xs_ret_tup, xs_ret_lst, xs_ret_dct, xs_ret_bi, xs_ret_isi, xs_ret_call, xs_ret_callM, xs_ret_callT, xs_ret_mu, xs_ret_lc, xs_ret_lcf, ifsK_t, ifsK_f, xs_ifs, exK_a, xs_ex, frK1_a, frK_none, chK4_a, chK3_t, chK3_f, chK2_a, chK1_a, ev_chain, isNK_n, isNK_i, isNK_t, isNK_l, lcLK2_s, lcLK2_n, lcLK1_a, lcL_c, lcL_n, gt_s, st_s, asgT_nm, as2_some, asgT_tp, asgTs_nil, asgTs_cons, rlsAll_nil, rlsAll_d, rlsAll_v, abK_some, frcB_a, frcK_a, xs_frc, frR_nx, frR_ret, wipeD_nil, wipeD_cons, backD_nil, backD_cons, gt_0, st_0, rls_e, ownL_e, Option.map_some, Option.isSome_some, if_true, List.isEmpty_nil, lstK_0, lstK_1, lstK_2, lstK_3, lstK_4, lstK_5, lstK_6, tupK_0, tupK_1, tupK_2, tupK_3, tupK_4, noV_nil, noV_d, noV_1, noV_2, noV_3, noV_4, noV_5, noV_6, noV_7, noV_8, ite_tt, and_self, List.cons_append, List.nil_append, iL_1, pl_int, pl_bool, pl_none, pl_str, pl_list, pl_dict, Bool.false_eq_true, if_false, Bool.not_true, Bool.not_false, b_add, b_sub, c_eq, c_ne, c_lt, c_le, c_gt, c_ge, r3K_i, r3K3_a, r3K2_a, r3K1_a, eit_rng3, dk_rng3, lockI_rng3, big_neg, ebx, pl_list, hb1, hb5, e0]
  refine ret_for (fun i δ => ∃ (bx : Int) (x2 x3 x4 x5 x6 : Option (Dt × Bool)), δ = [some (scr ns, false), some (.list [.int bx], true), x2, x3, x4, x5, x6]) ⟨bx0, none, none, none, none, none, rfl⟩ ?_ ?_
  · rintro i d δ hd ⟨bx, x2, x3, x4, x5, x6, rfl⟩
    obtain ⟨rfl, hi⟩ := rngL_get hd
    obtain ⟨n, hn⟩ : ∃ n : Nat, n = 1 + i := ⟨_, rfl⟩
    have en : (1 : Int) + (i : Int) = (n : Int) := by omega
    rw [en]
    obtain ⟨rows, ea, h1, h8, hrow⟩ := F.rows n (by omega) (by omega)
    have hlen : biD .len [.list (rows.map tI)] = some (.int rows.length, false) := by rw [d_len, List.length_map]
    have tk := F.take bx rows.length (by omega) (by omega)
    have m0 := Int.emod_nonneg bx (show (rows.length : Int) ≠ 0 by omega)
    have m1 := Int.emod_lt_of_pos bx (show (0 : Int) < rows.length by omega)
    obtain ⟨a, hA⟩ : ∃ a : Nat, bx % (rows.length : Int) = a := ⟨(bx % (rows.length : Int)).toNat, by omega⟩
    have s1 : slD (.list (rows.map tI)) (some (a : Int)) none = some (.list ((rows.drop a).map tI), true) := by
      rw [sl_fromL (by rw [List.length_map]; omega), List.map_drop]
    have s2 : slD (.list (rows.map tI)) none (some (a : Int)) = some (.list ((rows.take a).map tI), true) := by
      rw [sl_toL (by rw [List.length_map]; omega), List.map_take]
    have ad : bop .add (.list ((rows.drop a).map tI)) (.list ((rows.take a).map tI)) = some (.list ((rows.drop a ++ rows.take a).map tI), true) := by
      rw [b_addL (lim_of (by rw [List.length_map, List.length_map, List.length_drop, List.length_take]; omega)), List.map_append]
    simp only [rb_ok, o1_some, o1b_some, o1i_some, f2_some, rvK_some, opK_some, rlK_t, rlK_f, drK_t, drK_f, drp_e, ev_cst, ev_gl, ev_var, opd_var, od_d, od_v, negK_i, tAnd_1, tOr_1, tb_ok, ev_dct, evs_nil, eos_nil, f1_some, oc_some, ods_nil, ods_cons, isiK_some, clK_ok, ca_some, cmK_ok, cm_some, ctK_ok, ctC_some, muK_some, muF2_some, ownK_l, eoo_non, intK_i, slK_some, wkK_some, bwK_some, eit_bor, r1K_i, r2K_i, enK_t, enK_l, lcX_ok, lockI_val, lockI_bor, lockI_rng1, lockI_rng2, lockI_enum, flK_nx, flK_ret, flK_brk, xss_nil, upK_some, ptF_some, ptK_some, rtK_some, xs_retV, xs_brk, asK_some, frB_e, frK_some, xs_fr_val, xs_fr_rng1, xs_fr_rng2, xs_fr_rng3, xs_fr_enum, xs_fr_zip, dk_rng1, dk_rng2, dk_enum, dk_var, dk_cst, dk_gl, dk_bin, dk_cmp, dk_chain, dk_isN, dk_notN, dk_neg, dk_nt, dk_an, dk_orr, dk_ife, dk_ix, dk_sl, dk_rev, dk_tup, dk_lst, dk_dct, dk_bi, dk_isi, dk_call, dk_callM, dk_callT, dk_mu, dk_lc, dk_lcf, whC_a, whB_a, xs_wh, opK0_a, opd_cst, opd_gl, opd_bin, opd_cmp, opd_chain, opd_isN, opd_notN, opd_neg, opd_nt, opd_an, opd_orr, opd_ife, opd_ix, opd_sl, opd_rev, opd_tup, opd_lst, opd_dct, opd_bi, opd_isi, opd_call, opd_callM, opd_callT, opd_mu, opd_lc, opd_lcf, twoL_a, twoK_a, binG_a, cmpG_a, ixG_a, ev_bin, ev_cmp, ev_ix, oneK_a, isNG_a, negG_a, isiG_a, ev_isN, ev_notN, ev_neg, ev_isi, ntK_a, boK_a, ev_nt, ev_an, ev_orr, anK_t, anK_f, orK_t, orK_f, tAnd_2, tOr_2, ifK_t, ifK_f, ev_ife, ev_tup, ev_lst, evsL_a, evsK_a, evs_cons, eosL_a, eosK_a, eos_cons, biK_a, ev_bi, callK_a, ev_call, cmKK_a, lsK_some, lsK1_a, ev_lset, mxK1_a, ev_mxv, opd_mxv, dk_mxv, lrK_some, lrK1_a, ev_lrng, opd_lrng, dk_lrng, cnF_some, cnK_a, isLs_l, ev_cnt, opd_cnt, dk_cnt, dzK2_a, dzK1_a, ev_dzip, opd_dzip, dk_dzip, opd_lset, dk_lset, ev_callM, ctK2_a, ctK1_a, ev_callT, muKK_a, ev_mu, eoK_a, eoo_som, slK3_a, slK2_a, slK1_a, ev_sl, wvK_a, eit_val, r1K1_a, eit_rng1, r2K2_a, r2K1_a, eit_rng2, enK1_a, eit_enum, lcEK_a, lcE_a, lcCK_t, lcCK_f, lcC_a, aoK_some, lcB_a, lcK1_a, ev_lc, lcK2_a, ev_lcf, flC_nx, flC_ret, flC_brk, xss_cons, asgK_a, xs_asg, unpK_a, xs_unp, parK2_a, parK1_a, xs_par, putK2_a, putK1_a, xs_put, retK_a, xs_ret_mxv, xs_ret_lrng, xs_ret_dzip, xs_ret_cnt, xs_ret_lset, xs_ret_cst, xs_ret_gl, xs_ret_bin, xs_ret_cmp, xs_ret_chain, xs_ret_isN, xs_ret_notN, xs_ret_neg, xs_ret_nt, xs_ret_an, xs_ret_orr, xs_ret_ife, xs_ret_ix, xs_ret_sl, xs_ret_rev, xs_ret_tup, xs_ret_lst, xs_ret_dct, xs_ret_bi, xs_ret_isi, xs_ret_call, xs_ret_callM, xs_ret_callT, xs_ret_mu, xs_ret_lc, xs_ret_lcf, ifsK_t, ifsK_f, xs_ifs, exK_a, xs_ex, frK1_a, frK_none, chK4_a, chK3_t, chK3_f, chK2_a, chK1_a, ev_chain, isNK_n, isNK_i, isNK_t, isNK_l, lcLK2_s, lcLK2_n, lcLK1_a, lcL_c, lcL_n, gt_s, st_s, asgT_nm, as2_some, asgT_tp, asgTs_nil, asgTs_cons, rlsAll_nil, rlsAll_d, rlsAll_v, abK_some, frcB_a, frcK_a, xs_frc, frR_nx, frR_ret, wipeD_nil, wipeD_cons, backD_nil, backD_cons, gt_0, st_0, rls_e, ownL_e, Option.map_some, Option.isSome_some, if_true, List.isEmpty_nil, lstK_0, lstK_1, lstK_2, lstK_3, lstK_4, lstK_5, lstK_6, tupK_0, tupK_1, tupK_2, tupK_3, tupK_4, noV_nil, noV_d, noV_1, noV_2, noV_3, noV_4, noV_5, noV_6, noV_7, noV_8, ite_tt, and_self, List.cons_append, List.nil_append, iL_1, pl_int, pl_bool, pl_none, pl_str, pl_list, pl_dict, Bool.false_eq_true, if_false, Bool.not_true, Bool.not_false, b_add, b_sub, c_eq, c_ne, c_lt, c_le, c_gt, c_ge, r3K_i, r3K3_a, r3K2_a, r3K1_a, eit_rng3, dk_rng3, lockI_rng3, big_neg, ea, pl_list, hlen, ownK_l, tk, hA, s1, s2, ad, wd_l]
    refine nr_forL (enc := tI) (l := rows.drop a ++ rows.take a) (fun p δ => ∃ x5 x6 : Option (Dt × Bool), δ = [some (scr ns, false), some (.list [.int (bx / (rows.length : Int))], true), some (.int n, false), some (.list (rows.map tI), true), some (.int a, false), x5, x6]) ⟨x5, x6, rfl⟩ ?_ ?_
    · rintro p r q δ hd' ⟨x5, x6, rfl⟩
      have hr : r ∈ rows := by
        have : r ∈ rows.drop a ++ rows.take a := by rw [hd']; simp
        rcases List.mem_append.mp this with h | h
        · exact List.mem_of_mem_drop h
        · exact List.mem_of_mem_take h
      obtain ⟨S, e1, e2, e3, e4, e5, e6, e7⟩ := (hrow r hr).ex
      have ne := c_neR (shpI r) (by decide)
      have neS : cop .ne S S = some false := by
        show (if SeqAt.shaped S && SeqAt.shaped S then some (!PyData.eqv S S) else none) = _
        rw [e6, e7]; rfl
      have pr := plI r
      generalize tI r = R at *
      simp only [rb_ok, o1_some, o1b_some, o1i_some, f2_some, rvK_some, opK_some, rlK_t, rlK_f, drK_t, drK_f, drp_e, ev_cst, ev_gl, ev_var, opd_var, od_d, od_v, negK_i, tAnd_1, tOr_1, tb_ok, ev_dct, evs_nil, eos_nil, f1_some, oc_some, ods_nil, ods_cons, isiK_some, clK_ok, ca_some, cmK_ok, cm_some, ctK_ok, ctC_some, muK_some, muF2_some, ownK_l, eoo_non, intK_i, slK_some, wkK_some, bwK_some, eit_bor, r1K_i, r2K_i, enK_t, enK_l, lcX_ok, lockI_val, lockI_bor, lockI_rng1, lockI_rng2, lockI_enum, flK_nx, flK_ret, flK_brk, xss_nil, upK_some, ptF_some, ptK_some, rtK_some, xs_retV, xs_brk, asK_some, frB_e, frK_some, xs_fr_val, xs_fr_rng1, xs_fr_rng2, xs_fr_rng3, xs_fr_enum, xs_fr_zip, dk_rng1, dk_rng2, dk_enum, dk_var, dk_cst, dk_gl, dk_bin, dk_cmp, dk_chain, dk_isN, dk_notN, dk_neg, dk_nt, dk_an, dk_orr, dk_ife, dk_ix, dk_sl, dk_rev, dk_tup, dk_lst, dk_dct, dk_bi, dk_isi, dk_call, dk_callM, dk_callT, dk_mu, dk_lc, dk_lcf, whC_a, whB_a, xs_wh, opK0_a, opd_cst, opd_gl, opd_bin, opd_cmp, opd_chain, opd_isN, opd_notN, opd_neg, opd_nt, opd_an, opd_orr, opd_ife, opd_ix, opd_sl, opd_rev, opd_tup, opd_lst, opd_dct, opd_bi, opd_isi, opd_call, opd_callM, opd_callT, opd_mu, opd_lc, opd_lcf, twoL_a, twoK_a, binG_a, cmpG_a, ixG_a, ev_bin, ev_cmp, ev_ix, oneK_a, isNG_a, negG_a, isiG_a, ev_isN, ev_notN, ev_neg, ev_isi, ntK_a, boK_a, ev_nt, ev_an, ev_orr, anK_t, anK_f, orK_t, orK_f, tAnd_2, tOr_2, ifK_t, ifK_f, ev_ife, ev_tup, ev_lst, evsL_a, evsK_a, evs_cons, eosL_a, eosK_a, eos_cons, biK_a, ev_bi, callK_a, ev_call, cmKK_a, lsK_some, lsK1_a, ev_lset, mxK1_a, ev_mxv, opd_mxv, dk_mxv, lrK_some, lrK1_a, ev_lrng, opd_lrng, dk_lrng, cnF_some, cnK_a, isLs_l, ev_cnt, opd_cnt, dk_cnt, dzK2_a, dzK1_a, ev_dzip, opd_dzip, dk_dzip, opd_lset, dk_lset, ev_callM, ctK2_a, ctK1_a, ev_callT, muKK_a, ev_mu, eoK_a, eoo_som, slK3_a, slK2_a, slK1_a, ev_sl, wvK_a, eit_val, r1K1_a, eit_rng1, r2K2_a, r2K1_a, eit_rng2, enK1_a, eit_enum, lcEK_a, lcE_a, lcCK_t, lcCK_f, lcC_a, aoK_some, lcB_a, lcK1_a, ev_lc, lcK2_a, ev_lcf, flC_nx, flC_ret, flC_brk, xss_cons, asgK_a, xs_asg, unpK_a, xs_unp, parK2_a, parK1_a, xs_par, putK2_a, putK1_a, xs_put, retK_a, xs_ret_mxv, xs_ret_lrng, xs_ret_dzip, xs_ret_cnt, xs_ret_lset, xs_ret_cst, xs_ret_gl, xs_ret_bin, xs_ret_cmp, xs_ret_chain, xs_ret_isN, xs_ret_notN, xs_ret_neg, xs_ret_nt, xs_ret_an, xs_ret_orr, xs_ret_ife, xs_ret_ix, xs_ret_sl, xs_ret_rev, xs_ret_tup, xs_ret_lst, xs_ret_dct, xs_ret_bi, xs_ret_isi, xs_ret_call, xs_ret_callM, xs_ret_callT, xs_ret_mu, xs_ret_lc, xs_ret_lcf, ifsK_t, ifsK_f, xs_ifs, exK_a, xs_ex, frK1_a, frK_none, chK4_a, chK3_t, chK3_f, chK2_a, chK1_a, ev_chain, isNK_n, isNK_i, isNK_t, isNK_l, lcLK2_s, lcLK2_n, lcLK1_a, lcL_c, lcL_n, gt_s, st_s, asgT_nm, as2_some, asgT_tp, asgTs_nil, asgTs_cons, rlsAll_nil, rlsAll_d, rlsAll_v, abK_some, frcB_a, frcK_a, xs_frc, frR_nx, frR_ret, wipeD_nil, wipeD_cons, backD_nil, backD_cons, gt_0, st_0, rls_e, ownL_e, Option.map_some, Option.isSome_some, if_true, List.isEmpty_nil, lstK_0, lstK_1, lstK_2, lstK_3, lstK_4, lstK_5, lstK_6, tupK_0, tupK_1, tupK_2, tupK_3, tupK_4, noV_nil, noV_d, noV_1, noV_2, noV_3, noV_4, noV_5, noV_6, noV_7, noV_8, ite_tt, and_self, List.cons_append, List.nil_append, iL_1, pl_int, pl_bool, pl_none, pl_str, pl_list, pl_dict, Bool.false_eq_true, if_false, Bool.not_true, Bool.not_false, b_add, b_sub, c_eq, c_ne, c_lt, c_le, c_gt, c_ge, r3K_i, r3K3_a, r3K2_a, r3K1_a, eit_rng3, dk_rng3, lockI_rng3, big_neg, pr, e1, e2, e3, e4, e5, ne, neS, bne_self_eq_false, BEq.rfl, Bool.not_true]
      exact nr_nx ⟨_, _, rfl⟩
    · rintro δ ⟨x5, x6, rfl⟩
      simp only [rb_ok, o1_some, o1b_some, o1i_some, f2_some, rvK_some, opK_some, rlK_t, rlK_f, drK_t, drK_f, drp_e, ev_cst, ev_gl, ev_var, opd_var, od_d, od_v, negK_i, tAnd_1, tOr_1, tb_ok, ev_dct, evs_nil, eos_nil, f1_some, oc_some, ods_nil, ods_cons, isiK_some, clK_ok, ca_some, cmK_ok, cm_some, ctK_ok, ctC_some, muK_some, muF2_some, ownK_l, eoo_non, intK_i, slK_some, wkK_some, bwK_some, eit_bor, r1K_i, r2K_i, enK_t, enK_l, lcX_ok, lockI_val, lockI_bor, lockI_rng1, lockI_rng2, lockI_enum, flK_nx, flK_ret, flK_brk, xss_nil, upK_some, ptF_some, ptK_some, rtK_some, xs_retV, xs_brk, asK_some, frB_e, frK_some, xs_fr_val, xs_fr_rng1, xs_fr_rng2, xs_fr_rng3, xs_fr_enum, xs_fr_zip, dk_rng1, dk_rng2, dk_enum, dk_var, dk_cst, dk_gl, dk_bin, dk_cmp, dk_chain, dk_isN, dk_notN, dk_neg, dk_nt, dk_an, dk_orr, dk_ife, dk_ix, dk_sl, dk_rev, dk_tup, dk_lst, dk_dct, dk_bi, dk_isi, dk_call, dk_callM, dk_callT, dk_mu, dk_lc, dk_lcf, whC_a, whB_a, xs_wh, opK0_a, opd_cst, opd_gl, opd_bin, opd_cmp, opd_chain, opd_isN, opd_notN, opd_neg, opd_nt, opd_an, opd_orr, opd_ife, opd_ix, opd_sl, opd_rev, opd_tup, opd_lst, opd_dct, opd_bi, opd_isi, opd_call, opd_callM, opd_callT, opd_mu, opd_lc, opd_lcf, twoL_a, twoK_a, binG_a, cmpG_a, ixG_a, ev_bin, ev_cmp, ev_ix, oneK_a, isNG_a, negG_a, isiG_a, ev_isN, ev_notN, ev_neg, ev_isi, ntK_a, boK_a, ev_nt, ev_an, ev_orr, anK_t, anK_f, orK_t, orK_f, tAnd_2, tOr_2, ifK_t, ifK_f, ev_ife, ev_tup, ev_lst, evsL_a, evsK_a, evs_cons, eosL_a, eosK_a, eos_cons, biK_a, ev_bi, callK_a, ev_call, cmKK_a, lsK_some, lsK1_a, ev_lset, mxK1_a, ev_mxv, opd_mxv, dk_mxv, lrK_some, lrK1_a, ev_lrng, opd_lrng, dk_lrng, cnF_some, cnK_a, isLs_l, ev_cnt, opd_cnt, dk_cnt, dzK2_a, dzK1_a, ev_dzip, opd_dzip, dk_dzip, opd_lset, dk_lset, ev_callM, ctK2_a, ctK1_a, ev_callT, muKK_a, ev_mu, eoK_a, eoo_som, slK3_a, slK2_a, slK1_a, ev_sl, wvK_a, eit_val, r1K1_a, eit_rng1, r2K2_a, r2K1_a, eit_rng2, enK1_a, eit_enum, lcEK_a, lcE_a, lcCK_t, lcCK_f, lcC_a, aoK_some, lcB_a, lcK1_a, ev_lc, lcK2_a, ev_lcf, flC_nx, flC_ret, flC_brk, xss_cons, asgK_a, xs_asg, unpK_a, xs_unp, parK2_a, parK1_a, xs_par, putK2_a, putK1_a, xs_put, retK_a, xs_ret_mxv, xs_ret_lrng, xs_ret_dzip, xs_ret_cnt, xs_ret_lset, xs_ret_cst, xs_ret_gl, xs_ret_bin, xs_ret_cmp, xs_ret_chain, xs_ret_isN, xs_ret_notN, xs_ret_neg, xs_ret_nt, xs_ret_an, xs_ret_orr, xs_ret_ife, xs_ret_ix, xs_ret_sl, xs_ret_rev, xs_ret_tup, xs_ret_lst, xs_ret_dct, xs_ret_bi, xs_ret_isi, xs_ret_call, xs_ret_callM, xs_ret_callT, xs_ret_mu, xs_ret_lc, xs_ret_lcf, ifsK_t, ifsK_f, xs_ifs, exK_a, xs_ex, frK1_a, frK_none, chK4_a, chK3_t, chK3_f, chK2_a, chK1_a, ev_chain, isNK_n, isNK_i, isNK_t, isNK_l, lcLK2_s, lcLK2_n, lcLK1_a, lcL_c, lcL_n, gt_s, st_s, asgT_nm, as2_some, asgT_tp, asgTs_nil, asgTs_cons, rlsAll_nil, rlsAll_d, rlsAll_v, abK_some, frcB_a, frcK_a, xs_frc, frR_nx, frR_ret, wipeD_nil, wipeD_cons, backD_nil, backD_cons, gt_0, st_0, rls_e, ownL_e, Option.map_some, Option.isSome_some, if_true, List.isEmpty_nil, lstK_0, lstK_1, lstK_2, lstK_3, lstK_4, lstK_5, lstK_6, tupK_0, tupK_1, tupK_2, tupK_3, tupK_4, noV_nil, noV_d, noV_1, noV_2, noV_3, noV_4, noV_5, noV_6, noV_7, noV_8, ite_tt, and_self, List.cons_append, List.nil_append, iL_1, pl_int, pl_bool, pl_none, pl_str, pl_list, pl_dict, Bool.false_eq_true, if_false, Bool.not_true, Bool.not_false, b_add, b_sub, c_eq, c_ne, c_lt, c_le, c_gt, c_ge, r3K_i, r3K3_a, r3K2_a, r3K1_a, eit_rng3, dk_rng3, lockI_rng3, big_neg]
      exact nr_nx ⟨_, _, _, _, _, _, rfl⟩
  · rintro δ ⟨bx, x2, x3, x4, x5, x6, rfl⟩
    simp only [rb_ok, o1_some, o1b_some, o1i_some, f2_some, rvK_some, opK_some, rlK_t, rlK_f, drK_t, drK_f, drp_e, ev_cst, ev_gl, ev_var, opd_var, od_d, od_v, negK_i, tAnd_1, tOr_1, tb_ok, ev_dct, evs_nil, eos_nil, f1_some, oc_some, ods_nil, ods_cons, isiK_some, clK_ok, ca_some, cmK_ok, cm_some, ctK_ok, ctC_some, muK_some, muF2_some, ownK_l, eoo_non, intK_i, slK_some, wkK_some, bwK_some, eit_bor, r1K_i, r2K_i, enK_t, enK_l, lcX_ok, lockI_val, lockI_bor, lockI_rng1, lockI_rng2, lockI_enum, flK_nx, flK_ret, flK_brk, xss_nil, upK_some, ptF_some, ptK_some, rtK_some, xs_retV, xs_brk, asK_some, frB_e, frK_some, xs_fr_val, xs_fr_rng1, xs_fr_rng2, xs_fr_rng3, xs_fr_enum, xs_fr_zip, dk_rng1, dk_rng2, dk_enum, dk_var, dk_cst, dk_gl, dk_bin, dk_cmp, dk_chain, dk_isN, dk_notN, dk_neg, dk_nt, dk_an, dk_orr, dk_ife, dk_ix, dk_sl, dk_rev, dk_tup, dk_lst, dk_dct, dk_bi, dk_isi, dk_call, dk_callM, dk_callT, dk_mu, dk_lc, dk_lcf, whC_a, whB_a, xs_wh, opK0_a, opd_cst, opd_gl, opd_bin, opd_cmp, opd_chain, opd_isN, opd_notN, opd_neg, opd_nt, opd_an, opd_orr, opd_ife, opd_ix, opd_sl, opd_rev, opd_tup, opd_lst, opd_dct, opd_bi, opd_isi, opd_call, opd_callM, opd_callT, opd_mu, opd_lc, opd_lcf, twoL_a, twoK_a, binG_a, cmpG_a, ixG_a, ev_bin, ev_cmp, ev_ix, oneK_a, isNG_a, negG_a, isiG_a, ev_isN, ev_notN, ev_neg, ev_isi, ntK_a, boK_a, ev_nt, ev_an, ev_orr, anK_t, anK_f, orK_t, orK_f, tAnd_2, tOr_2, ifK_t, ifK_f, ev_ife, ev_tup, ev_lst, evsL_a, evsK_a, evs_cons, eosL_a, eosK_a, eos_cons, biK_a, ev_bi, callK_a, ev_call, cmKK_a, lsK_some, lsK1_a, ev_lset, mxK1_a, ev_mxv, opd_mxv, dk_mxv, lrK_some, lrK1_a, ev_lrng, opd_lrng, dk_lrng, cnF_some, cnK_a, isLs_l, ev_cnt, opd_cnt, dk_cnt, dzK2_a, dzK1_a, ev_dzip, opd_dzip, dk_dzip, opd_lset, dk_lset, ev_callM, ctK2_a, ctK1_a, ev_callT, muKK_a, ev_mu, eoK_a, eoo_som, slK3_a, slK2_a, slK1_a, ev_sl, wvK_a, eit_val, r1K1_a, eit_rng1, r2K2_a, r2K1_a, eit_rng2, enK1_a, eit_enum, lcEK_a, lcE_a, lcCK_t, lcCK_f, lcC_a, aoK_some, lcB_a, lcK1_a, ev_lc, lcK2_a, ev_lcf, flC_nx, flC_ret, flC_brk, xss_cons, asgK_a, xs_asg, unpK_a, xs_unp, parK2_a, parK1_a, xs_par, putK2_a, putK1_a, xs_put, retK_a, xs_ret_mxv, xs_ret_lrng, xs_ret_dzip, xs_ret_cnt, xs_ret_lset, xs_ret_cst, xs_ret_gl, xs_ret_bin, xs_ret_cmp, xs_ret_chain, xs_ret_isN, xs_ret_notN, xs_ret_neg, xs_ret_nt, xs_ret_an, xs_ret_orr, xs_ret_ife, xs_ret_ix, xs_ret_sl, xs_ret_rev, xs_ret_tup, xs_ret_lst, xs_ret_dct, xs_ret_bi, xs_ret_isi, xs_ret_call, xs_ret_callM, xs_ret_callT, xs_ret_mu, xs_ret_lc, xs_ret_lcf, ifsK_t, ifsK_f, xs_ifs, exK_a, xs_ex, frK1_a, frK_none, chK4_a, chK3_t, chK3_f, chK2_a, chK1_a, ev_chain, isNK_n, isNK_i, isNK_t, isNK_l, lcLK2_s, lcLK2_n, lcLK1_a, lcL_c, lcL_n, gt_s, st_s, asgT_nm, as2_some, asgT_tp, asgTs_nil, asgTs_cons, rlsAll_nil, rlsAll_d, rlsAll_v, abK_some, frcB_a, frcK_a, xs_frc, frR_nx, frR_ret, wipeD_nil, wipeD_cons, backD_nil, backD_cons, gt_0, st_0, rls_e, ownL_e, Option.map_some, Option.isSome_some, if_true, List.isEmpty_nil, lstK_0, lstK_1, lstK_2, lstK_3, lstK_4, lstK_5, lstK_6, tupK_0, tupK_1, tupK_2, tupK_3, tupK_4, noV_nil, noV_d, noV_1, noV_2, noV_3, noV_4, noV_5, noV_6, noV_7, noV_8, ite_tt, and_self, List.cons_append, List.nil_append, iL_1, pl_int, pl_bool, pl_none, pl_str, pl_list, pl_dict, Bool.false_eq_true, if_false, Bool.not_true, Bool.not_false, b_add, b_sub, c_eq, c_ne, c_lt, c_le, c_gt, c_ge, r3K_i, r3K3_a, r3K2_a, r3K1_a, eit_rng3, dk_rng3, lockI_rng3, big_neg]
    exact retP_ok ⟨rfl, rfl⟩
theorem facts (ns : List Int) : Fs (run (tabOf T) 29) ns where
  box := box2_ok (t := tabOf T) (by kernel_rfl) (n := 28) (k := 0) (by omega)
  take x k h0 h1 := take_ok (t := tabOf T) (by kernel_rfl) h0 h1
  rows n h1 h2 := by
    rcases (by omega : n = 1 ∨ n = 2 ∨ n = 3 ∨ n = 4) with rfl | rfl | rfl | rfl
    · exact rows1
    · exact rows2
    · exact rows3
    · exact rows4
theorem truth : LawTrue T 30 := by
  intro ns hn hbits
  obtain ⟨d, w, δ, e, rfl, rfl⟩ := run_retP (t := tabOf T) (n := 29) (f := Str.ofString "law") (df := dlaw) (as := [scr ns]) (by kernel_rfl) rfl rfl (body_ok (cl := run (tabOf T) 29) (facts ns))
  exact ⟨_, e⟩
end Bw.K56

set_option maxRecDepth 100000
namespace Bw.K56
open PySem PySem.Spec PyProof.Rows L2 Bw
def top (i : Nat) : Stmt := PySem.Challenge.pw_bentrows_k56_sheets_by_signs.main.body.getD i (.Pass ⟨0, 0, 0, 0⟩)
theorem mt0 : mSs ⟨["thing"], defScope (top 5), defScope (top 5), ioOf T, gcOf C⟩ D.is_whole.io D.is_whole.body (defBody (top 5)) = true := by decide +kernel
theorem sc0 : FnScope ["thing"] ["thing"] (defScope (top 5)) := ⟨rfl, rfl, rfl, by decide +kernel, rfl, by decide +kernel, by decide +kernel⟩
theorem mt1 : mSs ⟨["one", "two", "three"], defScope (top 6), defScope (top 6), ioOf T, gcOf C⟩ D.bend.io D.bend.body (defBody (top 6)) = true := by decide +kernel
theorem sc1 : FnScope ["one", "two", "three"] ["one", "two", "three"] (defScope (top 6)) := ⟨rfl, rfl, rfl, by decide +kernel, rfl, by decide +kernel, by decide +kernel⟩
theorem mt2 : mSs ⟨["sheet", "i", "j", "k"], defScope (top 7), defScope (top 7), ioOf T, gcOf C⟩ D.is_up.io D.is_up.body (defBody (top 7)) = true := by decide +kernel
theorem sc2 : FnScope ["sheet", "i", "j", "k"] ["sheet", "i", "j", "k"] (defScope (top 7)) := ⟨rfl, rfl, rfl, by decide +kernel, rfl, by decide +kernel, by decide +kernel⟩
theorem mt3 : mSs ⟨["sheet", "i", "j", "k"], defScope (top 8), defScope (top 8), ioOf T, gcOf C⟩ D.turn_at.io D.turn_at.body (defBody (top 8)) = true := by decide +kernel
theorem sc3 : FnScope ["sheet", "i", "j", "k"] ["sheet", "i", "j", "k"] (defScope (top 8)) := ⟨rfl, rfl, rfl, by decide +kernel, rfl, by decide +kernel, by decide +kernel⟩
theorem mt4 : mSs ⟨["many", "found", "i", "j", "k"], defScope (top 12), defScope (top 12), ioOf T, gcOf C⟩ D.threes_of.io D.threes_of.body (defBody (top 12)) = true := by decide +kernel
theorem sc4 : FnScope ["many", "found", "i", "j", "k"] ["many"] (defScope (top 12)) := ⟨rfl, rfl, rfl, by decide +kernel, rfl, by decide +kernel, by decide +kernel⟩
theorem mt5 : mSs ⟨["many", "found", "h", "i", "j", "k"], defScope (top 13), defScope (top 13), ioOf T, gcOf C⟩ D.fours_of.io D.fours_of.body (defBody (top 13)) = true := by decide +kernel
theorem sc5 : FnScope ["many", "found", "h", "i", "j", "k"] ["many"] (defScope (top 13)) := ⟨rfl, rfl, rfl, by decide +kernel, rfl, by decide +kernel, by decide +kernel⟩
theorem mt6 : mSs ⟨["signs", "at"], defScope (top 14), defScope (top 14), ioOf T, gcOf C⟩ D.changes.io D.changes.body (defBody (top 14)) = true := by decide +kernel
theorem sc6 : FnScope ["signs", "at"] ["signs"] (defScope (top 14)) := ⟨rfl, rfl, rfl, by decide +kernel, rfl, by decide +kernel, by decide +kernel⟩
theorem mt7 : mSs ⟨["many", "most"], defScope (top 15), defScope (top 15), ioOf T, gcOf C⟩ D.need_number.io D.need_number.body (defBody (top 15)) = true := by decide +kernel
theorem sc7 : FnScope ["many", "most"] ["many", "most"] (defScope (top 15)) := ⟨rfl, rfl, rfl, by decide +kernel, rfl, by decide +kernel, by decide +kernel⟩
theorem mt8 : mSs ⟨["many", "thing", "threes", "one", "told", "h", "i", "j", "k"], defScope (top 16), defScope (top 16), ioOf T, gcOf C⟩ D.signs_good.io D.signs_good.body (defBody (top 16)) = true := by decide +kernel
theorem sc8 : FnScope ["many", "thing", "threes", "one", "told", "h", "i", "j", "k"] ["many", "thing"] (defScope (top 16)) := ⟨rfl, rfl, rfl, by decide +kernel, rfl, by decide +kernel, by decide +kernel⟩
theorem mt9 : mSs ⟨["many", "signs", "most"], defScope (top 17), defScope (top 17), ioOf T, gcOf C⟩ D.told_by.io D.told_by.body (defBody (top 17)) = true := by decide +kernel
theorem sc9 : FnScope ["many", "signs", "most"] ["many", "signs", "most"] (defScope (top 17)) := ⟨rfl, rfl, rfl, by decide +kernel, rfl, by decide +kernel, by decide +kernel⟩
theorem mt10 : mSs ⟨["many", "rows", "turn", "row"], defScope (top 18), defScope (top 18), ioOf T, gcOf C⟩ D.all_signs.io D.all_signs.body (defBody (top 18)) = true := by decide +kernel
theorem sc10 : FnScope ["many", "rows", "turn", "row"] ["many"] (defScope (top 18)) := ⟨rfl, rfl, rfl, by decide +kernel, rfl, by decide +kernel, by decide +kernel⟩
theorem mt11 : mSs ⟨["many", "signs", "told", "found", "walls", "y", "sheet", "i", "j", "k"], defScope (top 19), defScope (top 19), ioOf T, gcOf C⟩ D.sheet_by_signs.io D.sheet_by_signs.body (defBody (top 19)) = true := by decide +kernel
theorem sc11 : FnScope ["many", "signs", "told", "found", "walls", "y", "sheet", "i", "j", "k"] ["many", "signs"] (defScope (top 19)) := ⟨rfl, rfl, rfl, by decide +kernel, rfl, by decide +kernel, by decide +kernel⟩
theorem mt12 : mSs ⟨["_law_script", "_law_k", "_law_here", "_law_number", "_law_j", "_law_part"], defScope (top 21), defScope (top 21), ioOf T, gcOf C⟩ D._law_box_v2.io D._law_box_v2.body (defBody (top 21)) = true := by decide +kernel
theorem sc12 : FnScope ["_law_script", "_law_k", "_law_here", "_law_number", "_law_j", "_law_part"] ["_law_script", "_law_k"] (defScope (top 21)) := ⟨rfl, rfl, rfl, by decide +kernel, rfl, by decide +kernel, by decide +kernel⟩
theorem mt13 : mSs ⟨["_law_box_here", "_law_many", "_law_left", "_law_digit"], defScope (top 22), defScope (top 22), ioOf T, gcOf C⟩ D._law_take.io D._law_take.body (defBody (top 22)) = true := by decide +kernel
theorem sc13 : FnScope ["_law_box_here", "_law_many", "_law_left", "_law_digit"] ["_law_box_here", "_law_many"] (defScope (top 22)) := ⟨rfl, rfl, rfl, by decide +kernel, rfl, by decide +kernel, by decide +kernel⟩
theorem mt14 : mSs ⟨["_law_thing"], defScope (top 23), defScope (top 23), ioOf T, gcOf C⟩ D._law_whole.io D._law_whole.body (defBody (top 23)) = true := by decide +kernel
theorem sc14 : FnScope ["_law_thing"] ["_law_thing"] (defScope (top 23)) := ⟨rfl, rfl, rfl, by decide +kernel, rfl, by decide +kernel, by decide +kernel⟩
theorem mt15 : mSs ⟨["_law_one", "_law_two", "_law_three", "_law_across"], defScope (top 24), defScope (top 24), ioOf T, gcOf C⟩ D._law_bend_v2.io D._law_bend_v2.body (defBody (top 24)) = true := by decide +kernel
theorem sc15 : FnScope ["_law_one", "_law_two", "_law_three", "_law_across"] ["_law_one", "_law_two", "_law_three"] (defScope (top 24)) := ⟨rfl, rfl, rfl, by decide +kernel, rfl, by decide +kernel, by decide +kernel⟩
theorem mt16 : mSs ⟨["_law_thing", "_law_point", "_law_one", "_law_k", "_law_j", "_law_i"], defScope (top 25), defScope (top 25), ioOf T, gcOf C⟩ D._law_is_sheet_v2.io D._law_is_sheet_v2.body (defBody (top 25)) = true := by decide +kernel
theorem sc16 : FnScope ["_law_thing", "_law_point", "_law_one", "_law_k", "_law_j", "_law_i"] ["_law_thing"] (defScope (top 25)) := ⟨rfl, rfl, rfl, by decide +kernel, rfl, by decide +kernel, by decide +kernel⟩
theorem mt17 : mSs ⟨["_law_many", "_law_found", "_law_i", "_law_j", "_law_k"], defScope (top 26), defScope (top 26), ioOf T, gcOf C⟩ D._law_threes_v2.io D._law_threes_v2.body (defBody (top 26)) = true := by decide +kernel
theorem sc17 : FnScope ["_law_many", "_law_found", "_law_i", "_law_j", "_law_k"] ["_law_many"] (defScope (top 26)) := ⟨rfl, rfl, rfl, by decide +kernel, rfl, by decide +kernel, by decide +kernel⟩
theorem mt18 : mSs ⟨["_law_sheet", "_law_found", "_law_i", "_law_j", "_law_k"], defScope (top 27), defScope (top 27), ioOf T, gcOf C⟩ D._law_signs.io D._law_signs.body (defBody (top 27)) = true := by decide +kernel
theorem sc18 : FnScope ["_law_sheet", "_law_found", "_law_i", "_law_j", "_law_k"] ["_law_sheet"] (defScope (top 27)) := ⟨rfl, rfl, rfl, by decide +kernel, rfl, by decide +kernel, by decide +kernel⟩
theorem mt19 : mSs ⟨["_law_script", "_law_box_here", "_law_many", "_law_every", "_law_at", "_law_signs_here", "_law_found"], defScope (top 28), defScope (top 28), ioOf T, gcOf C⟩ dlaw.io dlaw.body (defBody (top 28)) = true := by decide +kernel
theorem sc19 : FnScope ["_law_script", "_law_box_here", "_law_many", "_law_every", "_law_at", "_law_signs_here", "_law_found"] ["_law_script"] (defScope (top 28)) := ⟨rfl, rfl, rfl, by decide +kernel, rfl, by decide +kernel, by decide +kernel⟩
set_option maxHeartbeats 0 in
theorem all_mk {l : PySem.W.OpenLaw} {w : World} {K : PySem.W.Frag} {h : Heap} {mg : Str → Option Value} {fa : Addr} (X : K.In h) (G : h.Ns mainGlobals mg) (hfa : mg "law" = some (.ref fa))
    {f0 f1 f2 f3 f4 f5 f6 f7 f8 f9 f10 f11 f12 f13 f14 f15 f16 f17 f18 f19 : Addr} {od0 an0 od1 an1 od2 an2 od3 an3 od4 an4 od5 an5 od6 an6 od7 an7 od8 an8 od9 an9 od10 an10 od11 an11 od12 an12 od13 an13 od14 an14 od15 an15 od16 an16 od17 an17 od18 an18 od19 an19 : Option Addr} {sl0 sl1 sl2 sl3 sl4 sl5 sl6 sl7 sl8 sl9 sl10 sl11 sl12 sl13 sl14 sl15 sl16 sl17 sl18 sl19 : Array (Option Value)} {oc0 kV0 dc0 pm0 cd0 ct0 oc1 kV1 dc1 pm1 cd1 ct1 oc2 kV2 dc2 pm2 cd2 ct2 oc3 kV3 dc3 pm3 cd3 ct3 oc4 kV4 dc4 pm4 cd4 ct4 oc5 kV5 dc5 pm5 cd5 ct5 oc6 kV6 dc6 pm6 cd6 ct6 oc7 kV7 dc7 pm7 cd7 ct7 oc8 kV8 dc8 pm8 cd8 ct8 oc9 kV9 dc9 pm9 cd9 ct9 oc10 kV10 dc10 pm10 cd10 ct10 oc11 kV11 dc11 pm11 cd11 ct11 oc12 kV12 dc12 pm12 cd12 ct12 oc13 kV13 dc13 pm13 cd13 ct13 oc14 kV14 dc14 pm14 cd14 ct14 oc15 kV15 dc15 pm15 cd15 ct15 oc16 kV16 dc16 pm16 cd16 ct16 oc17 kV17 dc17 pm17 cd17 ct17 oc18 kV18 dc18 pm18 cd18 ct18 oc19 kV19 dc19 pm19 cd19 ct19 : Value}
    {ct_0 ct_1 : Nat}
    (a0 : PySem.W.nsIn K mainGlobals "is_whole" = some (some (.ref f0))) (l0 : K.lookup f0 = some ⟨oc0, od0, .func (PySem.W.fnOf "is_whole" "is_whole" (defArgs (top 5)) (defBody (top 5)) (defScope (top 5)) .none kV0 dc0 pm0 an0 cd0 ct0), sl0⟩) (c0 : PySem.W.codeIn K cd0 "is_whole" = true) (k0 : PySem.W.keepIn K (.ref f0) = true)
    (a1 : PySem.W.nsIn K mainGlobals "bend" = some (some (.ref f1))) (l1 : K.lookup f1 = some ⟨oc1, od1, .func (PySem.W.fnOf "bend" "bend" (defArgs (top 6)) (defBody (top 6)) (defScope (top 6)) .none kV1 dc1 pm1 an1 cd1 ct1), sl1⟩) (c1 : PySem.W.codeIn K cd1 "bend" = true) (k1 : PySem.W.keepIn K (.ref f1) = true)
    (a2 : PySem.W.nsIn K mainGlobals "is_up" = some (some (.ref f2))) (l2 : K.lookup f2 = some ⟨oc2, od2, .func (PySem.W.fnOf "is_up" "is_up" (defArgs (top 7)) (defBody (top 7)) (defScope (top 7)) .none kV2 dc2 pm2 an2 cd2 ct2), sl2⟩) (c2 : PySem.W.codeIn K cd2 "is_up" = true) (k2 : PySem.W.keepIn K (.ref f2) = true)
    (a3 : PySem.W.nsIn K mainGlobals "turn_at" = some (some (.ref f3))) (l3 : K.lookup f3 = some ⟨oc3, od3, .func (PySem.W.fnOf "turn_at" "turn_at" (defArgs (top 8)) (defBody (top 8)) (defScope (top 8)) .none kV3 dc3 pm3 an3 cd3 ct3), sl3⟩) (c3 : PySem.W.codeIn K cd3 "turn_at" = true) (k3 : PySem.W.keepIn K (.ref f3) = true)
    (a4 : PySem.W.nsIn K mainGlobals "threes_of" = some (some (.ref f4))) (l4 : K.lookup f4 = some ⟨oc4, od4, .func (PySem.W.fnOf "threes_of" "threes_of" (defArgs (top 12)) (defBody (top 12)) (defScope (top 12)) .none kV4 dc4 pm4 an4 cd4 ct4), sl4⟩) (c4 : PySem.W.codeIn K cd4 "threes_of" = true) (k4 : PySem.W.keepIn K (.ref f4) = true)
    (a5 : PySem.W.nsIn K mainGlobals "fours_of" = some (some (.ref f5))) (l5 : K.lookup f5 = some ⟨oc5, od5, .func (PySem.W.fnOf "fours_of" "fours_of" (defArgs (top 13)) (defBody (top 13)) (defScope (top 13)) .none kV5 dc5 pm5 an5 cd5 ct5), sl5⟩) (c5 : PySem.W.codeIn K cd5 "fours_of" = true) (k5 : PySem.W.keepIn K (.ref f5) = true)
    (a6 : PySem.W.nsIn K mainGlobals "changes" = some (some (.ref f6))) (l6 : K.lookup f6 = some ⟨oc6, od6, .func (PySem.W.fnOf "changes" "changes" (defArgs (top 14)) (defBody (top 14)) (defScope (top 14)) .none kV6 dc6 pm6 an6 cd6 ct6), sl6⟩) (c6 : PySem.W.codeIn K cd6 "changes" = true) (k6 : PySem.W.keepIn K (.ref f6) = true)
    (a7 : PySem.W.nsIn K mainGlobals "need_number" = some (some (.ref f7))) (l7 : K.lookup f7 = some ⟨oc7, od7, .func (PySem.W.fnOf "need_number" "need_number" (defArgs (top 15)) (defBody (top 15)) (defScope (top 15)) .none kV7 dc7 pm7 an7 cd7 ct7), sl7⟩) (c7 : PySem.W.codeIn K cd7 "need_number" = true) (k7 : PySem.W.keepIn K (.ref f7) = true)
    (a8 : PySem.W.nsIn K mainGlobals "signs_good" = some (some (.ref f8))) (l8 : K.lookup f8 = some ⟨oc8, od8, .func (PySem.W.fnOf "signs_good" "signs_good" (defArgs (top 16)) (defBody (top 16)) (defScope (top 16)) .none kV8 dc8 pm8 an8 cd8 ct8), sl8⟩) (c8 : PySem.W.codeIn K cd8 "signs_good" = true) (k8 : PySem.W.keepIn K (.ref f8) = true)
    (a9 : PySem.W.nsIn K mainGlobals "told_by" = some (some (.ref f9))) (l9 : K.lookup f9 = some ⟨oc9, od9, .func (PySem.W.fnOf "told_by" "told_by" (defArgs (top 17)) (defBody (top 17)) (defScope (top 17)) .none kV9 dc9 pm9 an9 cd9 ct9), sl9⟩) (c9 : PySem.W.codeIn K cd9 "told_by" = true) (k9 : PySem.W.keepIn K (.ref f9) = true)
    (a10 : PySem.W.nsIn K mainGlobals "all_signs" = some (some (.ref f10))) (l10 : K.lookup f10 = some ⟨oc10, od10, .func (PySem.W.fnOf "all_signs" "all_signs" (defArgs (top 18)) (defBody (top 18)) (defScope (top 18)) .none kV10 dc10 pm10 an10 cd10 ct10), sl10⟩) (c10 : PySem.W.codeIn K cd10 "all_signs" = true) (k10 : PySem.W.keepIn K (.ref f10) = true)
    (a11 : PySem.W.nsIn K mainGlobals "sheet_by_signs" = some (some (.ref f11))) (l11 : K.lookup f11 = some ⟨oc11, od11, .func (PySem.W.fnOf "sheet_by_signs" "sheet_by_signs" (defArgs (top 19)) (defBody (top 19)) (defScope (top 19)) .none kV11 dc11 pm11 an11 cd11 ct11), sl11⟩) (c11 : PySem.W.codeIn K cd11 "sheet_by_signs" = true) (k11 : PySem.W.keepIn K (.ref f11) = true)
    (a12 : PySem.W.nsIn K mainGlobals "_law_box" = some (some (.ref f12))) (l12 : K.lookup f12 = some ⟨oc12, od12, .func (PySem.W.fnOf "_law_box" "_law_box" (defArgs (top 21)) (defBody (top 21)) (defScope (top 21)) .none kV12 dc12 pm12 an12 cd12 ct12), sl12⟩) (c12 : PySem.W.codeIn K cd12 "_law_box" = true) (k12 : PySem.W.keepIn K (.ref f12) = true)
    (a13 : PySem.W.nsIn K mainGlobals "_law_take" = some (some (.ref f13))) (l13 : K.lookup f13 = some ⟨oc13, od13, .func (PySem.W.fnOf "_law_take" "_law_take" (defArgs (top 22)) (defBody (top 22)) (defScope (top 22)) .none kV13 dc13 pm13 an13 cd13 ct13), sl13⟩) (c13 : PySem.W.codeIn K cd13 "_law_take" = true) (k13 : PySem.W.keepIn K (.ref f13) = true)
    (a14 : PySem.W.nsIn K mainGlobals "_law_whole" = some (some (.ref f14))) (l14 : K.lookup f14 = some ⟨oc14, od14, .func (PySem.W.fnOf "_law_whole" "_law_whole" (defArgs (top 23)) (defBody (top 23)) (defScope (top 23)) .none kV14 dc14 pm14 an14 cd14 ct14), sl14⟩) (c14 : PySem.W.codeIn K cd14 "_law_whole" = true) (k14 : PySem.W.keepIn K (.ref f14) = true)
    (a15 : PySem.W.nsIn K mainGlobals "_law_bend" = some (some (.ref f15))) (l15 : K.lookup f15 = some ⟨oc15, od15, .func (PySem.W.fnOf "_law_bend" "_law_bend" (defArgs (top 24)) (defBody (top 24)) (defScope (top 24)) .none kV15 dc15 pm15 an15 cd15 ct15), sl15⟩) (c15 : PySem.W.codeIn K cd15 "_law_bend" = true) (k15 : PySem.W.keepIn K (.ref f15) = true)
    (a16 : PySem.W.nsIn K mainGlobals "_law_is_sheet" = some (some (.ref f16))) (l16 : K.lookup f16 = some ⟨oc16, od16, .func (PySem.W.fnOf "_law_is_sheet" "_law_is_sheet" (defArgs (top 25)) (defBody (top 25)) (defScope (top 25)) .none kV16 dc16 pm16 an16 cd16 ct16), sl16⟩) (c16 : PySem.W.codeIn K cd16 "_law_is_sheet" = true) (k16 : PySem.W.keepIn K (.ref f16) = true)
    (a17 : PySem.W.nsIn K mainGlobals "_law_threes" = some (some (.ref f17))) (l17 : K.lookup f17 = some ⟨oc17, od17, .func (PySem.W.fnOf "_law_threes" "_law_threes" (defArgs (top 26)) (defBody (top 26)) (defScope (top 26)) .none kV17 dc17 pm17 an17 cd17 ct17), sl17⟩) (c17 : PySem.W.codeIn K cd17 "_law_threes" = true) (k17 : PySem.W.keepIn K (.ref f17) = true)
    (a18 : PySem.W.nsIn K mainGlobals "_law_signs" = some (some (.ref f18))) (l18 : K.lookup f18 = some ⟨oc18, od18, .func (PySem.W.fnOf "_law_signs" "_law_signs" (defArgs (top 27)) (defBody (top 27)) (defScope (top 27)) .none kV18 dc18 pm18 an18 cd18 ct18), sl18⟩) (c18 : PySem.W.codeIn K cd18 "_law_signs" = true) (k18 : PySem.W.keepIn K (.ref f18) = true)
    (a19 : PySem.W.nsIn K mainGlobals "law" = some (some (.ref f19))) (l19 : K.lookup f19 = some ⟨oc19, od19, .func (PySem.W.fnOf "law" "law" (defArgs (top 28)) (defBody (top 28)) (defScope (top 28)) .none kV19 dc19 pm19 an19 cd19 ct19), sl19⟩) (c19 : PySem.W.codeIn K cd19 "law" = true) (k19 : PySem.W.keepIn K (.ref f19) = true)
    (cc0 : PySem.W.nsIn K mainGlobals "MOST_ALL" = some (some (.int 5 ct_0)))
    (cc1 : PySem.W.nsIn K mainGlobals "MOST_DRAWN" = some (some (.int 4 ct_1)))
    (z0 : PySem.W.nsIn K mainGlobals "len" = some none)
    (z1 : PySem.W.nsIn K mainGlobals "tuple" = some none)
    (z2 : PySem.W.nsIn K mainGlobals "list" = some none)
    (z3 : PySem.W.nsIn K mainGlobals "max" = some none)
    (z4 : PySem.W.nsIn K mainGlobals "min" = some none)
    (z5 : PySem.W.nsIn K mainGlobals "sorted" = some none)
    (z6 : PySem.W.nsIn K mainGlobals "str" = some none)
    (z7 : PySem.W.nsIn K mainGlobals "divmod" = some none)
    (z8 : PySem.W.nsIn K mainGlobals "all" = some none)
    (z9 : PySem.W.nsIn K mainGlobals "repr" = some none)
    (z10 : PySem.W.nsIn K mainGlobals "abs" = some none)
    (z11 : PySem.W.nsIn K mainGlobals "int" = some none)
    (z12 : PySem.W.nsIn K mainGlobals "isinstance" = some none)
    (z13 : PySem.W.nsIn K mainGlobals "range" = some none)
    (z14 : PySem.W.nsIn K mainGlobals "enumerate" = some none)
    (z15 : PySem.W.nsIn K mainGlobals "zip" = some none)
    (z16 : PySem.W.nsIn K mainGlobals "bool" = some none)
    (z17 : PySem.W.nsIn K mainGlobals "dict" = some none)
    (z18 : PySem.W.nsIn K mainGlobals "set" = some none)
    (tr : LawTrue T 30) :
    ∃ fd : FuncData, (∀ (s : Shared) (v : Value), BindsTo s fd ⟨[v], []⟩ [("_law_script", v)]) ∧ ∀ base : Heap, FnOk l.prog w K mg base (L2.CX l.prog w) 30 fa fd ["_law_script"] (spLaw K) := by
  have e := hfa.symm.trans (PySem.W.mg_of X G a19)
  cases e
  have F0 := fun_mk (st := top 5) l0 c0 k0
  have b0 := F0.binds (ps := ["thing"]) fun _ _ _ _ _ _ us hl => match us, hl with | [_], _ => rfl
  have D0 : DefOk K (tabOf T) (ioOf T) (gcOf C) "is_whole" D.is_whole _ _ ["thing"] := ⟨⟨"is_whole", top 5, ["thing"], F0, sc0, rfl, mt0⟩, rfl, by decide⟩
  have F1 := fun_mk (st := top 6) l1 c1 k1
  have b1 := F1.binds (ps := ["one", "two", "three"]) fun _ _ _ _ _ _ us hl => match us, hl with | [_, _, _], _ => rfl
  have D1 : DefOk K (tabOf T) (ioOf T) (gcOf C) "bend" D.bend _ _ ["one", "two", "three"] := ⟨⟨"bend", top 6, ["one", "two", "three"], F1, sc1, rfl, mt1⟩, rfl, by decide⟩
  have F2 := fun_mk (st := top 7) l2 c2 k2
  have b2 := F2.binds (ps := ["sheet", "i", "j", "k"]) fun _ _ _ _ _ _ us hl => match us, hl with | [_, _, _, _], _ => rfl
  have D2 : DefOk K (tabOf T) (ioOf T) (gcOf C) "is_up" D.is_up _ _ ["sheet", "i", "j", "k"] := ⟨⟨"is_up", top 7, ["sheet", "i", "j", "k"], F2, sc2, rfl, mt2⟩, rfl, by decide⟩
  have F3 := fun_mk (st := top 8) l3 c3 k3
  have b3 := F3.binds (ps := ["sheet", "i", "j", "k"]) fun _ _ _ _ _ _ us hl => match us, hl with | [_, _, _, _], _ => rfl
  have D3 : DefOk K (tabOf T) (ioOf T) (gcOf C) "turn_at" D.turn_at _ _ ["sheet", "i", "j", "k"] := ⟨⟨"turn_at", top 8, ["sheet", "i", "j", "k"], F3, sc3, rfl, mt3⟩, rfl, by decide⟩
  have F4 := fun_mk (st := top 12) l4 c4 k4
  have b4 := F4.binds (ps := ["many"]) fun _ _ _ _ _ _ us hl => match us, hl with | [_], _ => rfl
  have D4 : DefOk K (tabOf T) (ioOf T) (gcOf C) "threes_of" D.threes_of _ _ ["many"] := ⟨⟨"threes_of", top 12, ["many", "found", "i", "j", "k"], F4, sc4, rfl, mt4⟩, rfl, by decide⟩
  have F5 := fun_mk (st := top 13) l5 c5 k5
  have b5 := F5.binds (ps := ["many"]) fun _ _ _ _ _ _ us hl => match us, hl with | [_], _ => rfl
  have D5 : DefOk K (tabOf T) (ioOf T) (gcOf C) "fours_of" D.fours_of _ _ ["many"] := ⟨⟨"fours_of", top 13, ["many", "found", "h", "i", "j", "k"], F5, sc5, rfl, mt5⟩, rfl, by decide⟩
  have F6 := fun_mk (st := top 14) l6 c6 k6
  have b6 := F6.binds (ps := ["signs"]) fun _ _ _ _ _ _ us hl => match us, hl with | [_], _ => rfl
  have D6 : DefOk K (tabOf T) (ioOf T) (gcOf C) "changes" D.changes _ _ ["signs"] := ⟨⟨"changes", top 14, ["signs", "at"], F6, sc6, rfl, mt6⟩, rfl, by decide⟩
  have F7 := fun_mk (st := top 15) l7 c7 k7
  have b7 := F7.binds (ps := ["many", "most"]) fun _ _ _ _ _ _ us hl => match us, hl with | [_, _], _ => rfl
  have D7 : DefOk K (tabOf T) (ioOf T) (gcOf C) "need_number" D.need_number _ _ ["many", "most"] := ⟨⟨"need_number", top 15, ["many", "most"], F7, sc7, rfl, mt7⟩, rfl, by decide⟩
  have F8 := fun_mk (st := top 16) l8 c8 k8
  have b8 := F8.binds (ps := ["many", "thing"]) fun _ _ _ _ _ _ us hl => match us, hl with | [_, _], _ => rfl
  have D8 : DefOk K (tabOf T) (ioOf T) (gcOf C) "signs_good" D.signs_good _ _ ["many", "thing"] := ⟨⟨"signs_good", top 16, ["many", "thing", "threes", "one", "told", "h", "i", "j", "k"], F8, sc8, rfl, mt8⟩, rfl, by decide⟩
  have F9 := fun_mk (st := top 17) l9 c9 k9
  have b9 := F9.binds (ps := ["many", "signs", "most"]) fun _ _ _ _ _ _ us hl => match us, hl with | [_, _, _], _ => rfl
  have D9 : DefOk K (tabOf T) (ioOf T) (gcOf C) "told_by" D.told_by _ _ ["many", "signs", "most"] := ⟨⟨"told_by", top 17, ["many", "signs", "most"], F9, sc9, rfl, mt9⟩, rfl, by decide⟩
  have F10 := fun_mk (st := top 18) l10 c10 k10
  have b10 := F10.binds (ps := ["many"]) fun _ _ _ _ _ _ us hl => match us, hl with | [_], _ => rfl
  have D10 : DefOk K (tabOf T) (ioOf T) (gcOf C) "all_signs" D.all_signs _ _ ["many"] := ⟨⟨"all_signs", top 18, ["many", "rows", "turn", "row"], F10, sc10, rfl, mt10⟩, rfl, by decide⟩
  have F11 := fun_mk (st := top 19) l11 c11 k11
  have b11 := F11.binds (ps := ["many", "signs"]) fun _ _ _ _ _ _ us hl => match us, hl with | [_, _], _ => rfl
  have D11 : DefOk K (tabOf T) (ioOf T) (gcOf C) "sheet_by_signs" D.sheet_by_signs _ _ ["many", "signs"] := ⟨⟨"sheet_by_signs", top 19, ["many", "signs", "told", "found", "walls", "y", "sheet", "i", "j", "k"], F11, sc11, rfl, mt11⟩, rfl, by decide⟩
  have F12 := fun_mk (st := top 21) l12 c12 k12
  have b12 := F12.binds (ps := ["_law_script", "_law_k"]) fun _ _ _ _ _ _ us hl => match us, hl with | [_, _], _ => rfl
  have D12 : DefOk K (tabOf T) (ioOf T) (gcOf C) "_law_box" D._law_box_v2 _ _ ["_law_script", "_law_k"] := ⟨⟨"_law_box", top 21, ["_law_script", "_law_k", "_law_here", "_law_number", "_law_j", "_law_part"], F12, sc12, rfl, mt12⟩, rfl, by decide⟩
  have F13 := fun_mk (st := top 22) l13 c13 k13
  have b13 := F13.binds (ps := ["_law_box_here", "_law_many"]) fun _ _ _ _ _ _ us hl => match us, hl with | [_, _], _ => rfl
  have D13 : DefOk K (tabOf T) (ioOf T) (gcOf C) "_law_take" D._law_take _ _ ["_law_box_here", "_law_many"] := ⟨⟨"_law_take", top 22, ["_law_box_here", "_law_many", "_law_left", "_law_digit"], F13, sc13, rfl, mt13⟩, rfl, by decide⟩
  have F14 := fun_mk (st := top 23) l14 c14 k14
  have b14 := F14.binds (ps := ["_law_thing"]) fun _ _ _ _ _ _ us hl => match us, hl with | [_], _ => rfl
  have D14 : DefOk K (tabOf T) (ioOf T) (gcOf C) "_law_whole" D._law_whole _ _ ["_law_thing"] := ⟨⟨"_law_whole", top 23, ["_law_thing"], F14, sc14, rfl, mt14⟩, rfl, by decide⟩
  have F15 := fun_mk (st := top 24) l15 c15 k15
  have b15 := F15.binds (ps := ["_law_one", "_law_two", "_law_three"]) fun _ _ _ _ _ _ us hl => match us, hl with | [_, _, _], _ => rfl
  have D15 : DefOk K (tabOf T) (ioOf T) (gcOf C) "_law_bend" D._law_bend_v2 _ _ ["_law_one", "_law_two", "_law_three"] := ⟨⟨"_law_bend", top 24, ["_law_one", "_law_two", "_law_three", "_law_across"], F15, sc15, rfl, mt15⟩, rfl, by decide⟩
  have F16 := fun_mk (st := top 25) l16 c16 k16
  have b16 := F16.binds (ps := ["_law_thing"]) fun _ _ _ _ _ _ us hl => match us, hl with | [_], _ => rfl
  have D16 : DefOk K (tabOf T) (ioOf T) (gcOf C) "_law_is_sheet" D._law_is_sheet_v2 _ _ ["_law_thing"] := ⟨⟨"_law_is_sheet", top 25, ["_law_thing", "_law_point", "_law_one", "_law_k", "_law_j", "_law_i"], F16, sc16, rfl, mt16⟩, rfl, by decide⟩
  have F17 := fun_mk (st := top 26) l17 c17 k17
  have b17 := F17.binds (ps := ["_law_many"]) fun _ _ _ _ _ _ us hl => match us, hl with | [_], _ => rfl
  have D17 : DefOk K (tabOf T) (ioOf T) (gcOf C) "_law_threes" D._law_threes_v2 _ _ ["_law_many"] := ⟨⟨"_law_threes", top 26, ["_law_many", "_law_found", "_law_i", "_law_j", "_law_k"], F17, sc17, rfl, mt17⟩, rfl, by decide⟩
  have F18 := fun_mk (st := top 27) l18 c18 k18
  have b18 := F18.binds (ps := ["_law_sheet"]) fun _ _ _ _ _ _ us hl => match us, hl with | [_], _ => rfl
  have D18 : DefOk K (tabOf T) (ioOf T) (gcOf C) "_law_signs" D._law_signs _ _ ["_law_sheet"] := ⟨⟨"_law_signs", top 27, ["_law_sheet", "_law_found", "_law_i", "_law_j", "_law_k"], F18, sc18, rfl, mt18⟩, rfl, by decide⟩
  have F19 := fun_mk (st := top 28) l19 c19 k19
  have b19 := F19.binds (ps := ["_law_script"]) fun _ _ _ _ _ _ us hl => match us, hl with | [_], _ => rfl
  have D19 : DefOk K (tabOf T) (ioOf T) (gcOf C) "law" dlaw _ _ ["_law_script"] := ⟨⟨"law", top 28, ["_law_script", "_law_box_here", "_law_many", "_law_every", "_law_at", "_law_signs_here", "_law_found"], F19, sc19, rfl, mt19⟩, rfl, by decide⟩
  have hall : ∀ p ∈ T, DefAt K mg T C p.1 p.2 := by
    intro p hp
    rcases List.mem_cons.mp hp with rfl | hp
    · exact ⟨_, _, _, D0, PySem.W.mg_of X G a0, k0, b0⟩
    rcases List.mem_cons.mp hp with rfl | hp
    · exact ⟨_, _, _, D1, PySem.W.mg_of X G a1, k1, b1⟩
    rcases List.mem_cons.mp hp with rfl | hp
    · exact ⟨_, _, _, D2, PySem.W.mg_of X G a2, k2, b2⟩
    rcases List.mem_cons.mp hp with rfl | hp
    · exact ⟨_, _, _, D3, PySem.W.mg_of X G a3, k3, b3⟩
    rcases List.mem_cons.mp hp with rfl | hp
    · exact ⟨_, _, _, D4, PySem.W.mg_of X G a4, k4, b4⟩
    rcases List.mem_cons.mp hp with rfl | hp
    · exact ⟨_, _, _, D5, PySem.W.mg_of X G a5, k5, b5⟩
    rcases List.mem_cons.mp hp with rfl | hp
    · exact ⟨_, _, _, D6, PySem.W.mg_of X G a6, k6, b6⟩
    rcases List.mem_cons.mp hp with rfl | hp
    · exact ⟨_, _, _, D7, PySem.W.mg_of X G a7, k7, b7⟩
    rcases List.mem_cons.mp hp with rfl | hp
    · exact ⟨_, _, _, D8, PySem.W.mg_of X G a8, k8, b8⟩
    rcases List.mem_cons.mp hp with rfl | hp
    · exact ⟨_, _, _, D9, PySem.W.mg_of X G a9, k9, b9⟩
    rcases List.mem_cons.mp hp with rfl | hp
    · exact ⟨_, _, _, D10, PySem.W.mg_of X G a10, k10, b10⟩
    rcases List.mem_cons.mp hp with rfl | hp
    · exact ⟨_, _, _, D11, PySem.W.mg_of X G a11, k11, b11⟩
    rcases List.mem_cons.mp hp with rfl | hp
    · exact ⟨_, _, _, D12, PySem.W.mg_of X G a12, k12, b12⟩
    rcases List.mem_cons.mp hp with rfl | hp
    · exact ⟨_, _, _, D13, PySem.W.mg_of X G a13, k13, b13⟩
    rcases List.mem_cons.mp hp with rfl | hp
    · exact ⟨_, _, _, D14, PySem.W.mg_of X G a14, k14, b14⟩
    rcases List.mem_cons.mp hp with rfl | hp
    · exact ⟨_, _, _, D15, PySem.W.mg_of X G a15, k15, b15⟩
    rcases List.mem_cons.mp hp with rfl | hp
    · exact ⟨_, _, _, D16, PySem.W.mg_of X G a16, k16, b16⟩
    rcases List.mem_cons.mp hp with rfl | hp
    · exact ⟨_, _, _, D17, PySem.W.mg_of X G a17, k17, b17⟩
    rcases List.mem_cons.mp hp with rfl | hp
    · exact ⟨_, _, _, D18, PySem.W.mg_of X G a18, k18, b18⟩
    rcases List.mem_cons.mp hp with rfl | hp
    · exact ⟨_, _, _, D19, PySem.W.mg_of X G a19, k19, b19⟩
    exact absurd hp List.not_mem_nil
  have nob : ∀ x ∈ bnames, mg x = none := nob_of X G (by
    intro x hx
    rcases List.mem_cons.mp hx with rfl | hx
    · exact z0
    rcases List.mem_cons.mp hx with rfl | hx
    · exact z1
    rcases List.mem_cons.mp hx with rfl | hx
    · exact z2
    rcases List.mem_cons.mp hx with rfl | hx
    · exact z3
    rcases List.mem_cons.mp hx with rfl | hx
    · exact z4
    rcases List.mem_cons.mp hx with rfl | hx
    · exact z5
    rcases List.mem_cons.mp hx with rfl | hx
    · exact z6
    rcases List.mem_cons.mp hx with rfl | hx
    · exact z7
    rcases List.mem_cons.mp hx with rfl | hx
    · exact z8
    rcases List.mem_cons.mp hx with rfl | hx
    · exact z9
    rcases List.mem_cons.mp hx with rfl | hx
    · exact z10
    rcases List.mem_cons.mp hx with rfl | hx
    · exact z11
    rcases List.mem_cons.mp hx with rfl | hx
    · exact z12
    rcases List.mem_cons.mp hx with rfl | hx
    · exact z13
    rcases List.mem_cons.mp hx with rfl | hx
    · exact z14
    rcases List.mem_cons.mp hx with rfl | hx
    · exact z15
    rcases List.mem_cons.mp hx with rfl | hx
    · exact z16
    rcases List.mem_cons.mp hx with rfl | hx
    · exact z17
    rcases List.mem_cons.mp hx with rfl | hx
    · exact z18
    exact absurd hx List.not_mem_nil)
  have hk : ∀ x k, gcOf C x = some k → (∃ i t, k = .int i ∧ mg x = some (.int i t)) ∨ ∃ s t, k = .str s ∧ mg x = some (.str s t) := by
    intro x k hx
    have hx := PySem.mem_of_lookup hx
    rcases List.mem_cons.mp hx with hx | hx
    · cases hx; exact .inl ⟨_, _, rfl, PySem.W.mg_of X G cc0⟩
    rcases List.mem_cons.mp hx with hx | hx
    · cases hx; exact .inl ⟨_, _, rfl, PySem.W.mg_of X G cc1⟩
    exact absurd hx List.not_mem_nil
  exact ⟨PySem.W.fnOf "law" "law" (defArgs (top 28)) (defBody (top 28)) (defScope (top 28)) .none kV19 dc19 pm19 an19 cd19 ct19, fun s v => .of_eq rfl, fun base => law_fn hall nob hk D19 rfl rfl tr⟩
end Bw.K56
open PySem PySem.W PyProof.Rows
set_option maxRecDepth 100000 in
set_option maxHeartbeats 0 in
theorem PySem.Challenge.cw_bentrows_k56_sheets_by_signs_holds : PySem.Challenge.rw_bentrows_k56_sheets_by_signs.Holds := by
  w_on; o_law; k_head; (case hw => w_witness2)
  k_fill
  refine Bw.law_walk (l := PySem.Challenge.rw_bentrows_k56_sheets_by_signs) (n := 30) (x := "_law_script") rfl rfl ⟨rfl, by decide, by decide⟩ (fun w h Y => PySem.W.kIn_of Y) ?F
  case F =>
    intro w mg fa h KX G hmg
    refine' Bw.K56.all_mk KX G hmg ?a0 ?l0 ?c0 ?k0 ?a1 ?l1 ?c1 ?k1 ?a2 ?l2 ?c2 ?k2 ?a3 ?l3 ?c3 ?k3 ?a4 ?l4 ?c4 ?k4 ?a5 ?l5 ?c5 ?k5 ?a6 ?l6 ?c6 ?k6 ?a7 ?l7 ?c7 ?k7 ?a8 ?l8 ?c8 ?k8 ?a9 ?l9 ?c9 ?k9 ?a10 ?l10 ?c10 ?k10 ?a11 ?l11 ?c11 ?k11 ?a12 ?l12 ?c12 ?k12 ?a13 ?l13 ?c13 ?k13 ?a14 ?l14 ?c14 ?k14 ?a15 ?l15 ?c15 ?k15 ?a16 ?l16 ?c16 ?k16 ?a17 ?l17 ?c17 ?k17 ?a18 ?l18 ?c18 ?k18 ?a19 ?l19 ?c19 ?k19 ?cc0 ?cc1 ?z0 ?z1 ?z2 ?z3 ?z4 ?z5 ?z6 ?z7 ?z8 ?z9 ?z10 ?z11 ?z12 ?z13 ?z14 ?z15 ?z16 ?z17 ?z18 Bw.K56.truth
    (case a0 => k_is)
    (case l0 => k_is)
    (case c0 => k_is)
    (case k0 => k_is)
    (case a1 => k_is)
    (case l1 => k_is)
    (case c1 => k_is)
    (case k1 => k_is)
    (case a2 => k_is)
    (case l2 => k_is)
    (case c2 => k_is)
    (case k2 => k_is)
    (case a3 => k_is)
    (case l3 => k_is)
    (case c3 => k_is)
    (case k3 => k_is)
    (case a4 => k_is)
    (case l4 => k_is)
    (case c4 => k_is)
    (case k4 => k_is)
    (case a5 => k_is)
    (case l5 => k_is)
    (case c5 => k_is)
    (case k5 => k_is)
    (case a6 => k_is)
    (case l6 => k_is)
    (case c6 => k_is)
    (case k6 => k_is)
    (case a7 => k_is)
    (case l7 => k_is)
    (case c7 => k_is)
    (case k7 => k_is)
    (case a8 => k_is)
    (case l8 => k_is)
    (case c8 => k_is)
    (case k8 => k_is)
    (case a9 => k_is)
    (case l9 => k_is)
    (case c9 => k_is)
    (case k9 => k_is)
    (case a10 => k_is)
    (case l10 => k_is)
    (case c10 => k_is)
    (case k10 => k_is)
    (case a11 => k_is)
    (case l11 => k_is)
    (case c11 => k_is)
    (case k11 => k_is)
    (case a12 => k_is)
    (case l12 => k_is)
    (case c12 => k_is)
    (case k12 => k_is)
    (case a13 => k_is)
    (case l13 => k_is)
    (case c13 => k_is)
    (case k13 => k_is)
    (case a14 => k_is)
    (case l14 => k_is)
    (case c14 => k_is)
    (case k14 => k_is)
    (case a15 => k_is)
    (case l15 => k_is)
    (case c15 => k_is)
    (case k15 => k_is)
    (case a16 => k_is)
    (case l16 => k_is)
    (case c16 => k_is)
    (case k16 => k_is)
    (case a17 => k_is)
    (case l17 => k_is)
    (case c17 => k_is)
    (case k17 => k_is)
    (case a18 => k_is)
    (case l18 => k_is)
    (case c18 => k_is)
    (case k18 => k_is)
    (case a19 => k_is)
    (case l19 => k_is)
    (case c19 => k_is)
    (case k19 => k_is)
    (case cc0 => k_is)
    (case cc1 => k_is)
    (case z0 => k_is)
    (case z1 => k_is)
    (case z2 => k_is)
    (case z3 => k_is)
    (case z4 => k_is)
    (case z5 => k_is)
    (case z6 => k_is)
    (case z7 => k_is)
    (case z8 => k_is)
    (case z9 => k_is)
    (case z10 => k_is)
    (case z11 => k_is)
    (case z12 => k_is)
    (case z13 => k_is)
    (case z14 => k_is)
    (case z15 => k_is)
    (case z16 => k_is)
    (case z17 => k_is)
    (case z18 => k_is)
#print axioms PySem.Challenge.cw_bentrows_k56_sheets_by_signs_holds

