import PyProof.Rows.All
import Wide.All
import OpenK.AllK
import Wide.FinOn
import HandS.ForMost
import HandS.Star
import HandS.TupAny
import HandS.NoneIn
import HandS.Style
import HandS.Conv
import HandS.Deep
import HandS.Wide
import HandS.Walk
import HandS.Strs
import KE.SortData
import KE.GoesMore
import KE.GoesEnum
import KE.KDictDisplayH
import PySem.Challenge.RW_ruledtrees_k53_whole_turned_trees_and_co
set_option Elab.async false
set_option linter.all false
set_option maxRecDepth 100000
set_option maxHeartbeats 2000000
/-! A Hoare logic over the hand layer: the def's slots are told by plain data (tuples all the way down), heaps and addresses are hidden. -/
namespace Rt
open PySem L2

/-! ### immutable data -/
/-- a tuple, or a tuple of which the very object is known -/
def IsTp : HO → Prop
  | .tup _ => True
  | .frz _ (.tup _) => True
  | _ => False
abbrev TpO := {u : HO // IsTp u}
/-! lists stand for tuples whose objects are known (they can be asked for their methods) -/
mutual
def un : PyData → PyData
  | .none => .none
  | .bool b => .bool b
  | .int i => .int i
  | .str x => .str x
  | .tuple ds => .tuple (unAll ds)
  | .list ds => .tuple (unAll ds)
  | .dict k => .dict k
def unAll : List PyData → List PyData
  | [] => []
  | d :: ds => un d :: unAll ds
end
mutual
inductive Im (K : PySem.W.Frag) (H : Hp) : V → PyData → Prop
  | non : Im K H .non .none
  | bl (b : Bool) : Im K H (.bl b) (.bool b)
  | int (i : Int) : Im K H (.int i) (.int i)
  | str (x : Str) : Im K H (.str x) (.str x)
  | tup {a : Addr} {xs : List V} {ds : List PyData} : H a = some (.tup xs) → ImAll K H xs ds → Im K H (.ref a) (.tuple ds)
  | tupB {a : Addr} {o : Obj} {xs : List V} {ds : List PyData} : o.dict = none → H a = some (.frz o (.tup xs)) → ImAll K H xs ds → Im K H (.ref a) (.list ds)
inductive ImAll (K : PySem.W.Frag) (H : Hp) : List V → List PyData → Prop
  | nil : ImAll K H [] []
  | cons {v : V} {vs : List V} {d : PyData} {ds : List PyData} : Im K H v d → ImAll K H vs ds → ImAll K H (v :: vs) (d :: ds)
end

section
variable {K : PySem.W.Frag} {H H' : Hp}
mutual
theorem Im.dp : ∀ (d : PyData) (v : V), Im K H v d → Dp K H v (un d)
  | .none, _, h => by cases h; simp only [un]; exact .non
  | .bool b, _, h => by cases h; simp only [un]; exact .bl _
  | .int i, _, h => by cases h; simp only [un]; exact .int _
  | .str x, _, h => by cases h; simp only [un]; exact .str _
  | .tuple ds, _, h => by
    cases h with
    | tup hs ha => simp only [un]; exact .tup (.of hs) (ImAll.dp ds _ ha)
  | .list ds, _, h => by
    cases h with
    | tupB ho hs ha => simp only [un]; exact .tup (.inl (.inr ⟨_, hs⟩)) (ImAll.dp ds _ ha)
  | .dict _, _, h => by cases h
theorem ImAll.dp : ∀ (ds : List PyData) (vs : List V), ImAll K H vs ds → DpAll K H vs (unAll ds)
  | [], _, h => by cases h; simp only [unAll]; exact .nil
  | d :: ds, _, h => by
    cases h with
    | cons h1 h2 => simp only [unAll]; exact .cons (Im.dp d _ h1) (ImAll.dp ds _ h2)
end
mutual
theorem Im.mono (t : ∀ a (xs : TpO), H a = some xs.1 → H' a = some xs.1) : ∀ (d : PyData) (v : V), Im K H v d → Im K H' v d
  | .none, _, h => by cases h; exact .non
  | .bool b, _, h => by cases h; exact .bl _
  | .int i, _, h => by cases h; exact .int _
  | .str x, _, h => by cases h; exact .str _
  | .tuple ds, _, h => by
    cases h with
    | tup hs ha => exact .tup (t _ ⟨.tup _, trivial⟩ hs) (ImAll.mono t ds _ ha)
  | .list ds, _, h => by
    cases h with
    | tupB ho hs ha => exact .tupB ho (t _ ⟨.frz _ (.tup _), trivial⟩ hs) (ImAll.mono t ds _ ha)
  | .dict _, _, h => by cases h
theorem ImAll.mono (t : ∀ a (xs : TpO), H a = some xs.1 → H' a = some xs.1) : ∀ (ds : List PyData) (vs : List V), ImAll K H vs ds → ImAll K H' vs ds
  | [], _, h => by cases h; exact .nil
  | d :: ds, _, h => by
    cases h with
    | cons h1 h2 => exact .cons (Im.mono t d _ h1) (ImAll.mono t ds _ h2)
end
theorem ImAll.length : ∀ {vs : List V} {ds : List PyData}, ImAll K H vs ds → vs.length = ds.length
  | [], _, h => by cases h; rfl
  | v :: vs, _, h => by
    cases h with
    | cons h1 h2 => simp [ImAll.length h2]
theorem ImAll.get : ∀ {vs : List V} {ds : List PyData} {i : Nat} {d : PyData}, ImAll K H vs ds → ds[i]? = some d → ∃ v, vs[i]? = some v ∧ Im K H v d
  | [], _, i, d, h, e => by cases h; simp at e
  | v :: vs, _, 0, d, h, e => by
    cases h with
    | cons h1 h2 => simp at e; subst e; exact ⟨v, rfl, h1⟩
  | v :: vs, _, i + 1, d, h, e => by
    cases h with
    | cons h1 h2 =>
      obtain ⟨w, e1, e2⟩ := ImAll.get (i := i) (d := d) h2 (by simpa using e)
      exact ⟨w, by simpa using e1, e2⟩
theorem ImAll.getV : ∀ {vs : List V} {ds : List PyData} {i : Nat} {v : V}, ImAll K H vs ds → vs[i]? = some v → ∃ d, ds[i]? = some d ∧ Im K H v d
  | [], _, i, d, h, e => by cases h; simp at e
  | v :: vs, _, 0, d, h, e => by
    cases h with
    | cons h1 h2 => simp at e; subst e; exact ⟨_, rfl, h1⟩
  | v :: vs, _, i + 1, d, h, e => by
    cases h with
    | cons h1 h2 =>
      obtain ⟨w, e1, e2⟩ := ImAll.getV (i := i) (v := d) h2 (by simpa using e)
      exact ⟨w, by simpa using e1, e2⟩
theorem ImAll.append : ∀ {vs ws : List V} {ds es : List PyData}, ImAll K H vs ds → ImAll K H ws es → ImAll K H (vs ++ ws) (ds ++ es)
  | [], _, _, _, h, h' => by cases h; exact h'
  | v :: vs, _, _, _, h, h' => by
    cases h with
    | cons h1 h2 => exact .cons h1 (ImAll.append h2 h')
theorem ImAll.take : ∀ {vs : List V} {ds : List PyData} (n : Nat), ImAll K H vs ds → ImAll K H (vs.take n) (ds.take n)
  | _, _, 0, _ => .nil
  | [], _, n + 1, h => by cases h; exact .nil
  | v :: vs, _, n + 1, h => by
    cases h with
    | cons h1 h2 => exact .cons h1 (ImAll.take n h2)
theorem ImAll.drop : ∀ {vs : List V} {ds : List PyData} (n : Nat), ImAll K H vs ds → ImAll K H (vs.drop n) (ds.drop n)
  | _, _, 0, h => h
  | [], _, n + 1, h => by cases h; exact .nil
  | v :: vs, _, n + 1, h => by
    cases h with
    | cons h1 h2 => exact ImAll.drop n h2
theorem ImAll.reverse {vs : List V} {ds : List PyData} (h : ImAll K H vs ds) : ImAll K H vs.reverse ds.reverse := by
  induction vs generalizing ds with
  | nil => cases h; exact .nil
  | cons v vs ih =>
    cases h with
    | cons h1 h2 =>
      rw [List.reverse_cons, List.reverse_cons]
      exact (ih h2).append (.cons h1 .nil)
mutual
/-- no such marks within -/
def pu : PyData → Bool
  | .tuple ds => puAll ds
  | .list _ => false
  | _ => true
def puAll : List PyData → Bool
  | [] => true
  | d :: ds => pu d && puAll ds
end
mutual
theorem un_id : ∀ d : PyData, pu d = true → un d = d
  | .none, _ => by simp only [un]
  | .bool _, _ => by simp only [un]
  | .int _, _ => by simp only [un]
  | .str _, _ => by simp only [un]
  | .dict _, _ => by simp only [un]
  | .tuple ds, h => by simp only [pu] at h; simp only [un]; rw [unAll_id ds h]
  | .list _, h => by simp [pu] at h
theorem unAll_id : ∀ ds : List PyData, puAll ds = true → unAll ds = ds
  | [], _ => by simp only [unAll]
  | d :: ds, h => by
    simp only [puAll, Bool.and_eq_true] at h
    simp only [unAll]; rw [un_id d h.1, unAll_id ds h.2]
end
theorem unAll_map : ∀ ds : List PyData, unAll ds = ds.map un
  | [] => by simp only [unAll, List.map_nil]
  | d :: ds => by simp only [unAll, List.map_cons]; rw [unAll_map ds]
theorem puAll_iff : ∀ {ds : List PyData}, puAll ds = true ↔ ∀ d ∈ ds, pu d = true
  | [] => by simp [puAll]
  | d :: ds => by simp [puAll, puAll_iff (ds := ds)]
theorem Im.int_inv {v : V} {i : Int} (h : Im K H v (.int i)) : v = .int i := by cases h; rfl
theorem Im.bl_inv {v : V} {i : Bool} (h : Im K H v (.bool i)) : v = .bl i := by cases h; rfl
theorem Im.non_inv {v : V} (h : Im K H v .none) : v = .non := by cases h; rfl
theorem Im.str_inv {v : V} {i : Str} (h : Im K H v (.str i)) : v = .str i := by cases h; rfl
theorem Im.tupB_inv {v : V} {ds : List PyData} (h : Im K H v (.list ds)) : ∃ a o xs, v = .ref a ∧ o.dict = none ∧ H a = some (.frz o (.tup xs)) ∧ ImAll K H xs ds := by
  cases h with
  | tupB h0 h1 h2 => exact ⟨_, _, _, rfl, h0, h1, h2⟩
theorem Im.tup_inv' {v : V} {ds : List PyData} (h : Im K H v (.tuple ds)) : ∃ a xs, v = .ref a ∧ H a = some (.tup xs) ∧ ImAll K H xs ds := by
  cases h with
  | tup h1 h2 => exact ⟨_, _, rfl, h1, h2⟩
theorem Im.tup_inv {v : V} {ds : List PyData} (h : Im K H v (.tuple ds)) : ∃ a xs, v = .ref a ∧ SqT K H a xs ∧ ImAll K H xs ds := by
  obtain ⟨a, xs, e, h1, h2⟩ := h.tup_inv'
  exact ⟨a, xs, e, .of h1, h2⟩
theorem ImAll.ints_inv : ∀ {xs : List V} {ns : List Int}, ImAll K H xs (ns.map .int) → xs = ns.map .int
  | [], ns, h => by
    cases ns with
    | nil => rfl
    | cons n ns => cases h
  | x :: xs, ns, h => by
    cases ns with
    | nil => cases h
    | cons n ns =>
      cases h with
      | cons h1 h2 =>
        rw [ImAll.ints_inv h2, h1.int_inv]; rfl
theorem ImAll.ints : ∀ (ns : List Int), ImAll K H (ns.map .int) (ns.map .int)
  | [] => .nil
  | n :: ns => .cons (.int n) (ImAll.ints ns)
end

/-! ### steps of the heap -/
structure Step (W : Addr → Prop) (H H' : Hp) : Prop where
  ob : ∀ a o, ¬ W a → H a = some o → H' a = some o
  tp : ∀ a (xs : TpO), H a = some xs.1 → H' a = some xs.1
theorem Step.refl {W : Addr → Prop} {H : Hp} : Step W H H := ⟨fun _ _ _ h => h, fun _ _ h => h⟩
theorem Step.trans {W : Addr → Prop} {H H1 H2 : Hp} (a : Step W H H1) (b : Step W H1 H2) : Step W H H2 :=
  ⟨fun x o h e => b.ob x o h (a.ob x o h e), fun x xs e => b.tp x xs (a.tp x xs e)⟩
theorem Step.l {K : PySem.W.Frag} {W : Addr → Prop} {H H' : Hp} (s : Step W H H') {a : Addr} (w : ¬ W a) {xs : List V} (h : SqL K H a xs) : SqL K H' a xs := by
  rcases h with (h | ⟨o, h⟩) | h
  · exact .inl (.inl (s.ob a _ w h))
  · exact .inl (.inr ⟨o, s.ob a _ w h⟩)
  · exact .inr h
theorem Step.rd {W : Addr → Prop} {H H' : Hp} (s : Step W H H') {a : Addr} (w : ¬ W a) {u : HO} (h : Rd H a u) : Rd H' a u := by
  rcases h with h | ⟨o, h⟩
  · exact .inl (s.ob a _ w h)
  · exact .inr ⟨o, s.ob a _ w h⟩
theorem Step.im {K : PySem.W.Frag} {W : Addr → Prop} {H H' : Hp} (s : Step W H H') {v : V} {d : PyData} (h : Im K H v d) : Im K H' v d := Im.mono s.tp d v h
theorem Step.ims {K : PySem.W.Frag} {W : Addr → Prop} {H H' : Hp} (s : Step W H H') {v : List V} {d : List PyData} (h : ImAll K H v d) : ImAll K H' v d := ImAll.mono s.tp d v h
/-- what a def changes: the objects at W; S stays true of them -/
structure Mode where
  W : Addr → Prop
  S : Hp → Prop
structure Mode.Ok (m : Mode) : Prop where
  st : ∀ H H', m.S H → (∀ a o, m.W a → H a = some o → H' a = some o) → m.S H'
  tr : ∀ H a, m.S H → m.W a → H a ≠ none
/-- nothing is changed -/
def pure0 : Mode := ⟨fun _ => False, fun _ => True⟩
theorem pure0_ok : pure0.Ok := ⟨fun _ _ _ _ => trivial, fun _ _ _ h => h.elim⟩
theorem upd_rd_tup {H : Hp} {p : Addr} {o : HO} (hp : ∀ xs, ¬ Rd H p (.tup xs)) (a : Addr) (xs : TpO) (h : H a = some xs.1) : upd H p o a = some xs.1 := by
  have hne : a ≠ p := fun e => by
    subst e
    obtain ⟨u, hu⟩ := xs
    cases u with
    | tup ys => exact hp ys (.inl h)
    | frz o' u' =>
      cases u' with
      | tup ys => exact hp ys (.inr ⟨o', h⟩)
      | _ => exact hu
    | _ => exact hu
  rw [upd_ne hne]; exact h
theorem no_rd {H : Hp} {p : Addr} (h : H p = none) (u : HO) : ¬ Rd H p u := fun q => by
  rcases q with q | ⟨o, q⟩ <;> (rw [h] at q; cases q)
theorem Step.new {W : Addr → Prop} {H : Hp} {p : Addr} {o : HO} (h : H p = none) : Step W H (upd H p o) :=
  ⟨fun a u _ e => by rw [upd_ne (ne_of_none e h)]; exact e, upd_rd_tup fun xs => no_rd h _⟩
theorem Mode.Ok.new {m : Mode} (k : m.Ok) {H : Hp} {p : Addr} {o : HO} (s : m.S H) (h : H p = none) : m.S (upd H p o) :=
  k.st H _ s fun a u _ e => by rw [upd_ne (ne_of_none e h)]; exact e

/-! ### the slots -/
/-- what is known of a slot: nothing; data; exactly a value; a list from outside, only read; an own list; an own dict whose keys are tuples of ints -/
inductive Sl where
  | un
  | im (d : PyData)
  | rf (v : V)
  | rl (ds : List PyData)
  | ls (ds : List PyData)
  | dt (kvs : List (List Int × PyData))
  | rd (kvs : List (List Int × PyData))
  | lk (a : Addr) (od : Obj) (ks : List (List Key × V)) (kvs : List (List Int × PyData))
  | ll (a : Addr) (xs : List V) (ds : List PyData)
/-- an expression's value -/
inductive R where
  | im (d : PyData)
  | rf (v : V)
  | rl (ds : List PyData)
  | fl (ds : List PyData)
  | fd (kvs : List (List Int × PyData))
  | rd (kvs : List (List Int × PyData))
def R.sl : R → Sl
  | .im d => .im d
  | .rf v => .rf v
  | .rl _ => .un
  | .fl ds => .ls ds
  | .fd kvs => .dt kvs
  | .rd _ => .un
abbrev Gm := List Sl
def isOwn : Sl → Bool
  | .ls _ => true
  | .dt _ => true
  | .lk _ _ _ _ => true
  | .ll _ _ _ => true
  | _ => false
/-- the pairs of a dict -/
inductive KvAll (K : PySem.W.Frag) (H : Hp) : List (List Key × V) → List (List Int × PyData) → Prop
  | nil : KvAll K H [] []
  | cons {v : V} {k : List Int} {d : PyData} {r : List (List Key × V)} {s : List (List Int × PyData)} : Im K H v d → KvAll K H r s → KvAll K H ((k.map Sum.inl, v) :: r) ((k, d) :: s)
theorem Step.kvs {K : PySem.W.Frag} {W : Addr → Prop} {H H' : Hp} (s : Step W H H') {v : List (List Key × V)} {d : List (List Int × PyData)} (h : KvAll K H v d) : KvAll K H' v d := by
  induction h with
  | nil => exact .nil
  | cons a _ ih => exact .cons (s.im a) ih

section
variable (K : PySem.W.Frag) (m : Mode) (H0 : Hp)
def SlOk (H : Hp) (o : Option V) : Sl → Prop
  | .un => True
  | .im d => ∃ v, o = some v ∧ Im K H v d
  | .rf v => o = some v
  | .rl ds => ∃ a xs, o = some (.ref a) ∧ SqL K H0 a xs ∧ ImAll K H xs ds ∧ ¬ m.W a
  | .ls ds => ∃ a xs, o = some (.ref a) ∧ H0 a = none ∧ ¬ m.W a ∧ H a = some (.lst xs) ∧ ImAll K H xs ds
  | .dt kvs => ∃ a ks, o = some (.ref a) ∧ H0 a = none ∧ ¬ m.W a ∧ H a = some (.dT ks) ∧ KvAll K H ks kvs
  | .rd kvs => ∃ a ks, o = some (.ref a) ∧ Rd H0 a (.dT ks) ∧ KvAll K H ks kvs ∧ ¬ m.W a
  | .lk a od ks kvs => o = some (.ref a) ∧ H0 a = none ∧ ¬ m.W a ∧ H a = some (.frz od (.dT ks)) ∧ KvAll K H ks kvs
  | .ll a xs ds => o = some (.ref a) ∧ H0 a = none ∧ ¬ m.W a ∧ H a = some (.lst xs) ∧ ImAll K H xs ds
structure Sta (Γ : Gm) (σ : L2.St) (H : Hp) : Prop where
  len : σ.length = Γ.length
  mo : m.Ok
  sp : Step m.W H0 H
  ok : m.S H
  sl : ∀ (i : Nat) (s : Sl), Γ[i]? = some s → ∃ o, σ[i]? = some o ∧ SlOk K m H0 H o s
  ne : ∀ (i j : Nat) (s t : Sl) (a : Addr), Γ[i]? = some s → isOwn s = true → Γ[j]? = some t → isOwn t = true → σ[i]? = some (some (V.ref a)) → σ[j]? = some (some (V.ref a)) → i = j
/-- a is none of the def's own objects -/
def Apart (Γ : Gm) (σ : L2.St) (a : Addr) : Prop := ∀ (i : Nat) (s : Sl), Γ[i]? = some s → isOwn s = true → σ[i]? ≠ some (some (V.ref a))
def ROk (Γ : Gm) (σ : L2.St) (H : Hp) (v : V) : R → Prop
  | .im d => Im K H v d
  | .rf w => v = w
  | .rl ds => ∃ a xs, v = .ref a ∧ SqL K H a xs ∧ ImAll K H xs ds ∧ ¬ m.W a
  | .fl ds => ∃ a xs, v = .ref a ∧ H0 a = none ∧ ¬ m.W a ∧ H a = some (.lst xs) ∧ ImAll K H xs ds ∧ Apart Γ σ a
  | .fd kvs => ∃ a ks, v = .ref a ∧ H0 a = none ∧ ¬ m.W a ∧ H a = some (.dT ks) ∧ KvAll K H ks kvs ∧ Apart Γ σ a
  | .rd kvs => ∃ a ks, v = .ref a ∧ Rd H a (.dT ks) ∧ KvAll K H ks kvs ∧ ¬ m.W a
end

section
variable {K : PySem.W.Frag} {m : Mode} {H0 H H' : Hp} {Γ : Gm} {σ : L2.St} {v : V} {r : R} {o : Option V} {s : Sl} {p : Addr}
theorem SlOk.step (st : Step m.W H H') (h : SlOk K m H0 H o s) : SlOk K m H0 H' o s := by
  cases s with
  | un => exact trivial
  | im d => obtain ⟨v, e, q⟩ := h; exact ⟨v, e, st.im q⟩
  | rf v => exact h
  | rl ds => obtain ⟨a, xs, e, l, q, w⟩ := h; exact ⟨a, xs, e, l, st.ims q, w⟩
  | ls ds => obtain ⟨a, xs, e, n, w, l, q⟩ := h; exact ⟨a, xs, e, n, w, st.ob _ _ w l, st.ims q⟩
  | dt kvs => obtain ⟨a, ks, e, n, w, l, q⟩ := h; exact ⟨a, ks, e, n, w, st.ob _ _ w l, st.kvs q⟩
  | rd kvs => obtain ⟨a, ks, e, l, q, w⟩ := h; exact ⟨a, ks, e, l, st.kvs q, w⟩
  | lk a od ks kvs => obtain ⟨e, n, w, l, q⟩ := h; exact ⟨e, n, w, st.ob _ _ w l, st.kvs q⟩
  | ll a xs ds => obtain ⟨e, n, w, l, q⟩ := h; exact ⟨e, n, w, st.ob _ _ w l, st.ims q⟩
theorem ROk.step (st : Step m.W H H') (h : ROk K m H0 Γ σ H v r) : ROk K m H0 Γ σ H' v r := by
  cases r with
  | im d => exact st.im h
  | rf v => exact h
  | rl ds => obtain ⟨a, xs, e, l, q, w⟩ := h; exact ⟨a, xs, e, st.l w l, st.ims q, w⟩
  | fl ds => obtain ⟨a, xs, e, n, w, l, q, z⟩ := h; exact ⟨a, xs, e, n, w, st.ob _ _ w l, st.ims q, z⟩
  | fd kvs => obtain ⟨a, ks, e, n, w, l, q, z⟩ := h; exact ⟨a, ks, e, n, w, st.ob _ _ w l, st.kvs q, z⟩
  | rd kvs => obtain ⟨a, ks, e, l, q, w⟩ := h; exact ⟨a, ks, e, st.rd w l, st.kvs q, w⟩
theorem Sta.step (S : Sta K m H0 Γ σ H) (st : Step m.W H H') (ok : m.S H') : Sta K m H0 Γ σ H' :=
  ⟨S.len, S.mo, S.sp.trans st, ok, fun i s e => by
    obtain ⟨o, e1, e2⟩ := S.sl i s e
    exact ⟨o, e1, e2.step st⟩, S.ne⟩
theorem Sta.new (S : Sta K m H0 Γ σ H) {o : HO} (h : H p = none) : Sta K m H0 Γ σ (upd H p o) := S.step (.new h) (S.mo.new S.ok h)
theorem Sta.apart (S : Sta K m H0 Γ σ H) (h : H p = none) : Apart Γ σ p := fun i s e w q => by
  obtain ⟨o, e1, e2⟩ := S.sl i s e
  rw [q] at e1
  cases e1
  cases s with
  | ls ds =>
    obtain ⟨a, xs, e, n, w, l, q⟩ := e2
    cases e
    rw [h] at l; cases l
  | dt kvs =>
    obtain ⟨a, xs, e, n, w, l, q⟩ := e2
    cases e
    rw [h] at l; cases l
  | lk a od ks kvs =>
    obtain ⟨e, n, w, l, q⟩ := e2
    cases e
    rw [h] at l; cases l
  | ll a xs ds =>
    obtain ⟨e, n, w, l, q⟩ := e2
    cases e
    rw [h] at l; cases l
  | un => cases w
  | im d => cases w
  | rf v => cases w
  | rl ds => cases w
  | rd ds => cases w
theorem Sta.noW (S : Sta K m H0 Γ σ H) (h : H p = none) : ¬ m.W p := fun w => S.mo.tr H p S.ok w h
theorem Sta.none0 (S : Sta K m H0 Γ σ H) (h : H p = none) : H0 p = none := by
  cases e : H0 p with
  | none => rfl
  | some o =>
    have := S.sp.ob p o (S.noW h) e
    rw [h] at this; cases this
theorem Sta.fl (S : Sta K m H0 Γ σ H) {xs : List V} {ds : List PyData} (h : H p = none) (q : ImAll K H xs ds) : ROk K m H0 Γ σ (upd H p (.lst xs)) (.ref p) (.fl ds) :=
  ⟨p, xs, rfl, S.none0 h, S.noW h, upd_same, (Step.new (W := m.W) h).ims q, S.apart h⟩
theorem Sta.tup (S : Sta K m H0 Γ σ H) {xs : List V} {ds : List PyData} (h : H p = none) (q : ImAll K H xs ds) : Im K (upd H p (.tup xs)) (.ref p) (.tuple ds) :=
  .tup upd_same ((Step.new (W := m.W) h).ims q)
/-- a slot is stored -/
theorem Sta.set (S : Sta K m H0 Γ σ H) {i : Nat} (h : ROk K m H0 Γ σ H v r) : Sta K m H0 (Γ.set i r.sl) (σ.set i (some v)) H := by
  have key : SlOk K m H0 H (some v) r.sl := by
    cases r with
    | im d => exact ⟨v, rfl, h⟩
    | rf w => show some v = some w; rw [show v = w from h]
    | rl ds => exact trivial
    | rd ds => exact trivial
    | fl ds => obtain ⟨a, xs, e, n, w, l, q, z⟩ := h; exact ⟨a, xs, by rw [e], n, w, l, q⟩
    | fd ds => obtain ⟨a, xs, e, n, w, l, q, z⟩ := h; exact ⟨a, xs, by rw [e], n, w, l, q⟩
  have ap : ∀ a, isOwn r.sl = true → v = .ref a → Apart Γ σ a := fun a w e => by
    cases r with
    | fl ds => obtain ⟨b, xs, e', n, w, l, q, z⟩ := h; rw [e] at e'; cases e'; exact z
    | fd ds => obtain ⟨b, xs, e', n, w, l, q, z⟩ := h; rw [e] at e'; cases e'; exact z
    | im d => cases w
    | rf d => cases w
    | rl d => cases w
    | rd d => cases w
  refine ⟨by rw [List.length_set, List.length_set]; exact S.len, S.mo, S.sp, S.ok, fun j s e => ?_, fun j k s t a e1 o1 e2 o2 q1 q2 => ?_⟩
  · rw [List.getElem?_set] at e ⊢
    by_cases hij : i = j
    · rw [if_pos hij] at e ⊢
      have hlt : i < Γ.length := by
        by_cases hh : i < Γ.length
        · exact hh
        · rw [if_neg hh] at e; cases e
      rw [if_pos hlt] at e
      have e' : r.sl = s := Option.some.inj e
      rw [if_pos (by rw [S.len]; exact hlt), ← e']
      exact ⟨_, rfl, key⟩
    · rw [if_neg hij] at e ⊢
      exact S.sl j s e
  · rw [List.getElem?_set] at e1 e2 q1 q2
    by_cases hj : i = j <;> by_cases hk : i = k
    · exact hj.symm.trans hk
    · rw [if_pos hj] at e1 q1
      rw [if_neg hk] at e2 q2
      split at e1
      · split at q1
        · have e1' := Option.some.inj e1
          have q1' : v = .ref a := Option.some.inj (Option.some.inj q1)
          exact absurd q2 (ap a (by rw [e1']; exact o1) q1' k t e2 o2)
        · cases q1
      · cases e1
    · rw [if_neg hj] at e1 q1
      rw [if_pos hk] at e2 q2
      split at e2
      · split at q2
        · have e2' := Option.some.inj e2
          have q2' : v = .ref a := Option.some.inj (Option.some.inj q2)
          exact absurd q1 (ap a (by rw [e2']; exact o2) q2' j s e1 o1)
        · cases q2
      · cases e2
    · rw [if_neg hj] at e1 q1
      rw [if_neg hk] at e2 q2
      exact S.ne j k s t a e1 o1 e2 o2 q1 q2
/-- an own object is written -/
theorem Sta.put (S : Sta K m H0 Γ σ H) {i : Nat} {a : Addr} {s : Sl} {s' : Sl} {o : HO} (hi : Γ[i]? = some s) (hs : isOwn s = true) (ha : σ[i]? = some (some (.ref a))) (hm : ∀ xs, ¬ Rd H a (.tup xs))
    (hn : H0 a = none) (hw : ¬ m.W a) (hk : SlOk K m H0 (upd H a o) (some (.ref a)) s') (hs' : isOwn s' = true) : Sta K m H0 (Γ.set i s') σ (upd H a o) := by
  have st : Step m.W H0 (upd H a o) := ⟨fun b u w e => by rw [upd_ne (ne_of_none e hn)]; exact S.sp.ob b u w e, fun b xs e => upd_rd_tup hm b xs (S.sp.tp b xs e)⟩
  have tt : ∀ b (xs : TpO), H b = some xs.1 → upd H a o b = some xs.1 := fun b xs h => upd_rd_tup hm b xs h
  have kk : ∀ {ks : List (List Key × V)} {kvs : List (List Int × PyData)}, KvAll K H ks kvs → KvAll K (upd H a o) ks kvs := fun {ks kvs} h => by
    induction h with
    | nil => exact .nil
    | cons z _ ih => exact .cons (Im.mono tt _ _ z) ih
  refine ⟨by rw [List.length_set]; exact S.len, S.mo, st, S.mo.st H _ S.ok fun b u w e => by rw [upd_ne (show b ≠ a from fun z => hw (by rw [← z]; exact w))]; exact e, fun j t e => ?_, fun j k s1 t1 b e1 o1 e2 o2 q1 q2 => ?_⟩
  · rw [List.getElem?_set] at e
    by_cases hij : i = j
    · rw [if_pos hij] at e
      split at e
      · cases e
        exact ⟨_, by rw [← hij]; exact ha, hk⟩
      · cases e
    · rw [if_neg hij] at e
      obtain ⟨ov, e1, e2⟩ := S.sl j t e
      refine ⟨ov, e1, ?_⟩
      cases t with
      | un => exact trivial
      | im d => obtain ⟨v, e, q⟩ := e2; exact ⟨v, e, Im.mono tt _ _ q⟩
      | rf v => exact e2
      | rl ds => obtain ⟨b, xs, e, l, q, w⟩ := e2; exact ⟨b, xs, e, l, ImAll.mono tt _ _ q, w⟩
      | rd ds => obtain ⟨b, xs, e, l, q, w⟩ := e2; exact ⟨b, xs, e, l, kk q, w⟩
      | ls ds =>
        obtain ⟨b, xs, eb, n, w, l, q⟩ := e2
        have hne : b ≠ a := fun z => hij (S.ne i j s _ a hi hs e rfl ha (by rw [e1, eb, z]))
        exact ⟨b, xs, eb, n, w, by rw [upd_ne hne]; exact l, ImAll.mono tt _ _ q⟩
      | dt kvs =>
        obtain ⟨b, ks, eb, n, w, l, q⟩ := e2
        have hne : b ≠ a := fun z => hij (S.ne i j s _ a hi hs e rfl ha (by rw [e1, eb, z]))
        exact ⟨b, ks, eb, n, w, by rw [upd_ne hne]; exact l, kk q⟩
      | lk b od ks kvs =>
        obtain ⟨eb, n, w, l, q⟩ := e2
        have hne : b ≠ a := fun z => hij (S.ne i j s _ a hi hs e rfl ha (by rw [e1, eb, z]))
        exact ⟨eb, n, w, by rw [upd_ne hne]; exact l, kk q⟩
      | ll b xs ds =>
        obtain ⟨eb, n, w, l, q⟩ := e2
        have hne : b ≠ a := fun z => hij (S.ne i j s _ a hi hs e rfl ha (by rw [e1, eb, z]))
        exact ⟨eb, n, w, by rw [upd_ne hne]; exact l, ImAll.mono tt _ _ q⟩
  · have own : ∀ j t, (Γ.set i s')[j]? = some t → isOwn t = true → ∃ t', Γ[j]? = some t' ∧ isOwn t' = true := fun j t e w => by
      rw [List.getElem?_set] at e
      by_cases hij : i = j
      · exact ⟨s, hij ▸ hi, hs⟩
      · rw [if_neg hij] at e; exact ⟨t, e, w⟩
    obtain ⟨s2, f1, g1⟩ := own j s1 e1 o1
    obtain ⟨t2, f2, g2⟩ := own k t1 e2 o2
    exact S.ne j k s2 t2 b f1 g1 f2 g2 q1 q2
end
end Rt

set_option Elab.async false
set_option linter.all false
set_option maxRecDepth 100000
set_option maxHeartbeats 2000000
namespace Rt
open PySem L2 StX

theorem sz {n : Nat} (h : n ≤ 1000000) : n ≤ sizeLine := Nat.le_trans h (by decide)
theorem szl {n : Nat} (h : n < 1000000) : n < sizeLine := Nat.lt_of_lt_of_le h (by decide)

section defs
variable (K : PySem.W.Frag) (m : Mode) (H0 : Hp)
inductive ROks (Γ : Gm) (σ : L2.St) (H : Hp) : List V → List R → Prop
  | nil : ROks Γ σ H [] []
  | cons {v : V} {r : R} {vs : List V} {rs : List R} : ROk K m H0 Γ σ H v r → ROks Γ σ H vs rs → ROks Γ σ H (v :: vs) (r :: rs)
/-- a new object was not there before -/
def Fsh (H : Hp) (v : V) : R → Prop
  | .fl _ => ∀ a, v = .ref a → H a = none
  | .fd _ => ∀ a, v = .ref a → H a = none
  | _ => True
def Kc (Γ : Gm) (σ : L2.St) (H : Hp) (P : R → Prop) (Q : VK) : Prop :=
  ∀ v r H', Step m.W H H' → Sta K m H0 Γ σ H' → ROk K m H0 Γ σ H' v r → Fsh H v r → P r → Q v H'
def E (te : TE) (Γ : Gm) (P : R → Prop) : Prop := ∀ σ H, Sta K m H0 Γ σ H → ∀ Q : VK, Kc K m H0 Γ σ H P Q → te σ H Q
def ET (tt : TT) (Γ : Gm) (P : Bool → Prop) : Prop :=
  ∀ σ H, Sta K m H0 Γ σ H → ∀ Q : Bool → Hp → Prop, (∀ b H', Step m.W H H' → Sta K m H0 Γ σ H' → P b → Q b H') → tt σ H Q
def EA (ta : TA) (Γ : Gm) (P : List R → Prop) : Prop :=
  ∀ σ H, Sta K m H0 Γ σ H → ∀ Q : List V → Hp → Prop, (∀ vs rs H', Step m.W H H' → Sta K m H0 Γ σ H' → ROks K m H0 Γ σ H' vs rs → P rs → Q vs H') → ta σ H Q
def EO (to : TO) (Γ : Gm) (P : Option Int → Prop) : Prop :=
  ∀ σ H, Sta K m H0 Γ σ H → ∀ Q : Option Int → Hp → Prop, (∀ o H', Step m.W H H' → Sta K m H0 Γ σ H' → P o → Q o H') → to σ H Q
def RR (r : R2) (x y : R) (Γ : Gm) (P : R → Prop) : Prop :=
  ∀ σ H v w, Sta K m H0 Γ σ H → ROk K m H0 Γ σ H v x → ROk K m H0 Γ σ H w y → ∀ Q : VK, Kc K m H0 Γ σ H P Q → r v w H Q
def RU (r : V → Hp → VK → Prop) (x : R) (Γ : Gm) (P : R → Prop) : Prop :=
  ∀ σ H v, Sta K m H0 Γ σ H → ROk K m H0 Γ σ H v x → ∀ Q : VK, Kc K m H0 Γ σ H P Q → r v H Q
def RC (r : List V → Hp → VK → Prop) (rs : List R) (Γ : Gm) (P : R → Prop) : Prop :=
  ∀ σ H vs, Sta K m H0 Γ σ H → ROks K m H0 Γ σ H vs rs → ∀ Q : VK, Kc K m H0 Γ σ H P Q → r vs H Q
end defs

/-- what a slot reads as -/
def Sl.r : Sl → Option R
  | .im d => some (.im d)
  | .rf v => some (.rf v)
  | .rl ds => some (.rl ds)
  | .ls ds => some (.rl ds)
  | .dt kvs => some (.rd kvs)
  | .rd kvs => some (.rd kvs)
  | .lk _ _ _ kvs => some (.rd kvs)
  | .ll _ _ ds => some (.rl ds)
  | .un => none
/-- the items of a list -/
def R.lst : R → Option (List PyData)
  | .rl ds => some ds
  | .fl ds => some ds
  | _ => none
/-- .. or of a tuple -/
def R.seq : R → Option (List PyData)
  | .im (.tuple ds) => some ds
  | .rl ds => some ds
  | .fl ds => some ds
  | _ => none
def R.dat : R → Option PyData
  | .im d => some (un d)
  | .rl ds => some (.list (unAll ds))
  | .fl ds => some (.list (unAll ds))
  | _ => none
def R.dic : R → Option (List (List Int × PyData))
  | .rd k => some k
  | .fd k => some k
  | _ => none
def imsOf : List R → Option (List PyData)
  | [] => some []
  | .im d :: r => (imsOf r).map (d :: ·)
  | _ :: _ => none

section
variable {K : PySem.W.Frag} {m : Mode} {H0 H H' H1 : Hp} {Γ : Gm} {σ : L2.St} {v w : V} {r x y : R} {P : R → Prop} {ta tb te : TE} {tt tu : TT} {Q : VK} {rs : List R} {vs : List V}
theorem ROks.step (st : Step m.W H H') : ∀ {vs : List V} {rs : List R}, ROks K m H0 Γ σ H vs rs → ROks K m H0 Γ σ H' vs rs
  | _, _, .nil => .nil
  | _, _, .cons a b => .cons (a.step st) (ROks.step st b)
theorem ROks.ims : ∀ {vs : List V} {rs : List R} {ds : List PyData}, ROks K m H0 Γ σ H vs rs → imsOf rs = some ds → ImAll K H vs ds
  | _, _, _, .nil, e => by cases e; exact .nil
  | _, r :: rs, ds, .cons a b, e => by
    cases r with
    | im d =>
      simp only [imsOf] at e
      cases q : imsOf rs with
      | none => rw [q] at e; cases e
      | some es => rw [q] at e; cases e; exact .cons a (ROks.ims b q)
    | rf _ => cases e
    | rl _ => cases e
    | fl _ => cases e
    | fd _ => cases e
    | rd _ => cases e
theorem ROks.of_ims : ∀ {vs : List V} {ds : List PyData}, ImAll K H vs ds → ROks K m H0 Γ σ H vs (ds.map R.im)
  | [], _, h => by cases h; exact .nil
  | v :: vs, _, h => by
    cases h with
    | cons a b => exact .cons a (ROks.of_ims b)
theorem ROks.append : ∀ {vs ws : List V} {rs ts : List R}, ROks K m H0 Γ σ H vs rs → ROks K m H0 Γ σ H ws ts → ROks K m H0 Γ σ H (vs ++ ws) (rs ++ ts)
  | _, _, _, _, .nil, h => h
  | _, _, _, _, .cons a b, h => .cons a (ROks.append b h)
theorem ROks.length : ∀ {vs : List V} {rs : List R}, ROks K m H0 Γ σ H vs rs → vs.length = rs.length
  | _, _, .nil => rfl
  | _, _, .cons _ b => by simp [ROks.length b]
theorem imsOf_map : ∀ ds : List PyData, imsOf (ds.map R.im) = some ds
  | [] => rfl
  | d :: ds => by rw [List.map_cons]; simp only [imsOf]; rw [imsOf_map ds]; rfl
theorem imsOf_app : ∀ {a b : List R} {ds es : List PyData}, imsOf a = some ds → imsOf b = some es → imsOf (a ++ b) = some (ds ++ es)
  | [], b, ds, es, h, h' => by cases h; exact h'
  | .im d :: a, b, ds, es, h, h' => by
    simp only [imsOf] at h
    cases q : imsOf a with
    | none => rw [q] at h; cases h
    | some fs =>
      rw [q] at h; cases h
      simp only [List.cons_append, imsOf]
      rw [imsOf_app q h']; rfl
  | .rf _ :: a, b, ds, es, h, h' => by cases h
  | .rl _ :: a, b, ds, es, h, h' => by cases h
  | .fl _ :: a, b, ds, es, h, h' => by cases h
  | .fd _ :: a, b, ds, es, h, h' => by cases h
  | .rd _ :: a, b, ds, es, h, h' => by cases h
theorem ROk.readL {ds : List PyData} (h : ROk K m H0 Γ σ H v x) (e : x.lst = some ds) : ∃ a xs, v = .ref a ∧ SqL K H a xs ∧ ImAll K H xs ds ∧ ¬ m.W a := by
  cases x with
  | rl es => cases e; exact h
  | fl es => cases e; obtain ⟨a, xs, e, n, w, l, q, z⟩ := h; exact ⟨a, xs, e, .of l, q, w⟩
  | im d => cases e
  | rf d => cases e
  | fd d => cases e
  | rd d => cases e
theorem ROk.readS {ds : List PyData} (h : ROk K m H0 Γ σ H v x) (e : x.seq = some ds) : ∃ a xs, v = .ref a ∧ (SqL K H a xs ∨ SqT K H a xs) ∧ ImAll K H xs ds := by
  cases x with
  | rl es => cases e; obtain ⟨a, xs, e, l, q, w⟩ := h; exact ⟨a, xs, e, .inl l, q⟩
  | fl es => cases e; obtain ⟨a, xs, e, n, w, l, q, z⟩ := h; exact ⟨a, xs, e, .inl (.of l), q⟩
  | im d =>
    cases d with
    | tuple es => cases e; obtain ⟨a, xs, e, l, q⟩ := Im.tup_inv h; exact ⟨a, xs, e, .inr l, q⟩
    | none => cases e
    | bool _ => cases e
    | int _ => cases e
    | str _ => cases e
    | list _ => cases e
    | dict _ => cases e
  | rf d => cases e
  | fd d => cases e
  | rd d => cases e
theorem ROk.readD {d : PyData} (h : ROk K m H0 Γ σ H v x) (e : x.dat = some d) : Dp K H v d := by
  cases x with
  | rl es => cases e; obtain ⟨a, xs, rfl, l, q, w⟩ := h; exact .lst l (q.dp _ _)
  | fl es => cases e; obtain ⟨a, xs, rfl, n, w, l, q, z⟩ := h; exact .lst (.of l) (q.dp _ _)
  | im d => cases e; exact Im.dp _ _ h
  | rf d => cases e
  | fd d => cases e
  | rd d => cases e
theorem ROk.readK {d : List (List Int × PyData)} (h : ROk K m H0 Γ σ H v x) (e : x.dic = some d) : ∃ a ks, v = .ref a ∧ Rd H a (.dT ks) ∧ KvAll K H ks d ∧ ¬ m.W a := by
  cases x with
  | rd es => cases e; exact h
  | fd es => cases e; obtain ⟨a, xs, e, n, w, l, q, z⟩ := h; exact ⟨a, xs, e, .inl l, q, w⟩
  | im d => cases e
  | rf d => cases e
  | fl d => cases e
  | rl d => cases e
theorem fsh_back (S : Sta K m H0 Γ σ H1) (st : Step m.W H H1) (h : Fsh H1 v r) : Fsh H v r := by
  have go : ∀ a, H1 a = none → H a = none := fun a n => by
    cases e : H a with
    | none => rfl
    | some o => rw [st.ob a o (S.noW n) e] at n; cases n
  cases r with
  | fl ds => exact fun a e => go a (h a e)
  | fd ds => exact fun a e => go a (h a e)
  | im d => exact trivial
  | rf d => exact trivial
  | rl d => exact trivial
  | rd d => exact trivial
theorem Kc.back (k : Kc K m H0 Γ σ H P Q) (S : Sta K m H0 Γ σ H1) (st : Step m.W H H1) : Kc K m H0 Γ σ H1 P Q :=
  fun v r H' s1 S' ro f p => k v r H' (st.trans s1) S' ro (fsh_back S st f) p
theorem Kc.im (k : Kc K m H0 Γ σ H P Q) (S : Sta K m H0 Γ σ H) {d : PyData} (h : Im K H v d) (p : P (.im d)) : Q v H := k v (.im d) H .refl S h trivial p
theorem Kc.tup (k : Kc K m H0 Γ σ H P Q) (S : Sta K m H0 Γ σ H) {ds : List PyData} {xs : List V} {p : Addr} (h : ImAll K H xs ds) (n : H p = none) (pp : P (.im (.tuple ds))) : Q (.ref p) (upd H p (.tup xs)) :=
  k (.ref p) (.im (.tuple ds)) _ (.new n) (S.new n) (S.tup n h) trivial pp
theorem Kc.fl (k : Kc K m H0 Γ σ H P Q) (S : Sta K m H0 Γ σ H) {ds : List PyData} {xs : List V} {p : Addr} (h : ImAll K H xs ds) (n : H p = none) (pp : P (.fl ds)) : Q (.ref p) (upd H p (.lst xs)) :=
  k (.ref p) (.fl ds) _ (.new n) (S.new n) (S.fl n h) (fun a e => by cases e; exact n) pp

/-! ### expressions -/
theorem e_var {i : Nat} (h : (Γ[i]?).bind Sl.r = some r) (p : P r) : E K m H0 (tVar i) Γ P := fun σ H S Q k => by
  cases e : Γ[i]? with
  | none => rw [e] at h; cases h
  | some s =>
    rw [e] at h
    obtain ⟨o, e1, e2⟩ := S.sl i s e
    have h : s.r = some r := h
    cases s with
    | un => cases h
    | im d => cases h; obtain ⟨v, rfl, q⟩ := e2; exact ⟨v, e1, k v (.im d) H .refl S q trivial p⟩
    | rf v => cases h; cases (show o = some v from e2); exact ⟨v, e1, k v (.rf v) H .refl S rfl trivial p⟩
    | rl ds => cases h; obtain ⟨a, xs, rfl, l, q, w⟩ := e2; exact ⟨_, e1, k _ (.rl ds) H .refl S ⟨a, xs, rfl, S.sp.l w l, q, w⟩ trivial p⟩
    | ls ds => cases h; obtain ⟨a, xs, rfl, n, w, l, q⟩ := e2; exact ⟨_, e1, k _ (.rl ds) H .refl S ⟨a, xs, rfl, .of l, q, w⟩ trivial p⟩
    | dt ds => cases h; obtain ⟨a, xs, rfl, n, w, l, q⟩ := e2; exact ⟨_, e1, k _ (.rd ds) H .refl S ⟨a, xs, rfl, .inl l, q, w⟩ trivial p⟩
    | rd ds => cases h; obtain ⟨a, xs, rfl, l, q, w⟩ := e2; exact ⟨_, e1, k _ (.rd ds) H .refl S ⟨a, xs, rfl, S.sp.rd w l, q, w⟩ trivial p⟩
    | lk a od xs ds => cases h; obtain ⟨rfl, n, w, l, q⟩ := e2; exact ⟨_, e1, k _ (.rd ds) H .refl S ⟨a, xs, rfl, .inr ⟨od, l⟩, q, w⟩ trivial p⟩
    | ll a xs ds => cases h; obtain ⟨rfl, n, w, l, q⟩ := e2; exact ⟨_, e1, k _ (.rl ds) H .refl S ⟨a, xs, rfl, .of l, q, w⟩ trivial p⟩
theorem e_int {i : Int} (p : P (.im (.int i))) : E K m H0 (tC (.int i)) Γ P := fun σ H S Q k => k.im S (.int i) p
theorem e_bl {i : Bool} (p : P (.im (.bool i))) : E K m H0 (tC (.bl i)) Γ P := fun σ H S Q k => k.im S (.bl i) p
theorem e_str {i : Str} (p : P (.im (.str i))) : E K m H0 (tC (.str i)) Γ P := fun σ H S Q k => k.im S (.str i) p
theorem e_non (p : P (.im .none)) : E K m H0 (tC .non) Γ P := fun σ H S Q k => k.im S .non p
theorem e_op {r : R2} (h : E K m H0 ta Γ fun x => E K m H0 tb Γ fun y => RR K m H0 r x y Γ P) : E K m H0 (tOp r ta tb) Γ P := fun σ H S Q k =>
  h σ H S _ fun v x H1 st S1 rx _ hx => hx σ H1 S1 _ fun w y H2 st2 S2 ry _ hy => hy σ H2 v w S2 (rx.step st2) ry Q (k.back S2 (st.trans st2))
theorem e_un {r : V → Hp → VK → Prop} (h : E K m H0 ta Γ fun x => RU K m H0 r x Γ P) : E K m H0 (tUn r ta) Γ P := fun σ H S Q k =>
  h σ H S _ fun v x H1 st S1 rx _ hx => hx σ H1 v S1 rx Q (k.back S1 st)
theorem e_then {r : V → Hp → VK → Prop} (h : E K m H0 ta Γ fun x => RU K m H0 r x Γ P) : E K m H0 (tThen ta r) Γ P := fun σ H S Q k =>
  h σ H S _ fun v x H1 st S1 rx _ hx => hx σ H1 v S1 rx Q (k.back S1 st)
theorem ea_nil {P : List R → Prop} (p : P []) : EA K m H0 tNil Γ P := fun σ H S Q k => k [] [] H .refl S .nil p
theorem ea_cons {P : List R → Prop} {tr : TA} (h : E K m H0 ta Γ fun x => EA K m H0 tr Γ fun xs => P (x :: xs)) : EA K m H0 (tCons ta tr) Γ P := fun σ H S Q k =>
  h σ H S _ fun v x H1 st S1 rx _ hx => hx σ H1 S1 _ fun vs rs H2 st2 S2 rrs hp => k _ _ H2 (st.trans st2) S2 (.cons (rx.step st2) rrs) hp
theorem ea_star {P : List R → Prop} {tr : TA} (h : E K m H0 ta Γ fun x => ∃ ds, x.seq = some ds ∧ EA K m H0 tr Γ fun xs => P (ds.map .im ++ xs)) : EA K m H0 (tStar K ta tr) Γ P := fun σ H S Q k =>
  h σ H S _ fun v x H1 st S1 rx _ ⟨ds, hx, hy⟩ => by
    obtain ⟨a, xs, rfl, l, q⟩ := rx.readS hx
    refine ⟨a, xs, rfl, l.symm, hy σ H1 S1 _ fun vs rs H2 st2 S2 rrs hp => k _ _ H2 (st.trans st2) S2 (.append (.of_ims (st2.ims q)) rrs) hp⟩
theorem e_cb {r : List V → Hp → VK → Prop} {ta : TA} (h : EA K m H0 ta Γ fun rs => RC K m H0 r rs Γ P) : E K m H0 (tCB r ta) Γ P := fun σ H S Q k =>
  h σ H S _ fun vs rs H1 st S1 rrs hp => hp σ H1 vs S1 rrs Q (k.back S1 st)
theorem e_tup {ta : TA} (h : EA K m H0 ta Γ fun rs => ∃ ds, imsOf rs = some ds ∧ ds.length ≤ 1000000 ∧ P (.im (.tuple ds))) : E K m H0 (tTup ta) Γ P := fun σ H S Q k =>
  h σ H S _ fun vs rs H1 st S1 rrs ⟨ds, e, z, p⟩ => by
    have q := rrs.ims e
    exact ⟨sz (by rw [q.length]; exact z), fun a n => (k.back S1 st).tup S1 q n p⟩
theorem e_lst {ta : TA} (h : EA K m H0 ta Γ fun rs => ∃ ds, imsOf rs = some ds ∧ ds.length ≤ 1000000 ∧ P (.fl ds)) : E K m H0 (tLst ta) Γ P := fun σ H S Q k =>
  h σ H S _ fun vs rs H1 st S1 rrs ⟨ds, e, z, p⟩ => by
    have q := rrs.ims e
    exact ⟨sz (by rw [q.length]; exact z), fun a n => (k.back S1 st).fl S1 q n p⟩
theorem e_if (h : ET K m H0 tt Γ fun b => if b = true then E K m H0 ta Γ P else E K m H0 tb Γ P) : E K m H0 (tIf tt ta tb) Γ P := fun σ H S Q k =>
  h σ H S _ fun b H1 st S1 p => by
    cases b with
    | true => exact (show E K m H0 ta Γ P from p) σ H1 S1 Q (k.back S1 st)
    | false => exact (show E K m H0 tb Γ P from p) σ H1 S1 Q (k.back S1 st)
theorem E.imp {P' : R → Prop} (h : E K m H0 te Γ P) (i : ∀ r, P r → P' r) : E K m H0 te Γ P' := fun σ H S Q k =>
  h σ H S Q fun v r H' st S' ro f p => k v r H' st S' ro f (i r p)

/-! ### operators -/
theorem rr_i {g : Int → Int → Int} {i j : Int} (p : P (.im (.int (g i j)))) : RR K m H0 (rI0 fun i j => .int (g i j)) (.im (.int i)) (.im (.int j)) Γ P := fun σ H v w S hx hy Q k => by
  cases Im.int_inv hx; cases Im.int_inv hy
  exact ⟨i, j, rfl, rfl, k.im S (.int _) p⟩
theorem rr_b {g : Int → Int → Bool} {i j : Int} (p : P (.im (.bool (g i j)))) : RR K m H0 (rI0 fun i j => .bl (g i j)) (.im (.int i)) (.im (.int j)) Γ P := fun σ H v w S hx hy Q k => by
  cases Im.int_inv hx; cases Im.int_inv hy
  exact ⟨i, j, rfl, rfl, k.im S (.bl _) p⟩
theorem rr_ic {C : Int → Int → Prop} {g : Int → Int → Int} {i j : Int} (c : C i j) (p : P (.im (.int (g i j)))) : RR K m H0 (rI C fun i j => .int (g i j)) (.im (.int i)) (.im (.int j)) Γ P := fun σ H v w S hx hy Q k => by
  cases Im.int_inv hx; cases Im.int_inv hy
  exact ⟨i, j, rfl, rfl, c, k.im S (.int _) p⟩
theorem ru_i {g : Int → Int} {i : Int} (p : P (.im (.int (g i)))) : RU K m H0 (rU fun i => .int (g i)) (.im (.int i)) Γ P := fun σ H v S hx Q k => by
  cases Im.int_inv hx
  exact ⟨i, rfl, k.im S (.int _) p⟩
theorem rr_eq {d e : PyData} (hx : x.dat = some d) (hy : y.dat = some e) (sd : SeqAt.shaped d = true) (se : SeqAt.shaped e = true) (p : P (.im (.bool (PyData.eqv d e)))) : RR K m H0 (rEqD K) x y Γ P := fun σ H v w S rx ry Q k =>
  ⟨d, e, rx.readD hx, ry.readD hy, sd, se, k.im S (.bl _) p⟩
theorem rr_ne {d e : PyData} (hx : x.dat = some d) (hy : y.dat = some e) (sd : SeqAt.shaped d = true) (se : SeqAt.shaped e = true) (p : P (.im (.bool (!PyData.eqv d e)))) : RR K m H0 (rNeD K) x y Γ P := fun σ H v w S rx ry Q k =>
  ⟨d, e, rx.readD hx, ry.readD hy, sd, se, k.im S (.bl _) p⟩
theorem rr_inD {d : PyData} {ds : List PyData} (hx : x.dat = some d) (hy : y.lst = some ds) (sd : SeqAt.shaped d = true) (se : SeqAt.shaped (.list (unAll ds)) = true) (p : P (.im (.bool ((unAll ds).any fun z => PyData.eqv z d)))) : RR K m H0 (rInD K) x y Γ P := fun σ H v w S rx ry Q k => by
  refine ⟨d, unAll ds, rx.readD hx, ?_, sd, se, k.im S (.bl _) p⟩
  obtain ⟨a, xs, rfl, l, q, _⟩ := ry.readL hy
  exact .lst l (q.dp _ _)
theorem rr_notInD {d : PyData} {ds : List PyData} (hx : x.dat = some d) (hy : y.lst = some ds) (sd : SeqAt.shaped d = true) (se : SeqAt.shaped (.list (unAll ds)) = true) (p : P (.im (.bool (!(unAll ds).any fun z => PyData.eqv z d)))) : RR K m H0 (rNotInD K) x y Γ P := fun σ H v w S rx ry Q k => by
  refine ⟨d, unAll ds, rx.readD hx, ?_, sd, se, k.im S (.bl _) p⟩
  obtain ⟨a, xs, rfl, l, q, _⟩ := ry.readL hy
  exact .lst l (q.dp _ _)
theorem ImAll.at {xs : List V} {ds : List PyData} {i : Int} {d : PyData} (h : ImAll K H xs ds) (e : atI ds i = some d) : ∃ v, atI xs i = some v ∧ Im K H v d := by
  unfold atI at e ⊢
  rw [h.length]
  cases q : ixN ds.length i with
  | none => rw [q] at e; cases e
  | some j => rw [q] at e; exact h.get e
theorem rr_ixT {ds : List PyData} {i : Int} {d : PyData} (e : atI ds i = some d) (p : P (.im d)) : RR K m H0 (rIxT K) (.im (.tuple ds)) (.im (.int i)) Γ P := fun σ H v w S rx ry Q k => by
  cases Im.int_inv ry
  obtain ⟨a, xs, rfl, l, q⟩ := Im.tup_inv rx
  obtain ⟨v, e1, e2⟩ := q.at e
  exact ⟨a, xs, i, v, rfl, rfl, l, e1, k.im S e2 p⟩
theorem rr_ixL {ds : List PyData} {i : Int} {d : PyData} (hx : x.lst = some ds) (e : atI ds i = some d) (p : P (.im d)) : RR K m H0 (rIxL K) x (.im (.int i)) Γ P := fun σ H v w S rx ry Q k => by
  cases Im.int_inv ry
  obtain ⟨a, xs, rfl, l, q, _⟩ := rx.readL hx
  obtain ⟨v, e1, e2⟩ := q.at e
  exact ⟨a, xs, i, v, rfl, rfl, l, e1, k.im S e2 p⟩
theorem rr_cat {as bs : List PyData} (z : as.length + bs.length ≤ 1000000) (p : P (.im (.tuple (as ++ bs)))) : RR K m H0 (rCatA K) (.im (.tuple as)) (.im (.tuple bs)) Γ P := fun σ H v w S rx ry Q k => by
  obtain ⟨a, xs, rfl, l, q⟩ := Im.tup_inv rx
  obtain ⟨b, ys, rfl, l', q'⟩ := Im.tup_inv ry
  refine ⟨a, b, xs, ys, rfl, rfl, l, l', sz (by rw [q.length, q'.length]; exact z), fun e => ?_, fun _ e => ?_, fun _ _ c n => ?_⟩
  · subst e
    cases q
    exact k.im S ry p
  · subst e
    cases q'
    rw [List.append_nil] at p
    exact k.im S rx p
  · exact k.tup S (q.append q') n p
theorem rr_catL {as bs : List PyData} (z : as.length + bs.length ≤ 1000000) (p : P (.fl (as ++ bs))) : RR K m H0 rCat (.fl as) (.fl bs) Γ P := fun σ H v w S rx ry Q k => by
  obtain ⟨a, xs, rfl, n1, w1, l, q, z1⟩ := rx
  obtain ⟨b, ys, rfl, n2, w2, l', q', z2⟩ := ry
  exact ⟨a, b, xs, ys, rfl, rfl, l, l', sz (by rw [q.length, q'.length]; exact z), fun c n => k.fl S (q.append q') n p⟩

/-! ### calls of built-ins -/
theorem rc_len {ds : List PyData} (hx : x.seq = some ds) (p : P (.im (.int ds.length))) : RC K m H0 (fun xs H Q => ∃ p ys, xs = [.ref p] ∧ (SqL K H p ys ∨ SqT K H p ys) ∧ Q (.int ys.length) H) [x] Γ P := fun σ H vs S rx Q k => by
  cases rx with
  | cons a b =>
    cases b
    obtain ⟨c, xs, rfl, l, q⟩ := a.readS hx
    refine ⟨c, xs, rfl, l, ?_⟩
    rw [q.length]
    exact k.im S (.int _) p
theorem rc_int {i : Int} (p : P (.im (.int i))) : RC K m H0 (fun xs H Q => (∃ i, xs = [.int i] ∧ Q (.int i) H) ∨ ∃ k, xs = [.bl k] ∧ Q (.int (if k then 1 else 0)) H) [.im (.int i)] Γ P := fun σ H vs S rx Q k => by
  cases rx with
  | cons a b =>
    cases b
    cases Im.int_inv a
    exact .inl ⟨i, rfl, k.im S (.int _) p⟩
theorem rc_intB {i : Bool} (p : P (.im (.int (if i then 1 else 0)))) : RC K m H0 (fun xs H Q => (∃ i, xs = [.int i] ∧ Q (.int i) H) ∨ ∃ k, xs = [.bl k] ∧ Q (.int (if k then 1 else 0)) H) [.im (.bool i)] Γ P := fun σ H vs S rx Q k => by
  cases rx with
  | cons a b =>
    cases b
    cases Im.bl_inv a
    exact .inr ⟨i, rfl, k.im S (.int _) p⟩
theorem rc_abs {i : Int} (p : P (.im (.int (if i < 0 then -i else i)))) : RC K m H0 (fun xs H Q => ∃ i, xs = [.int i] ∧ Q (.int (if i < 0 then -i else i)) H) [.im (.int i)] Γ P := fun σ H vs S rx Q k => by
  cases rx with
  | cons a b =>
    cases b
    cases Im.int_inv a
    exact ⟨i, rfl, k.im S (.int _) p⟩
theorem rc_list {ds : List PyData} (hx : x.seq = some ds) (p : P (.fl ds)) : RC K m H0 (fun xs H Q => ∃ p ys, xs = [.ref p] ∧ (SqL K H p ys ∨ SqT K H p ys) ∧ ∀ l, H l = none → Q (.ref l) (upd H l (.lst ys))) [x] Γ P := fun σ H vs S rx Q k => by
  cases rx with
  | cons a b =>
    cases b
    obtain ⟨c, xs, rfl, l, q⟩ := a.readS hx
    exact ⟨c, xs, rfl, l, fun b n => k.fl S q n p⟩
theorem ru_tuple {ds : List PyData} (hx : x.seq = some ds) (p : P (.im (.tuple ds))) : RU K m H0 (kTup K) x Γ P := fun σ H v S rx Q k => by
  cases x with
  | rl es => cases hx; obtain ⟨a, xs, e, l, q, w⟩ := rx; exact .inl ⟨a, xs, e, l, fun b n => k.tup S q n p⟩
  | fl es => cases hx; obtain ⟨a, xs, e, n, w, l, q, z⟩ := rx; exact .inl ⟨a, xs, e, .of l, fun b n => k.tup S q n p⟩
  | im d =>
    cases d with
    | tuple es => cases hx; obtain ⟨a, xs, rfl, l, q⟩ := Im.tup_inv rx; exact .inr ⟨a, xs, rfl, l, k.im S rx p⟩
    | none => cases hx
    | bool _ => cases hx
    | int _ => cases hx
    | str _ => cases hx
    | list _ => cases hx
    | dict _ => cases hx
  | rf d => cases hx
  | fd d => cases hx
  | rd d => cases hx
def rangeD (a b : Int) : List PyData := (List.range (b - a).toNat).map fun i => .int (a + (i : Nat))
theorem rgV_im (H : Hp) (a b : Int) : ImAll K H (rgV a b) (rangeD a b) := by
  have e : rgV a b = ((List.range (b - a).toNat).map fun i : Nat => a + (i : Int)).map V.int := by unfold rgV; rw [List.map_map]; rfl
  have e' : rangeD a b = ((List.range (b - a).toNat).map fun i : Nat => a + (i : Int)).map PyData.int := by unfold rangeD; rw [List.map_map]; rfl
  rw [e, e']
  exact .ints _
theorem e_listRg (h : E K m H0 ta Γ fun x => ∃ n, x = .im (.int n) ∧ 0 ≤ n ∧ n ≤ 1000000 ∧ P (.fl (rangeD 0 n))) : E K m H0 (tLstRg (tRg1 ta)) Γ P := fun σ H S Q k =>
  h σ H S _ fun v x H1 st S1 rx _ ⟨n, hx, n0, n1, p⟩ => by
    subst hx
    cases Im.int_inv rx
    exact ⟨n, rfl, RgOk.of_le (by omega) (by omega) (by omega) (by omega), fun q hq => (k.back S1 st).fl S1 (rgV_im _ _ _) hq p⟩

/-! ### slices -/
def cutD (xs : List PyData) (lo hi : Option Int) : List PyData := (xs.drop (HT.sIx xs.length 0 lo)).take (HT.sIx xs.length xs.length hi - HT.sIx xs.length 0 lo)
theorem ImAll.cut {xs : List V} {ds : List PyData} (h : ImAll K H xs ds) (lo hi : Option Int) : ImAll K H (cutV xs lo hi) (cutD ds lo hi) := by
  unfold cutV cutD
  rw [h.length]
  exact (h.drop _).take _
theorem eo_no {P : Option Int → Prop} (p : P none) : EO K m H0 tNoPart Γ P := fun σ H S Q k => k none H .refl S p
theorem eo_some {P : Option Int → Prop} (h : E K m H0 te Γ fun x => ∃ i, x = .im (.int i) ∧ P (some i)) : EO K m H0 (tPart te) Γ P := fun σ H S Q k =>
  h σ H S _ fun v x H1 st S1 rx _ ⟨i, hx, p⟩ => by
    subst hx
    exact ⟨i, Im.int_inv rx, k _ H1 st S1 p⟩
theorem e_slT {tl th : TO} (h : E K m H0 te Γ fun x => EO K m H0 tl Γ fun lo => EO K m H0 th Γ fun hi => ∃ ds, x = .im (.tuple ds) ∧ P (.im (.tuple (cutD ds lo hi)))) : E K m H0 (tSl (rSlA K) te tl th) Γ P := fun σ H S Q k =>
  h σ H S _ fun v x H1 st S1 rx _ hx => hx σ H1 S1 _ fun lo H2 st2 S2 hl => hl σ H2 S2 _ fun hi H3 st3 S3 ⟨ds, e, p⟩ => by
    subst e
    have rx3 := (ROk.step st2 rx).step st3
    have k3 := k.back S3 ((st.trans st2).trans st3)
    obtain ⟨a, xs, rfl, l0, q⟩ := Im.tup_inv' rx3
    refine ⟨a, xs, rfl, .of l0, fun ⟨e1, e2⟩ => ?_, fun _ b n => k3.tup S3 (q.cut lo hi) n p⟩
    refine k3.im S3 (Im.tup l0 ?_) p
    have e : cutD ds lo hi = ds := by
      unfold cutD
      rw [← q.length, e1, e2, List.drop_zero, Nat.sub_zero, q.length, List.take_length]
    rw [e]; exact q
theorem e_slL {tl th : TO} (h : E K m H0 te Γ fun x => EO K m H0 tl Γ fun lo => EO K m H0 th Γ fun hi => ∃ ds, x.lst = some ds ∧ P (.fl (cutD ds lo hi))) : E K m H0 (tSl (rSlL K) te tl th) Γ P := fun σ H S Q k =>
  h σ H S _ fun v x H1 st S1 rx _ hx => hx σ H1 S1 _ fun lo H2 st2 S2 hl => hl σ H2 S2 _ fun hi H3 st3 S3 ⟨ds, e, p⟩ => by
    have rx3 := (ROk.step st2 rx).step st3
    have k3 := k.back S3 ((st.trans st2).trans st3)
    obtain ⟨a, xs, rfl, l, q, _⟩ := rx3.readL e
    exact ⟨a, xs, rfl, l, fun b n => k3.fl S3 (q.cut lo hi) n p⟩
theorem e_revL (h : E K m H0 te Γ fun x => ∃ ds, x.lst = some ds ∧ P (.fl ds.reverse)) : E K m H0 (tRevL K te) Γ P := fun σ H S Q k =>
  h σ H S _ fun v x H1 st S1 rx _ ⟨ds, e, p⟩ => by
    obtain ⟨a, xs, rfl, l, q, _⟩ := rx.readL e
    exact ⟨a, xs, rfl, l, fun b n => (k.back S1 st).fl S1 q.reverse n p⟩

/-! ### tests -/
variable {B : Bool → Prop}
theorem et_cmp (h : E K m H0 te Γ fun r => ∃ b, r = .im (.bool b) ∧ B b) : ET K m H0 (tTest te) Γ B := fun σ H S Q k =>
  h σ H S _ fun v x H1 st S1 rx _ ⟨b, e, p⟩ => by
    subst e
    exact ⟨b, Im.bl_inv rx, k b H1 st S1 p⟩
theorem et_B (h : E K m H0 te Γ fun r => ∃ b, r = .im (.bool b) ∧ B b) : ET K m H0 (tB te) Γ B := fun σ H S Q k =>
  h σ H S _ fun v x H1 st S1 rx _ ⟨b, e, p⟩ => by
    subst e
    exact ⟨b, Im.bl_inv rx, k b H1 st S1 p⟩
theorem et_and (h : ET K m H0 tt Γ fun b => if b = true then ET K m H0 tu Γ B else B false) : ET K m H0 (tAnd tt tu) Γ B := fun σ H S Q k =>
  h σ H S _ fun b H1 st S1 p => by
    cases b with
    | true => exact (show ET K m H0 tu Γ B from p) σ H1 S1 Q fun b H' s S' q => k b H' (st.trans s) S' q
    | false => exact k false H1 st S1 p
theorem et_or (h : ET K m H0 tt Γ fun b => if b = true then B true else ET K m H0 tu Γ B) : ET K m H0 (tOr tt tu) Γ B := fun σ H S Q k =>
  h σ H S _ fun b H1 st S1 p => by
    cases b with
    | false => exact (show ET K m H0 tu Γ B from p) σ H1 S1 Q fun b H' s S' q => k b H' (st.trans s) S' q
    | true => exact k true H1 st S1 p
theorem et_not (h : ET K m H0 tt Γ fun b => B (!b)) : ET K m H0 (tNot tt) Γ B := fun σ H S Q k =>
  h σ H S _ fun b H1 st S1 p => k (!b) H1 st S1 p
theorem et_yes (p : B true) : ET K m H0 tYes Γ B := fun σ H S Q k => k true H .refl S p
theorem e_andV (h : E K m H0 ta Γ fun r => ∃ b, r = .im (.bool b) ∧ if b = true then E K m H0 tb Γ P else P (.im (.bool false))) : E K m H0 (tAndV ta tb) Γ P := fun σ H S Q k =>
  h σ H S _ fun v x H1 st S1 rx _ ⟨b, e, p⟩ => by
    subst e
    refine ⟨b, Im.bl_inv rx, ?_⟩
    cases b with
    | true => exact (show E K m H0 tb Γ P from p) σ H1 S1 Q (k.back S1 st)
    | false => exact (k.back S1 st).im S1 (.bl _) p
theorem e_orV (h : E K m H0 ta Γ fun r => ∃ b, r = .im (.bool b) ∧ if b = true then P (.im (.bool true)) else E K m H0 tb Γ P) : E K m H0 (tOrV ta tb) Γ P := fun σ H S Q k =>
  h σ H S _ fun v x H1 st S1 rx _ ⟨b, e, p⟩ => by
    subst e
    refine ⟨b, Im.bl_inv rx, ?_⟩
    cases b with
    | false => exact (show E K m H0 tb Γ P from p) σ H1 S1 Q (k.back S1 st)
    | true => exact (k.back S1 st).im S1 (.bl _) p
theorem e_notV (h : E K m H0 ta Γ fun r => ∃ b, r = .im (.bool b) ∧ P (.im (.bool (!b)))) : E K m H0 (tNotV ta) Γ P := fun σ H S Q k =>
  h σ H S _ fun v x H1 st S1 rx _ ⟨b, e, p⟩ => by
    subst e
    exact ⟨b, Im.bl_inv rx, (k.back S1 st).im S1 (.bl _) p⟩
end
end Rt

set_option Elab.async false
set_option linter.all false
set_option maxRecDepth 100000
set_option maxHeartbeats 2000000
namespace Rt
open PySem L2

/-- what is wanted behind a statement, told by the slots -/
structure Po where
  nx : Gm → Prop := fun _ => False
  rt : R → Prop := fun _ => False
  bk : Gm → Prop := fun _ => False
  ct : Gm → Prop := fun _ => False
section
variable (K : PySem.W.Frag) (m : Mode) (H0 : Hp)
/-- what stood and is not the def's own stands -/
def Adv (Γ : Gm) (σ : L2.St) (H : Hp) (Γ' : Gm) (σ' : L2.St) (H' : Hp) : Prop :=
  (∀ a o, ¬ m.W a → H a = some o → Apart Γ σ a → H' a = some o ∧ Apart Γ' σ' a) ∧ ∀ a (xs : TpO), H a = some xs.1 → H' a = some xs.1
/-- a returned value -/
def Ret (H' : Hp) (v : V) : R → Prop
  | .im d => Im K H' v d
  | .rf w => v = w
  | .rl _ => False
  | .fl ds => ∃ a xs, v = .ref a ∧ H0 a = none ∧ ¬ m.W a ∧ H' a = some (.lst xs) ∧ ImAll K H' xs ds
  | .fd kvs => ∃ a ks, v = .ref a ∧ H0 a = none ∧ ¬ m.W a ∧ H' a = some (.dT ks) ∧ KvAll K H' ks kvs
  | .rd _ => False
structure Fit (Γ : Gm) (σ : L2.St) (H : Hp) (O : Po) (D : Ends) : Prop where
  nx : ∀ Γ' σ' H', Adv m Γ σ H Γ' σ' H' → Sta K m H0 Γ' σ' H' → O.nx Γ' → D.nx σ' H'
  rt : ∀ v r H', Step m.W H0 H' → m.S H' → Ret K m H0 H' v r → O.rt r → D.rt v H'
  bk : ∀ Γ' σ' H', Adv m Γ σ H Γ' σ' H' → Sta K m H0 Γ' σ' H' → O.bk Γ' → D.bk σ' H'
  ct : ∀ Γ' σ' H', Adv m Γ σ H Γ' σ' H' → Sta K m H0 Γ' σ' H' → O.ct Γ' → D.ct σ' H'
def SS (ts : TS) (Γ : Gm) (O : Po) : Prop := ∀ σ H D, Sta K m H0 Γ σ H → Fit K m H0 Γ σ H O D → ts D σ H
end
section
variable {K : PySem.W.Frag} {m : Mode} {H0 H H' H1 H2 : Hp} {Γ Γ' Γ1 Γ2 : Gm} {σ σ' σ1 σ2 : L2.St} {v w : V} {r x y : R} {P : R → Prop} {ta tb te : TE} {tt : TT} {t u : TS} {O : Po} {D : Ends}
theorem Adv.refl : Adv m Γ σ H Γ σ H := ⟨fun _ _ _ h a => ⟨h, a⟩, fun _ _ h => h⟩
theorem Adv.trans (a : Adv m Γ σ H Γ1 σ1 H1) (b : Adv m Γ1 σ1 H1 Γ2 σ2 H2) : Adv m Γ σ H Γ2 σ2 H2 :=
  ⟨fun p o w h ap => let ⟨h1, ap1⟩ := a.1 p o w h ap; b.1 p o w h1 ap1, fun p xs h => b.2 p xs (a.2 p xs h)⟩
theorem Adv.step (s : Step m.W H H') : Adv m Γ σ H Γ σ H' := ⟨fun a o w h ap => ⟨s.ob a o w h, ap⟩, s.tp⟩
theorem Fit.adv (f : Fit K m H0 Γ σ H O D) (a : Adv m Γ σ H Γ1 σ1 H1) : Fit K m H0 Γ1 σ1 H1 O D :=
  ⟨fun _ _ _ b => f.nx _ _ _ (a.trans b), f.rt, fun _ _ _ b => f.bk _ _ _ (a.trans b), fun _ _ _ b => f.ct _ _ _ (a.trans b)⟩
theorem Fit.step (f : Fit K m H0 Γ σ H O D) (s : Step m.W H H') : Fit K m H0 Γ σ H' O D := f.adv (.step s)
/-- what may be handed back -/
def R.can : R → Bool
  | .rl _ => false
  | .rd _ => false
  | _ => true
theorem ROk.ret (h : ROk K m H0 Γ σ H v r) (c : r.can = true) : Ret K m H0 H v r := by
  cases r with
  | im d => exact h
  | rf w => exact h
  | rl ds => cases c
  | fl ds => obtain ⟨a, xs, e, n, w, l, q, z⟩ := h; exact ⟨a, xs, e, n, w, l, q⟩
  | fd ds => obtain ⟨a, xs, e, n, w, l, q, z⟩ := h; exact ⟨a, xs, e, n, w, l, q⟩
  | rd ds => cases c
theorem apart_set {a : Addr} {i : Nat} (ap : Apart Γ σ a) (h : isOwn r.sl = true → v ≠ .ref a) : Apart (Γ.set i r.sl) (σ.set i (some v)) a := fun j s e o q => by
  rw [List.getElem?_set] at e q
  by_cases hij : i = j
  · rw [if_pos hij] at e q
    split at e
    · split at q
      · have e' := Option.some.inj e
        have q' := Option.some.inj (Option.some.inj q)
        exact h (by rw [e']; exact o) q'
      · cases q
    · cases e
  · rw [if_neg hij] at e q
    exact ap j s e o q
theorem fsh_ne {a : Addr} {o : HO} (f : Fsh H v r) (h : H a = some o) (w : isOwn r.sl = true) : v ≠ .ref a := fun e => by
  cases r with
  | fl ds => rw [f a e] at h; cases h
  | fd ds => rw [f a e] at h; cases h
  | im d => cases w
  | rf d => cases w
  | rl d => cases w
  | rd d => cases w
theorem Adv.set {i : Nat} (s : Step m.W H H') (f : Fsh H v r) : Adv m Γ σ H (Γ.set i r.sl) (σ.set i (some v)) H' :=
  ⟨fun a o w h ap => ⟨s.ob a o w h, apart_set ap (fsh_ne f h)⟩, s.tp⟩

/-! ### statements -/
theorem ss_seq (h : SS K m H0 t Γ { O with nx := fun Γ' => SS K m H0 u Γ' O }) : SS K m H0 (tSeq t u) Γ O := fun σ H D S f =>
  h σ H _ S ⟨fun Γ' σ' H' a S' p => p σ' H' D S' (f.adv a), f.rt, f.bk, f.ct⟩
theorem ss_next (h : O.nx Γ) : SS K m H0 tNext Γ O := fun σ H D S f => f.nx Γ σ H .refl S h
theorem ss_brk (h : O.bk Γ) : SS K m H0 tBreak Γ O := fun σ H D S f => f.bk Γ σ H .refl S h
theorem ss_cont (h : O.ct Γ) : SS K m H0 tCont Γ O := fun σ H D S f => f.ct Γ σ H .refl S h
theorem ss_asg {i : Nat} (h : E K m H0 te Γ fun r => O.nx (Γ.set i r.sl)) : SS K m H0 (tAsg te (gName i)) Γ O := fun σ H D S f =>
  h σ H S _ fun v r H' st S' ro fs p => f.nx _ _ H' (.set st fs) (S'.set ro) p
theorem ss_drop (h : E K m H0 te Γ fun _ => O.nx Γ) : SS K m H0 (tDrop te) Γ O := fun σ H D S f =>
  h σ H S _ fun v r H' st S' ro fs p => f.nx _ _ H' (.step st) S' p
theorem ss_ret (h : E K m H0 te Γ fun r => r.can = true ∧ O.rt r) : SS K m H0 (tRet te) Γ O := fun σ H D S f =>
  h σ H S _ fun v r H' st S' ro fs p => f.rt v r H' S'.sp S'.ok (ro.ret p.1) p.2
theorem ss_retN (h : O.rt (.im .none)) : SS K m H0 tRetN Γ O := fun σ H D S f => f.rt .non (.im .none) H S.sp S.ok .non h
theorem ss_retOwn {i : Nat} {ds : List PyData} (e : Γ[i]? = some (.ls ds)) (h : O.rt (.fl ds)) : SS K m H0 (tRet (tVar i)) Γ O := fun σ H D S f => by
  obtain ⟨o, e1, a, xs, rfl, n, w, l, q⟩ := S.sl i _ e
  exact ⟨_, e1, f.rt _ (.fl ds) H S.sp S.ok ⟨a, xs, rfl, n, w, l, q⟩ h⟩
theorem ss_retDic {i : Nat} {ds : List (List Int × PyData)} (e : Γ[i]? = some (.dt ds)) (h : O.rt (.fd ds)) : SS K m H0 (tRet (tVar i)) Γ O := fun σ H D S f => by
  obtain ⟨o, e1, a, xs, rfl, n, w, l, q⟩ := S.sl i _ e
  exact ⟨_, e1, f.rt _ (.fd ds) H S.sp S.ok ⟨a, xs, rfl, n, w, l, q⟩ h⟩
theorem ss_if (h : ET K m H0 tt Γ fun b => if b = true then SS K m H0 t Γ O else SS K m H0 u Γ O) : SS K m H0 (tIfS tt t u) Γ O := fun σ H D S f =>
  h σ H S _ fun b H' st S' p => by
    cases b with
    | true => exact (show SS K m H0 t Γ O from p) σ H' D S' (f.step st)
    | false => exact (show SS K m H0 u Γ O from p) σ H' D S' (f.step st)
theorem SS.imp {O' : Po} (h : SS K m H0 t Γ O) (n : ∀ Γ', O.nx Γ' → O'.nx Γ') (r : ∀ x, O.rt x → O'.rt x) (b : ∀ Γ', O.bk Γ' → O'.bk Γ') (c : ∀ Γ', O.ct Γ' → O'.ct Γ') : SS K m H0 t Γ O' := fun σ H D S f =>
  h σ H D S ⟨fun Γ' σ' H' a S' p => f.nx Γ' σ' H' a S' (n _ p), fun v x H' a b q p => f.rt v x H' a b q (r _ p), fun Γ' σ' H' a S' p => f.bk Γ' σ' H' a S' (b _ p), fun Γ' σ' H' a S' p => f.ct Γ' σ' H' a S' (c _ p)⟩
/-- two names at once -/
theorem ROk.set {i : Nat} (h : ROk K m H0 Γ σ H w y) (ne : ∀ a, isOwn y.sl = true → isOwn x.sl = true → w = .ref a → v ≠ .ref a) : ROk K m H0 (Γ.set i x.sl) (σ.set i (some v)) H w y := by
  cases y with
  | im d => exact h
  | rf d => exact h
  | rl ds => exact h
  | rd ds => exact h
  | fl ds => obtain ⟨a, xs, e, n, wn, l, q, ap⟩ := h; exact ⟨a, xs, e, n, wn, l, q, apart_set ap fun o => ne a rfl o e⟩
  | fd ds => obtain ⟨a, xs, e, n, wn, l, q, ap⟩ := h; exact ⟨a, xs, e, n, wn, l, q, apart_set ap fun o => ne a rfl o e⟩
theorem own_at (h : ROk K m H0 Γ σ H v x) (o : isOwn x.sl = true) {a : Addr} (e : v = .ref a) : ∃ u, H a = some u := by
  cases x with
  | fl ds => obtain ⟨b, xs, e', n, wn, l, q⟩ := h; rw [e] at e'; cases e'; exact ⟨_, l⟩
  | fd ds => obtain ⟨b, xs, e', n, wn, l, q⟩ := h; rw [e] at e'; cases e'; exact ⟨_, l⟩
  | im d => cases o
  | rf d => cases o
  | rl d => cases o
  | rd d => cases o
theorem fsh_no {a : Addr} (f : Fsh H v r) (o : isOwn r.sl = true) (e : v = .ref a) : H a = none := by
  cases r with
  | fl ds => exact f a e
  | fd ds => exact f a e
  | im d => cases o
  | rf d => cases o
  | rl d => cases o
  | rd d => cases o
theorem ss_par {i j : Nat} (h : E K m H0 ta Γ fun x => E K m H0 tb Γ fun y => O.nx ((Γ.set i x.sl).set j y.sl)) : SS K m H0 (tPar i j (tCons ta (tCons tb tNil))) Γ O := fun σ H D S f =>
  h σ H S _ fun v x H1 st1 S1 r1 f1 h2 => h2 σ H1 S1 _ fun w y H2 st2 S2 r2 f2 p => by
    have r1' := r1.step st2
    have Sa := S2.set (i := i) r1'
    have Sb := Sa.set (i := j) (r2.set (i := i) (x := x) (v := v) fun a oy ox ew ev => by
      have n := fsh_no f2 oy ew
      obtain ⟨u, e⟩ := own_at r1 ox ev
      rw [n] at e; cases e)
    have A : Adv m Γ σ H ((Γ.set i x.sl).set j y.sl) ((σ.set i (some v)).set j (some w)) H2 := by
      refine ⟨fun a o wn h ap => ⟨st2.ob a o wn (st1.ob a o wn h), apart_set (apart_set ap (fsh_ne f1 h)) (fsh_ne f2 (st1.ob a o wn h))⟩, fun a xs h => st2.tp a xs (st1.tp a xs h)⟩
    exact ⟨v, w, rfl, f.nx _ _ H2 A Sb p⟩

/-! ### targets -/
theorem wipe_get (σ : L2.St) (k : Nat) : ∀ vs : List Nat, (wipe σ vs)[k]? = if k ∈ vs ∧ k < σ.length then some none else σ[k]?
  | [] => by simp [wipe]
  | v :: vs => by
    unfold wipe
    rw [List.getElem?_set, wipe_length, wipe_get σ k vs]
    by_cases hv : v = k
    · subst hv
      by_cases hl : v < σ.length
      · simp [hl]
      · simp [hl]
    · rw [if_neg hv]
      have e : (k ∈ v :: vs) ↔ (k ∈ vs) := by
        rw [List.mem_cons]
        exact ⟨fun h => h.resolve_left (Ne.symm hv), Or.inr⟩
      by_cases hk : k ∈ vs
      · simp [hk]
      · simp [hk, Ne.symm hv]
theorem wipe_set {σ : L2.St} {i : Nat} {o : Option V} {vs : List Nat} (h : i ∈ vs) : wipe (σ.set i o) vs = wipe σ vs := by
  apply List.ext_getElem?
  intro k
  rw [wipe_get, wipe_get, List.length_set, List.getElem?_set]
  by_cases hk : k ∈ vs ∧ k < σ.length
  · rw [if_pos hk, if_pos hk]
  · rw [if_neg hk, if_neg hk]
    by_cases hi : i = k
    · subst hi
      have hl : ¬ i < σ.length := fun z => hk ⟨h, z⟩
      rw [if_pos rfl, if_neg hl, List.getElem?_eq_none (by omega)]
    · rw [if_neg hi]
theorem wipe_wipe (σ : L2.St) (vs : List Nat) : wipe (wipe σ vs) vs = wipe σ vs := by
  apply List.ext_getElem?
  intro k
  rw [wipe_get, wipe_length]
  by_cases hk : k ∈ vs ∧ k < σ.length
  · rw [if_pos hk, wipe_get, if_pos hk]
  · rw [if_neg hk]
def GT (g : TG) (js : List Nat) (d : PyData) (Γ : Gm) (P : Gm → Prop) : Prop :=
  ∀ σ H v, Sta K m H0 Γ σ H → Im K H v d → ∀ Q : L2.St → Hp → Prop, (∀ Γ' σ', Adv m Γ σ H Γ' σ' H → Sta K m H0 Γ' σ' H → (∀ vs : List Nat, (∀ j, j ∈ js → j ∈ vs) → wipe σ' vs = wipe σ vs) → P Γ' → Q σ' H) → g v σ H Q
theorem gt_name {i : Nat} {d : PyData} {P : Gm → Prop} (p : P (Γ.set i (.im d))) : GT (K := K) (m := m) (H0 := H0) (gName i) [i] d Γ P := fun σ H v S h Q k =>
  k _ _ (Adv.set .refl (r := .im d) trivial) (S.set (r := .im d) h) (fun vs hv => wipe_set (hv i (by simp))) p
theorem gt_tup2 {i j : Nat} {a b : PyData} {P : Gm → Prop} (p : P ((Γ.set i (.im a)).set j (.im b))) : GT (K := K) (m := m) (H0 := H0) (gTup K 2 (gCons (gName i) (gCons (gName j) gNil))) [i, j] (.tuple [a, b]) Γ P := fun σ H v S h Q k => by
  obtain ⟨p', xs, rfl, l, q⟩ := Im.tup_inv h
  cases q with
  | cons q1 q2 =>
    cases q2 with
    | cons q2 q3 =>
      cases q3
      exact ⟨p', _, rfl, l, rfl, _, _, rfl, _, _, rfl, rfl, k _ _ ((Adv.set .refl (r := .im a) trivial).trans (Adv.set .refl (r := .im b) trivial)) ((S.set (r := .im a) q1).set (r := .im b) q2) (fun vs hv => (wipe_set (hv j (by simp))).trans (wipe_set (hv i (by simp)))) p⟩
/-- an assignment to a target of any form -/
theorem ss_asgT {g : TG} (js : List Nat) (h : E K m H0 te Γ fun r => ∃ d, r = .im d ∧ GT (K := K) (m := m) (H0 := H0) g js d Γ O.nx) : SS K m H0 (tAsg te g) Γ O := fun σ H D S f =>
  h σ H S _ fun v r H' st S' ro fs ⟨d, e, p⟩ => by
    subst e
    exact p σ H' v S' ro _ fun Γ' σ' a S2 _ q => f.nx Γ' σ' H' ((Adv.step st).trans a) S2 q
/-- a, b = a list -/
theorem ss_asgL2 {i j : Nat} (h : E K m H0 te Γ fun r => ∃ a b, r.lst = some [a, b] ∧ O.nx ((Γ.set i (.im a)).set j (.im b))) : SS K m H0 (tAsg te (gUnl K 2 (gCons (gName i) (gCons (gName j) gNil)))) Γ O := fun σ H D S f =>
  h σ H S _ fun v r H' st S' ro fs ⟨a, b, e, p⟩ => by
    obtain ⟨p', xs, rfl, l, q, _⟩ := ro.readL e
    cases q with
    | cons q1 q2 =>
      cases q2 with
      | cons q2 q3 =>
        cases q3
        have S1 := S'.set (i := i) (r := .im a) q1
        have S2 := S1.set (i := j) (r := .im b) q2
        exact ⟨p', _, rfl, l, rfl, _, _, rfl, _, _, rfl, rfl, f.nx _ _ H' ((Adv.set st (r := .im a) trivial).trans (Adv.set .refl (r := .im b) trivial)) S2 p⟩

/-! ### loops -/
/-- what is walked: the items, data; the walk stands while what stood stands -/
def IW (wi : TI) (Γ : Gm) (P : List PyData → Prop) : Prop :=
  ∀ σ H, Sta K m H0 Γ σ H → ∀ Q : It → Hp → Prop, (∀ J H' ds (G : Hp → Prop) Y, Step m.W H H' → Sta K m H0 Γ σ H' → P ds → Walk J ds.length G Y → G H' →
    (∀ Γ1 σ1 H1, Adv m Γ σ H' Γ1 σ1 H1 → G H1) → (∀ i H1 x H2, i < ds.length → G H1 → Y i H1 x H2 → ∃ d, ds[i]? = some d ∧ Im K H2 x d ∧ ((H2 = H1) ∨ ∃ p o, H1 p = none ∧ H2 = upd H1 p o)) → Q J H') → wi σ H Q
theorem iw_tup (h : E K m H0 te Γ fun r => ∃ ds, r = .im (.tuple ds) ∧ P (.im (.tuple ds))) {P' : List PyData → Prop} (hp : ∀ ds, P (.im (.tuple ds)) → P' ds) : IW (K := K) (m := m) (H0 := H0) (iTup K te) Γ P' := fun σ H S Q k =>
  h σ H S _ fun v r H' st S' ro fs ⟨ds, e, p⟩ => by
    subst e
    obtain ⟨a, xs, rfl, l, q⟩ := Im.tup_inv' ro
    refine ⟨a, rfl, ⟨xs, .of l⟩, k (Itt K a) H' ds (fun H => SqT K H a xs ∧ ImAll K H xs ds) (YAt xs) st S' (hp _ p) ?_ ⟨.of l, q⟩ (fun Γ1 σ1 H1 A => ?_) fun i H1 x H2 hi g y => ?_⟩
    · rw [← q.length]
      exact walk_tup.mono (fun H g => g.1) fun i H x H' _ _ y => y
    · have tt : ∀ b (ys : TpO), H' b = some ys.1 → H1 b = some ys.1 := A.2
      exact ⟨.of (tt _ ⟨.tup xs, trivial⟩ l), ImAll.mono tt _ _ q⟩
    · obtain ⟨e, y⟩ := y
      subst e
      obtain ⟨d, e1, e2⟩ := g.2.getV y
      exact ⟨d, e1, e2, .inl rfl⟩
theorem iw_T {P' : List PyData → Prop} (h : E K m H0 te Γ fun r => ∃ ds, r = .im (.tuple ds) ∧ P' ds) : IW (K := K) (m := m) (H0 := H0) (iTup K te) Γ P' :=
  iw_tup (P := fun r => ∃ ds, r = .im (.tuple ds) ∧ P' ds) (h.imp fun r ⟨ds, e, p⟩ => ⟨ds, e, ds, rfl, p⟩) fun ds ⟨es, e, p⟩ => by cases e; exact p
/-- over a list that the body leaves: one from outside, or one just made -/
theorem iw_L {P' : List PyData → Prop} (h : E K m H0 te Γ fun r => (∃ ds, r = .fl ds ∧ P' ds)) : IW (K := K) (m := m) (H0 := H0) (iList K te) Γ P' := fun σ H S Q k =>
  h σ H S _ fun v r H' st S' ro fs ⟨ds, e, p⟩ => by
    subst e
    obtain ⟨a, xs, rfl, n, w, l, q, ap⟩ := ro
    refine ⟨a, rfl, ⟨xs, .of l⟩, k (Itl K a) H' ds (fun H => SqL K H a xs ∧ ImAll K H xs ds) (YAt xs) st S' p ?_ ⟨.of l, q⟩ (fun Γ1 σ1 H1 A => ?_) fun i H1 x H2 hi g y => ?_⟩
    · rw [← q.length]
      exact walk_list.mono (fun H g => g.1) fun i H x H' _ _ y => y
    · have tt : ∀ b (ys : TpO), H' b = some ys.1 → H1 b = some ys.1 := A.2
      exact ⟨.of (A.1 a _ w l ap).1, ImAll.mono tt _ _ q⟩
    · obtain ⟨e, y⟩ := y
      subst e
      obtain ⟨d, e1, e2⟩ := g.2.getV y
      exact ⟨d, e1, e2, .inl rfl⟩
/-- a list from outside, by its slot -/
theorem iw_Lv {P' : List PyData → Prop} {i : Nat} {ds : List PyData} (e : Γ[i]? = some (.rl ds)) (p : P' ds) : IW (K := K) (m := m) (H0 := H0) (iList K (tVar i)) Γ P' := fun σ H S Q k => by
  obtain ⟨o, e1, a, xs, rfl, l0, q, w⟩ := S.sl i _ e
  have l := S.sp.l w l0
  have ap : ∀ {o}, H0 a = some o → Apart Γ σ a := fun {o} ho j s ej os qj => by
    obtain ⟨ov, e1, e2⟩ := S.sl j s ej
    rw [qj] at e1; cases e1
    cases s with
    | ls ds => obtain ⟨b, _, e, n, _⟩ := e2; cases e; rw [n] at ho; cases ho
    | dt ds => obtain ⟨b, _, e, n, _⟩ := e2; cases e; rw [n] at ho; cases ho
    | lk b _ _ _ => obtain ⟨e, n, _⟩ := e2; cases e; rw [n] at ho; cases ho
    | ll b _ _ => obtain ⟨e, n, _⟩ := e2; cases e; rw [n] at ho; cases ho
    | un => cases os
    | im d => cases os
    | rf d => cases os
    | rl d => cases os
    | rd d => cases os
  refine ⟨_, e1, a, rfl, ⟨xs, l⟩, k (Itl K a) H ds (fun H => SqL K H a xs ∧ ImAll K H xs ds) (YAt xs) .refl S p ?_ ⟨l, q⟩ (fun Γ1 σ1 H1 A => ?_) fun i H1 x H2 hi g y => ?_⟩
  · rw [← q.length]
    exact walk_list.mono (fun H g => g.1) fun i H x H' _ _ y => y
  · have tt : ∀ b (ys : TpO), H b = some ys.1 → H1 b = some ys.1 := A.2
    refine ⟨?_, ImAll.mono tt _ _ q⟩
    rcases l0 with (h | ⟨ob, h⟩) | h
    · exact .of (A.1 a _ w (S.sp.ob a _ w h) (ap h)).1
    · exact .inl (.inr ⟨ob, (A.1 a _ w (S.sp.ob a _ w h) (ap h)).1⟩)
    · exact .inr h
  · obtain ⟨e, y⟩ := y
    subst e
    obtain ⟨d, e1, e2⟩ := g.2.getV y
    exact ⟨d, e1, e2, .inl rfl⟩
theorem rangeD_len (lo : Int) (n : Nat) : (rangeD lo (lo + n)).length = n := by unfold rangeD; rw [List.length_map, List.length_range]; omega
theorem rangeD_get (lo : Int) (n i : Nat) (h : i < n) : (rangeD lo (lo + n))[i]? = some (.int (lo + i)) := by
  have en : (lo + (n : Int) - lo).toNat = n := by omega
  unfold rangeD
  rw [List.getElem?_map, en, List.getElem?_range h]; rfl
theorem iw_R1 {P' : List PyData → Prop} (h : E K m H0 te Γ fun r => ∃ n : Int, r = .im (.int n) ∧ n ≤ 1000000 ∧ -1000000 ≤ n ∧ P' (rangeD 0 n)) : IW (K := K) (m := m) (H0 := H0) (iRng1 (tCons te tNil)) Γ P' := fun σ H S Q k =>
  h σ H S _ fun v r H' st S' ro fs ⟨n, e, z1, z2, p⟩ => by
    subst e
    cases Im.int_inv ro
    have ez : rangeD 0 n = rangeD 0 (0 + (n.toNat : Int)) := by unfold rangeD; congr 2; omega
    rw [ez] at p
    refine ⟨n, rfl, by omega, by omega, k (Itr 0 n.toNat) H' _ (fun _ => True) (YFn fun i => .int (0 + i)) st S' p ?_ trivial (fun _ _ _ _ => trivial) fun i H1 x H2 hi g y => ?_⟩
    · rw [rangeD_len]; exact walk_range
    · obtain ⟨e, y⟩ := y
      subst e y
      rw [rangeD_len] at hi
      exact ⟨_, rangeD_get 0 _ i hi, .int _, .inl rfl⟩
theorem iw_R2 {P' : List PyData → Prop} (h : E K m H0 ta Γ fun r => ∃ lo : Int, r = .im (.int lo) ∧ lo ≤ 1000000 ∧ -1000000 ≤ lo ∧ E K m H0 tb Γ fun r => ∃ n : Int, r = .im (.int n) ∧ n ≤ 1000000 ∧ -1000000 ≤ n ∧ P' (rangeD lo n)) :
    IW (K := K) (m := m) (H0 := H0) (iRng2 (tCons ta (tCons tb tNil))) Γ P' := fun σ H S Q k =>
  h σ H S _ fun v r H' st S' ro fs ⟨lo, e, z1, z2, h2⟩ => h2 σ H' S' _ fun v' r' H'' st' S'' ro' fs' ⟨n, e', z3, z4, p⟩ => by
    subst e e'
    cases Im.int_inv ro
    cases Im.int_inv ro'
    have ez : rangeD lo n = rangeD lo (lo + ((n - lo).toNat : Int)) := by unfold rangeD; congr 2; omega
    rw [ez] at p
    refine ⟨lo, n, rfl, ⟨by omega, by omega, by omega, by omega⟩, k (Itr lo (n - lo).toNat) H'' _ (fun _ => True) (YFn fun i => .int (lo + i)) (st.trans st') S'' p ?_ trivial (fun _ _ _ _ => trivial) fun i H1 x H2 hi g y => ?_⟩
    · rw [rangeD_len]; exact walk_range
    · obtain ⟨e, y⟩ := y
      subst e y
      rw [rangeD_len] at hi
      exact ⟨_, rangeD_get lo _ i hi, .int _, .inl rfl⟩
end
end Rt

set_option Elab.async false
set_option linter.all false
set_option maxRecDepth 100000
set_option maxHeartbeats 2000000
namespace Rt
open PySem L2
section
variable {K : PySem.W.Frag} {m : Mode} {H0 H H' H1 H2 : Hp} {Γ Γ' Γ1 Γ2 : Gm} {σ σ' σ1 σ2 : L2.St} {v w : V} {r x y : R} {P : R → Prop} {ta tb te : TE} {tt : TT} {t u : TS} {O : Po} {D : Ends} {wi : TI} {g : TG} {js : List Nat}

/-! ### loops -/
theorem Sta.grow (S : Sta K m H0 Γ σ H) (h : (H' = H) ∨ ∃ p o, H p = none ∧ H' = upd H p o) : Sta K m H0 Γ σ H' ∧ Step m.W H H' := by
  rcases h with e | ⟨p, o, n, e⟩
  · subst e; exact ⟨S, .refl⟩
  · subst e; exact ⟨S.new n, .new n⟩
theorem ss_for (h : IW (K := K) (m := m) (H0 := H0) wi Γ fun ds => ∃ I : Nat → Gm → Prop, I 0 Γ ∧
      (∀ i d Γ', ds[i]? = some d → I i Γ' → GT (K := K) (m := m) (H0 := H0) g js d Γ' fun Γ'' => SS K m H0 t Γ'' { nx := I (i + 1), ct := I (i + 1), bk := O.nx, rt := O.rt }) ∧ ∀ Γ', I ds.length Γ' → O.nx Γ') :
    SS K m H0 (tFor wi g t) Γ O := fun σ H D S f =>
  h σ H S _ fun J H1 ds G Y st S1 ⟨I, i0, hs, hd⟩ wk g1 gk gy => by
    refine for_it wk (fun i σ' H' => ∃ Γ', I i Γ' ∧ Sta K m H0 Γ' σ' H' ∧ Adv m Γ σ H1 Γ' σ' H') ⟨Γ, i0, S1, .refl⟩ (fun i σ' H' _ ⟨Γ', _, _, a⟩ => gk Γ' σ' H' a) (fun i x σ' H' H'' hi ⟨Γ', hI, S', A⟩ y => ?_) fun σ' H' ⟨Γ', hI, S', A⟩ => f.nx Γ' σ' H' ((Adv.step st).trans A) S' (hd Γ' hI)
    obtain ⟨d, e, im, gr⟩ := gy i H' x H'' hi (gk Γ' σ' H' A) y
    obtain ⟨S'', st''⟩ := S'.grow gr
    refine hs i d Γ' e hI σ' H'' x S'' im _ fun Γ2 σ2 A2 S2 _ p => ?_
    have AA := (A.trans (Adv.step st'')).trans A2
    have AF := (Adv.step (Γ := Γ) (σ := σ) st).trans AA
    exact p σ2 H'' _ S2 ⟨fun Γ3 σ3 H3 A3 S3 q => ⟨Γ3, q, S3, AA.trans A3⟩, f.rt, fun Γ3 σ3 H3 A3 S3 q => f.nx Γ3 σ3 H3 (AF.trans A3) S3 q, fun Γ3 σ3 H3 A3 S3 q => ⟨Γ3, q, S3, AA.trans A3⟩⟩
theorem ss_while (I : Nat → Gm → Prop) (n0 : Nat) (h0 : I n0 Γ)
    (hs : ∀ n Γ', I n Γ' → ET K m H0 tt Γ' fun b => if b = true then SS K m H0 t Γ' { nx := fun Γ'' => ∃ n', n' < n ∧ I n' Γ'', ct := fun Γ'' => ∃ n', n' < n ∧ I n' Γ'', bk := O.nx, rt := O.rt } else O.nx Γ') : SS K m H0 (tWhile tt t) Γ O := fun σ H D S f => by
  refine ⟨fun n σ' H' => ∃ Γ', I n Γ' ∧ Sta K m H0 Γ' σ' H' ∧ Adv m Γ σ H Γ' σ' H', ⟨n0, Γ, h0, S, .refl⟩, ?_⟩
  rintro n σ' H' ⟨Γ', hI, S', A⟩
  refine hs n Γ' hI σ' H' S' _ fun b H2 st S2 p => ?_
  have A2 := A.trans (Adv.step (Γ := Γ') (σ := σ') st)
  cases b with
  | false => exact f.nx Γ' σ' H2 A2 S2 p
  | true =>
    refine ⟨fun σ3 H3 => ∃ n', n' < n ∧ ∃ Γ3, I n' Γ3 ∧ Sta K m H0 Γ3 σ3 H3 ∧ Adv m Γ σ H Γ3 σ3 H3, fun σ3 H3 ⟨n', hn, q⟩ => ⟨n', hn, q⟩, ?_⟩
    have p' : SS K m H0 t Γ' { nx := fun Γ'' => ∃ n', n' < n ∧ I n' Γ'', ct := fun Γ'' => ∃ n', n' < n ∧ I n' Γ'', bk := O.nx, rt := O.rt } := p
    exact p' σ' H2 _ S2 ⟨fun Γ3 σ3 H3 A3 S3 ⟨n', hn, q⟩ => ⟨n', hn, Γ3, q, S3, A2.trans A3⟩, f.rt, fun Γ3 σ3 H3 A3 S3 q => f.nx Γ3 σ3 H3 (A2.trans A3) S3 q, fun Γ3 σ3 H3 A3 S3 ⟨n', hn, q⟩ => ⟨n', hn, Γ3, q, S3, A2.trans A3⟩⟩

/-! ### comprehensions -/
/-- what is walked while nothing of the def's own changes -/
def IWe (wi : TI) (Γ : Gm) (P : List PyData → Prop) : Prop :=
  ∀ σ H, Sta K m H0 Γ σ H → ∀ Q : It → Hp → Prop, (∀ J H' ds (G : Hp → Prop) Y, Step m.W H H' → Sta K m H0 Γ σ H' → P ds → Walk J ds.length G Y → G H' →
    (∀ H1, Step m.W H' H1 → G H1) → (∀ i H1 x H2, i < ds.length → G H1 → Y i H1 x H2 → ∃ d, ds[i]? = some d ∧ Im K H2 x d ∧ ((H2 = H1) ∨ ∃ p o, H1 p = none ∧ H2 = upd H1 p o)) → Q J H') → wi σ H Q
theorem IW.e {P : List PyData → Prop} (h : IW (K := K) (m := m) (H0 := H0) wi Γ P) : IWe (K := K) (m := m) (H0 := H0) wi Γ P := fun σ H S Q k =>
  h σ H S Q fun J H' ds G Y st S' p wk g gk gy => k J H' ds G Y st S' p wk g (fun H1 s => gk Γ σ H1 (.step s)) gy

def wipeG (Γ : Gm) : List Nat → Gm
  | [] => Γ
  | v :: vs => (wipeG Γ vs).set v .un
theorem Sta.forget (S : Sta K m H0 Γ σ H) (i : Nat) : Sta K m H0 (Γ.set i .un) (σ.set i none) H := by
  refine ⟨by rw [List.length_set, List.length_set]; exact S.len, S.mo, S.sp, S.ok, fun j s e => ?_, fun j k s t a e1 o1 e2 o2 q1 q2 => ?_⟩
  · rw [List.getElem?_set] at e ⊢
    by_cases hij : i = j
    · rw [if_pos hij] at e ⊢
      split at e
      · cases e
        rename_i hl
        rw [if_pos (by rw [S.len]; exact hl)]
        exact ⟨none, rfl, trivial⟩
      · cases e
    · rw [if_neg hij] at e ⊢
      exact S.sl j s e
  · have nn : ∀ j s, (Γ.set i Sl.un)[j]? = some s → isOwn s = true → i ≠ j ∧ Γ[j]? = some s := fun j s e o => by
      rw [List.getElem?_set] at e
      by_cases hij : i = j
      · rw [if_pos hij] at e
        split at e
        · cases e; cases o
        · cases e
      · rw [if_neg hij] at e; exact ⟨hij, e⟩
    obtain ⟨n1, e1'⟩ := nn j s e1 o1
    obtain ⟨n2, e2'⟩ := nn k t e2 o2
    rw [List.getElem?_set_ne n1] at q1
    rw [List.getElem?_set_ne n2] at q2
    exact S.ne j k s t a e1' o1 e2' o2 q1 q2
theorem Sta.wipe (S : Sta K m H0 Γ σ H) : ∀ vs : List Nat, Sta K m H0 (wipeG Γ vs) (L2.wipe σ vs) H
  | [] => S
  | v :: vs => (S.wipe vs).forget v
/-- an object that is none of ours changes -/
theorem Sta.other (S : Sta K m H0 Γ σ H) {a : Addr} {o : HO} (hn : H0 a = none) (hw : ¬ m.W a) (ap : Apart Γ σ a) (hm : ∀ xs, ¬ Rd H a (.tup xs)) : Sta K m H0 Γ σ (upd H a o) := by
  have st : Step m.W H0 (upd H a o) := ⟨fun b u w e => by rw [upd_ne (ne_of_none e hn)]; exact S.sp.ob b u w e, fun b xs e => upd_rd_tup hm b xs (S.sp.tp b xs e)⟩
  have tt : ∀ b (xs : TpO), H b = some xs.1 → upd H a o b = some xs.1 := fun b xs h => upd_rd_tup hm b xs h
  have kk : ∀ {ks : List (List Key × V)} {kvs : List (List Int × PyData)}, KvAll K H ks kvs → KvAll K (upd H a o) ks kvs := fun {ks kvs} h => by
    induction h with
    | nil => exact .nil
    | cons z _ ih => exact .cons (Im.mono tt _ _ z) ih
  refine ⟨S.len, S.mo, st, S.mo.st H _ S.ok fun b u w e => by rw [upd_ne (show b ≠ a from fun z => hw (by rw [← z]; exact w))]; exact e, fun j t e => ?_, S.ne⟩
  obtain ⟨ov, e1, e2⟩ := S.sl j t e
  refine ⟨ov, e1, ?_⟩
  cases t with
  | un => exact trivial
  | im d => obtain ⟨v, e, q⟩ := e2; exact ⟨v, e, Im.mono tt _ _ q⟩
  | rf v => exact e2
  | rl ds => obtain ⟨b, xs, e, l, q, w⟩ := e2; exact ⟨b, xs, e, l, ImAll.mono tt _ _ q, w⟩
  | rd ds => obtain ⟨b, xs, e, l, q, w⟩ := e2; exact ⟨b, xs, e, l, kk q, w⟩
  | ls ds =>
    obtain ⟨b, xs, eb, n, w, l, q⟩ := e2
    have hne : b ≠ a := fun z => ap j _ e rfl (by rw [e1, eb, z])
    exact ⟨b, xs, eb, n, w, by rw [upd_ne hne]; exact l, ImAll.mono tt _ _ q⟩
  | dt kvs =>
    obtain ⟨b, ks, eb, n, w, l, q⟩ := e2
    have hne : b ≠ a := fun z => ap j _ e rfl (by rw [e1, eb, z])
    exact ⟨b, ks, eb, n, w, by rw [upd_ne hne]; exact l, kk q⟩
  | lk b od ks kvs =>
    obtain ⟨eb, n, w, l, q⟩ := e2
    have hne : b ≠ a := fun z => ap j _ e rfl (by rw [e1, eb, z])
    exact ⟨eb, n, w, by rw [upd_ne hne]; exact l, kk q⟩
  | ll b xs ds =>
    obtain ⟨eb, n, w, l, q⟩ := e2
    have hne : b ≠ a := fun z => ap j _ e rfl (by rw [e1, eb, z])
    exact ⟨eb, n, w, by rw [upd_ne hne]; exact l, ImAll.mono tt _ _ q⟩
theorem Step.over {W : Addr → Prop} {a : Addr} {o : HO} (s : Step W H H') (n : H a = none) (hm : ∀ xs, ¬ Rd H' a (.tup xs)) : Step W H (upd H' a o) :=
  ⟨fun b u w e => by rw [upd_ne (ne_of_none e n)]; exact s.ob b u w e, fun b xs e => upd_rd_tup hm b xs (s.tp b xs e)⟩
theorem lst_noT {a : Addr} {xs : List V} (h : H a = some (.lst xs)) (ys : List V) : ¬ Rd H a (.tup ys) := fun q => by
  rcases q with q | ⟨o, q⟩ <;> (rw [h] at q; cases q)
theorem ImAll.upd {a : Addr} {o : HO} {xs : List V} {ds : List PyData} (hm : ∀ xs, ¬ Rd H a (.tup xs)) (h : ImAll K H xs ds) : ImAll K (upd H a o) xs ds :=
  ImAll.mono (fun b xs h => upd_rd_tup hm b xs h) _ _ h
theorem e_lc {vs : List Nat} (hj : ∀ j, j ∈ js → j ∈ vs) (h : IWe (K := K) (m := m) (H0 := H0) wi Γ fun ds => ds.length ≤ 1000000 ∧ ∃ I : Nat → List PyData → Prop, I 0 [] ∧
      (∀ i d acc, ds[i]? = some d → I i acc → GT (K := K) (m := m) (H0 := H0) g js d (wipeG Γ vs) fun Γ2 => ET K m H0 tt Γ2 fun b =>
        if b = true then E K m H0 te Γ2 fun r => ∃ e, r = .im e ∧ I (i + 1) (acc ++ [e]) else I (i + 1) acc) ∧ ∀ acc, I ds.length acc → P (.fl acc)) :
    E K m H0 (tLc wi g tt te vs) Γ P := fun σ H S Q k =>
  h σ H S _ fun J H1 ds G Y st S1 ⟨hz, I, i0, hs, hd⟩ wk g1 gk gy => by
    intro D hD
    have nD0 := S1.none0 hD
    have wD := S1.noW hD
    have apD := S1.apart hD
    have apW : Apart (wipeG Γ vs) (L2.wipe σ vs) D := (S1.wipe vs).apart hD
    refine lc_it wk (fun i H' => ∃ acc xs, I i acc ∧ acc.length ≤ i ∧ Sta K m H0 Γ σ H' ∧ Step m.W H1 H' ∧ H' D = some (.lst xs) ∧ ImAll K H' xs acc)
      ⟨[], [], i0, Nat.le_refl _, S1.new hD, .new hD, upd_same, .nil⟩ (fun i H' _ ⟨_, _, _, _, S', s, _⟩ => gk H' s) (fun i x H' H'' hi ⟨acc, xs, hI, hl, S', s, hx, hm⟩ y => ?_) fun H' ⟨acc, xs, hI, _, S', s, hx, hm⟩ => ?_
    · obtain ⟨d, e, im, gr⟩ := gy i H' x H'' hi (gk H' s) y
      obtain ⟨S'', st''⟩ := S'.grow gr
      have hx2 := st''.ob D _ wD hx
      refine hs i d acc e hI (L2.wipe σ vs) H'' x (S''.wipe vs) im _ fun Γ2 σ2 A2 S2 hw p => ⟨(hw vs hj).trans (wipe_wipe σ vs), ?_⟩
      have hDg : Apart Γ2 σ2 D := (A2.1 D _ wD hx2 apW).2
      refine p σ2 H'' S2 _ fun b H3 st3 S3 q => ?_
      have hx3 := st3.ob D _ wD hx2
      cases b with
      | false => exact ⟨acc, xs, q, Nat.le_succ_of_le hl, (S''.step st3 S3.ok), (s.trans st'').trans st3, hx3, st3.ims (st''.ims hm)⟩
      | true =>
        refine (show E K m H0 te Γ2 _ from q) σ2 H3 S3 _ fun z r H4 st4 S4 ro _ ⟨e', er, hI'⟩ => ?_
        subst er
        have hx4 := st4.ob D _ wD hx3
        have hm4 := st4.ims (st3.ims (st''.ims hm))
        have nt := lst_noT hx4
        refine ⟨xs, hx4, szl (by rw [hm.length]; omega), acc ++ [e'], xs ++ [z], hI', by rw [List.length_append]; simp; omega, ((S''.step st3 S3.ok).step st4 S4.ok).other nD0 wD apD nt, (((s.trans st'').trans st3).trans st4).over hD nt, upd_same, ?_⟩
        exact ImAll.upd nt (hm4.append (.cons ro .nil))
    · exact k (.ref D) (.fl acc) H' (st.trans s) S' ⟨D, xs, rfl, nD0, wD, hx, hm, apD⟩ (fun a e => by
        cases e
        cases q : H D with
        | none => rfl
        | some o => rw [st.ob D o wD q] at hD; cases hD) (hd acc hI)

/-! ### own lists changed -/
theorem own_lst {i : Nat} {ds : List PyData} (S : Sta K m H0 Γ σ H) (e : Γ[i]? = some (.ls ds)) : ∃ a xs, σ[i]? = some (some (.ref a)) ∧ H0 a = none ∧ ¬ m.W a ∧ H a = some (.lst xs) ∧ ImAll K H xs ds := by
  obtain ⟨o, e1, a, xs, eo, n, w, l, q⟩ := S.sl i _ e
  exact ⟨a, xs, by rw [e1, eo], n, w, l, q⟩
theorem Adv.put {i : Nat} {a : Addr} {s s' : Sl} {o : HO} (st : Step m.W H H') (hi : Γ[i]? = some s) (hs : isOwn s = true) (ha : σ[i]? = some (some (.ref a))) (hm : ∀ xs, ¬ Rd H' a (.tup xs)) (hs' : isOwn s' = true) : Adv m Γ σ H (Γ.set i s') σ (upd H' a o) :=
  ⟨fun b u w h ap => by
    have hne : b ≠ a := fun z => ap i s hi hs (z ▸ ha)
    refine ⟨by rw [upd_ne hne]; exact st.ob b u w h, fun j t e ot q => ?_⟩
    rw [List.getElem?_set] at e
    by_cases hij : i = j
    · exact ap i s hi hs (hij ▸ q)
    · rw [if_neg hij] at e; exact ap j t e ot q, fun b xs h => upd_rd_tup hm b xs (st.tp b xs h)⟩
theorem ss_append {i : Nat} {ds : List PyData} (e : Γ[i]? = some (.ls ds)) (z : ds.length < 1000000) (h : E K m H0 te Γ fun r => ∃ d, r = .im d ∧ O.nx (Γ.set i (.ls (ds ++ [d])))) :
    SS K m H0 (tDrop (tBM K "list" rAppend (tVar i) (tCons te tNil))) Γ O := fun σ H D S f => by
  obtain ⟨a, xs, e1, n, w, l, q⟩ := own_lst S e
  refine ⟨.ref a, e1, .inl ⟨rfl, _, .of l⟩, h σ H S _ fun v r H' st S' ro fs ⟨d, er, p⟩ => ?_⟩
  subst er
  have l' := st.ob a _ w l
  have nt := lst_noT l'
  have q' := (st.ims q).append (.cons ro .nil)
  refine ⟨a, xs, v, rfl, rfl, l', szl (by rw [q.length]; exact z), f.nx _ σ _ (Adv.put st e rfl e1 nt rfl) (S'.put (s' := .ls (ds ++ [d])) e rfl e1 nt n w ⟨a, xs ++ [v], rfl, n, w, upd_same, ImAll.upd nt q'⟩ rfl) p⟩
theorem ss_extend {i : Nat} {ds : List PyData} (e : Γ[i]? = some (.ls ds)) (h : E K m H0 te Γ fun r => ∃ es, r = .fl es ∧ ds.length + es.length ≤ 1000000 ∧ O.nx (Γ.set i (.ls (ds ++ es)))) :
    SS K m H0 (tDrop (tBM K "list" rExtend (tVar i) (tCons te tNil))) Γ O := fun σ H D S f => by
  obtain ⟨a, xs, e1, n, w, l, q⟩ := own_lst S e
  refine ⟨.ref a, e1, .inl ⟨rfl, _, .of l⟩, h σ H S _ fun v r H' st S' ro fs ⟨es, er, z, p⟩ => ?_⟩
  subst er
  obtain ⟨b, ys, rfl, n2, w2, l2, q2, ap⟩ := ro
  have l' := st.ob a _ w l
  have nt := lst_noT l'
  have q' := (st.ims q).append q2
  exact ⟨a, b, xs, ys, rfl, rfl, l', l2, sz (by rw [q.length, q2.length]; exact z), f.nx _ σ _ (Adv.put st e rfl e1 nt rfl) (S'.put (s' := .ls (ds ++ es)) e rfl e1 nt n w ⟨a, xs ++ ys, rfl, n, w, upd_same, ImAll.upd nt q'⟩ rfl) p⟩
/-- x = found.pop() -/
theorem ss_popAsg {i j : Nat} {ds : List PyData} {d : PyData} (e : Γ[i]? = some (.ls (ds ++ [d]))) (h : O.nx ((Γ.set i (.ls ds)).set j (.im d))) :
    SS K m H0 (tAsg (tBM0 K "list" rPop (tVar i)) (gName j)) Γ O := fun σ H D S f => by
  obtain ⟨a, xs, e1, n, w, l, q⟩ := own_lst S e
  have hl := q.length
  rw [List.length_append, List.length_singleton] at hl
  have eg : (ds ++ [d])[ds.length]? = some d := by simp
  obtain ⟨v, ev, iv⟩ := q.get eg
  have nt := lst_noT l
  have qd : ImAll K H xs.dropLast ds := by
    have := q.take ds.length
    rw [List.take_left] at this
    rw [List.dropLast_eq_take, hl, Nat.add_sub_cancel]
    exact this
  have S1 := S.put (s' := .ls ds) (o := .lst xs.dropLast) e rfl e1 nt n w ⟨a, xs.dropLast, rfl, n, w, upd_same, ImAll.upd nt qd⟩ rfl
  have A1 : Adv m Γ σ H (Γ.set i (.ls ds)) σ (upd H a (.lst xs.dropLast)) := Adv.put .refl e rfl e1 nt rfl
  have iv' : Im K (upd H a (.lst xs.dropLast)) v d := Im.mono (fun b xs h => upd_rd_tup nt b xs h) _ _ iv
  exact ⟨.ref a, e1, .inl ⟨rfl, _, .of l⟩, a, xs, v, rfl, rfl, l, by rw [hl, Nat.add_sub_cancel]; exact ev, f.nx _ _ _ (A1.trans (Adv.set .refl (r := .im d) trivial)) (S1.set (r := .im d) iv') h⟩

/-! ### what a def promises, told by data -/
def ArgOk (K : PySem.W.Frag) (m : Mode) (H : Hp) (v : V) : R → Prop
  | .im d => Im K H v d
  | .rf w => v = w
  | .rl ds => ∃ a xs, v = .ref a ∧ SqL K H a xs ∧ ImAll K H xs ds ∧ ¬ m.W a
  | .rd kvs => ∃ a ks, v = .ref a ∧ Rd H a (.dT ks) ∧ KvAll K H ks kvs ∧ ¬ m.W a
  | .fl _ => False
  | .fd _ => False
inductive ArgsOk (K : PySem.W.Frag) (m : Mode) (H : Hp) : List V → List R → Prop
  | nil : ArgsOk K m H [] []
  | cons {v : V} {r : R} {vs : List V} {rs : List R} : ArgOk K m H v r → ArgsOk K m H vs rs → ArgsOk K m H (v :: vs) (r :: rs)
def R.arg : R → R
  | .fl ds => .rl ds
  | .fd k => .rd k
  | r => r
def R.slp : R → Sl
  | .im d => .im d
  | .rf v => .rf v
  | .rl ds => .rl ds
  | .rd k => .rd k
  | _ => .un
/-- from the arguments and what is wanted of the answer -/
abbrev Ct := List R → (R → Prop) → Prop
def spM (K : PySem.W.Frag) (M : List R → Mode → Prop) (C : Ct) : Sp := fun vs H Q _ => ∃ (m : Mode) (rs : List R) (P : R → Prop), m.Ok ∧ m.S H ∧ M rs m ∧ ArgsOk K m H vs rs ∧ C rs P ∧
  ∀ v r H', Step m.W H H' → m.S H' → Ret K m H H' v r → P r → Q v H'
/-- a def that changes nothing -/
def Mpure : List R → Mode → Prop := fun _ m => m = pure0
theorem ArgsOk.length {vs : List V} {rs : List R} (h : ArgsOk K m H vs rs) : vs.length = rs.length := by
  induction h with
  | nil => rfl
  | cons _ _ ih => simp [ih]
theorem ArgsOk.get : ∀ {vs : List V} {rs : List R} {i : Nat} {r : R}, ArgsOk K m H vs rs → rs[i]? = some r → ∃ v, vs[i]? = some v ∧ ArgOk K m H v r
  | _, _, i, r, .nil, e => by simp at e
  | _, _, 0, r, .cons a b, e => by simp at e; subst e; exact ⟨_, rfl, a⟩
  | _, _, i + 1, r, .cons a b, e => by
    obtain ⟨w, e1, e2⟩ := ArgsOk.get (i := i) (r := r) b (by simpa using e)
    exact ⟨w, by simpa using e1, e2⟩
theorem ROk.arg (h : ROk K m H0 Γ σ H v r) : ArgOk K m H v r.arg := by
  cases r with
  | im d => exact h
  | rf w => exact h
  | rl ds => exact h
  | rd ds => exact h
  | fl ds => obtain ⟨a, xs, e, n, w, l, q, z⟩ := h; exact ⟨a, xs, e, .of l, q, w⟩
  | fd ds => obtain ⟨a, xs, e, n, w, l, q, z⟩ := h; exact ⟨a, xs, e, .inl l, q, w⟩
theorem ROk.argP (h : ROk K m H0 Γ σ H v r) : ArgOk K pure0 H v r.arg := by
  cases r with
  | im d => exact h
  | rf w => exact h
  | rl ds => obtain ⟨a, xs, e, l, q, w⟩ := h; exact ⟨a, xs, e, l, q, fun z => z⟩
  | rd ds => obtain ⟨a, xs, e, l, q, w⟩ := h; exact ⟨a, xs, e, l, q, fun z => z⟩
  | fl ds => obtain ⟨a, xs, e, n, w, l, q, z⟩ := h; exact ⟨a, xs, e, .of l, q, fun z => z⟩
  | fd ds => obtain ⟨a, xs, e, n, w, l, q, z⟩ := h; exact ⟨a, xs, e, .inl l, q, fun z => z⟩
theorem ROks.args {vs : List V} {rs : List R} (h : ROks K m H0 Γ σ H vs rs) : ArgsOk K m H vs (rs.map R.arg) := by
  induction h with
  | nil => exact .nil
  | cons a _ ih => exact .cons a.arg ih
theorem ROks.argsP {vs : List V} {rs : List R} (h : ROks K m H0 Γ σ H vs rs) : ArgsOk K pure0 H vs (rs.map R.arg) := by
  induction h with
  | nil => exact .nil
  | cons a _ ih => exact .cons a.argP ih
theorem ret_ok (S : Sta K m H0 Γ σ H) (S' : Sta K m H0 Γ σ H') (h : Ret K m H H' v r) : ROk K m H0 Γ σ H' v r ∧ Fsh H v r := by
  cases r with
  | im d => exact ⟨h, trivial⟩
  | rf w => exact ⟨h, trivial⟩
  | rl ds => exact False.elim h
  | rd ds => exact False.elim h
  | fl ds => obtain ⟨a, xs, e, n, w, l, q⟩ := h; exact ⟨⟨a, xs, e, S.none0 n, w, l, q, S.apart n⟩, fun b eb => by rw [e] at eb; cases eb; exact n⟩
  | fd ds => obtain ⟨a, xs, e, n, w, l, q⟩ := h; exact ⟨⟨a, xs, e, S.none0 n, w, l, q, S.apart n⟩, fun b eb => by rw [e] at eb; cases eb; exact n⟩
/-- a call of a def that changes what this one may change -/
theorem e_call {M : List R → Mode → Prop} {C : Ct} {ta : TA} (h : EA K m H0 ta Γ fun rs => M (rs.map R.arg) m ∧ C (rs.map R.arg) P) : E K m H0 (tCall (spM K M C) [] E0 ta) Γ P := fun σ H S Q k =>
  h σ H S _ fun vs rs H1 st S1 ro ⟨hM, hC⟩ => by
    refine ⟨m, rs.map R.arg, P, S1.mo, S1.ok, hM, by rw [List.append_nil]; exact ro.args, hC, fun v r H' st' ok' rt p => ?_⟩
    have S2 := S1.step st' ok'
    obtain ⟨q1, q2⟩ := ret_ok S1 S2 rt
    exact k v r H' (st.trans st') S2 q1 (fsh_back S1 st q2) p
/-- a call of a def that changes nothing -/
theorem e_callP {C : Ct} {ta : TA} (h : EA K m H0 ta Γ fun rs => C (rs.map R.arg) P) : E K m H0 (tCall (spM K Mpure C) [] E0 ta) Γ P := fun σ H S Q k =>
  h σ H S _ fun vs rs H1 st S1 ro hC => by
    refine ⟨pure0, rs.map R.arg, P, pure0_ok, trivial, rfl, by rw [List.append_nil]; exact ro.argsP, hC, fun v r H' st' ok' rt p => ?_⟩
    have st2 : Step m.W H1 H' := ⟨fun a o _ e => st'.ob a o (fun z => z) e, st'.tp⟩
    have S2 := S1.step st2 (S1.mo.st _ _ S1.ok fun a o _ e => st'.ob a o (fun z => z) e)
    have rt' : Ret K m H1 H' v r := by
      cases r with
      | im d => exact rt
      | rf w => exact rt
      | rl ds => exact False.elim rt
      | rd ds => exact False.elim rt
      | fl ds => obtain ⟨a, xs, e, n, w, l, q⟩ := rt; exact ⟨a, xs, e, n, S1.noW n, l, q⟩
      | fd ds => obtain ⟨a, xs, e, n, w, l, q⟩ := rt; exact ⟨a, xs, e, n, S1.noW n, l, q⟩
    obtain ⟨q1, q2⟩ := ret_ok S1 S2 rt'
    exact k v r H' (st.trans st2) S2 q1 (fsh_back S1 st q2) p

/-- the slots at the entry -/
def ent (n : Nat) (rs : List R) : Gm := rs.map R.slp ++ List.replicate (n - rs.length) .un
theorem sta_ent {N : List Str} {vs : List V} {rs : List R} (mo : m.Ok) (ok : m.S H) (h : ArgsOk K m H vs rs) (hl : rs.length ≤ N.length) : Sta K m H (ent N.length rs) (L2.start N vs) H := by
  have hvl := h.length
  refine ⟨?_, mo, .refl, ok, fun i s e => ?_, fun i j s t a e1 o1 e2 o2 q1 q2 => ?_⟩
  · unfold L2.start ent
    simp only [List.length_append, List.length_map, List.length_replicate]
    omega
  · unfold ent at e
    unfold L2.start
    by_cases hi : i < rs.length
    · rw [List.getElem?_append_left (by simpa using hi), List.getElem?_map] at e
      rw [List.getElem?_append_left (by simpa [hvl] using hi), List.getElem?_map]
      cases q : rs[i]? with
      | none => rw [q] at e; cases e
      | some r =>
        rw [q] at e
        have e' : r.slp = s := Option.some.inj e
        obtain ⟨v, e1, ao⟩ := h.get q
        rw [e1]
        refine ⟨some v, rfl, ?_⟩
        subst e'
        cases r with
        | im d => exact ⟨v, rfl, ao⟩
        | rf w => show some v = some w; rw [show v = w from ao]
        | rl ds => obtain ⟨a, xs, e, l, q, w⟩ := ao; exact ⟨a, xs, by rw [e], l, q, w⟩
        | rd ds => obtain ⟨a, xs, e, l, q, w⟩ := ao; exact ⟨a, xs, by rw [e], l, q, w⟩
        | fl ds => exact trivial
        | fd ds => exact trivial
    · have hlt : i < (rs.map R.slp ++ List.replicate (N.length - rs.length) Sl.un).length := by
        by_cases hh : i < (rs.map R.slp ++ List.replicate (N.length - rs.length) Sl.un).length
        · exact hh
        · rw [List.getElem?_eq_none (by omega)] at e; cases e
      rw [List.length_append, List.length_map, List.length_replicate] at hlt
      rw [List.getElem?_append_right (by simp; omega), List.getElem?_replicate] at e
      split at e
      · cases e
        rw [List.getElem?_append_right (by simp; omega), List.getElem?_replicate, if_pos (by simp; omega)]
        exact ⟨none, rfl, trivial⟩
      · cases e
  · exfalso
    unfold ent at e1
    have : ∀ s ∈ (rs.map R.slp ++ List.replicate (N.length - rs.length) Sl.un), isOwn s = false := fun s hs => by
      rcases List.mem_append.mp hs with hs | hs
      · obtain ⟨r, _, e⟩ := List.mem_map.mp hs
        rw [← e]
        cases r <;> rfl
      · rw [List.eq_of_mem_replicate hs]; rfl
    rw [this s (List.mem_of_getElem? e1)] at o1
    cases o1
/-- a def's body, walked over its slots, keeps its promise -/
theorem okM {P : Program} {w : World} {mg : Str → Option Value} {base : Heap} {nm qual : Str} {st : Stmt} {f : Addr} {fd : FuncData} {N ps : List Str} {k : Nat} {M : List R → Mode → Prop} {C : Ct}
    (F : Fun K nm qual st f fd) (S : FnScope N ps (defScope st)) (hN : ps.length ≤ N.length) (len : ∀ rs P, C rs P → rs.length = ps.length)
    (hbody : ∀ (cdv : Value) (A : Around) (outer : List Env) (s : Shared) (H : Hp) (E : XK), Room k (A.deeper (PyProof.Rows.envOfC qual (defScope st) s.heap.objs.size f cdv)) →
      ∃ t, PSs (cxOf CX0 P w K mg base N qual (defScope st) f cdv A outer s H E).nox (defBody st) t ∧
        ∀ (m : Mode) (H0 : Hp) (rs : List R) (P : R → Prop), M rs m → C rs P → SS K m H0 t (ent N.length rs) { rt := P, nx := fun _ => P (.im .none) }) :
    FnOk P w K mg base CX0 (k + 1) f fd ps (spM K M C) := by
  refine F.ok S (fun vs H Q E ⟨m, rs, P, _, _, _, ha, hC, _⟩ => ha.length.trans (len rs P hC)) fun cdv A outer s H vs Q E hr ⟨m, rs, P, mo, ok, hM, ha, hC, q⟩ => ?_
  obtain ⟨t, ht, hb⟩ := hbody cdv A outer s H E hr
  refine ⟨t, ht, hb m H rs P hM hC _ H _ (sta_ent mo ok ha (by rw [len rs P hC]; exact hN)) ⟨fun Γ' σ' H' a S' p => ?_, fun v r H' st ok' rt p => q v r H' st ok' rt p, fun _ _ _ _ _ p => p.elim, fun _ _ _ _ _ p => p.elim⟩⟩
  exact q .non (.im .none) H' S'.sp S'.ok .non p
end
end Rt

set_option Elab.async false
set_option linter.all false
set_option maxRecDepth 100000
set_option maxHeartbeats 2000000
namespace Rt
open PySem L2
/-! ### readings by name -/
def rLenQ (K : PySem.W.Frag) : List V → Hp → VK → Prop := fun xs H Q => ∃ p ys, xs = [.ref p] ∧ (SqL K H p ys ∨ SqT K H p ys) ∧ Q (.int ys.length) H
def rInt : List V → Hp → VK → Prop := fun xs H Q => (∃ i, xs = [.int i] ∧ Q (.int i) H) ∨ ∃ k, xs = [.bl k] ∧ Q (.int (if k then 1 else 0)) H
def rAbs : List V → Hp → VK → Prop := fun xs H Q => ∃ i, xs = [.int i] ∧ Q (.int (if i < 0 then -i else i)) H
def rListOf (K : PySem.W.Frag) : List V → Hp → VK → Prop := fun xs H Q => ∃ p ys, xs = [.ref p] ∧ (SqL K H p ys ∨ SqT K H p ys) ∧ ∀ l, H l = none → Q (.ref l) (upd H l (.lst ys))
/-- the built-ins are still the built-ins -/
structure Blt (mg : Str → Option Value) : Prop where
  len : mg "len" = none
  int : mg "int" = none
  abs : mg "abs" = none
  tuple : mg "tuple" = none
  list : mg "list" = none
  range : mg "range" = none
  sorted : mg "sorted" = none
  repr : mg "repr" = none
  enumerate : mg "enumerate" = none
  zip : mg "zip" = none
  max : mg "max" = none
  min : mg "min" = none
  sum : mg "sum" = none
  any : mg "any" = none
  all : mg "all" = none
  isinstance : mg "isinstance" = none
  dict : mg "dict" = none
section
variable (P : Program) (w : World) (K : PySem.W.Frag) (mg : Str → Option Value) (base : Heap)
/-- a def that keeps a promise -/
structure Fn (k : Nat) (nm : Str) (ps : List Str) (sp : Sp) : Prop where
  ex : ∃ f fd, FnOk P w K mg base CX0 k f fd ps sp ∧ mg nm = some (.ref f) ∧ PySem.W.keepIn K (.ref f) = true ∧ Binds K fd ps []
end
/-- a def of the text stands where the text says -/
structure Df (K : PySem.W.Frag) (mg : Str → Option Value) (nm : Str) (st : Stmt) (ps : List Str) : Prop where
  ex : ∃ f fd, Fun K nm nm st f fd ∧ mg nm = some (.ref f) ∧ Binds K fd ps []
section
variable {P : Program} {w : World} {K : PySem.W.Frag} {mg : Str → Option Value} {base : Heap} {k n : Nat} {nm : Str} {ps : List Str} {sp : Sp} {st : Stmt}
theorem Df.fn (D : Df K mg nm st ps) (h : ∀ f fd, Fun K nm nm st f fd → FnOk P w K mg base CX0 k f fd ps sp) : Fn P w K mg base k nm ps sp := by
  obtain ⟨f, fd, F, e, b⟩ := D.ex
  exact ⟨f, fd, h f fd F, e, F.kp, b⟩
theorem Fn.mono (F : Fn P w K mg base k nm ps sp) (h : k ≤ n) : Fn P w K mg base n nm ps sp := by
  obtain ⟨f, fd, F, e⟩ := F.ex
  exact ⟨f, fd, F.mono h, e⟩
/-- a def that can't be called keeps any promise -/
theorem Df.never (D : Df K mg nm st ps) (h : ∀ vs H Q E, ¬ sp vs H Q E) : Fn P w K mg base k nm ps sp := D.fn fun f fd F =>
  ⟨fun vs H Q E q => absurd q (h vs H Q E), fun A outer s H args us vs Q E _ _ _ _ q => absurd q (h vs H Q E)⟩
end
theorem pe_fn {X : Cx} {k : Nat} {x : Str} {ps : List Str} {sp : Sp} {e : Expr} {es : List Expr} {t : TA} {p pos : Pos} (F : Fn X.prog X.w X.K X.mg X.base k x ps sp) (hr : Room k X.A) (hg : Gl X x) (ha : PA X (e :: es) t)
    (hdb : (x == ("__debug__" : Str)) = false := by decide) (he : starEach (e :: es) X.env = (false, eval e X.env) :: starEach es X.env := by rfl) (hpl : (backTo pos (starEach es X.env)).any (·.1) = false := by rfl) :
    PE X (.Call (.Name x p) (e :: es) [] pos) (tCall sp [] E0 t) := by
  obtain ⟨f, fd, F, e1, kp, b⟩ := F.ex
  exact pe_call F hr hg e1 kp b .nil pass0 ha hdb he hpl
/-- data as deep as 64 -/
theorem huD {k : Nat} {A : Around} (hr : Room k A) : A.units + 65 < cLine := by have := hr.un; omega

/-! ### the source of numbers of a law: a dict of four entries, and its list of cells -/
def srcKv (c : Addr) (l x t : Int) : List (Key × V) := [(.inr "cells", .ref c), (.inr "left", .int l), (.inr "mixed", .int x), (.inr "turn", .int t)]
def Src (H : Hp) (s c : Addr) : Prop := s ≠ c ∧ ∃ (cs : List Int) (l x t : Int), H s = some (.dK (srcKv c l x t)) ∧ H c = some (.lst (cs.map V.int)) ∧ 0 ≤ x ∧ x < 2147483648
def srcM (s c : Addr) : Mode := ⟨fun a => a = s ∨ a = c, fun H => Src H s c⟩
theorem srcM_ok (s c : Addr) : (srcM s c).Ok where
  st := fun H H' h k => by
    obtain ⟨ne, cs, l, x, t, h1, h2, h3⟩ := h
    exact ⟨ne, cs, l, x, t, k s _ (.inl rfl) h1, k c _ (.inr rfl) h2, h3⟩
  tr := fun H a h w => by
    obtain ⟨ne, cs, l, x, t, h1, h2, h3⟩ := h
    rcases w with w | w
    · rw [w, h1]; exact fun z => nomatch z
    · rw [w, h2]; exact fun z => nomatch z
def Msrc : List R → Mode → Prop := fun rs m => ∃ s c t, rs = .rf (.ref s) :: t ∧ m = srcM s c
end Rt

set_option Elab.async false
set_option linter.all false
set_option maxRecDepth 100000
set_option maxHeartbeats 2000000
namespace Rt
open PySem L2

/-! ### data whose == is equality -/
mutual
def pl : PyData → Bool
  | .none => true
  | .int _ => true
  | .str x => PyData.strOk x
  | .tuple ds => plAll ds
  | .list ds => plAll ds
  | .bool _ => false
  | .dict _ => false
def plAll : List PyData → Bool
  | [] => true
  | d :: ds => pl d && plAll ds
end
mutual
theorem eqv_pl : ∀ d e : PyData, pl d = true → pl e = true → (PyData.eqv d e = true ↔ d = e)
  | .none, .none, _, _ => by simp [PyData.eqv]
  | .none, .int _, _, _ => by simp [PyData.eqv]
  | .none, .str _, _, _ => by simp [PyData.eqv]
  | .none, .tuple _, _, _ => by simp [PyData.eqv]
  | .none, .list _, _, _ => by simp [PyData.eqv]
  | .int _, .none, _, _ => by simp [PyData.eqv]
  | .int _, .int _, _, _ => by simp [PyData.eqv]
  | .int _, .str _, _, _ => by simp [PyData.eqv]
  | .int _, .tuple _, _, _ => by simp [PyData.eqv]
  | .int _, .list _, _, _ => by simp [PyData.eqv]
  | .str _, .none, _, _ => by simp [PyData.eqv]
  | .str _, .int _, _, _ => by simp [PyData.eqv]
  | .str _, .str _, _, _ => by simp [PyData.eqv]
  | .str _, .tuple _, _, _ => by simp [PyData.eqv]
  | .str _, .list _, _, _ => by simp [PyData.eqv]
  | .tuple _, .none, _, _ => by simp [PyData.eqv]
  | .tuple _, .int _, _, _ => by simp [PyData.eqv]
  | .tuple _, .str _, _, _ => by simp [PyData.eqv]
  | .tuple ds, .tuple es, h, h' => by
    simp only [pl] at h h'
    simp only [PyData.eqv]
    rw [eqvAll_pl ds es h h']
    simp
  | .tuple _, .list _, _, _ => by simp [PyData.eqv]
  | .list _, .none, _, _ => by simp [PyData.eqv]
  | .list _, .int _, _, _ => by simp [PyData.eqv]
  | .list _, .str _, _, _ => by simp [PyData.eqv]
  | .list _, .tuple _, _, _ => by simp [PyData.eqv]
  | .list ds, .list es, h, h' => by
    simp only [pl] at h h'
    simp only [PyData.eqv]
    rw [eqvAll_pl ds es h h']
    simp
  | .bool _, _, h, _ => by simp [pl] at h
  | .dict _, _, h, _ => by simp [pl] at h
  | .none, .bool _, _, h => by simp [pl] at h
  | .none, .dict _, _, h => by simp [pl] at h
  | .int _, .bool _, _, h => by simp [pl] at h
  | .int _, .dict _, _, h => by simp [pl] at h
  | .str _, .bool _, _, h => by simp [pl] at h
  | .str _, .dict _, _, h => by simp [pl] at h
  | .tuple _, .bool _, _, h => by simp [pl] at h
  | .tuple _, .dict _, _, h => by simp [pl] at h
  | .list _, .bool _, _, h => by simp [pl] at h
  | .list _, .dict _, _, h => by simp [pl] at h
theorem eqvAll_pl : ∀ ds es : List PyData, plAll ds = true → plAll es = true → (PyData.eqvAll ds es = true ↔ ds = es)
  | [], [], _, _ => by simp [PyData.eqvAll]
  | [], _ :: _, _, _ => by simp [PyData.eqvAll]
  | _ :: _, [], _, _ => by simp [PyData.eqvAll]
  | d :: ds, e :: es, h, h' => by
    simp only [plAll, Bool.and_eq_true] at h h'
    simp only [PyData.eqvAll, Bool.and_eq_true]
    rw [eqv_pl d e h.1 h'.1, eqvAll_pl ds es h.2 h'.2]
    simp
end
theorem eqv_self {d : PyData} (h : pl d = true) : PyData.eqv d d = true := (eqv_pl d d h h).mpr rfl
mutual
theorem lay_pl : ∀ d : PyData, pl d = true → d.canLay0 = true
  | .none, _ => by simp [PyData.canLay0]
  | .int _, _ => by simp [PyData.canLay0]
  | .str x, h => by simpa [pl, PyData.canLay0] using h
  | .tuple ds, h => by
    simp only [pl] at h
    simp only [PyData.canLay0]
    exact layAll_pl ds h
  | .list ds, h => by
    simp only [pl] at h
    simp only [PyData.canLay0]
    exact layAll_pl ds h
  | .bool _, h => by simp [pl] at h
  | .dict _, h => by simp [pl] at h
theorem layAll_pl : ∀ ds : List PyData, plAll ds = true → PyData.canLayAll0 ds = true
  | [], _ => by simp [PyData.canLayAll0]
  | d :: ds, h => by
    simp only [plAll, Bool.and_eq_true] at h
    simp [PyData.canLayAll0, lay_pl d h.1, layAll_pl ds h.2]
end
theorem plAll_iff : ∀ {ds : List PyData}, plAll ds = true ↔ ∀ d ∈ ds, pl d = true
  | [] => by simp [plAll]
  | d :: ds => by simp [plAll, plAll_iff (ds := ds)]
theorem depthAll_le {n : Nat} : ∀ {ds : List PyData}, (∀ d ∈ ds, d.depth ≤ n) → PyData.depthAll ds ≤ n
  | [], _ => by simp [PyData.depthAll]
  | d :: ds, h => by
    have h1 := h d List.mem_cons_self
    have h2 := depthAll_le (n := n) (ds := ds) fun e he => h e (List.mem_cons_of_mem _ he)
    simp only [PyData.depthAll]
    omega
/-- plain, and at most n deep -/
def pd (n : Nat) (d : PyData) : Prop := pl d = true ∧ d.depth ≤ n
theorem pd.shaped {n : Nat} {d : PyData} (h : pd n d) (hn : n ≤ 64) : SeqAt.shaped d = true := by
  unfold SeqAt.shaped
  rw [lay_pl d h.1, Bool.true_and, decide_eq_true (Nat.le_trans h.2 hn)]
theorem pd.mono {n k : Nat} {d : PyData} (h : pd n d) (hn : n ≤ k) : pd k d := ⟨h.1, Nat.le_trans h.2 hn⟩
theorem pd_int (i : Int) : pd 0 (.int i) := ⟨rfl, by simp [PyData.depth]⟩
theorem pd_tuple {n : Nat} {ds : List PyData} (h : ∀ d ∈ ds, pd n d) : pd (n + 1) (.tuple ds) :=
  ⟨by simp only [pl]; exact plAll_iff.mpr fun d hd => (h d hd).1, by
    have := depthAll_le (n := n) fun d hd => (h d hd).2
    simp only [PyData.depth]
    omega⟩
theorem pd_list {n : Nat} {ds : List PyData} (h : ∀ d ∈ ds, pd n d) : pd (n + 1) (.list ds) :=
  ⟨by simp only [pl]; exact plAll_iff.mpr fun d hd => (h d hd).1, by
    have := depthAll_le (n := n) fun d hd => (h d hd).2
    simp only [PyData.depth]
    omega⟩
/-- a tuple of ints -/
def tD (ns : List Int) : PyData := .tuple (ns.map .int)
/-- .. of which the object is known -/
def bD (ns : List Int) : PyData := .list (ns.map .int)
theorem pd_tD (ns : List Int) : pd 1 (tD ns) := pd_tuple fun d hd => by
  obtain ⟨i, _, rfl⟩ := List.mem_map.mp hd
  exact pd_int i
theorem int_inj {a b : List Int} (h : a.map PyData.int = b.map PyData.int) : a = b := by
  induction a generalizing b with
  | nil => cases b with
    | nil => rfl
    | cons _ _ => cases h
  | cons x a ih => cases b with
    | nil => cases h
    | cons y b =>
      rw [List.map_cons, List.map_cons] at h
      injection h with h1 h2
      injection h1 with h1
      rw [h1, ih h2]
theorem tD_inj {a b : List Int} : tD a = tD b ↔ a = b := ⟨fun h => by unfold tD at h; injection h with h; exact int_inj h, fun h => by rw [h]⟩
theorem eqv_tD (a b : List Int) : PyData.eqv (tD a) (tD b) = decide (a = b) := by
  rw [Bool.eq_iff_iff, eqv_pl _ _ (pd_tD a).1 (pd_tD b).1, tD_inj, decide_eq_true_iff]
theorem eqv_int (a b : Int) : PyData.eqv (.int a) (.int b) = decide (a = b) := by
  rw [Bool.eq_iff_iff, eqv_pl _ _ rfl rfl, decide_eq_true_iff]
  exact ⟨fun h => by injection h, fun h => by rw [h]⟩
theorem shaped_tD (a : List Int) : SeqAt.shaped (tD a) = true := (pd_tD a).shaped (by decide)
theorem shaped_int (a : Int) : SeqAt.shaped (.int a) = true := (pd_int a).shaped (by decide)

theorem un_tD (a : List Int) : un (tD a) = tD a := un_id _ (by
  unfold tD
  simp only [pu]
  exact puAll_iff.mpr fun d hd => by
    obtain ⟨i, _, rfl⟩ := List.mem_map.mp hd
    rfl)
theorem un_bD (a : List Int) : un (bD a) = tD a := by
  unfold bD
  simp only [un]
  have := un_tD a
  unfold tD at this ⊢
  simpa only [un] using this
theorem dat_int (i : Int) : (R.im (.int i)).dat = some (.int i) := rfl
theorem dat_tD (a : List Int) : (R.im (tD a)).dat = some (tD a) := by
  show some (un (tD a)) = _
  rw [un_tD]
theorem dat_pu {d : PyData} (h : pu d = true) : (R.im d).dat = some d := by
  show some (un d) = _
  rw [un_id d h]
/-! ### trees -/
inductive T where
  | lf (a : Int)
  | nd (l r : T)
  deriving DecidableEq
namespace T
def enc : T → List Int
  | lf a => [a]
  | nd l r => -1 :: (l.enc ++ r.enc)
/-- how many leaves -/
def lv : T → Nat
  | lf _ => 1
  | nd l r => l.lv + r.lv
/-- no leaf is the mark -/
def ok : T → Prop
  | lf a => a ≠ -1
  | nd l r => l.ok ∧ r.ok
theorem lv_pos : ∀ t : T, 0 < t.lv
  | lf _ => Nat.one_pos
  | nd l r => by have := l.lv_pos; unfold lv; omega
theorem enc_len : ∀ t : T, t.enc.length + 1 = 2 * t.lv
  | lf _ => rfl
  | nd l r => by
    have h1 := l.enc_len
    have h2 := r.enc_len
    unfold enc lv
    rw [List.length_cons, List.length_append]
    omega
theorem enc_pos (t : T) : 0 < t.enc.length := by have := t.enc_len; have := t.lv_pos; omega
/-- a tree is told by its parts, whatever follows -/
theorem enc_inj : ∀ (s t : T) (a b : List Int), s.ok → t.ok → s.enc ++ a = t.enc ++ b → s = t ∧ a = b
  | lf x, lf y, a, b, _, _, h => by
    simp only [enc, List.cons_append, List.nil_append, List.cons.injEq] at h
    exact ⟨by rw [h.1], h.2⟩
  | lf x, nd l r, a, b, hs, _, h => by
    simp only [enc, List.cons_append, List.nil_append, List.cons.injEq] at h
    exact absurd h.1 hs
  | nd l r, lf y, a, b, _, ht, h => by
    simp only [enc, List.cons_append, List.nil_append, List.cons.injEq] at h
    exact absurd h.1.symm ht
  | nd l r, nd l' r', a, b, hs, ht, h => by
    simp only [enc, List.cons_append, List.cons.injEq, true_and, List.append_assoc] at h
    obtain ⟨e1, h2⟩ := enc_inj l l' _ _ hs.1 ht.1 h
    obtain ⟨e2, h3⟩ := enc_inj r r' _ _ hs.2 ht.2 h2
    exact ⟨by rw [e1, e2], h3⟩
theorem enc_inj' {s t : T} (hs : s.ok) (ht : t.ok) (h : s.enc = t.enc) : s = t := (enc_inj s t [] [] hs ht (by rw [h])).1
end T
/-- a tree or no tree -/
def encO : Option T → List Int
  | none => []
  | some t => t.enc
def okO : Option T → Prop
  | none => True
  | some t => t.ok
def lvO : Option T → Nat
  | none => 0
  | some t => t.lv
theorem encO_inj {s t : Option T} (hs : okO s) (ht : okO t) (h : encO s = encO t) : s = t := by
  cases s with
  | none => cases t with
    | none => rfl
    | some t => exact absurd (congrArg List.length h).symm (by have := t.enc_pos; simp only [encO, List.length_nil]; omega)
  | some s => cases t with
    | none => exact absurd (congrArg List.length h) (by have := s.enc_pos; simp only [encO, List.length_nil]; omega)
    | some t => rw [T.enc_inj' hs ht h]
theorem encO_nil {s : Option T} : encO s = [] ↔ s = none := by
  cases s with
  | none => simp [encO]
  | some t =>
    have := t.enc_pos
    refine ⟨fun h => ?_, fun h => by cases h⟩
    rw [show encO (some t) = t.enc from rfl] at h
    rw [h] at this; simp at this
/-- put together, no trees falling out -/
def putO : Option T → Option T → Option T
  | none, t => t
  | s, none => s
  | some s, some t => some (.nd s t)
/-- of how many lots of t's leaves p is the left tree -/
def cnt : Option T → T → Int
  | none, _ => 1
  | some p, .lf a => if p = .lf a then 1 else 0
  | some p, .nd l r => cnt (some p) l + cnt (some p) r + (match p with
    | .lf _ => 0
    | .nd q s => cnt (some q) l * cnt (some s) r)
section
variable {K : PySem.W.Frag} {m : Mode} {H0 : Hp} {Γ : Gm} {P : R → Prop} {B : Bool → Prop} {ta tb : TE}
theorem e_neg {i : Int} (p : P (.im (.int (-i)))) : E K m H0 (tUn (rU fun i => .int (-i)) (tC (.int i))) Γ P := e_un (e_int (ru_i p))
theorem e_nilT (p : P (.im (tD []))) : E K m H0 (tTup tNil) Γ P := e_tup (ea_nil ⟨[], rfl, Nat.zero_le _, p⟩)
theorem e_eqI (h : E K m H0 ta Γ fun x => E K m H0 tb Γ fun y => ∃ a b : Int, x = .im (.int a) ∧ y = .im (.int b) ∧ P (.im (.bool (decide (a = b))))) : E K m H0 (tOp (rEqD K) ta tb) Γ P :=
  e_op (h.imp fun x hx => hx.imp fun y ⟨a, b, e1, e2, p⟩ => by subst e1 e2; exact rr_eq (dat_int _) (dat_int _) (shaped_int _) (shaped_int _) (by rw [eqv_int]; exact p))
theorem e_neI (h : E K m H0 ta Γ fun x => E K m H0 tb Γ fun y => ∃ a b : Int, x = .im (.int a) ∧ y = .im (.int b) ∧ P (.im (.bool (!decide (a = b))))) : E K m H0 (tOp (rNeD K) ta tb) Γ P :=
  e_op (h.imp fun x hx => hx.imp fun y ⟨a, b, e1, e2, p⟩ => by subst e1 e2; exact rr_ne (dat_int _) (dat_int _) (shaped_int _) (shaped_int _) (by rw [eqv_int]; exact p))
theorem e_eqT (h : E K m H0 ta Γ fun x => E K m H0 tb Γ fun y => ∃ a b : List Int, x = .im (tD a) ∧ y = .im (tD b) ∧ P (.im (.bool (decide (a = b))))) : E K m H0 (tOp (rEqD K) ta tb) Γ P :=
  e_op (h.imp fun x hx => hx.imp fun y ⟨a, b, e1, e2, p⟩ => by subst e1 e2; exact rr_eq (dat_tD _) (dat_tD _) (shaped_tD _) (shaped_tD _) (by rw [eqv_tD]; exact p))
theorem e_neT (h : E K m H0 ta Γ fun x => E K m H0 tb Γ fun y => ∃ a b : List Int, x = .im (tD a) ∧ y = .im (tD b) ∧ P (.im (.bool (!decide (a = b))))) : E K m H0 (tOp (rNeD K) ta tb) Γ P :=
  e_op (h.imp fun x hx => hx.imp fun y ⟨a, b, e1, e2, p⟩ => by subst e1 e2; exact rr_ne (dat_tD _) (dat_tD _) (shaped_tD _) (shaped_tD _) (by rw [eqv_tD]; exact p))
/-- plain data -/
theorem e_eqP (h : E K m H0 ta Γ fun x => E K m H0 tb Γ fun y => ∃ a b : PyData, x.dat = some a ∧ y.dat = some b ∧ pd 60 a ∧ pd 60 b ∧ ∀ k : Bool, (k = true ↔ a = b) → P (.im (.bool k))) : E K m H0 (tOp (rEqD K) ta tb) Γ P :=
  e_op (h.imp fun x hx => hx.imp fun y ⟨a, b, e1, e2, h1, h2, p⟩ => rr_eq e1 e2 (h1.shaped (by decide)) (h2.shaped (by decide)) (p _ (eqv_pl a b h1.1 h2.1)))
theorem e_neP (h : E K m H0 ta Γ fun x => E K m H0 tb Γ fun y => ∃ a b : PyData, x.dat = some a ∧ y.dat = some b ∧ pd 60 a ∧ pd 60 b ∧ ∀ k : Bool, (k = true ↔ a = b) → P (.im (.bool (!k)))) : E K m H0 (tOp (rNeD K) ta tb) Γ P :=
  e_op (h.imp fun x hx => hx.imp fun y ⟨a, b, e1, e2, h1, h2, p⟩ => rr_ne e1 e2 (h1.shaped (by decide)) (h2.shaped (by decide)) (p _ (eqv_pl a b h1.1 h2.1)))
theorem et_of (h : E K m H0 ta Γ fun r => ∃ b, r = .im (.bool b) ∧ B b) : ET K m H0 (tTest ta) Γ B := et_cmp h
end
/-- the subtrees side by side -/
def encs (ts : List T) : List Int := (ts.map T.enc).flatten
end Rt

set_option Elab.async false
set_option linter.all false
set_option maxRecDepth 100000
set_option maxHeartbeats 2000000
/-! A law's own def is run in the one surrounding of which it is known that nothing is being shown (guards): repr asks it. -/
namespace Rt
open PySem PySem.Spec L2
open PyProof.Rows (envOfC IntsAre AllBare)

/-- a call of f in the surrounding A -/
def Runs (P : Program) (w : World) (K : PySem.W.Frag) (mg : Str → Option Value) (base : Heap) (A : Around) (f : Addr) (fd : FuncData) (ps : List Str) (sp : Sp) : Prop :=
  ∀ (outer : List Env) (s : Shared) (H : Hp) (args : Args) (us : List Value) (vs : List V) (Q : VK) (E : XK), Env0 P w K mg base A outer s H → BindsTo s fd args (ps.zip us) → Vals vs us → sp vs H Q E →
    codeAny (model P w) A (.call (.ref f) args) (CR CX0 outer P w H s Q E) s

section
variable {P : Program} {w : World} {K : PySem.W.Frag} {mg : Str → Option Value} {base : Heap}
theorem runs_of {A : Around} {nm qual : Str} {st : Stmt} {f : Addr} {fd : FuncData} {N ps : List Str} {k : Nat} {sp : Sp} (F : Fun K nm qual st f fd) (S : FnScope N ps (defScope st)) (room : Room (k + 1) A)
    (len : ∀ vs H Q E, sp vs H Q E → vs.length = ps.length)
    (bd : ∀ (cdv : Value) (outer : List Env) (s : Shared) (H : Hp) (vs : List V) (Q : VK) (E : XK), Room k (A.deeper (envOfC qual (defScope st) s.heap.objs.size f cdv)) → sp vs H Q E →
      ∃ t, PSs (cxOf CX0 P w K mg base N qual (defScope st) f cdv A outer s H E).nox (defBody st) t ∧ t { nx := fun _ H' => Q .non H', rt := Q } (L2.start N vs) H) :
    Runs P w K mg base A f fd ps sp := by
  intro outer s H args us vs Q E e0 bind rel want
  obtain ⟨oc, od, kV, doc, pm, an, cdv, ct, osl, rfl, look, code⟩ := F.ex
  have inS : K.In s.heap := e0.mod.kin.keeps fun b o z => (e0.bs b o z).1
  have free : s.heap.NoLimit := e0.mod.nolimit.keeps fun b o z => (e0.bs b o z).1
  have kinds : ∀ y ∈ ps.zip us, (defScope st).names.lookup y.1 = some .local ∨ ((defScope st).names.lookup y.1 = some .cell ∧ ((cellsFrom (s.heap.objs.size + 1) (defScope st).names []).lookup y.1).isSome = true) := by
    intro y hy
    cases S.par y.1 (List.of_mem_zip (show (y.1, y.2) ∈ ps.zip us from hy)).1 with
    | inl z => exact Or.inl z
    | inr z => exact Or.inr ⟨z, PySem.W.cellsFrom_some _ _ _ (.inl z)⟩
  apply codeAny_call_function room.depth (inS _ _ look) rfl S.co S.gen rfl (PySem.W.codeRec_of inS code)
  apply bind
  apply wpAny_newFunctionEnv_cells S.kind kinds
  intro env he s1 x
  cases he
  refine ⟨free.keeps x.toInCall.keep, codeAny_func ?_⟩
  obtain ⟨t, ht, q⟩ := bd cdv outer s H vs Q E (room.deeper _) want
  have J := inv_start (E := E) (CX := CX0) S room.hd e0 (len _ _ _ _ want) rel x
  refine wpAny_mono (ht.nox.run [] s1 _ H _ J q) (fun fl s' got => ?_) fun _ _ z => z
  cases fl with
  | ret u => exact let ⟨v, σ', H', I, rv, z⟩ := got; ⟨v, H', I.os, I.bare, I.base, I.hok, rv, z⟩
  | next => exact let ⟨σ', H', I, z⟩ := got; ⟨V.non, H', I.os, I.bare, I.base, I.hok, rfl, z⟩
  | brk => exact let ⟨_, _, _, z⟩ := got; (show False from z).elim
  | cont => exact let ⟨_, _, _, z⟩ := got; (show False from z).elim

/-- the script alone is tracked, unless it is an object of the text -/
def scriptHp (K : PySem.W.Frag) (a : Addr) (o : Obj) (xs : List V) : Hp := fun b => if b = a ∧ K.lookup a = none then some (.frz o (.lst xs)) else none
theorem scriptHp_at {a : Addr} {o : Obj} {xs : List V} {b : Addr} {u : HO} (h : scriptHp K a o xs b = some u) : b = a ∧ K.lookup a = none ∧ u = .frz o (.lst xs) := by
  unfold scriptHp at h
  by_cases z : b = a ∧ K.lookup a = none
  · rw [if_pos z] at h; exact ⟨z.1, z.2, (Option.some.inj h).symm⟩
  · rw [if_neg z] at h; cases h
theorem law_runs {mb : Str → Option Value} {fa a : Addr} {fd : FuncData} {x : Str} {sp : Sp} {s₁ : Shared} {vs : List Value} {ns : List Int}
    (inK : K.In s₁.heap) (gl : s₁.heap.Ns mainGlobals mg) (bl : s₁.heap.Ns builtinsNs mb) (bb : ∀ x : Str, x ≠ "__name__" → mb x = bootBuiltins x) (free : s₁.heap.NoLimit) (gens : s₁.gens = #[])
    (ha : s₁.heap.get? a = some { cls := .type "list", data := .seq vs.toArray }) (hi : IntsAre vs ns) (hl : ns.length ≤ sizeLine)
    (F : ∀ base : Heap, K.In base → base.Ns mainGlobals mg → Runs P w K mg base callerA fa fd [x] sp) (bind : ∀ (s : Shared) (u : Value), BindsTo s fd ⟨[u], []⟩ [(x, u)])
    (want : ∀ H : Hp, SqL K H a (ns.map V.int) → sp [.ref a] H (fun v _ => v = .bl true) fun _ _ _ => False) :
    codeAny (model P w) callerA (.call (.ref fa) ⟨[.ref a], []⟩) (fun r s' => r = .ok (.ret (.bool true)) ∧ OldK s₁.heap s'.heap ∧ s'.os = s₁.os ∧ AllBare s'.gens) s₁ := by
  have rv : Vals (ns.map V.int) vs := vals_of_ints hi
  generalize hH : scriptHp K a { cls := .type "list", data := .seq vs.toArray } (ns.map V.int) = H
  have atH : ∀ {b u}, H b = some u → b = a ∧ K.lookup a = none ∧ u = .frz { cls := .type "list", data := .seq vs.toArray } (.lst (ns.map V.int)) := fun {b u} z => scriptHp_at (by rw [hH]; exact z)
  have ok : HOk P w H s₁.heap := fun b u z => by
    obtain ⟨rfl, _, rfl⟩ := atH z
    exact ⟨ha, by rw [List.length_map]; exact hl, vs, _, rv, ha⟩
  have sq : SqL K H a (ns.map V.int) := by
    cases q : K.lookup a with
    | none => exact .inl (.inr ⟨_, by rw [← hH]; unfold scriptHp; rw [if_pos ⟨rfl, q⟩]⟩)
    | some o =>
      have z := inK a o q
      rw [ha] at z
      obtain rfl := Option.some.inj z
      exact .inr ⟨_, vs.toArray, _, q, rfl, rfl, rfl, by rw [List.size_toArray, hi.length]; exact hl, by simpa using rv⟩
  have noH : ∀ {b o}, s₁.heap.get? b = some o → b ≠ a → H b = none := fun {b o} _ hne => by
    cases q : H b with
    | none => rfl
    | some u => exact absurd (atH q).1 hne
  have nsH : ∀ {b : Addr} {mm : Str → Option Value}, s₁.heap.Ns b mm → (hidT s₁.heap H).Ns b mm := fun {b mm} ⟨o, es, ep, z, d, r⟩ =>
    ⟨o, es, ep, hidT_get z (noH z fun e => by
      rw [e, ha] at z
      obtain rfl := Option.some.inj z
      cases (show Data.seq vs.toArray _ = Data.dict es ep from d)), d, r⟩
  have inH : K.In (hidT s₁.heap H) := fun b o z => hidT_get (inK b o z) (by
    cases q : H b with
    | none => rfl
    | some u =>
      obtain ⟨rfl, q2, _⟩ := atH q
      rw [q2] at z; cases z)
  have md : Mod K mg (hidT s₁.heap H) := ⟨inH, nsH gl, ⟨mb, nsH bl, bb⟩, let ⟨mc, z1, z2⟩ := free; ⟨mc, nsH z1, z2⟩⟩
  have e0 : Env0 P w K mg (hidT s₁.heap H) callerA [] s₁ H := ⟨rfl, md, fun b o z => of_hidT z, Nat.le_of_eq (hidT_size _ _), trivial, fun b z => (List.not_mem_nil z).elim, ok, .of_eq gens⟩
  refine codeAny_mono (F _ inH (nsH gl) [] s₁ H _ [.ref a] [.ref a] _ _ e0 (bind s₁ (.ref a)) (.cons rfl .nil) (want H sq)) fun r s' got => ?_
  match r, got with
  | .error e, z => exact z.elim
  | .ok .next, z => exact z.elim
  | .ok .brk, z => exact z.elim
  | .ok .cont, z => exact z.elim
  | .ok (.ret u), ⟨v, H', os, bare, un, ok', rv', q⟩ =>
    obtain rfl : v = .bl true := q
    obtain rfl : u = Value.bool true := rv'
    refine ⟨rfl, OldK.of_keep fun b o z => ?_, os, bare⟩
    cases q : H b with
    | none => exact un.keep b o z q (by intro y; exact (List.not_mem_nil y).elim) List.not_mem_nil
    | some u =>
      obtain ⟨rfl, _, rfl⟩ := atH q
      have z2 := (ok' b _ (un.frzs b _ _ q)).1
      rw [ha] at z
      rw [← Option.some.inj z]
      exact z2
end
theorem walk_g {l : PySem.W.OpenLaw} {n k : Nat} {q : Program} {loose : List Str} {XP : (Str → Option Value) → Heap → Prop} {YP : World → Heap → Prop} {d : DefRec} {K : Params → PySem.W.Frag} {sp : PySem.W.Frag → Sp} {x : Str}
    (hn : l.most = some n) (hn2 : n ≤ sizeLine) (hdf : d.params.defaults = [])
    (hY : ∀ (w : World) (h : Heap), YP w h → (K w.params).In h)
    (F : ∀ (w : World) (mg : Str → Option Value) (fa : Addr) (h : Heap), (K w.params).In h → h.Ns mainGlobals mg → mg d.name = some (.ref fa) →
      ∃ fd : FuncData, (∀ (s : Shared) (u : Value), BindsTo s fd ⟨[u], []⟩ [(x, u)]) ∧
        ∀ base : Heap, (K w.params).In base → base.Ns mainGlobals mg → Runs l.prog w (K w.params) mg base callerA fa fd [x] (sp (K w.params)))
    (want : ∀ (K : PySem.W.Frag) (H : Hp) (a : Addr) (ns : List Int), ns.length ≤ n → SqL K H a (ns.map V.int) → sp K [.ref a] H (fun v _ => v = .bl true) fun _ _ _ => False) :
    PySem.W.WalkO q loose XP YP l.row.toRowW d [] (fun f vs => PySem.call f vs) := by
  refine Att.attach_call hn hdf fun w s₀ s₁ mg mb fa o pm cd doc a vs ns G Y _ _ _ named obj hints few hgens => ?_
  obtain ⟨fd, b, f⟩ := F w mg fa _ (hY w _ Y) G.T.g named
  exact law_runs (hY w _ Y) G.T.g G.T.b G.T.builtins G.T.nolimit hgens obj hints (Nat.le_trans few hn2) f b fun H sq => want (K w.params) H a ns few sq

/-! ### repr -/
mutual
def nds : PyData → Nat
  | .tuple ds => ndsAll ds + 1
  | .list ds => ndsAll ds + 1
  | _ => 1
def ndsAll : List PyData → Nat
  | [] => 0
  | d :: ds => nds d + ndsAll ds
end
/-- what is shown in few signs: no texts, no dicts, ints of at most 1,920 bits -/
def sh1 : PyData → Bool
  | .none => true
  | .bool _ => true
  | .int i => decide (i.natAbs.log2 < 1920)
  | _ => false
mutual
def sh : PyData → Bool
  | .tuple ds => shAll ds
  | .list ds => shAll ds
  | .none => true
  | .bool _ => true
  | .int i => decide (i.natAbs.log2 < 1920)
  | _ => false
def shAll : List PyData → Bool
  | [] => true
  | d :: ds => sh d && shAll ds
end
theorem join_le (ts : List Str) : (Str.join ", " ts).length ≤ piled ts := by
  by_cases h : ts = []
  · subst h; decide
  · have := join_length_add ts h; omega
theorem tupleText_le (ts : List Str) : (tupleText ts).length ≤ piled ts + 3 := by
  have h := join_le ts
  unfold tupleText
  rw [Str.length_append, Str.length_append]
  have e1 : ((("(" : String) : Str)).length = 1 := rfl
  have e2 : (((if ts.length == 1 then ",)" else ")" : String) : Str)).length ≤ 2 := by split <;> decide
  omega
theorem listText_le (ts : List Str) : (listText ts).length ≤ piled ts + 3 := by
  unfold listText
  rw [Str.length_append]
  have e2 : ((("]" : String) : Str)).length = 1 := rfl
  cases ts with
  | nil => decide
  | cons t r =>
    show (textFrom 1 _ r).length + _ ≤ _
    rw [textFrom_length_pos r 1 _ Nat.one_pos, piled_cons, Str.length_append, Str.length_append]
    have e1 : ((("[" : String) : Str)).length = 1 := rfl
    have e3 : (((if 0 > 0 then ", " else "" : String) : Str)).length = 0 := by decide
    omega
mutual
theorem shown_le : ∀ d : PyData, sh d = true → d.shown.length + 2 ≤ 1930 * nds d
  | .none, _ => by simp only [PyData.shown, nds]; decide
  | .bool b, _ => by cases b <;> (simp only [PyData.shown, nds]; decide)
  | .int i, h => by
    have h1 : i.natAbs.log2 < 1920 := by simpa [sh] using h
    have := PyProof.Rows.int_text_len_1921 h1
    simp only [PyData.shown, nds]
    show (PySem.Str.ofString (toString i)).length + 2 ≤ _
    omega
  | .str _, h => by simp [sh] at h
  | .dict _, h => by simp [sh] at h
  | .tuple ds, h => by
    simp only [sh] at h
    have h1 := shownAll_le ds h
    have h2 := tupleText_le (PyData.shownAll ds)
    simp only [PyData.shown, nds]
    omega
  | .list ds, h => by
    simp only [sh] at h
    have h1 := shownAll_le ds h
    have h2 := listText_le (PyData.shownAll ds)
    simp only [PyData.shown, nds]
    omega
theorem shownAll_le : ∀ ds : List PyData, shAll ds = true → piled (PyData.shownAll ds) ≤ 1930 * ndsAll ds
  | [], _ => by simp [PyData.shownAll, piled, ndsAll]
  | d :: ds, h => by
    simp only [shAll, Bool.and_eq_true] at h
    have h1 := shown_le d h.1
    have h2 := shownAll_le ds h.2
    simp only [PyData.shownAll, piled_cons, ndsAll]
    omega
end
mutual
theorem showable_of : ∀ d : PyData, sh d = true → d.showable = true ∧ d.hasDict = false
  | .none, _ => ⟨by simp [PyData.showable], by simp [PyData.hasDict]⟩
  | .bool b, _ => ⟨by simp [PyData.showable], by simp [PyData.hasDict]⟩
  | .int i, h => ⟨by simpa [PyData.showable, sh] using h, by simp [PyData.hasDict]⟩
  | .str _, h => by simp [sh] at h
  | .dict _, h => by simp [sh] at h
  | .tuple ds, h => by
    simp only [sh] at h
    simpa [PyData.showable, PyData.hasDict] using showableAll_of ds h
  | .list ds, h => by
    simp only [sh] at h
    simpa [PyData.showable, PyData.hasDict] using showableAll_of ds h
theorem showableAll_of : ∀ ds : List PyData, shAll ds = true → PyData.showableAll ds = true ∧ PyData.hasDictAll ds = false
  | [], _ => ⟨by simp [PyData.showableAll], by simp [PyData.hasDictAll]⟩
  | d :: ds, h => by
    simp only [shAll, Bool.and_eq_true] at h
    have h1 := showable_of d h.1
    have h2 := showableAll_of ds h.2
    simp [PyData.showableAll, PyData.hasDictAll, h1, h2]
end
theorem shAll_iff : ∀ {ds : List PyData}, shAll ds = true ↔ ∀ d ∈ ds, sh d = true
  | [] => by simp [shAll]
  | d :: ds => by simp [shAll, shAll_iff (ds := ds)]
theorem ndsAll_le {n : Nat} : ∀ {ds : List PyData}, (∀ d ∈ ds, nds d ≤ n) → ndsAll ds ≤ n * ds.length
  | [], _ => by simp [ndsAll]
  | d :: ds, h => by
    have h1 := h d List.mem_cons_self
    have h2 := ndsAll_le (n := n) (ds := ds) fun e he => h e (List.mem_cons_of_mem _ he)
    simp only [ndsAll, List.length_cons, Nat.mul_succ]
    omega
/-- repr of a tuple or a list -/
def rRepr (K : PySem.W.Frag) : List V → Hp → VK → Prop := fun xs H Q => ∃ a d, xs = [.ref a] ∧ Dp K H (.ref a) d ∧ sh d = true ∧ nds d ≤ 8000 ∧ d.depth ≤ 60 ∧ Q (.str d.shown) H
theorem call_repr {X : Cx} (hg : X.A.guards = some []) (hu : X.A.units + 65 < cLine) : CallR X (.builtin "repr") (rRepr X.K) := by
  intro pins s σ H xs us Q I r h
  obtain ⟨a, d, rfl, hd, h1, h2, h3, q⟩ := h
  obtain rfl : us = [Value.ref a] := r.ref1
  obtain ⟨as, rd⟩ := Dp.reads I d _ _ hd rfl
  have hs := showable_of d h1
  have hz := shown_le d h1
  refine repr_of_reads' rd hs.1 (fun z => by rw [hs.2] at z; cases z) hg (by omega) (fun _ _ z => z) (fun h' u tk hk => ?_) (by rw [sizeLine_eq]; omega)
  exact ⟨.str d.shown, H, I.kept hk, ⟨u, rfl⟩, q⟩
section
variable {K : PySem.W.Frag} {m : Mode} {H0 : Hp} {Γ : Gm} {P : R → Prop} {x : R}
theorem rc_repr {d : PyData} {ds : List PyData} (hx : x.dat = some d) (hd : d = .tuple ds ∨ d = .list ds) (h1 : sh d = true) (h2 : nds d ≤ 8000) (h3 : d.depth ≤ 60) (p : P (.im (.str d.shown))) : RC K m H0 (rRepr K) [x] Γ P := fun σ H vs S rx Q k => by
  cases rx with
  | cons a b =>
    cases b
    rename_i v
    have hp : Dp K H v d := a.readD hx
    have hv : ∃ c, v = V.ref c := by
      rcases hd with rfl | rfl
      · cases hp with
        | tup _ _ => exact ⟨_, rfl⟩
      · cases hp with
        | lst _ _ => exact ⟨_, rfl⟩
    obtain ⟨c, rfl⟩ := hv
    exact ⟨c, d, rfl, hp, h1, h2, h3, k.im S (.str _) p⟩
end
end Rt

set_option Elab.async false
set_option linter.all false
set_option maxRecDepth 100000
set_option maxHeartbeats 2000000
/-! sorted of tuples, empty ones let in; of a dict with tuple keys. -/
namespace Rt
open PySem PySem.Spec PySem.W L2
open PyProof.Rows (SortKind keyKind' general' oneType' tuples' oneLt' keyLt' oneLt'_eq firstOfTuple' oneTypeOnly'_eq lexLt seqObj)
section
variable {prog : Program} {w : World} {A : Around} {E : Value → Shared → Prop} {s : Shared} {M : Model}
/-- the kinds' comparisons of two tuples that read as alike data -/
theorem tups_lt {f : Bool} {xs ys : List PyData} {a b : Value} {as bs : List Addr} {Q : Bool → Shared → Prop} (ra : Reads s.heap a (.tuple xs) as) (rb : Reads s.heap b (.tuple ys) bs) (al : alike (.tuple xs) (.tuple ys) = true)
    (hu : A.units + min (PyData.depth (.tuple xs)) (PyData.depth (.tuple ys)) < cLine) (q : Q (dataLt (.tuple xs) (.tuple ys)) s) : wpAny (model prog w) A (oneLt' f a b) Q E s := by
  cases f with
  | false => exact oneLt_alike (f := false) (fun z => nomatch z) ra rb al (fun z => nomatch z) hu q
  | true =>
    have al' : alikeAll xs ys = true := by simpa [alike] using al
    cases ra with
    | @tuple l o vs n _ _ h1 h2 h3 h4 =>
      cases rb with
      | @tuple l' o' vs' n' _ _ k1 k2 k3 k4 =>
        have n1 : vs.size = xs.length := by simpa using SeqAt.ReadsAll.length _ _ _ h4
        have n2 : vs'.size = ys.length := by simpa using SeqAt.ReadsAll.length _ _ _ k4
        rw [dataLt_tuple, ← firstLt_toks xs ys al', ← n1, ← n2] at q
        rw [oneLt'_eq]
        simp only [if_true]
        refine wpAny_bind (wpAny_cRoomFor (SeqAt.room_here hu) ?_)
        obtain ⟨cls, dd, dt, sl⟩ := o
        obtain ⟨cls', dd', dt', sl'⟩ := o'
        simp only at h2 h3 k2 k3
        subst h2 h3 k2 k3
        refine wpAny_bind (wpAny_callSpecialIfBound?_slot (T := "tuple") ⟨_, h1, rfl⟩ F.slot_tuple_lt ?_)
        refine call_meets F.slot_tuple_lt ⟨_, h1, rfl⟩ F.entry_tuple_lt (F.args_tuple_lt_2 _ _) (SeqAt.tuple_ltAt l l' vs vs' n n' dd dd' sl sl' (SeqAt.pairEq xs ys) (fun j => dataLt (xs.getD j .none) (ys.getD j .none))) ⟨h1, k1, fun j j1 j2 => ?_, fun j j1 j2 hj => ?_, ?_⟩
        · have := eqAt_alikeAll xs ys A.in1 s vs.toList vs'.toList _ _ h4 k4 al' (SeqAt.room_in hu) j (by simpa using j1) (by simpa using j2)
          simpa using this
        · have := rcLt_alikeAll xs ys A.in1 s vs.toList vs'.toList _ _ h4 k4 al' (SeqAt.room_in hu) j (by simpa using j1) (by simpa using j2) hj
          simpa using this
        · exact wpAny_truthy_bool q
/-- the first item of each tuple, where it has one -/
theorem firsts_run : ∀ (vs : List Value) (ds : List PyData) {Q : List (Option Value) → Shared → Prop}, EachIs (fun v d => ∃ as, Reads s.heap v d as) vs ds → (∀ d ∈ ds, ∃ xs, d = .tuple xs) →
    (∀ fs : List (Option Value), fs.length = vs.length → (∀ (i : Nat) xs, ds[i]? = some (.tuple xs) → (fs[i]?).map (·.isSome) = some (!xs.isEmpty)) → Q fs s) → wpAny M A (vs.mapM firstOfTuple') Q E s
  | [], _, Q, .nil, _, q => by
    rw [List.mapM_nil]
    exact wpAny_pure (q [] rfl fun i xs z => by simp at z)
  | v :: vs, _, Q, .cons (b := d) (bs := ds) ⟨as, r⟩ t, ht, q => by
    obtain ⟨xs, rfl⟩ := ht d List.mem_cons_self
    cases r with
    | @tuple a o its n _ _ h1 h2 h3 h4 =>
      have hl : its.size = xs.length := by simpa using SeqAt.ReadsAll.length _ _ _ h4
      rw [List.mapM_cons]
      refine wpAny_bind ?_
      rw [kas_first_eq]
      refine wpAny_bind (Looks.here (show Looks M s.heap (typeOf (.ref a)) o.cls from (Looks.ld h1).andThen .now) ?_)
      rw [h2, if_neg (by simp)]
      refine wpAny_bind (PyProof.Rows.listItems_at h1 h3 (wpAny_pure ?_))
      refine wpAny_bind (firsts_run vs ds t (fun d hd => ht d (List.mem_cons_of_mem _ hd)) fun fs hf hs => wpAny_pure (q _ (by simp [hf]) fun i ys z => ?_))
      cases i with
      | zero =>
        obtain rfl : xs = ys := by simpa using z
        simp only [List.getElem?_cons_zero, Option.map_some, Option.some.injEq]
        cases xs with
        | nil =>
          have : its.size = 0 := hl
          have : its[0]? = none := Array.getElem?_eq_none (by omega)
          rw [this]; rfl
        | cons x xs =>
          have : 0 < its.size := by rw [hl]; simp
          rw [Array.getElem?_eq_getElem this]; rfl
      | succ i => exact hs i ys (by simpa using z)
/-- tuples, alike, can be sorted -/
theorem sorts_tups {vs : List Value} {ds : List PyData} (e : EachIs (fun v d => ∃ as, Reads s.heap v d as) vs ds) (hal : AllAlike ds) (ht : ∀ d ∈ ds, ∃ xs, d = .tuple xs) (hu : ∀ d ∈ ds, A.units + d.depth < cLine) : SortsAt prog w A s (dataKind s.heap ds) vs := by
  by_cases full : ∀ d ∈ ds, ∃ x r, d = .tuple (x :: r)
  · exact SortsAt.data e hal (.inl full) hu
  have room : ∀ {d d' : PyData}, d ∈ ds → A.units + min d.depth d'.depth < cLine := fun {d d'} hd => Nat.lt_of_le_of_lt (Nat.add_le_add_left (Nat.min_le_left _ _) _) (hu d hd)
  have keys : ∀ v, v ∈ vs → ∃ a, (dataKind s.heap ds).keyOf v = some a := fun v hv => by
    obtain ⟨d, hd, as, r⟩ := e.left v hv
    exact ⟨_, dataKind_some hal hd r⟩
  obtain ⟨d₁, hd₁, nf⟩ : ∃ d, d ∈ ds ∧ ¬ ∃ x r, d = .tuple (x :: r) := by
    refine Classical.byContradiction fun h => full fun d hd => Classical.byContradiction fun h' => h ⟨d, hd, h'⟩
  have e₁ : d₁ = .tuple [] := by
    obtain ⟨xs, rfl⟩ := ht d₁ hd₁
    cases xs with
    | nil => rfl
    | cons x r => exact absurd ⟨x, r, rfl⟩ nf
  subst e₁
  obtain ⟨i₁, hi₁⟩ := List.getElem?_of_mem hd₁
  -- both kinds compare as the data do
  have cmp : ∀ f : Bool, ∀ (E : Value → Shared → Prop) (x y : Value) (a b : (dataKind s.heap ds).α) {Q : Bool → Shared → Prop}, (dataKind s.heap ds).keyOf x = some a → (dataKind s.heap ds).keyOf y = some b → Q ((dataKind s.heap ds).blt a b) s → wpAny (model prog w) A (oneLt' f x y) Q E s := by
    intro f E x y a b Q ha hb hq
    obtain ⟨d, as, hd, ra, rfl⟩ := dataKind_inv ha
    obtain ⟨d', as', hd', rb, rfl⟩ := dataKind_inv hb
    obtain ⟨xs, rfl⟩ := ht d hd
    obtain ⟨ys, rfl⟩ := ht d' hd'
    exact tups_lt ra rb (hal _ hd _ hd') (room hd) hq
  have types : ∀ v ∈ vs, ∀ {M : Model}, Looks M s.heap (typeOf v) (Value.type "tuple") := fun v hv M => by
    obtain ⟨d, hd, as, r⟩ := e.left v hv
    obtain ⟨xs, rfl⟩ := ht d hd
    exact looks_reads r
  cases ds with
  | nil => exact absurd hd₁ List.not_mem_nil
  | cons d₀ ds₀ =>
    obtain ⟨xs₀, e₀⟩ := ht d₀ List.mem_cons_self
    have run : ∀ (kd : SortKind), (xs₀ = [] → kd = oneType') → (xs₀ ≠ [] → kd = general') → 2 ≤ vs.length → ∀ (E : Value → Shared → Prop) {Q : SortKind → Shared → Prop}, Q kd s → wpAny (model prog w) A (keyKind' vs.toArray) Q E s := by
      intro kd k1 k2 h2 E Q hq
      rw [PyProof.Rows.kat_kind_eq, List.mapM_toArray, map_eq_pure_bind]
      refine wpAny_bind (wpAny_bind (firsts_run vs _ e ht fun fs hl hs => wpAny_pure ?_))
      have notall : ¬ (fs.toArray.all fun x => x.isSome) = true := by
        intro h
        have h1 := hs i₁ [] hi₁
        cases q : fs[i₁]? with
        | none => rw [q] at h1; cases h1
        | some f =>
          rw [q] at h1
          have h1' : f.isSome = false := by simpa using h1
          rw [List.all_toArray] at h
          have := List.all_eq_true.mp h f (List.mem_of_getElem? q)
          rw [h1'] at this; cases this
      rw [if_neg notall]
      have h0 := hs 0 xs₀ (by rw [← e₀]; rfl)
      by_cases hx : xs₀ = []
      · subst hx
        obtain rfl := k1 rfl
        have hf0 : (fs.toArray[0]?.bind id).isSome = false := by
          rw [List.getElem?_toArray]
          cases q : fs[0]? with
          | none => rfl
          | some f =>
            rw [q] at h0
            simpa using h0
        rw [if_neg (by rw [hf0]; exact Bool.false_ne_true), oneTypeOnly'_eq, List.mapM_toArray, map_eq_pure_bind]
        refine wpAny_bind (wpAny_bind (wpAny_bind (kas_mapM (r := Value.type "tuple") _ (fun v hv Q' hq => (types v hv).here hq) (wpAny_pure ?_))))
        have hall2 : ((List.map (fun _ => Value.type "tuple") vs).toArray.all fun x => x == Value.type "tuple") = true := by
          simp only [List.all_toArray, List.all_map, List.all_eq_true]
          intro _ _
          exact beq_self_eq_true _
        have h00 : (List.map (fun _ => Value.type "tuple") vs).toArray[0]? = some (Value.type "tuple") := by
          cases vs with
          | nil => simp at h2
          | cons v vs => simp
        rw [h00]
        simp only [hall2, if_true]
        exact wpAny_pure (wpAny_pure hq)
      · obtain rfl := k2 hx
        have hf0 : (fs.toArray[0]?.bind id).isSome = true := by
          rw [List.getElem?_toArray]
          cases q : fs[0]? with
          | none => rw [q] at h0; cases h0
          | some f =>
            rw [q] at h0
            cases xs₀ with
            | nil => exact absurd rfl hx
            | cons x r => simpa using h0
        rw [if_pos hf0]
        exact wpAny_pure hq
    by_cases hx : xs₀ = []
    · exact ⟨keys, oneType', fun E x y a b Q ha hb hq => by rw [PyProof.Rows.keyLt'_oneType]; exact cmp true E x y a b ha hb hq, run oneType' (fun _ => rfl) fun z => absurd hx z⟩
    · exact ⟨keys, general', fun E x y a b Q ha hb hq => by
        show wpAny (model prog w) A (oneLt' false x y) Q E s
        exact cmp false E x y a b ha hb hq, run general' (fun z => absurd z hx) fun _ => rfl⟩
end

/-! ### the calls -/
abbrev ordD : PyData → PyData → Bool := dataLe false fun d : PyData => d
theorem sort_map (bs : List (V × PyData)) : (bs.mergeSort (dataLe false fun b : V × PyData => b.2)).map (·.2) = (bs.map (·.2)).mergeSort ordD :=
  List.map_mergeSort fun a _ b _ => rfl
def rSortedL (K : PySem.W.Frag) : List V → Hp → VK → Prop := fun xs H Q => ∃ (a : Addr) (ys : List V) (ds : List PyData), xs = [.ref a] ∧ SqL K H a ys ∧ ImAll K H ys ds ∧ AllAlike ds ∧ (∀ d ∈ ds, ∃ xs, d = .tuple xs) ∧ (∀ d ∈ ds, d.depth ≤ 60) ∧ (∀ d ∈ ds, un d = d) ∧
  ∀ p zs, H p = none → ImAll K H zs (ds.mergeSort ordD) → Q (.ref p) (upd H p (.lst zs))
theorem each_zip {K : PySem.W.Frag} {H : Hp} : ∀ {ys : List V} {ds : List PyData} {us : List Value}, ImAll K H ys ds → (∀ d ∈ ds, un d = d) → Vals ys us → EachIs (fun v b => RelV b.1 v ∧ Im K H b.1 b.2 ∧ un b.2 = b.2) us (ys.zip ds) ∧ (ys.zip ds).map (·.2) = ds
  | [], _, _, h, _, .nil => by cases h; exact ⟨.nil, rfl⟩
  | y :: ys, _, _, h, hu, .cons r t => by
    cases h with
    | cons h1 h2 =>
      obtain ⟨a, b⟩ := each_zip h2 (fun d hd => hu d (List.mem_cons_of_mem _ hd)) t
      exact ⟨.cons ⟨r, h1, hu _ List.mem_cons_self⟩ a, by simp only [List.zip_cons_cons, List.map_cons, b]⟩
theorem each_out {K : PySem.W.Frag} {H : Hp} {us : List Value} {bs : List (V × PyData)} (h : EachIs (fun v b => RelV b.1 v ∧ Im K H b.1 b.2 ∧ un b.2 = b.2) us bs) : Vals (bs.map (·.1)) us ∧ ImAll K H (bs.map (·.1)) (bs.map (·.2)) := by
  induction h with
  | nil => exact ⟨.nil, .nil⟩
  | cons a _ ih => exact ⟨.cons a.1 ih.1, .cons a.2.1 ih.2⟩
theorem call_sortedL {X : Cx} {k : Nat} (hr : Room k X.A) : CallR X (.builtin "sorted") (rSortedL X.K) := by
  intro pins s σ H xs us Q I r h
  obtain ⟨a, ys, ds, rfl, hs, im, al, ht, hd, hun', q⟩ := h
  obtain ⟨its, rv, hl, hz⟩ := I.list hs
  rw [Vals.ref1 r]
  obtain ⟨e, em⟩ := each_zip im hun' rv
  have hun := hr.un
  have er : EachIs (fun v (b : V × PyData) => ∃ as, Reads (sortingHeap (copyHeap s.heap its) (s.heap.objs.size + 1) its) v b.2 as) its (ys.zip ds) :=
    e.mono fun v b z => let ⟨as, q⟩ := Dp.reads I b.2 b.1 v (by have h := Im.dp _ _ z.2.1; rw [z.2.2] at h; exact h) z.1; ⟨as, PyProof.Rows.Reads.keeps (fun _ _ => sorting_copy_old) q⟩
  have er2 : EachIs (fun v d => ∃ as, Reads (sortingHeap (copyHeap s.heap its) (s.heap.objs.size + 1) its) v d as) its ds := by
    rw [← em]
    exact each_map (R := fun v d => ∃ as, Reads (sortingHeap (copyHeap s.heap its) (s.heap.objs.size + 1) its) v d as) (fun b : V × PyData => b.2) er
  have S := sorts_tups (prog := X.prog) (w := X.w) (A := X.A.in1.in1) (s := { s with heap := sortingHeap (copyHeap s.heap its) (s.heap.objs.size + 1) its }) er2 al ht fun d hd' => by
    have := hd d hd'
    show X.A.units + 1 + 1 + d.depth < cLine
    omega
  have hlen : its.length ≤ sizeLine := by rw [← rv.length]; exact hz
  have out := sortVals_data (enc := fun b : V × PyData => b.2) false e er (by rw [em]; exact al)
  rw [em] at out
  refine sorted_vals hl.isList S hlen ?_
  generalize sortVals (dataKind (sortingHeap (copyHeap s.heap its) (s.heap.objs.size + 1) its) ds) false its its = os at out ⊢
  obtain ⟨ov, oi⟩ := each_out out
  rw [sort_map, em] at oi
  obtain ⟨ep, he'⟩ := PyProof.Rows.sortedAll_at s.heap its os.toArray
  have ol : ((ys.zip ds).mergeSort (dataLe false fun b : V × PyData => b.2)).length ≤ sizeLine := by
    rw [List.length_mergeSort, ← e.length]
    exact hlen
  refine ⟨.ref _, upd H (s.heap.objs.size + 1) (.lst (((ys.zip ds).mergeSort (dataLe false fun b : V × PyData => b.2)).map (·.1))), I.laid (t' := s.toks) (fun _ _ => PyProof.Rows.sortedAll_old) (Nat.le_succ _)
    ⟨by rw [List.length_map]; exact ol, os, ep, ov, he'⟩, rfl, q _ _ (I.hok.fresh (Nat.le_succ _)) oi⟩

/-- sorted(d), the keys tuples of ints -/
def rSortedD (K : PySem.W.Frag) : List V → Hp → VK → Prop := fun xs H Q => ∃ (a : Addr) (kvs : List (List Key × V)) (ns : List (List Int)), xs = [.ref a] ∧ Rd H a (.dT kvs) ∧ kvs.map (·.1) = ns.map (·.map Sum.inl) ∧
  ∀ p zs, H p = none → ImAll K H zs ((ns.map tD).mergeSort ordD) → Q (.ref p) (upd H p (.lst zs))
theorem keys_im {K : PySem.W.Frag} {H : Hp} : ∀ {kvs : List (List Key × V)} {ks : List (List Key × Addr × Value)} {ns : List (List Int)}, Paired (fun (p : List Key × V) (q : List Key × Addr × Value) => p.1 = q.1 ∧ H q.2.1 = some (.tup (p.1.map kV)) ∧ RelV p.2 q.2.2) kvs ks → kvs.map (·.1) = ns.map (·.map Sum.inl) →
    ImAll K H ((ks.map fun x => x.2.1).map V.ref) (ns.map tD)
  | _, _, [], .nil, _ => .nil
  | _, _, n :: ns, .cons (a := p) (b := q) h t, e => by
    simp only [List.map_cons, List.cons.injEq] at e
    obtain ⟨e1, e2⟩ := e
    refine .cons ?_ (keys_im t e2)
    have h2 := h.2.1
    rw [e1, List.map_map] at h2
    exact .tup h2 (by rw [show (kV ∘ Sum.inl : Int → V) = V.int from rfl]; exact ImAll.ints n)
theorem alike_tD (ns : List (List Int)) : AllAlike (ns.map tD) := AllAlike.of fun b b' => by
  show alike (.tuple _) (.tuple _) = true
  rw [alike]
  exact alike_ints b b'
theorem call_sortedD {X : Cx} {k : Nat} (hr : Room k X.A) (hc : X.calm = true := by rfl) : CallR X (.builtin "sorted") (rSortedD X.K) := by
  intro pins s σ H xs us Q I r h
  obtain ⟨d, kvs, ns, rfl, hd, hk, q⟩ := h
  rw [Vals.ref1 r]
  have hun := hr.un
  obtain ⟨z, lo, ks, pr, o, es, ep, ho, hx, hdt, he, hn⟩ := (show ObjOk X.prog X.w H s.heap d (.dT kvs) from hd.ok I.hok)
  have l1 : es.size = ks.length := size_of_entries he
  have l2 : kvs.length = ks.length := Paired.length pr
  have im0 := keys_im (K := X.K) pr hk
  refine Calls.call_function_entry PyProof.Rows.kind_sorted PyProof.Rows.plain_sorted PyProof.Rows.entry_sorted (PyProof.Rows.args_sorted1 _) ?_
  unfold Builtin.«sorted»
  refine wpAny_bind (m := checkCount "sorted" 1 1 _) (wpAny_pure ?_)
  refine wpAny_bind (PySem.W.kdu_collect (A := X.A.in1) (kdl_raw lo hx hdt) (I.ok.hd hc) ho (by omega) fun h' tk acc kp it => ?_)
  have ea : acc.toList = (ks.map fun x => x.2.1).map Value.ref := by
    have hl : acc.toList.length = ks.length := by rw [Array.length_toList, it.1]; exact l1
    rw [List.map_map]
    apply List.ext_getElem?
    intro j
    rw [List.getElem?_map]
    cases hj : acc.toList[j]? with
    | none => rw [List.getElem?_eq_none (by have := List.getElem?_eq_none_iff.mp hj; omega)]; rfl
    | some v =>
      obtain ⟨en, hen, hv⟩ := it.2 j v (by rw [← Array.getElem?_toList]; exact hj)
      have qe := entry_at he j
      rw [hen] at qe
      cases hb : ks[j]? with
      | none => rw [hb] at qe; exact nomatch (show some en = none from qe)
      | some b =>
        rw [hb] at qe
        obtain rfl : en = entryOfKey (tupleKind (mixKind X.prog X.w)) b := Option.some.inj qe
        rw [hv]; rfl
  have rv : Vals ((ks.map fun x => x.2.1).map V.ref) acc.toList := by rw [ea]; exact vals_refs _
  generalize hys : (ks.map fun x => x.2.1).map V.ref = ys at rv im0
  have I1 : Inv X pins σ H { s with heap := h', toks := tk } := I.kept kp
  have hlen : acc.toList.length ≤ sizeLine := by rw [← rv.length, ← hys, List.length_map, List.length_map]; omega
  refine wpAny_bind (wpAny_newList ?_ hlen)
  have hoL : (h'.push (seqObj "list" acc.toList.toArray 0)).get? h'.objs.size = some (seqObj "list" acc.toList.toArray 0) := Heap.get?_push_size _ rfl
  obtain ⟨e, em⟩ := each_zip im0 (fun d hd => by obtain ⟨n, _, rfl⟩ := List.mem_map.mp hd; exact un_tD n) rv
  have er : EachIs (fun v (b : V × PyData) => ∃ as, Reads (sortingHeap (h'.push (seqObj "list" acc.toList.toArray 0)) h'.objs.size acc.toList) v b.2 as) acc.toList (ys.zip (ns.map tD)) :=
    e.mono fun v b z => let ⟨as, q⟩ := Dp.reads I1 b.2 b.1 v (by have h := Im.dp _ _ z.2.1; rw [z.2.2] at h; exact h) z.1
      ⟨as, PyProof.Rows.Reads.keeps (fun c oc hc => sortingHeap_old (Nat.ne_of_lt (Heap.lt_size hc)) (Heap.get?_push_of_some _ hc)) q⟩
  have er2 : EachIs (fun v d => ∃ as, Reads (sortingHeap (h'.push (seqObj "list" acc.toList.toArray 0)) h'.objs.size acc.toList) v d as) acc.toList (ns.map tD) := by
    have := each_map (R := fun v d => ∃ as, Reads (sortingHeap (h'.push (seqObj "list" acc.toList.toArray 0)) h'.objs.size acc.toList) v d as) (fun b : V × PyData => b.2) er
    rw [em] at this
    exact this
  have tups : ∀ d ∈ ns.map tD, ∃ xs, d = .tuple xs := fun d hd => by
    obtain ⟨n, _, rfl⟩ := List.mem_map.mp hd
    exact ⟨_, rfl⟩
  have S := sorts_tups (prog := X.prog) (w := X.w) (A := X.A.in1.in1) (s := { s with heap := sortingHeap (h'.push (seqObj "list" acc.toList.toArray 0)) h'.objs.size acc.toList, toks := tk }) er2 (alike_tD ns) tups fun d hd' => by
    obtain ⟨n, _, rfl⟩ := List.mem_map.mp hd'
    have := (pd_tD n).2
    show X.A.units + 1 + 1 + (tD n).depth < cLine
    omega
  have out := sortVals_data (enc := fun b : V × PyData => b.2) false e er (by rw [em]; exact alike_tD ns)
  rw [em] at out
  show wpAny _ _ _ _ _ { s with heap := h'.push (seqObj "list" acc.toList.toArray 0), toks := tk }
  refine wpAny_bind (wpAny_holding (wpAny_call_entry PyProof.Rows.slot_list_sort ⟨_, hoL, rfl⟩ PyProof.Rows.entry_list_sort
    (list_sort_vals (s := { s with heap := h'.push (seqObj "list" acc.toList.toArray 0), toks := tk }) hoL S hlen ⟨_, rfl, ?_⟩) (PyProof.Rows.args_list_sort _)))
  generalize sortVals (dataKind (sortingHeap (h'.push (seqObj "list" acc.toList.toArray 0)) h'.objs.size acc.toList) (ns.map tD)) false acc.toList acc.toList = os at out ⊢
  obtain ⟨ov, oi⟩ := each_out out
  rw [sort_map, em] at oi
  obtain ⟨ep', he'⟩ := PyProof.Rows.sortedHeap_at (vs := acc.toList) (out := os.toArray) hoL
  have ol : ((ys.zip (ns.map tD)).mergeSort (dataLe false fun b : V × PyData => b.2)).length ≤ sizeLine := by
    rw [List.length_mergeSort, ← e.length]
    exact hlen
  refine wpAny_pure ⟨_, rfl, .ref h'.objs.size, upd H h'.objs.size (.lst (((ys.zip (ns.map tD)).mergeSort (dataLe false fun b : V × PyData => b.2)).map (·.1))), I1.laid (t' := tk) (fun b u z => ?_) (Nat.le_refl _)
    ⟨by rw [List.length_map]; exact ol, os, ep', ov, he'⟩, rfl, q _ _ (I1.hok.fresh (Nat.le_refl _)) oi⟩
  have hb : b < h'.objs.size := Heap.lt_size z
  rw [PyProof.Rows.sortedHeap_old (Nat.ne_of_lt hb) (by rw [PyProof.Rows.size_push']; exact Nat.lt_succ_of_lt hb)]
  exact Heap.get?_push_of_some _ z

/-! ### in the slots -/
section
variable {K : PySem.W.Frag} {m : Mode} {H0 : Hp} {Γ : Gm} {P : R → Prop} {x : R}
theorem rc_sortedL {ds : List PyData} (hx : x.lst = some ds) (al : AllAlike ds) (ht : ∀ d ∈ ds, ∃ xs, d = .tuple xs) (hd : ∀ d ∈ ds, d.depth ≤ 60) (hu : ∀ d ∈ ds, un d = d) (p : P (.fl (ds.mergeSort ordD))) : RC K m H0 (rSortedL K) [x] Γ P := fun σ H vs S rx Q k => by
  cases rx with
  | cons a b =>
    cases b
    obtain ⟨c, xs, rfl, l, q, _⟩ := a.readL hx
    exact ⟨c, xs, ds, rfl, l, q, al, ht, hd, hu, fun b zs n im => k.fl S im n p⟩
theorem KvAll.keys {H : Hp} : ∀ {ks : List (List Key × V)} {kvs : List (List Int × PyData)}, KvAll K H ks kvs → ks.map (·.1) = (kvs.map (·.1)).map (·.map Sum.inl)
  | _, _, .nil => rfl
  | _, _, .cons _ t => by simp only [List.map_cons, KvAll.keys t]
theorem rc_sortedD {kvs : List (List Int × PyData)} (hx : x.dic = some kvs) (p : P (.fl (((kvs.map (·.1)).map tD).mergeSort ordD))) : RC K m H0 (rSortedD K) [x] Γ P := fun σ H vs S rx Q k => by
  cases rx with
  | cons a b =>
    cases b
    obtain ⟨c, ks, rfl, l, q, _⟩ := a.readK hx
    exact ⟨c, ks, _, rfl, l, q.keys, fun b zs n im => k.fl S im n p⟩
end
end Rt

set_option Elab.async false
set_option linter.all false
set_option maxRecDepth 100000
set_option maxHeartbeats 2000000
/-! enumerate over a tuple, a display with tuple keys, index of an int: what the hand layer lacks. -/
namespace Rt
open PySem PySem.Spec L2 PyProof.Rows

/-! ### enumerate(tuple) -/
def Iett (K : PySem.W.Frag) (a : Addr) : It :=
  ⟨fun i H => ∃ (xs : List V) (x : V), SqT K H a xs ∧ xs[i]? = some x, fun i H v H' => ∃ T x, v = .ref T ∧ H T = none ∧ H' = upd H T (.tup [.int (i : Nat), x]) ∧ ∀ xs, SqT K H a xs → xs[i]? = some x, fun i H => ∃ xs : List V, SqT K H a xs ∧ xs.length = i⟩
theorem turn_enumT {P : Program} {w : World} {K : PySem.W.Frag} {elts : List Expr} {kk : Nat} {tpos : Pos} (a e it : Addr) :
    Turn P w K (.Tuple elts kk tpos) (Iett K a) [e, it] e (fun i h => (∃ old, IsEnum h e it ((i : Nat) : Int) old) ∧ h.IsTupleIter it a i ∧ e ≠ it ∧ a ≠ it) where
  mem := by simp
  obj := fun i h st b hb => by
    obtain ⟨⟨old, he⟩, ⟨o, ho, hc, hd⟩, _⟩ := st
    have e' : b = e ∨ b = it := by simpa using hb
    rcases e' with z | z
    · rw [z]; exact ⟨_, he, fun v q => nomatch q⟩
    · rw [z]; exact ⟨o, ho, fun v q => by rw [hd] at q; cases q⟩
  keep := fun i h h' st k => let ⟨⟨old, he⟩, hi, hne⟩ := st; ⟨⟨old, k e (by simp) _ he⟩, hi.at fun o q => k it (by simp) o q, hne⟩
  item := by
    intro X hP hw hK hc i pins s σ H E I hf st hg
    subst hP hw hK
    obtain ⟨⟨old, he⟩, hit, hne, hai⟩ := st
    obtain ⟨xs, x, hq, hx⟩ := hg
    obtain ⟨its, rv, p, hz⟩ := I.tuple hq
    obtain ⟨u, hu, ru⟩ := rv.get hx
    have p' : s.heap.IsTuple a its.toArray := p
    have hel : e < s.heap.objs.size := Heap.lt_size he
    have hil : it < s.heap.objs.size := by obtain ⟨_, q, _⟩ := hit; exact Heap.lt_size q
    have hea : e ≠ a := fun z => by
      obtain ⟨o, q1, q2, _⟩ := p'
      rw [← z, he] at q1
      cases q1
      exact absurd q2 (by simp)
    have D := Draws.tuple (prog := X.prog) (w := X.w) (A := X.A.in1) (I.ok.hd hc) it a hai its.toArray
    have hlt : i < its.toArray.size := by
      have := (List.getElem?_eq_some_iff.mp hu).1
      simpa using this
    refine wpAny_pyNext_enum_itemD D he ⟨hit, p'⟩ hlt hne (by simp; exact ⟨hne, hea⟩) fun y h' tk hy ho hst' hT hsz hk => ?_
    have ey : y = u := by
      have hy' : its[i]? = some y := by simpa using hy
      rw [hu] at hy'
      exact (Option.some.inj hy').symm
    subst ey
    refine ⟨_, rfl, wpAny_letOwnedTupleGo_enum (s := { s with heap := h', toks := tk + 1 }) ho fun h'' he' sb => ?_⟩
    have hT2 : h''.get? s.heap.objs.size = some { cls := .type "tuple", data := .seq #[.int i tk, y] } := (sb.2 _ (Nat.ne_of_gt hel)).trans hT
    have new : ObjOk X.prog X.w (upd H s.heap.objs.size (.tup [.int (i : Nat), x])) h'' s.heap.objs.size (.tup [.int (i : Nat), x]) :=
      ⟨by show 2 ≤ sizeLine; decide, [.int i tk, y], .cons ⟨_, rfl⟩ (.cons ru .nil), ⟨_, hT2, rfl, _, rfl⟩⟩
    have I1 : Inv X pins σ (upd H s.heap.objs.size (.tup [.int (i : Nat), x])) { s with heap := h'', toks := tk + 1 } :=
      I.turnedNew (ch := [e, it]) (fun b ob hb q => (sb.2 b (fun z => hb (by simp [z]))).trans (hk b ob (fun z => hb (by simp [z])) (fun z => hb (by simp [z])) q)) hf (Nat.le_refl _) new
    refine ⟨.ref s.heap.objs.size, _, I1, rfl, ⟨_, x, rfl, I.hok.fresh (Nat.le_refl _), rfl, fun ys hy => by rw [I.tuple_inj hy hq]; exact hx⟩, ⟨⟨y, ?_⟩, hst'.1.at fun o q => (sb.2 it (Ne.symm hne)).trans q, hne, hai⟩, fun b hb => ?_⟩
    · have e1 : ((i + 1 : Nat) : Int) = (i : Int) + 1 := by omega
      rw [e1]; exact he'
    · have hb' : b < s.heap.objs.size := by
        have e' : b = e ∨ b = it := by simpa using hb
        rcases e' with z | z
        · rw [z]; exact hel
        · rw [z]; exact hil
      rw [upd_ne (Nat.ne_of_lt hb')]
      exact (hf b hb).1
  done := by
    intro X hP hw hK hc i pins s σ H E I hf st hg
    subst hP hw hK
    obtain ⟨⟨old, he⟩, hit, hne, hai⟩ := st
    obtain ⟨xs, hq, hx⟩ := hg
    obtain ⟨its, rv, p, hz⟩ := I.tuple hq
    have p' : s.heap.IsTuple a its.toArray := p
    obtain ⟨f0, f1, f2, f3, f4, f5⟩ := hf it (by simp)
    have hl := rv.length
    have n' : i = its.toArray.size := by rw [List.size_toArray, ← hl]; exact hx.symm
    have D := Draws.tuple (prog := X.prog) (w := X.w) (A := X.A.in1) (I.ok.hd hc) it a hai its.toArray
    exact wpAny_pyNext_enum_endD D he ⟨by rw [← n']; exact hit, p'⟩ fun h' eb => ⟨rfl, I.turned (t' := s.toks) (fun b o hb q => eb b o hb q) f0 f1 f3 f4 f5⟩
  self := fun A i s Q E st h => let ⟨⟨_, he⟩, _⟩ := st; wpAny_pyIter_enum he h
set_option maxHeartbeats 1000000 in
theorem meets_enumerate_newT {v : Value} {o : Obj} {H : Heap → Prop} (B : Begins v o H) :
    Meets (Builtin.«enumerate.__new__» ⟨[.type "enumerate", v], []⟩) (fun _ R s => H s.heap ∧
      R (.ok (.ret (.ref (s.heap.push o).objs.size))) { s with heap := (s.heap.push o).push { cls := .type "enumerate", data := .fields #[.none, .bool false, .ref s.heap.objs.size, rawInt 0, .none, .none] } }) :=
  .of_wp fun prog w A R s h => by
    obtain ⟨hp, g, d, tk, os⟩ := s; obtain ⟨h1, h⟩ := h
    have hsub := sub_enumerate
    have q1 : ∀ {A' : Around} {E : Value → Shared → Prop} {Q : Value → Shared → Prop}, Q (.ref hp.objs.size) ⟨hp.push o, g, d, tk, os⟩ → wpAny (model prog w) A' (pyIter v) Q E ⟨hp, g, d, tk, os⟩ :=
      fun q => B.iter prog w _ _ ⟨hp, g, d, tk, os⟩ _ h1 q
    wp_walk using q1
    refine wpAny_stack_any fun st => wpAny_pure ?_
    split
    · rename_i c _ _ _ _ _
      cases (c == Value.type "enumerate")
      · wp_walk using q1
        exact ⟨_, rfl, h⟩
      · wp_walk using q1
        exact ⟨_, rfl, h⟩
    · wp_walk using q1
      exact ⟨_, rfl, h⟩
theorem call_enumerate_tuple {prog : Program} {w : World} {A : Around} {E : Value → Shared → Prop} {s : Shared} {l : Addr} {items : Array Value} {Q : Value → Shared → Prop} (hL : s.heap.IsTuple l items)
    (h : ∀ h', IsEnum h' (s.heap.objs.size + 1) s.heap.objs.size 0 .none → h'.IsTupleIter s.heap.objs.size l 0 → (∀ b o, s.heap.get? b = some o → h'.get? b = some o) → Q (.ref (s.heap.objs.size + 1)) { s with heap := h' }) :
    wpAny (model prog w) A (call (.type "enumerate") [.ref l]) Q E s := by
  refine callType_new F.called_enumerate (by decide) (F.typeCall_enumerate_1 _) (F.newCall_enumerate_1 _) (fun obj => F.args_object_init_2 obj _) F.entry_enumerate_new
    (meets_enumerate_newT (begins_tuple l items)) ⟨hL, ?_⟩
  have hz : (s.heap.push { cls := .type "tuple_iterator", data := .fields #[.ref l, .int 0 0] }).objs.size = s.heap.objs.size + 1 := Heap.size_push ..
  show _ ∧ _
  rw [hz]
  have he : IsEnum ((s.heap.push { cls := .type "tuple_iterator", data := .fields #[.ref l, .int 0 0] }).push
      { cls := .type "enumerate", data := .fields #[.none, .bool false, .ref s.heap.objs.size, rawInt 0, .none, .none] }) (s.heap.objs.size + 1) s.heap.objs.size 0 .none := by
    have := Heap.get?_push_size (s.heap.push { cls := .type "tuple_iterator", data := .fields #[.ref l, .int 0 0] })
      (o := { cls := .type "enumerate", data := .fields #[.none, .bool false, .ref s.heap.objs.size, rawInt 0, .none, .none] }) rfl
    rw [hz] at this; exact this
  exact ⟨⟨_, he, rfl⟩, h _ he ⟨_, Heap.get?_push_of_some _ (Heap.get?_push_size _ rfl), rfl, rfl⟩ fun b o x => Heap.get?_push_of_some _ (Heap.get?_push_of_some _ x)⟩
def iEnumT (K : PySem.W.Frag) (ta : TA) : TI := fun σ H R => ta σ H fun vs H1 => ∃ a xs, vs = [.ref a] ∧ SqT K H1 a xs ∧ R (Iett K a) H1
theorem pi_enumT {X : Cx} {e : Expr} {ta : TA} {p pos tpos : Pos} {elts : List Expr} {kk : Nat} (hg : Gl X "enumerate") (hm : X.mg "enumerate" = none) (ha : PA X [e] ta) (hs : starEach [e] X.env = [(false, eval e X.env)] := by rfl) :
    PI X (.Tuple elts kk tpos) (.Call (.Name "enumerate" p) [e] [] pos) (iEnumT X.K ta) := by
  refine ⟨fun pins s σ H R I h => ?_⟩
  refine Call_ (ld_blt I hg hm boot_enumerate (PyProof.Rows.callWith_type1 (thn (ha.run pos pins s σ H _ I h) fun us s1 ⟨vs, H1, I1, r1, q1⟩ => ?_) hs rfl))
  obtain ⟨a, xs, ex, hq, q⟩ := q1
  subst ex
  cases r1 with
  | cons r rr =>
    cases rr
    cases r
    obtain ⟨its, rv, p', hz⟩ := I1.tuple hq
    have p2 : s1.heap.IsTuple a its.toArray := p'
    refine call_enumerate_tuple p2 fun h' he hit hk => wpAny_pyIter_enum he ?_
    have I2 : Inv X pins σ H1 { s1 with heap := h' } := I1.kept (t' := s1.toks) hk
    have hai : a ≠ s1.heap.objs.size := by
      obtain ⟨o, q1, _⟩ := p2
      exact Nat.ne_of_lt (Heap.lt_size q1)
    refine ⟨s1.heap.objs.size + 1, [s1.heap.objs.size + 1, s1.heap.objs.size], _, _, H1, rfl, I2, turn_enumT a (s1.heap.objs.size + 1) s1.heap.objs.size, ⟨⟨.none, he⟩, hit, Nat.succ_ne_self _, hai⟩, fun b hb => ?_, q⟩
    have e' : b = s1.heap.objs.size + 1 ∨ b = s1.heap.objs.size := by simpa using hb
    have hle : s1.heap.objs.size ≤ b := by
      rcases e' with z | z
      · rw [z]; exact Nat.le_add_right _ _
      · rw [z]; exact Nat.le_refl _
    exact I1.fpOk hle (I1.hok.fresh hle)

/-! ### t.index(an int) -/
theorem flat_ints (ys : List Int) : (ys.map V.int).all flatV = true := by
  rw [List.all_map]
  exact List.all_eq_true.mpr fun _ _ => rfl
def rTixI (K : PySem.W.Frag) (p : Addr) (y : V) (H : Hp) (Q : VK) : Prop := ∃ (ys : List Int) (z : Int) (j : Nat), y = .int z ∧ SqT K H p (ys.map V.int) ∧ ys[j]? = some z ∧ (∀ m, m < j → ys[m]? ≠ some z) ∧ Q (.int (j : Nat)) H
theorem mt_tixI {X : Cx} {pins : List (Addr × Obj)} {s : Shared} {σ : L2.St} {H : Hp} {p : Addr} {y : V} {u : Value} {Q : VK} (I : Inv X pins σ H s) (rs : RelV y u) (h : rTixI X.K p y H Q) :
    wpAny (model X.prog X.w) X.A (call (.builtin "tuple.index") [.ref p, u]) (fun v s' => ∃ x H', Inv X pins σ H' s' ∧ RelV x v ∧ Q x H') X.xe s := by
  obtain ⟨ys, z, j, rfl, hq, hy, hno, q⟩ := h
  obtain ⟨t, rfl⟩ := (show ∃ t, u = Value.int z t from rs)
  obtain ⟨its, r, pl, hz⟩ := I.tuple hq
  obtain ⟨⟨cls, dd, dt, sl⟩, ho, hc, n, hd⟩ := pl
  simp only at hc hd
  subst hc
  subst hd
  have hl : its.toArray.size = ys.length := by rw [List.size_toArray, ← r.length, List.length_map]
  have hj : j < its.toArray.size := by rw [hl]; exact (List.getElem?_eq_some_iff.mp hy).1
  have at' : ∀ (m : Nat) (hm : m < its.toArray.size), ∃ y t', ys[m]? = some y ∧ its.toArray[m] = Value.int y t' := fun m hm => by
    have hm' : m < ys.length := by rw [← hl]; exact hm
    obtain ⟨w, hw, t', hw'⟩ := r.get (i := m) (x := .int ys[m]) (by simp [hm'])
    refine ⟨ys[m], t', List.getElem?_eq_getElem hm', ?_⟩
    have e := (List.getElem?_eq_some_iff.mp hw).2
    rw [← hw', ← e]
    simp
  refine call_meets PySem.F.slot_tuple_index ⟨_, ho, rfl⟩ PySem.F.entry_tuple_index (PySem.F.args_tuple_index_2 _ _) (TI.tuple_indexAt p its.toArray n dd sl (.int z t) (eqU (.int z)) j hj ?_ ?_)
    ⟨ho, fun w hw => mem_eqAt (x := .int z) ⟨t, rfl⟩ rfl r (flat_ints ys) w (by simpa using hw), ⟨.int (j : Nat), H, I.tok _, ⟨_, rfl⟩, q⟩⟩
  · obtain ⟨y, t', h1, h2⟩ := at' j hj
    rw [hy] at h1
    cases h1
    rw [h2]
    show eqV (.int z) (.int z) = true
    simp [eqV]
  · intro m hm hmj
    obtain ⟨y, t', h1, h2⟩ := at' m hm
    rw [h2]
    show eqV (.int y) (.int z) = false
    have : y ≠ z := fun e => hno m hmj (by rw [h1, e])
    simp [eqV, this]
/-- t.index(e), t a tuple whose object is known -/
def tTix (K : PySem.W.Frag) (to te : TE) : TE := fun σ H Q => to σ H fun x H1 => ∃ p, x = .ref p ∧ (∃ o xs, o.dict = none ∧ H1 p = some (.frz o (.tup xs))) ∧ te σ H1 fun y H2 => rTixI K p y H2 Q
theorem pe_tix {X : Cx} {o e : Expr} {to te : TE} {apos cpos : Pos} (ho : PE X o to) (he : PE X e te)
    (hbase : attributeBase o "index" X.env (eval o X.env) = eval o X.env := by rfl)
    (hfew : ((backTo cpos (starEach [e] X.env)).all (fun x => !x.1) && (backToKw cpos (keywordEach [] X.env)).all (fun x => x.1.isSome)
      && decide (([e] : List Expr).length + ([] : List Keyword).length + (if ([] : List Keyword).isEmpty then 0 else 1) < 30)) = true := by rfl)
    (hline : (apos.endLine == cpos.line) = true := by rfl) (htr : backTo cpos (starEach [e] X.env) = [(false, eval e X.env)] := by rfl) :
    PE X (.Call (.Attribute o "index" apos) [e] [] cpos) (tTix X.K to te) := by
  refine ⟨fun pins s σ H Q I h => ?_⟩
  refine wpAny_Call_method_late hbase hfew hline rfl (thn (ho.run pins s σ H _ I h) fun v s1 ⟨x, H1, I1, r1, p, ex, ⟨o', xs, hn, hp⟩, q1⟩ => ?_)
  subst ex
  obtain rfl : v = Value.ref p := r1
  obtain ⟨hg, hx⟩ := (show _ ∧ _ from I1.hok p _ hp)
  obtain ⟨_, its, rv, ob, hob, hcl, n, hdt⟩ := (show xs.length ≤ sizeLine ∧ ∃ its : List Value, Vals xs its ∧ IsTup s1.heap p its.toArray from hx)
  rw [hg] at hob
  obtain rfl := Option.some.inj hob
  refine ⟨"tuple", "tuple.index", PySem.F.plainAttrs_tuple, PySem.F.slot_tuple_index, PySem.F.type_tuple_index, ⟨_, hg, hcl⟩, fun a ea => by cases ea; exact ⟨_, hg, hn⟩, ?_⟩
  rw [htr]
  refine Calls.callWith_builtin rfl (Calls.evalArgs_plain (Calls.spliced_cons (thn (he.run pins s1 σ H1 _ I1 q1) fun iv s2 ⟨y, H2, I2, ry, q2⟩ => Calls.spliced_nil ?_)))
  exact mt_tixI I2 ry q2
/-- a tuple display whose object is kept in mind -/
def tTupB (t : TA) : TE := fun σ H Q => t σ H fun xs H1 => xs.length ≤ sizeLine ∧ ∀ p o, o.dict = none → H1 p = none → Q (.ref p) (upd H1 p (.frz o (.tup xs)))
theorem pe_tupB {X : Cx} {es : List Expr} {t : TA} {x1 : Nat} {pos : Pos} (h : PA X es t) : PE X (.Tuple es x1 pos) (tTupB t) := by
  refine ⟨fun pins s σ H Q I hq => ?_⟩
  refine wpAny_Tuple_spliced (thn (h.run pos pins s σ H _ I hq) fun us s1 ⟨xs, H1, I1, r, z, q⟩ => ⟨by rw [← r.length]; exact z, ?_⟩)
  have hf : H1 s1.heap.objs.size = none := I1.hok.fresh (Nat.le_refl _)
  have hg := Heap.get?_push_size s1.heap (o := { cls := .type "tuple", data := .seq us.toArray }) rfl
  refine ⟨.ref s1.heap.objs.size, upd H1 s1.heap.objs.size (.frz { cls := .type "tuple", data := .seq us.toArray } (.tup xs)), I1.laid (t' := s1.toks) (fun b u e => Heap.get?_push_of_some _ e) (Nat.le_refl _) ?_, rfl, q _ _ rfl hf⟩
  exact ⟨hg, z, us, r, ⟨_, hg, rfl, _, rfl⟩⟩

/-! ### a display with tuple keys -/
/-- {k: v, ..} with keys tuples of ints and texts; the new dict stands empty while the pairs are made -/
def tDispT (trs : List (TE × TE)) : TE := fun σ H Q => ∀ p, H p = none → tPairs trs σ (upd H p (.dT [])) fun ps H2 => H2 p = some (.dT []) ∧ ∃ kbs : List (List Key × Addr × V),
  ps = kbs.map (fun t => (.ref t.2.1, t.2.2)) ∧ (∀ t ∈ kbs, H2 t.2.1 = some (.tup (t.1.map kV))) ∧ kbs.length ≤ 15 ∧ Q (.ref p) (upd H2 p (.dT (kbs.foldl (fun acc t => putK acc t.1 t.2.2) [])))
theorem carriesT {P : Program} {w : World} {H : Hp} {h : Heap} (ok : HOk P w H h) : ∀ {kbs : List (List Key × Addr × V)} {ws : List (Value × Value)}, VV (kbs.map fun t => (.ref t.2.1, t.2.2)) ws → (∀ t ∈ kbs, H t.2.1 = some (.tup (t.1.map kV))) →
    ∃ rs : List (List Key × Addr × Value), CarriesH (tupleKind (mixKind P w)) h ws rs ∧ Paired (fun (t : List Key × Addr × V) (q : List Key × Addr × Value) => t.1 = q.1 ∧ t.2.1 = q.2.1 ∧ RelV t.2.2 q.2.2) kbs rs
  | [], _, r, _ => by rw [List.map_nil] at r; cases r; exact ⟨[], True.intro, .nil⟩
  | t :: kbs, _, r, hk => by
    rw [List.map_cons] at r
    cases r with
    | @cons a b as bs h1 t1 =>
      obtain ⟨rs, c, q⟩ := carriesT ok t1 fun t ht => hk t (List.mem_cons_of_mem _ ht)
      obtain ⟨b1, b2⟩ := b
      have e1 : b1 = Value.ref t.2.1 := h1.1
      exact ⟨(t.1, t.2.1, b2) :: rs, ⟨e1, rfl, key_of ok (hk t List.mem_cons_self), c⟩, .cons ⟨rfl, rfl, h1.2⟩ q⟩
theorem KT.fold {H : Hp} : ∀ {kbs : List (List Key × Addr × V)} {rs : List (List Key × Addr × Value)} {kvs : List (List Key × V)} {xs : List (List Key × Addr × Value)},
    Paired (fun (t : List Key × Addr × V) (q : List Key × Addr × Value) => t.1 = q.1 ∧ t.2.1 = q.2.1 ∧ RelV t.2.2 q.2.2) kbs rs → (∀ t ∈ kbs, H t.2.1 = some (.tup (t.1.map kV))) → KT H kvs xs → KT H (kbs.foldl (fun acc t => putK acc t.1 t.2.2) kvs) (storedAllH xs rs)
  | _, _, _, _, .nil, _, r => r
  | t :: kbs, (q1, q2, q3) :: rs, kvs, xs, .cons h tl, hk, r => by
    obtain ⟨e1, e2, e3⟩ := h
    simp only at e1 e2 e3
    have := KT.fold tl (fun t ht => hk t (List.mem_cons_of_mem _ ht)) (r.put t.1 (b := q2) (by rw [← e2]; exact hk t List.mem_cons_self) e3)
    rw [e1] at this
    rw [List.foldl_cons, e1]
    exact this
theorem fold_len : ∀ (kbs : List (List Key × Addr × V)) (kvs : List (List Key × V)), (kbs.foldl (fun acc t => putK acc t.1 t.2.2) kvs).length ≤ kvs.length + kbs.length
  | [], kvs => by simp
  | t :: kbs, kvs => by
    have h1 := fold_len kbs (putK kvs t.1 t.2.2)
    have h2 := length_putK kvs t.1 t.2.2
    rw [List.foldl_cons, List.length_cons]; omega
theorem pe_dispT {X : Cx} {pos : Pos} {keys : List (Option Expr)} {values : List Expr} {trs : List (TE × TE)} (hu : X.A.units + 1 < cLine) (h : PPs X pos keys values trs) (hall : keys.all (·.isSome) = true) (hl : keys.length = values.length) (h0 : keys ≠ [])
    (h15 : keys.length ≤ 15) : PE X (.Dict keys values pos) (tDispT trs) := by
  refine ⟨fun pins s σ H Q I q => ?_⟩
  have hn := I.hok.fresh (Nat.le_refl s.heap.objs.size)
  have I1 := I.laid (a := s.heap.objs.size) (o := .dT []) (h' := s.heap.push { cls := .type "dict", data := .dict #[] }) (t' := s.toks) (fun _ _ q => Heap.get?_push_of_some _ q) (Nat.le_refl _) (dt_empty s.heap I.big)
  have hpl := pairTrees_length keys values X.env pos hall hl
  have hne : pairTrees keys values X.env pos ≠ [] := fun he => by
    rw [he] at hpl
    exact h0 (List.length_eq_zero_iff.mp hpl.symm)
  have hrun := thn (h.run pins _ σ _ _ I1 (q _ hn)) fun ws s2 (z : ∃ ps H', Inv X pins σ H' s2 ∧ VV ps ws ∧ _) => (show ∃ rs, CarriesH (tupleKind (mixKind X.prog X.w)) s2.heap ws rs ∧ s2.heap.DictOfH (tupleKind (mixKind X.prog X.w)) s.heap.objs.size [] ∧
      ∀ h' tk, h'.DictOfH (tupleKind (mixKind X.prog X.w)) s.heap.objs.size (storedAllH [] rs) → Heap.SameBut s.heap.objs.size s2.heap h' → ∃ x H', Inv X pins σ H' { s2 with heap := h', toks := tk } ∧ RelV x (.ref s.heap.objs.size) ∧ Q x H' from by
    obtain ⟨ps, H2, I2, rel, e, kbs, ep, hk, lk, q2⟩ := z
    subst ep
    obtain ⟨rs, c, rk⟩ := carriesT I2.hok rel hk
    obtain ⟨z, hd, xs0, r0, dd⟩ := dt_of I2.hok e
    cases r0
    refine ⟨rs, c, dd, fun h' tk dd' hs => ⟨.ref s.heap.objs.size, _, ?_, rfl, q2⟩⟩
    have hz : (kbs.foldl (fun acc t => putK acc t.1 t.2.2) []).length ≤ sizeLine := by
      have h1 := fold_len kbs []
      rw [List.length_nil] at h1
      rw [sizeLine_eq]; omega
    obtain ⟨q, es, ep, hq, h2, h3, h4, _, h5⟩ := dd'
    refine d_write I2 (by rw [e]; exact True.intro) hs ⟨q, hq⟩ ⟨hz, hd, _, (KT.fold rk hk .nil).keeps fun c ys ec => ?_, q, es, ep, hq, h2, h3, h4, h5⟩
    rw [upd_ne (ne_of ec e (fun z => nomatch z))]
    exact ec)
  rw [arm_eval_Dict, zip_pairTrees keys values X.env pos hall hl, dictDisplay_pairs (pairTrees keys values X.env pos) hne (by omega)]
  refine wpAny_bind (wpAny_standAt (wpAny_bind (wpAny_subDictH (knd := tupleKind (mixKind X.prog X.w)) (Q := fun d s' => wpAny (model X.prog X.w) X.A (pure (Value.ref d)) _ _ s') (show X.A.units < cLine by omega) (by omega) ?_)))
  exact thn hrun fun ws s2 ⟨rs, c, dd, fin⟩ => ⟨rs, c, dd, fun h' tk a b => wpAny_pure (fin h' tk a b)⟩
end Rt

set_option Elab.async false
set_option linter.all false
set_option maxRecDepth 100000
set_option maxHeartbeats 2000000
namespace Rt
open PySem L2
section
variable {K : PySem.W.Frag} {m : Mode} {H0 H H' H1 H2 : Hp} {Γ Γ' Γ1 Γ2 : Gm} {σ σ' σ1 σ2 : L2.St} {v w : V} {r x y : R} {P : R → Prop} {ta tb te td ty tx tv : TE} {tt : TT} {t u : TS} {O : Po} {D : Ends} {wi : TI} {g : TG} {js : List Nat}

/-! ### enumerate -/
def enumD (n : Nat) : List PyData → List PyData
  | [] => []
  | d :: ds => .tuple [.int (n : Nat), d] :: enumD (n + 1) ds
theorem enumD_len : ∀ (ds : List PyData) (n : Nat), (enumD n ds).length = ds.length
  | [], _ => rfl
  | d :: ds, n => by simp [enumD, enumD_len ds]
theorem enumD_get : ∀ (ds : List PyData) (n i : Nat) (d : PyData), ds[i]? = some d → (enumD n ds)[i]? = some (.tuple [.int ((n + i : Nat) : Int), d])
  | [], _, _, _, h => by simp at h
  | d :: ds, n, 0, e, h => by simp at h; subst h; simp [enumD]
  | d :: ds, n, i + 1, e, h => by
    have := enumD_get ds (n + 1) i e (by simpa using h)
    simp only [enumD, List.getElem?_cons_succ, this]
    rw [show n + 1 + i = n + (i + 1) by omega]
def YEn (xs : List V) : Nat → Hp → V → Hp → Prop := fun i H v H' => ∃ T x, v = .ref T ∧ H T = none ∧ H' = upd H T (.tup [.int (i : Nat), x]) ∧ xs[i]? = some x
theorem walk_enumT {a : Addr} {xs : List V} : Walk (Iett K a) xs.length (fun H => SqT K H a xs) (YEn xs) := by
  refine ⟨fun i _ hi q => ⟨xs, xs[i], q, by simp [hi]⟩, fun _ q => ⟨xs, q, rfl⟩, fun i H v H' _ q y => ?_⟩
  obtain ⟨T, x, h1, h2, h3, h4⟩ := y
  exact ⟨T, x, h1, h2, h3, h4 xs q⟩
theorem iw_En {P' : List PyData → Prop} (h : E K m H0 te Γ fun r => ∃ ds, r = .im (.tuple ds) ∧ P' (enumD 0 ds)) : IW (K := K) (m := m) (H0 := H0) (iEnumT K (tCons te tNil)) Γ P' := fun σ H S Q k =>
  h σ H S _ fun v r H' st S' ro fs ⟨ds, e, p⟩ => by
    subst e
    obtain ⟨a, xs, rfl, l, q⟩ := Im.tup_inv' ro
    refine ⟨a, xs, rfl, .of l, k (Iett K a) H' _ (fun H => H a = some (.tup xs) ∧ ImAll K H xs ds) (YEn xs) st S' p ?_ ⟨l, q⟩ (fun Γ1 σ1 H1 A => ⟨A.2 _ ⟨.tup xs, trivial⟩ l, ImAll.mono A.2 _ _ q⟩) fun i H1 x H2 hi g y => ?_⟩
    · rw [enumD_len, ← q.length]
      exact walk_enumT.mono (fun H g => .of g.1) fun i H x H' _ _ y => y
    · obtain ⟨T, x', e1, n, e2, e3⟩ := y
      subst e1 e2
      obtain ⟨d, e4, e5⟩ := g.2.getV e3
      have eg := enumD_get ds 0 i d e4
      rw [Nat.zero_add] at eg
      refine ⟨_, eg, .tup upd_same (.cons (.int _) (.cons ?_ .nil)), .inr ⟨T, _, n, rfl⟩⟩
      exact Im.mono (fun b ys h => by rw [upd_ne (ne_of_none h n)]; exact h) _ _ e5

/-! ### own lists and dicts walked -/
theorem Sta.slot (S : Sta K m H0 Γ σ H) {i : Nat} {s s' : Sl} (hi : Γ[i]? = some s) (hs : isOwn s = true) (hk : ∀ o, σ[i]? = some o → SlOk K m H0 H o s') (hs' : isOwn s' = true) : Sta K m H0 (Γ.set i s') σ H := by
  refine ⟨by rw [List.length_set]; exact S.len, S.mo, S.sp, S.ok, fun j t e => ?_, fun j k s1 t1 b e1 o1 e2 o2 q1 q2 => ?_⟩
  · rw [List.getElem?_set] at e
    by_cases hij : i = j
    · rw [if_pos hij] at e
      split at e
      · cases e
        obtain ⟨o, e1, _⟩ := S.sl i s hi
        exact ⟨o, by rw [← hij]; exact e1, hk o e1⟩
      · cases e
    · rw [if_neg hij] at e
      exact S.sl j t e
  · have own : ∀ j t, (Γ.set i s')[j]? = some t → isOwn t = true → ∃ t', Γ[j]? = some t' ∧ isOwn t' = true := fun j t e w => by
      rw [List.getElem?_set] at e
      by_cases hij : i = j
      · exact ⟨s, hij ▸ hi, hs⟩
      · rw [if_neg hij] at e; exact ⟨t, e, w⟩
    obtain ⟨s2, f1, g1⟩ := own j s1 e1 o1
    obtain ⟨t2, f2, g2⟩ := own k t1 e2 o2
    exact S.ne j k s2 t2 b f1 g1 f2 g2 q1 q2
theorem Adv.slot {i : Nat} {s s' : Sl} (hi : Γ[i]? = some s) (hs : isOwn s = true) : Adv m Γ σ H (Γ.set i s') σ H :=
  ⟨fun b u w h ap => ⟨h, fun j t e ot q => by
    rw [List.getElem?_set] at e
    by_cases hij : i = j
    · exact ap i s hi hs (hij ▸ q)
    · rw [if_neg hij] at e; exact ap j t e ot q⟩, fun b xs h => h⟩
theorem iwe_Ls {P' : List PyData → Prop} {i : Nat} {ds : List PyData} (e : Γ[i]? = some (.ls ds)) (p : P' ds) : IWe (K := K) (m := m) (H0 := H0) (iList K (tVar i)) Γ P' := fun σ H S Q k => by
  obtain ⟨a, xs, e1, n, w, l, q⟩ := own_lst S e
  refine ⟨_, e1, a, rfl, ⟨xs, .of l⟩, k (Itl K a) H ds (fun H' => SqL K H' a xs ∧ ImAll K H' xs ds) (YAt xs) .refl S p ?_ ⟨.of l, q⟩ (fun H1 s => ⟨.of (s.ob a _ w l), s.ims q⟩) fun i H1 x H2 hi g y => ?_⟩
  · rw [← q.length]; exact walk_list.mono (fun H g => g.1) fun i H x H' _ _ y => y
  · obtain ⟨e, y⟩ := y
    subst e
    obtain ⟨d, e1, e2⟩ := g.2.getV y
    exact ⟨d, e1, e2, .inl rfl⟩
/-- for x in an own list, its name not bound anew by the body -/
theorem ss_forLs {i : Nat} {ds : List PyData} (e : Γ[i]? = some (.ls ds)) (h : ∀ (a : Addr) (xs : List V), ∃ I : Nat → Gm → Prop, I 0 (Γ.set i (.ll a xs ds)) ∧ (∀ j Γ', I j Γ' → Γ'[i]? = some (.ll a xs ds)) ∧
      (∀ j d Γ', ds[j]? = some d → I j Γ' → GT (K := K) (m := m) (H0 := H0) g js d Γ' fun Γ'' => SS K m H0 t Γ'' { nx := I (j + 1), ct := I (j + 1), bk := fun Γ3 => Γ3[i]? = some (.ll a xs ds) ∧ O.nx (Γ3.set i (.ls ds)), rt := O.rt }) ∧
      ∀ Γ', I ds.length Γ' → O.nx (Γ'.set i (.ls ds))) : SS K m H0 (tFor (iList K (tVar i)) g t) Γ O := fun σ H D S f => by
  obtain ⟨a, xs, e1, n, w, l, q⟩ := own_lst S e
  obtain ⟨I, i0, hk, hs, hd⟩ := h a xs
  have back : ∀ Γ' σ' H', Sta K m H0 Γ' σ' H' → Γ'[i]? = some (.ll a xs ds) → Sta K m H0 (Γ'.set i (.ls ds)) σ' H' ∧ Adv m Γ' σ' H' (Γ'.set i (.ls ds)) σ' H' := fun Γ' σ' H' S' e' => by
    obtain ⟨o, e2, e3, n', w', l', q'⟩ := S'.sl i _ e'
    exact ⟨S'.slot e' rfl (fun o' eo => by rw [e2] at eo; cases eo; exact ⟨a, xs, e3, n', w', l', q'⟩) rfl, Adv.slot e' rfl⟩
  have S1 : Sta K m H0 (Γ.set i (.ll a xs ds)) σ H := S.slot e rfl (fun o eo => by rw [e1] at eo; cases eo; exact ⟨rfl, n, w, l, q⟩) rfl
  have A1 : Adv m Γ σ H (Γ.set i (.ll a xs ds)) σ H := Adv.slot e rfl
  have wk : Walk (Itl K a) ds.length (fun H' => SqL K H' a xs ∧ ImAll K H' xs ds) (YAt xs) := by
    rw [← q.length]; exact walk_list.mono (fun H g => g.1) fun i H x H' _ _ y => y
  have G : ∀ j Γ' σ' H', I j Γ' → Sta K m H0 Γ' σ' H' → SqL K H' a xs ∧ ImAll K H' xs ds := fun j Γ' σ' H' hI S' => by
    obtain ⟨o, e2, e3, n', w', l', q'⟩ := S'.sl i _ (hk j Γ' hI)
    exact ⟨.of l', q'⟩
  refine ⟨_, e1, a, rfl, ⟨xs, .of l⟩, for_it wk (fun j σ' H' => ∃ Γ', I j Γ' ∧ Sta K m H0 Γ' σ' H' ∧ Adv m Γ σ H Γ' σ' H') ⟨_, i0, S1, A1⟩ (fun j σ' H' _ ⟨Γ', hI, S', _⟩ => G j Γ' σ' H' hI S') (fun j x σ' H' H'' hj ⟨Γ', hI, S', A⟩ y => ?_) fun σ' H' ⟨Γ', hI, S', A⟩ => ?_⟩
  · obtain ⟨ey, y⟩ := y
    subst ey
    obtain ⟨d, e4, e5⟩ := (G j Γ' σ' H'' hI S').2.getV y
    refine hs j d Γ' e4 hI σ' H'' x S' e5 _ fun Γ2 σ2 A2 S2 _ p => ?_
    have AA := A.trans A2
    exact p σ2 H'' _ S2 ⟨fun Γ3 σ3 H3 A3 S3 q => ⟨Γ3, q, S3, AA.trans A3⟩, f.rt, fun Γ3 σ3 H3 A3 S3 q => f.nx _ σ3 H3 ((AA.trans A3).trans (back Γ3 σ3 H3 S3 q.1).2) (back Γ3 σ3 H3 S3 q.1).1 q.2, fun Γ3 σ3 H3 A3 S3 q => ⟨Γ3, q, S3, AA.trans A3⟩⟩
  · have b := back Γ' σ' H' S' (hk _ _ hI)
    exact f.nx _ σ' H' (A.trans b.2) b.1 (hd Γ' hI)

/-! ### dicts with tuple keys -/
def getT (kvs : List (List Int × PyData)) (k : List Int) : Option PyData := (kvs.find? fun p => decide (p.1 = k)).map (·.2)
def putT (kvs : List (List Int × PyData)) (k : List Int) (d : PyData) : List (List Int × PyData) :=
  if (kvs.any fun p => decide (p.1 = k)) = true then kvs.map (fun p => if p.1 = k then (p.1, d) else p) else kvs ++ [(k, d)]
abbrev kI (k : List Int) : List Key := k.map Sum.inl
theorem kI_inj {a b : List Int} : kI a = kI b ↔ a = b := ⟨fun h => by
  induction a generalizing b with
  | nil => cases b with
    | nil => rfl
    | cons _ _ => cases h
  | cons x a ih => cases b with
    | nil => cases h
    | cons y b =>
      simp only [kI, List.map_cons, List.cons.injEq, Sum.inl.injEq] at h
      rw [h.1, ih h.2], fun h => by rw [h]⟩
theorem KvAll.get {ks : List (List Key × V)} {kvs : List (List Int × PyData)} (h : KvAll K H ks kvs) (k : List Int) :
    (getT kvs k = none ∧ valV ks (kI k) = none) ∨ ∃ v d, getT kvs k = some d ∧ valV ks (kI k) = some v ∧ Im K H v d := by
  induction h with
  | nil => exact .inl ⟨rfl, rfl⟩
  | @cons v k' d r s a _ ih =>
    by_cases e : k' = k
    · subst e
      exact .inr ⟨v, d, by simp [getT], valV_pos (p := (kI k', v)) rfl, a⟩
    · have e1 : getT ((k', d) :: s) k = getT s k := by simp [getT, e]
      have e2 : valV ((kI k', v) :: r) (kI k) = valV r (kI k) := valV_neg (fun z => e (kI_inj.mp z))
      rw [e1, e2]
      exact ih
theorem KvAll.any {ks : List (List Key × V)} {kvs : List (List Int × PyData)} (h : KvAll K H ks kvs) (k : List Int) : (ks.any fun p => decide (p.1 = kI k)) = kvs.any fun p => decide (p.1 = k) := by
  induction h with
  | nil => rfl
  | @cons v k' d r s a _ ih =>
    rw [List.any_cons, List.any_cons, ih]
    congr 1
    rw [Bool.eq_iff_iff, decide_eq_true_iff, decide_eq_true_iff]
    exact kI_inj
theorem KvAll.put {ks : List (List Key × V)} {kvs : List (List Int × PyData)} (h : KvAll K H ks kvs) (k : List Int) {d : PyData} (hv : Im K H v d) : KvAll K H (putK ks (kI k) v) (putT kvs k d) := by
  unfold putK putT
  rw [h.any k]
  by_cases e : (kvs.any fun p => decide (p.1 = k)) = true
  · rw [if_pos e, if_pos e]
    clear e
    induction h with
    | nil => exact .nil
    | @cons v' k' d' r s a t ih =>
      rw [List.map_cons, List.map_cons]
      by_cases ek : k' = k
      · subst ek
        rw [if_pos rfl, if_pos rfl]; exact .cons hv ih
      · rw [if_neg (show ¬ (kI k' = kI k) from fun z => ek (kI_inj.mp z)), if_neg (show ¬ k' = k from ek)]; exact .cons a ih
  · rw [if_neg e, if_neg e]
    clear e
    induction h with
    | nil => exact .cons hv .nil
    | cons a _ ih => exact .cons a ih
theorem KvAll.length {ks : List (List Key × V)} {kvs : List (List Int × PyData)} (h : KvAll K H ks kvs) : ks.length = kvs.length := by
  induction h with
  | nil => rfl
  | cons _ _ ih => simp [ih]
theorem KvAll.mono (tt : ∀ b (xs : TpO), H b = some xs.1 → H' b = some xs.1) {ks : List (List Key × V)} {kvs : List (List Int × PyData)} (h : KvAll K H ks kvs) : KvAll K H' ks kvs := by
  induction h with
  | nil => exact .nil
  | cons z _ ih => exact .cons (Im.mono tt _ _ z) ih
theorem KvAll.at {ks : List (List Key × V)} {kvs : List (List Int × PyData)} (h : KvAll K H ks kvs) : ∀ {j : Nat} {k : List Key} {v : V}, ks[j]? = some (k, v) → ∃ k' d, kvs[j]? = some (k', d) ∧ k = kI k' ∧ Im K H v d := by
  induction h with
  | nil => intro j k v e; simp at e
  | @cons v' k' d r s a _ ih =>
    intro j k v e
    cases j with
    | zero => simp at e; obtain ⟨rfl, rfl⟩ := e; exact ⟨k', d, rfl, rfl, a⟩
    | succ j =>
      obtain ⟨k2, d2, e1, e2, e3⟩ := ih (j := j) (k := k) (v := v) (by simpa using e)
      exact ⟨k2, d2, by simpa using e1, e2, e3⟩
theorem kV_ints (k : List Int) : (kI k).map kV = k.map V.int := by rw [kI, List.map_map]; rfl
/-- a tuple of ints is a key -/
theorem Im.key {k : List Int} (h : Im K H v (tD k)) : ∃ b, v = .ref b ∧ H b = some (.tup ((kI k).map kV)) := by
  obtain ⟨a, xs, rfl, l, q⟩ := Im.tup_inv' h
  exact ⟨a, rfl, by rw [l, q.ints_inv, kV_ints]⟩
theorem dT_noT {a : Addr} {ks : List (List Key × V)} (h : H a = some (.dT ks)) (ys : List V) : ¬ Rd H a (.tup ys) := fun q => by
  rcases q with q | ⟨o, q⟩ <;> (rw [h] at q; cases q)
theorem frz_noT {a : Addr} {od : Obj} {ks : List (List Key × V)} (h : H a = some (.frz od (.dT ks))) (ys : List V) : ¬ Rd H a (.tup ys) := fun q => by
  rcases q with q | ⟨o, q⟩ <;> (rw [h] at q; cases q)
theorem e_dnewT (p : P (.fd [])) : E K m H0 tDNewT Γ P := fun σ H S Q k a n => k _ (.fd []) _ (.new n) (S.new n) ⟨a, [], rfl, S.none0 n, S.noW n, upd_same, .nil, S.apart n⟩ (fun b e => by cases e; exact n) p
theorem dget_of {a : Addr} {b : Addr} {ks : List (List Key × V)} {k : List Key} (e : Rd H a (.dT ks)) (eb : H b = some (.tup (k.map kV))) : DGet H a (.ref b) (valV ks k) := .inr ⟨ks, k, b, e, rfl, eb, rfl⟩
theorem e_dget (h : E K m H0 td Γ fun x => ∃ kvs, x.dic = some kvs ∧ E K m H0 ty Γ fun y => ∃ k d, y = .im (tD k) ∧ getT kvs k = some d ∧ P (.im d)) : E K m H0 (tDGet td ty) Γ P := fun σ H S Q k =>
  h σ H S _ fun v x H1 st S1 rx _ ⟨kvs, ek, h2⟩ => h2 σ H1 S1 _ fun w y H2 st2 S2 ry _ ⟨n, d, ey, eg, p⟩ => by
    subst ey
    obtain ⟨a, ks, rfl, l, q, _⟩ := (rx.step st2).readK ek
    obtain ⟨b, rfl, eb⟩ := Im.key ry
    rcases q.get n with ⟨e1, _⟩ | ⟨v, d', e1, e2, e3⟩
    · rw [eg] at e1; cases e1
    · rw [eg] at e1
      cases e1
      exact ⟨a, v, rfl, by rw [← e2]; exact dget_of l eb, (k.back S2 (st.trans st2)).im S2 e3 p⟩
theorem e_dget2 (h : E K m H0 td Γ fun x => ∃ kvs, x.dic = some kvs ∧ E K m H0 ty Γ fun y => ∃ k, y = .im (tD k) ∧ E K m H0 tx Γ fun z => ∃ d, z = .im d ∧ P (.im ((getT kvs k).getD d))) : E K m H0 (tDGet2 td ty tx) Γ P := fun σ H S Q k =>
  h σ H S _ fun v x H1 st S1 rx _ ⟨kvs, ek, h2⟩ => by
    obtain ⟨a, ks0, rfl, l0, q0, _⟩ := rx.readK ek
    refine ⟨a, rfl, .inr ⟨ks0, l0⟩, h2 σ H1 S1 _ fun w y H2 st2 S2 ry _ ⟨n, ey, h3⟩ => h3 σ H2 S2 _ fun z rz H3 st3 S3 rz' _ ⟨d, ez, p⟩ => ?_⟩
    subst ey ez
    obtain ⟨a', ks, ea, l, q, _⟩ := ((rx.step st2).step st3).readK ek
    cases ea
    obtain ⟨b, rfl, eb⟩ := Im.key (ry.step st3)
    refine ⟨_, dget_of l eb, ?_⟩
    have k3 := k.back S3 ((st.trans st2).trans st3)
    rcases q.get n with ⟨e1, e2⟩ | ⟨v, d', e1, e2, e3⟩
    · rw [e2]; rw [e1] at p; exact k3.im S3 rz' p
    · rw [e2]; rw [e1] at p; exact k3.im S3 e3 p
theorem e_dnotin (h : E K m H0 ty Γ fun y => ∃ k, y = .im (tD k) ∧ E K m H0 td Γ fun x => ∃ kvs, x.dic = some kvs ∧ P (.im (.bool (!(getT kvs k).isSome)))) : E K m H0 (tDNotIn ty td) Γ P := fun σ H S Q k =>
  h σ H S _ fun w y H1 st S1 ry _ ⟨n, ey, h2⟩ => h2 σ H1 S1 _ fun v x H2 st2 S2 rx _ ⟨kvs, ek, p⟩ => by
    subst ey
    obtain ⟨a, ks, rfl, l, q, _⟩ := rx.readK ek
    obtain ⟨b, rfl, eb⟩ := Im.key (ry.step st2)
    refine ⟨a, _, rfl, dget_of l eb, ?_⟩
    have k3 := k.back S2 (st.trans st2)
    rcases q.get n with ⟨e1, e2⟩ | ⟨v, d', e1, e2, e3⟩
    · rw [e2]; rw [e1] at p; exact k3.im S2 (.bl _) p
    · rw [e2]; rw [e1] at p; exact k3.im S2 (.bl _) p
theorem e_din (h : E K m H0 ty Γ fun y => ∃ k, y = .im (tD k) ∧ E K m H0 td Γ fun x => ∃ kvs, x.dic = some kvs ∧ P (.im (.bool ((getT kvs k).isSome)))) : E K m H0 (tDIn ty td) Γ P := fun σ H S Q k =>
  h σ H S _ fun w y H1 st S1 ry _ ⟨n, ey, h2⟩ => h2 σ H1 S1 _ fun v x H2 st2 S2 rx _ ⟨kvs, ek, p⟩ => by
    subst ey
    obtain ⟨a, ks, rfl, l, q, _⟩ := rx.readK ek
    obtain ⟨b, rfl, eb⟩ := Im.key (ry.step st2)
    refine ⟨a, _, rfl, dget_of l eb, ?_⟩
    have k3 := k.back S2 (st.trans st2)
    rcases q.get n with ⟨e1, e2⟩ | ⟨v, d', e1, e2, e3⟩
    · rw [e2]; rw [e1] at p; exact k3.im S2 (.bl _) p
    · rw [e2]; rw [e1] at p; exact k3.im S2 (.bl _) p
theorem own_dic {i : Nat} {kvs : List (List Int × PyData)} (S : Sta K m H0 Γ σ H) (e : Γ[i]? = some (.dt kvs)) : ∃ a ks, σ[i]? = some (some (.ref a)) ∧ H0 a = none ∧ ¬ m.W a ∧ H a = some (.dT ks) ∧ KvAll K H ks kvs := by
  obtain ⟨o, e1, a, xs, eo, n, w, l, q⟩ := S.sl i _ e
  exact ⟨a, xs, by rw [e1, eo], n, w, l, q⟩
/-- found[k] = d -/
theorem ss_dput {i : Nat} {kvs : List (List Int × PyData)} (e : Γ[i]? = some (.dt kvs)) (z : kvs.length < 1000000) (h : E K m H0 tv Γ fun r => ∃ d, r = .im d ∧ E K m H0 ty Γ fun y => ∃ k, y = .im (tD k) ∧ O.nx (Γ.set i (.dt (putT kvs k d)))) :
    SS K m H0 (sDPut (tVar i) ty tv) Γ O := fun σ H D S f =>
  h σ H S _ fun v r H1 st S1 rv _ ⟨d, er, h2⟩ => by
    subst er
    obtain ⟨a, ks, e1, n, w, l, q⟩ := own_dic S1 e
    refine ⟨_, e1, h2 σ H1 S1 _ fun y ry H2 st2 S2 ro _ ⟨k, ey, p⟩ => ?_⟩
    subst ey
    obtain ⟨b, rfl, eb⟩ := Im.key ro
    have l' := st2.ob a _ w l
    have nt := dT_noT l'
    have q' := (st2.kvs q).put k (rv.step st2)
    have tt : ∀ b (xs : TpO), H2 b = some xs.1 → upd H2 a (.dT (putK ks (kI k) v)) b = some xs.1 := fun b xs h => upd_rd_tup nt b xs h
    exact ⟨a, _, rfl, DPut.t l' eb (szl (by rw [q.length]; exact z)), f.nx _ σ _ (Adv.put (st.trans st2) e rfl e1 nt rfl) (S2.put (s' := .dt (putT kvs k d)) e rfl e1 nt n w ⟨a, _, rfl, n, w, upd_same, q'.mono tt⟩ rfl) p⟩
/-- for k in an own dict, which stands locked -/
theorem ss_forDt {i : Nat} {kvs : List (List Int × PyData)} (e : Γ[i]? = some (.dt kvs)) (h : ∀ (a : Addr) (od : Obj) (ks : List (List Key × V)), ∃ I : Nat → Gm → Prop, I 0 (Γ.set i (.lk a od ks kvs)) ∧ (∀ j Γ', I j Γ' → Γ'[i]? = some (.lk a od ks kvs)) ∧
      (∀ j k d Γ', kvs[j]? = some (k, d) → I j Γ' → GT (K := K) (m := m) (H0 := H0) g js (tD k) Γ' fun Γ'' => SS K m H0 t Γ'' { nx := I (j + 1), ct := I (j + 1), bk := fun Γ3 => Γ3[i]? = some (.lk a od ks kvs) ∧ O.nx (Γ3.set i (.dt kvs)) }) ∧
      ∀ Γ', I kvs.length Γ' → O.nx (Γ'.set i (.dt kvs))) : SS K m H0 (tLock (tFor (iKeys (tVar i)) g t)) Γ O := fun σ H D S f => by
  obtain ⟨a, ks, e1, n, w, l, q⟩ := own_dic S e
  refine ⟨a, .dT ks, l, trivial, fun od => ?_⟩
  obtain ⟨I, i0, hk, hs, hd⟩ := h a od ks
  have back : ∀ Γ' σ' H', Sta K m H0 Γ' σ' H' → Γ'[i]? = some (.lk a od ks kvs) → H' a = some (.frz od (.dT ks)) ∧ Sta K m H0 (Γ'.set i (.dt kvs)) σ' (upd H' a (.dT ks)) ∧ Adv m Γ' σ' H' (Γ'.set i (.dt kvs)) σ' (upd H' a (.dT ks)) := fun Γ' σ' H' S' e' => by
    obtain ⟨o, e2, e3, n', w', l', q'⟩ := S'.sl i _ e'
    rw [e3] at e2
    have nt := frz_noT l'
    have tt : ∀ b (xs : TpO), H' b = some xs.1 → upd H' a (.dT ks) b = some xs.1 := fun b xs h => upd_rd_tup nt b xs h
    exact ⟨l', S'.put (s' := .dt kvs) e' rfl e2 nt n' w' ⟨a, ks, rfl, n', w', upd_same, q'.mono tt⟩ rfl, Adv.put .refl e' rfl e2 nt rfl⟩
  have nt := dT_noT l
  have tt : ∀ b (xs : TpO), H b = some xs.1 → upd H a (.frz od (.dT ks)) b = some xs.1 := fun b xs h => upd_rd_tup nt b xs h
  have S1 : Sta K m H0 (Γ.set i (.lk a od ks kvs)) σ (upd H a (.frz od (.dT ks))) := S.put (s' := .lk a od ks kvs) e rfl e1 nt n w ⟨rfl, n, w, upd_same, q.mono tt⟩ rfl
  have A1 : Adv m Γ σ H (Γ.set i (.lk a od ks kvs)) σ (upd H a (.frz od (.dT ks))) := Adv.put .refl e rfl e1 nt rfl
  have wk : Walk (Itkt a od ks) kvs.length (fun H' => H' a = some (.frz od (.dT ks)) ∧ KvAll K H' ks kvs) (fun i H x H' => H' = H ∧ ∃ (k : List Key) (v : V) (q : Addr), ks[i]? = some (k, v) ∧ x = .ref q ∧ H q = some (.tup (k.map kV))) := by
    rw [← q.length]; exact walk_keysT.mono (fun H g => g.1) fun i H x H' _ _ y => y
  have G : ∀ j Γ' σ' H', I j Γ' → Sta K m H0 Γ' σ' H' → H' a = some (.frz od (.dT ks)) ∧ KvAll K H' ks kvs := fun j Γ' σ' H' hI S' => by
    obtain ⟨o, e2, e3, n', w', l', q'⟩ := S'.sl i _ (hk j Γ' hI)
    exact ⟨l', q'⟩
  refine ⟨_, e1, a, od, rfl, .inr ⟨ks, upd_same, for_it wk (fun j σ' H' => ∃ Γ', I j Γ' ∧ Sta K m H0 Γ' σ' H' ∧ Adv m Γ σ H Γ' σ' H') ⟨_, i0, S1, A1⟩ (fun j σ' H' _ ⟨Γ', hI, S', _⟩ => G j Γ' σ' H' hI S') (fun j x σ' H' H'' hj ⟨Γ', hI, S', A⟩ y => ?_) fun σ' H' ⟨Γ', hI, S', A⟩ => ?_⟩⟩
  · obtain ⟨ey, k, v, qa, y1, y2, y3⟩ := y
    subst ey
    subst y2
    obtain ⟨k', d, e4, e5, e6⟩ := (G j Γ' σ' H'' hI S').2.at y1
    subst e5
    have im : Im K H'' (.ref qa) (tD k') := .tup (by rw [kV_ints] at y3; exact y3) (ImAll.ints k')
    refine hs j k' d Γ' e4 hI σ' H'' _ S' im _ fun Γ2 σ2 A2 S2 _ p => ?_
    have AA := A.trans A2
    exact p σ2 H'' _ S2 ⟨fun Γ3 σ3 H3 A3 S3 q => ⟨Γ3, q, S3, AA.trans A3⟩, fun _ _ _ _ _ _ z => z.elim, fun Γ3 σ3 H3 A3 S3 q => ⟨(back Γ3 σ3 H3 S3 q.1).1, f.nx _ σ3 _ ((AA.trans A3).trans (back Γ3 σ3 H3 S3 q.1).2.2) (back Γ3 σ3 H3 S3 q.1).2.1 q.2⟩, fun Γ3 σ3 H3 A3 S3 q => ⟨Γ3, q, S3, AA.trans A3⟩⟩
  · have b := back Γ' σ' H' S' (hk _ _ hI)
    exact ⟨b.1, f.nx _ σ' _ (A.trans b.2.2) b.2.1 (hd Γ' hI)⟩

/-! ### displays -/
def EP (K : PySem.W.Frag) (m : Mode) (H0 : Hp) (trs : List (TE × TE)) (Γ : Gm) (P : List (List Int × PyData) → Prop) : Prop :=
  ∀ σ H, Sta K m H0 Γ σ H → ∀ Q : List (V × V) → Hp → Prop, (∀ (kbs : List (List Key × Addr × V)) (kds : List (List Int × PyData)) H', Step m.W H H' → Sta K m H0 Γ σ H' →
    Paired (fun t k => t.1 = kI k.1 ∧ H' t.2.1 = some (.tup (t.1.map kV)) ∧ Im K H' t.2.2 k.2) kbs kds → P kds → Q (kbs.map fun t => (.ref t.2.1, t.2.2)) H') → tPairs trs σ H Q
theorem ep_nil {P : List (List Int × PyData) → Prop} (p : P []) : EP K m H0 [] Γ P := fun σ H S Q k => k [] [] H .refl S .nil p
theorem ep_cons {P : List (List Int × PyData) → Prop} {trs : List (TE × TE)} (h : E K m H0 ta Γ fun x => ∃ k, x = .im (tD k) ∧ E K m H0 tb Γ fun y => ∃ d, y = .im d ∧ EP K m H0 trs Γ fun kds => P ((k, d) :: kds)) : EP K m H0 ((ta, tb) :: trs) Γ P := fun σ H S Q q =>
  h σ H S _ fun v x H1 st1 S1 rx _ ⟨k, ex, h2⟩ => h2 σ H1 S1 _ fun w y H2 st2 S2 ry _ ⟨d, ey, h3⟩ => h3 σ H2 S2 _ fun kbs kds H3 st3 S3 pr p => by
    subst ex ey
    obtain ⟨b, rfl, eb⟩ := Im.key ((rx.step st2).step st3)
    exact q ((kI k, b, w) :: kbs) ((k, d) :: kds) H3 ((st1.trans st2).trans st3) S3 (.cons ⟨rfl, eb, ry.step st3⟩ pr) p
theorem kv_fold {H : Hp} : ∀ {kbs : List (List Key × Addr × V)} {kds : List (List Int × PyData)} {ks : List (List Key × V)} {kvs : List (List Int × PyData)},
    Paired (fun t k => t.1 = kI k.1 ∧ H t.2.1 = some (.tup (t.1.map kV)) ∧ Im K H t.2.2 k.2) kbs kds → KvAll K H ks kvs → KvAll K H (kbs.foldl (fun acc t => putK acc t.1 t.2.2) ks) (kds.foldl (fun acc t => putT acc t.1 t.2) kvs)
  | _, _, _, _, .nil, h => h
  | t :: kbs, k :: kds, ks, kvs, .cons a b, h => by
    rw [List.foldl_cons, List.foldl_cons]
    refine kv_fold b ?_
    rw [a.1]
    exact h.put k.1 a.2.2
theorem paired_keys {H : Hp} : ∀ {kbs : List (List Key × Addr × V)} {kds : List (List Int × PyData)}, Paired (fun t k => t.1 = kI k.1 ∧ H t.2.1 = some (.tup (t.1.map kV)) ∧ Im K H t.2.2 k.2) kbs kds → (∀ t ∈ kbs, H t.2.1 = some (.tup (t.1.map kV))) ∧ kbs.length = kds.length
  | _, _, .nil => ⟨fun _ h => (by cases h), rfl⟩
  | t :: kbs, k :: kds, .cons a b => by
    obtain ⟨h1, h2⟩ := paired_keys b
    refine ⟨fun u hu => ?_, by simp [h2]⟩
    rcases List.mem_cons.mp hu with rfl | hu
    · exact a.2.1
    · exact h1 u hu
theorem e_dispT {trs : List (TE × TE)} (h : EP K m H0 trs Γ fun kds => kds.length ≤ 15 ∧ P (.fd (kds.foldl (fun acc t => putT acc t.1 t.2) []))) : E K m H0 (tDispT trs) Γ P := fun σ H S Q k a n => by
  have hw := S.noW n
  have n0 := S.none0 n
  refine h σ _ (S.new n) _ fun kbs kds H' st S' pr ⟨hl, p⟩ => ?_
  have e := st.ob a _ hw upd_same
  have nt := dT_noT e
  obtain ⟨hk, hlen⟩ := paired_keys pr
  have tt : ∀ b (xs : TpO), H' b = some xs.1 → upd H' a (.dT (kbs.foldl (fun acc t => putK acc t.1 t.2.2) [])) b = some xs.1 := fun b xs h => upd_rd_tup nt b xs h
  have stF : Step m.W H (upd H' a (.dT (kbs.foldl (fun acc t => putK acc t.1 t.2.2) []))) := ((Step.new n).trans st).over n nt
  refine ⟨e, kbs, rfl, hk, by rw [hlen]; exact hl, k _ (.fd _) _ stF (S'.other n0 hw (?_) nt) ⟨a, _, rfl, n0, hw, upd_same, (kv_fold pr .nil).mono tt, ?_⟩ (fun b eb => by cases eb; exact n) p⟩
  · exact S.apart n
  · exact S.apart n

/-! ### t.index(i) -/
theorem e_tix {to : TE} (h : E K m H0 to Γ fun x => ∃ ys : List Int, x = .im (bD ys) ∧ E K m H0 te Γ fun y => ∃ (z : Int) (j : Nat), y = .im (.int z) ∧ ys[j]? = some z ∧ (∀ m, m < j → ys[m]? ≠ some z) ∧ P (.im (.int (j : Nat)))) :
    E K m H0 (tTix K to te) Γ P := fun σ H S Q k =>
  h σ H S _ fun v x H1 st S1 rx _ ⟨ys, ex, h2⟩ => by
    subst ex
    obtain ⟨a, o, xs, rfl, ho, l, q⟩ := Im.tupB_inv rx
    refine ⟨a, rfl, ⟨o, xs, ho, l⟩, h2 σ H1 S1 _ fun w y H2 st2 S2 ry _ ⟨z, j, ey, hj, hno, p⟩ => ?_⟩
    subst ey
    cases Im.int_inv ry
    have l2 := st2.tp _ ⟨.frz o (.tup xs), trivial⟩ l
    rw [q.ints_inv] at l2
    exact ⟨ys, z, j, rfl, .inl (.inr ⟨o, l2⟩), hj, hno, (k.back S2 (st.trans st2)).im S2 (.int _) p⟩

/-! ### tuples whose object is known -/
theorem e_tupB {ta : TA} (h : EA K m H0 ta Γ fun rs => ∃ ds, imsOf rs = some ds ∧ ds.length ≤ 1000000 ∧ P (.im (.list ds))) : E K m H0 (tTupB ta) Γ P := fun σ H S Q k =>
  h σ H S _ fun vs rs H1 st S1 rrs ⟨ds, e, z, p⟩ => by
    have q := rrs.ims e
    refine ⟨sz (by rw [q.length]; exact z), fun a o ho n => ?_⟩
    exact (k.back S1 st) (.ref a) (.im (.list ds)) _ (.new n) (S1.new n) (.tupB ho upd_same ((Step.new (W := m.W) n).ims q)) trivial p
theorem rr_ixB {ds : List PyData} {i : Int} {d : PyData} (e : atI ds i = some d) (p : P (.im d)) : RR K m H0 (rIxT K) (.im (.list ds)) (.im (.int i)) Γ P := fun σ H v w S rx ry Q k => by
  cases Im.int_inv ry
  obtain ⟨a, o, xs, rfl, ho, l, q⟩ := Im.tupB_inv rx
  obtain ⟨v, e1, e2⟩ := q.at e
  exact ⟨a, xs, i, v, rfl, rfl, .inl (.inr ⟨o, l⟩), e1, k.im S e2 p⟩
theorem rc_lenB {ds : List PyData} (p : P (.im (.int ds.length))) : RC K m H0 (rLenQ K) [.im (.list ds)] Γ P := fun σ H vs S rx Q k => by
  cases rx with
  | cons a b =>
    cases b
    obtain ⟨c, o, xs, rfl, ho, l, q⟩ := Im.tupB_inv a
    refine ⟨c, xs, rfl, .inr (.inl (.inr ⟨o, l⟩)), ?_⟩
    rw [q.length]
    exact k.im S (.int _) p
theorem iw_B {P' : List PyData → Prop} (h : E K m H0 te Γ fun r => ∃ ds, r = .im (.list ds) ∧ P' ds) : IW (K := K) (m := m) (H0 := H0) (iTup K te) Γ P' := fun σ H S Q k =>
  h σ H S _ fun v r H' st S' ro fs ⟨ds, e, p⟩ => by
    subst e
    obtain ⟨a, o, xs, rfl, ho, l, q⟩ := Im.tupB_inv ro
    refine ⟨a, rfl, ⟨xs, .inl (.inr ⟨o, l⟩)⟩, k (Itt K a) H' ds (fun H => SqT K H a xs ∧ ImAll K H xs ds) (YAt xs) st S' p ?_ ⟨.inl (.inr ⟨o, l⟩), q⟩ (fun Γ1 σ1 H1 A => ?_) fun i H1 x H2 hi g y => ?_⟩
    · rw [← q.length]
      exact walk_tup.mono (fun H g => g.1) fun i H x H' _ _ y => y
    · exact ⟨.inl (.inr ⟨o, A.2 _ ⟨.frz o (.tup xs), trivial⟩ l⟩), ImAll.mono A.2 _ _ q⟩
    · obtain ⟨e, y⟩ := y
      subst e
      obtain ⟨d, e1, e2⟩ := g.2.getV y
      exact ⟨d, e1, e2, .inl rfl⟩
end
end Rt

set_option Elab.async false
set_option linter.all false
/-! Readings, printed by gen.py. -/
namespace Rd
open PySem L2 Rt StX
/-- slots: tree place lacking -/
def t_end_at (K : PySem.W.Frag) : TS :=
  (tSeq (tAsg (tC (.int 1)) (gName 2))
    (tSeq (tWhile (tTest (tOp (rI0 fun i j => .bl (decide (j < i))) (tVar 2) (tC (.int 0)))) (tSeq (tAsg (tOp (rI0 fun i j => .int (i + j)) (tVar 2) (tIf (tTest (tOp (rEqD K) (tOp (rIxT K) (tVar 0) (tVar 1)) (tUn (rU fun i => .int (-i)) (tC (.int 1))))) (tC (.int 1)) (tUn (rU fun i => .int (-i)) (tC (.int 1))))) (gName 2))
    (tAsg (tOp (rI0 fun i j => .int (i + j)) (tVar 1) (tC (.int 1))) (gName 1))))
    (tRet (tVar 1))))
/-- slots: tree middle -/
def t_sides_of (K : PySem.W.Frag) (C_end_at : Ct) : TS :=
  (tSeq (tAsg (tCall (spM K Mpure C_end_at) [] E0 (tCons (tVar 0) (tCons (tC (.int 1)) tNil))) (gName 1))
    (tRet (tTup (tCons (tSl (rSlA K) (tVar 0) (tPart (tC (.int 1))) (tPart (tVar 1))) (tCons (tSl (rSlA K) (tVar 0) (tPart (tVar 1)) tNoPart) tNil)))))
/-- slots: p tree one other found left right -/
def t_count_of (K : PySem.W.Frag) (C_sides_of : Ct) (C_count_of : Ct) : TS :=
  (tSeq (tIfS (tOr (tTest (tOp (rEqD K) (tVar 0) (tTup tNil))) (tTest (tOp (rEqD K) (tVar 1) (tTup tNil)))) (tRet (tCB (rInt) (tCons (tOp (rEqD K) (tVar 0) (tTup tNil)) tNil))) tNext)
    (tSeq (tIfS (tTest (tOp (rNeD K) (tOp (rIxT K) (tVar 1) (tC (.int 0))) (tUn (rU fun i => .int (-i)) (tC (.int 1))))) (tRet (tCB (rInt) (tCons (tOp (rEqD K) (tVar 0) (tVar 1)) tNil))) tNext)
    (tSeq (tAsg (tCall (spM K Mpure C_sides_of) [] E0 (tCons (tVar 1) tNil)) (gTup K 2 (gCons (gName 2) (gCons (gName 3) gNil))))
    (tSeq (tAsg (tOp (rI0 fun i j => .int (i + j)) (tCall (spM K Mpure C_count_of) [] E0 (tCons (tVar 0) (tCons (tVar 2) tNil))) (tCall (spM K Mpure C_count_of) [] E0 (tCons (tVar 0) (tCons (tVar 3) tNil)))) (gName 4))
    (tSeq (tIfS (tTest (tOp (rEqD K) (tOp (rIxT K) (tVar 0) (tC (.int 0))) (tUn (rU fun i => .int (-i)) (tC (.int 1))))) (tSeq (tAsg (tCall (spM K Mpure C_sides_of) [] E0 (tCons (tVar 0) tNil)) (gTup K 2 (gCons (gName 5) (gCons (gName 6) gNil))))
    (tAsg (tOp (rI0 fun i j => .int (i + j)) (tVar 4) (tOp (rI CMulW fun i j => .int (i * j)) (tCall (spM K Mpure C_count_of) [] E0 (tCons (tVar 5) (tCons (tVar 2) tNil))) (tCall (spM K Mpure C_count_of) [] E0 (tCons (tVar 6) (tCons (tVar 3) tNil))))) (gName 4))) tNext)
    (tRet (tVar 4)))))))
/-- slots: k rows names -/
def t_turnings (K : PySem.W.Frag) : TS :=
  (tSeq (tAsg (tIf (tTest (tOp (rEqD K) (tVar 0) (tC (.int 1)))) (tLst (tCons (tTupB (tCons (tC (.int 0)) tNil)) tNil)) (tLst (tCons (tTupB (tCons (tC (.int 0)) (tCons (tC (.int 1)) tNil))) (tCons (tTupB (tCons (tC (.int 1)) (tCons (tC (.int 0)) tNil))) tNil)))) (gName 1))
    (tRet (tThen (tOp rCat (tLc (iList K (tVar 1)) (gName 2) tYes (tTup (tCons (tC (.int 0)) (tCons (tVar 2) tNil))) [2]) (tLc (iList K (tVar 1)) (gName 2) tYes (tTup (tCons (tC (.int 1)) (tCons (tVar 2) tNil))) [2])) (kTup K))))
/-- slots: parts turning mirror names part left right -/
def t_turned_from (K : PySem.W.Frag) (C_turned_from : Sp) : TS :=
  (tSeq (tAsg (tVar 1) (gTup K 2 (gCons (gName 2) (gCons (gName 3) gNil))))
    (tSeq (tAsg (tBM K "list" rPopAt (tVar 0) (tCons (tC (.int 0)) tNil)) (gName 4))
    (tSeq (tIfS (tTest (tOp (rNeD K) (tVar 4) (tUn (rU fun i => .int (-i)) (tC (.int 1))))) (tRet (tTup (tCons (tIf (tTest (tOp (rI0 fun i j => .bl (decide (j ≤ i))) (tVar 4) (tC (.int 0)))) (tOp (rIxT K) (tVar 3) (tVar 4)) (tVar 4)) tNil))) tNext)
    (tSeq (tAsg (tCall (C_turned_from) [] E0 (tCons (tVar 0) (tCons (tVar 1) tNil))) (gName 5))
    (tSeq (tAsg (tCall (C_turned_from) [] E0 (tCons (tVar 0) (tCons (tVar 1) tNil))) (gName 6))
    (tRet (tIf (tTest (tOp (rEqD K) (tVar 2) (tC (.int 1)))) (tTup (tCons (tUn (rU fun i => .int (-i)) (tC (.int 1))) (tStar K (tVar 6) (tStar K (tVar 5) tNil)))) (tTup (tCons (tUn (rU fun i => .int (-i)) (tC (.int 1))) (tStar K (tVar 5) (tStar K (tVar 6) tNil)))))))))))
/-- slots: term turning -/
def t_turned_term (K : PySem.W.Frag) (C_turned_from : Sp) : TS :=
  (tRet (tCall (C_turned_from) [] E0 (tCons (tCB (rListOf K) (tCons (tVar 0) tNil)) (tCons (tVar 1) tNil))))
/-- slots: tree turning -/
def t_turned_tree (K : PySem.W.Frag) (C_turned_term : Ct) : TS :=
  (tRet (tIf (tTest (tOp (rNeD K) (tVar 0) (tTup tNil))) (tCall (spM K Mpure C_turned_term) [] E0 (tCons (tVar 0) (tCons (tVar 1) tNil))) (tTup tNil)))
/-- slots: laws turning one other -/
def t_turned_laws (K : PySem.W.Frag) (C_turned_term : Ct) : TS :=
  (tRet (tThen (tLc (iTup K (tVar 0)) (gTup K 2 (gCons (gName 2) (gCons (gName 3) gNil))) tYes (tTup (tCons (tCall (spM K Mpure C_turned_term) [] E0 (tCons (tVar 2) (tCons (tVar 1) tNil))) (tCons (tCall (spM K Mpure C_turned_term) [] E0 (tCons (tVar 3) (tCons (tVar 1) tNil))) tNil))) [2, 3]) (kTup K)))
/-- slots: turning mirror names letter -/
def t_turning_back (K : PySem.W.Frag) : TS :=
  (tSeq (tAsg (tVar 0) (gTup K 2 (gCons (gName 1) (gCons (gName 2) gNil))))
    (tRet (tTup (tCons (tVar 1) (tCons (tThen (tLc (iRng1 (tCons (tCB (rLenQ K) (tCons (tVar 2) tNil)) tNil)) (gName 3) tYes (tTix K (tVar 2) (tVar 3)) [3]) (kTup K)) tNil)))))
/-- slots: one other letter -/
def t_turning_behind (K : PySem.W.Frag) : TS :=
  (tRet (tTup (tCons (tOp (rI (fun _ j => 0 < j) fun i j => .int (i % j)) (tOp (rI0 fun i j => .int (i + j)) (tOp (rIxT K) (tVar 0) (tC (.int 0))) (tOp (rIxT K) (tVar 1) (tC (.int 0)))) (tC (.int 2))) (tCons (tThen (tLc (iTup K (tOp (rIxT K) (tVar 0) (tC (.int 1)))) (gName 2) tYes (tOp (rIxT K) (tOp (rIxT K) (tVar 1) (tC (.int 1))) (tVar 2)) [2]) (kTup K)) tNil))))
/-- slots: script mixed cell -/
def t__law_source (K : PySem.W.Frag) : TS :=
  (tSeq (tAsg (tC (.int 31)) (gName 1))
    (tSeq (tFor (iList K (tVar 0)) (gName 2) (tAsg (tOp (rI (fun _ j => 0 < j) fun i j => .int (i % j)) (tCB (rInt) (tCons (tOp (rI0 fun i j => .int (i + j)) (tOp (rI0 fun i j => .int (i + j)) (tOp (rI CMul fun i j => .int (i * j)) (tVar 1) (tC (.int 48271))) (tOp (rI CMul fun i j => .int (i * j)) (tVar 2) (tC (.int 41)))) (tC (.int 13))) tNil)) (tC (.int 2147483629))) (gName 1)))
    (tRet (tDisp (((tC (.str "cells")), (tRevL K (tLc (iList K (tVar 0)) (gName 2) tYes (tCB (rAbs) (tCons (tVar 2) tNil)) [2]))) :: (((tC (.str "left")), (tC (.int 0))) :: (((tC (.str "mixed")), (tVar 1)) :: (((tC (.str "turn")), (tC (.int 0))) :: []))))))))
/-- slots: source many left mixed -/
def t__law_pick (K : PySem.W.Frag) : TS :=
  (tSeq (tIfS (tTest (tOp (rI0 fun i j => .bl (decide (i < j))) (tVar 1) (tC (.int 2)))) (tRet (tC (.int 0))) tNext)
    (tSeq (tWhile (tAnd (tTest (tOp (rI0 fun i j => .bl (decide (i < j))) (tDGet (tVar 0) (tC (.str "left"))) (tC (.int 2)))) (tTest (tOp (rI0 fun i j => .bl (decide (j < i))) (tCB (rLenQ K) (tCons (tDGet (tVar 0) (tC (.str "cells"))) tNil)) (tC (.int 0))))) (sDPut (tVar 0) (tC (.str "left")) (tBM0 K "list" rPop (tDGet (tVar 0) (tC (.str "cells"))))))
    (tSeq (tAsg (tDGet (tVar 0) (tC (.str "left"))) (gName 2))
    (tSeq (tIfS (tTest (tOp (rI0 fun i j => .bl (decide (j < i))) (tVar 2) (tC (.int 1)))) (tSeq (sDPut (tVar 0) (tC (.str "left")) (tOp (rI CDivW fun i j => .int (i / j)) (tVar 2) (tVar 1)))
    (tRet (tOp (rI (fun _ j => 0 < j) fun i j => .int (i % j)) (tCB (rInt) (tCons (tVar 2) tNil)) (tVar 1)))) tNext)
    (tSeq (sDPut (tVar 0) (tC (.str "turn")) (tOp (rI0 fun i j => .int (i + j)) (tDGet (tVar 0) (tC (.str "turn"))) (tC (.int 1))))
    (tSeq (tAsg (tOp (rI (fun _ j => 0 < j) fun i j => .int (i % j)) (tCB (rInt) (tCons (tOp (rI0 fun i j => .int (i + j)) (tDGet (tVar 0) (tC (.str "mixed"))) (tOp (rI CMul fun i j => .int (i * j)) (tDGet (tVar 0) (tC (.str "turn"))) (tC (.int 92821)))) tNil)) (tC (.int 998244353))) (gName 3))
    (tSeq (tAsg (tOp (rI (fun _ j => 0 < j) fun i j => .int (i % j)) (tCB (rInt) (tCons (tOp (rI0 fun i j => .int (i + j)) (tOp (rI CMul fun i j => .int (i * j)) (tVar 3) (tVar 3)) (tOp (rI CMul fun i j => .int (i * j)) (tDGet (tVar 0) (tC (.str "turn"))) (tC (.int 29)))) tNil)) (tC (.int 2147483647))) (gName 3))
    (tRet (tOp (rI (fun _ j => 0 < j) fun i j => .int (i % j)) (tCB (rInt) (tCons (tOp (rI CDivW fun i j => .int (i / j)) (tVar 3) (tC (.int 16))) tNil)) (tVar 1))))))))))
/-- slots: source some -/
def t__law_of (K : PySem.W.Frag) (C__law_pick : Ct) : TS :=
  (tRet (tOp (rIxL K) (tVar 1) (tCall (spM K Msrc C__law_pick) [] E0 (tCons (tVar 0) (tCons (tCB (rLenQ K) (tCons (tVar 1) tNil)) tNil)))))
/-- slots: source some leaves left -/
def t__law_built (K : PySem.W.Frag) (C__law_of : Ct) (C__law_pick : Ct) (C__law_built : Ct) : TS :=
  (tSeq (tIfS (tTest (tOp (rEqD K) (tVar 2) (tC (.int 1)))) (tRet (tTup (tCons (tCall (spM K Msrc C__law_of) [] E0 (tCons (tVar 0) (tCons (tVar 1) tNil))) tNil))) tNext)
    (tSeq (tAsg (tOp (rI0 fun i j => .int (i + j)) (tC (.int 1)) (tCall (spM K Msrc C__law_pick) [] E0 (tCons (tVar 0) (tCons (tOp (rI0 fun i j => .int (i - j)) (tVar 2) (tC (.int 1))) tNil)))) (gName 3))
    (tRet (tOp (rCatA K) (tOp (rCatA K) (tTup (tCons (tUn (rU fun i => .int (-i)) (tC (.int 1))) tNil)) (tCall (spM K Msrc C__law_built) [] E0 (tCons (tVar 0) (tCons (tVar 1) (tCons (tVar 3) tNil))))) (tCall (spM K Msrc C__law_built) [] E0 (tCons (tVar 0) (tCons (tVar 1) (tCons (tOp (rI0 fun i j => .int (i - j)) (tVar 2) (tVar 3)) tNil))))))))
/-- slots: source k most -/
def t__law_tree (K : PySem.W.Frag) (C__law_built : Ct) (C__law_pick : Ct) : TS :=
  (tRet (tCall (spM K Msrc C__law_built) [] E0 (tCons (tVar 0) (tCons (tLstRg (tRg1 (tVar 1))) (tCons (tOp (rI0 fun i j => .int (i + j)) (tC (.int 1)) (tCall (spM K Msrc C__law_pick) [] E0 (tCons (tVar 0) (tCons (tVar 2) tNil)))) tNil)))))
/-- slots: source k most leaves -/
def t__law_little (K : PySem.W.Frag) (C__law_pick : Ct) (C__law_built : Ct) : TS :=
  (tSeq (tAsg (tCall (spM K Msrc C__law_pick) [] E0 (tCons (tVar 0) (tCons (tOp (rI0 fun i j => .int (i + j)) (tVar 2) (tC (.int 1))) tNil))) (gName 3))
    (tRet (tIf (tTest (tOp (rI0 fun i j => .bl (decide (j < i))) (tVar 3) (tC (.int 0)))) (tCall (spM K Msrc C__law_built) [] E0 (tCons (tVar 0) (tCons (tLstRg (tRg1 (tVar 1))) (tCons (tVar 3) tNil)))) (tTup tNil))))
/-- slots: source k many most laws some turn s t side -/
def t__law_laws (K : PySem.W.Frag) (C__law_pick : Ct) (C__law_built : Ct) : TS :=
  (tSeq (tAsg (tTup (tCons (tLst tNil) (tCons (tOp rCat (tLstRg (tRg1 (tVar 1))) (tLst (tCons (tUn (rU fun i => .int (-i)) (tC (.int 2))) (tCons (tUn (rU fun i => .int (-i)) (tC (.int 3))) (tCons (tUn (rU fun i => .int (-i)) (tC (.int 2))) (tCons (tUn (rU fun i => .int (-i)) (tC (.int 4))) tNil)))))) tNil))) (gTup K 2 (gCons (gName 4) (gCons (gName 5) gNil))))
    (tSeq (tFor (iRng1 (tCons (tCall (spM K Msrc C__law_pick) [] E0 (tCons (tVar 0) (tCons (tOp (rI0 fun i j => .int (i + j)) (tVar 2) (tC (.int 1))) tNil))) tNil)) (gName 6) (tSeq (tAsg (tLc (iRng1 (tCons (tC (.int 2)) tNil)) (gName 9) tYes (tCall (spM K Msrc C__law_built) [] E0 (tCons (tVar 0) (tCons (tVar 5) (tCons (tOp (rI0 fun i j => .int (i + j)) (tC (.int 1)) (tCall (spM K Msrc C__law_pick) [] E0 (tCons (tVar 0) (tCons (tVar 3) tNil)))) tNil)))) [9]) (gUnl K 2 (gCons (gName 7) (gCons (gName 8) gNil))))
    (tDrop (tBM K "list" rAppend (tVar 4) (tCons (tIf (tTest (tOp (rNeD K) (tVar 7) (tVar 8))) (tTup (tCons (tVar 7) (tCons (tVar 8) tNil))) (tIf (tTest (tOp (rNeD K) (tVar 7) (tTup (tCons (tC (.int 0)) tNil)))) (tTup (tCons (tVar 7) (tCons (tTup (tCons (tC (.int 0)) tNil)) tNil))) (tTup (tCons (tVar 7) (tCons (tTup (tCons (tUn (rU fun i => .int (-i)) (tC (.int 2))) tNil)) tNil))))) tNil)))))
    (tRet (tThen (tVar 4) (kTup K)))))
/-- slots: tree wanted at part -/
def t__law_split (K : PySem.W.Frag) : TS :=
  (tSeq (tAsg (tC (.int 0)) (gName 1))
    (tSeq (tFor (iEnumT K (tCons (tSl (rSlA K) (tVar 0) (tPart (tC (.int 1))) tNoPart) tNil)) (gTup K 2 (gCons (gName 2) (gCons (gName 3) gNil))) (tSeq (tAsg (tIf (tTest (tOp (rEqD K) (tVar 3) (tUn (rU fun i => .int (-i)) (tC (.int 1))))) (tOp (rI0 fun i j => .int (i + j)) (tVar 1) (tC (.int 1))) (tOp (rI0 fun i j => .int (i - j)) (tVar 1) (tC (.int 1)))) (gName 1))
    (tIfS (tTest (tOp (rI0 fun i j => .bl (decide (i < j))) (tVar 1) (tC (.int 0)))) (tRet (tTup (tCons (tSl (rSlA K) (tVar 0) (tPart (tC (.int 1))) (tPart (tOp (rI0 fun i j => .int (i + j)) (tVar 2) (tC (.int 2))))) (tCons (tSl (rSlA K) (tVar 0) (tPart (tOp (rI0 fun i j => .int (i + j)) (tVar 2) (tC (.int 2)))) tNoPart) tNil)))) tNext)))
    (tRet (tC .non))))
/-- slots: s t -/
def t__law_put (K : PySem.W.Frag) : TS :=
  (tRet (tIf (tTest (tOp (rEqD K) (tVar 0) (tTup tNil))) (tVar 1) (tIf (tTest (tOp (rEqD K) (tVar 1) (tTup tNil))) (tVar 0) (tOp (rCatA K) (tOp (rCatA K) (tTup (tCons (tUn (rU fun i => .int (-i)) (tC (.int 1))) tNil)) (tVar 0)) (tVar 1)))))
/-- slots: tree most sides found one other p q both side -/
def t__law_left (K : PySem.W.Frag) (C__law_split : Ct) (C__law_left : Ct) (C__law_put : Ct) : TS :=
  (tSeq (tIfS (tTest (tOp (rEqD K) (tCB (rLenQ K) (tCons (tVar 0) tNil)) (tC (.int 1)))) (tRet (tIf (tTest (tOp (rI0 fun i j => .bl (decide (j < i))) (tVar 1) (tC (.int 0)))) (tDispT (((tTup tNil), (tC (.int 1))) :: (((tVar 0), (tC (.int 1))) :: []))) (tDispT (((tTup tNil), (tC (.int 1))) :: [])))) tNext)
    (tSeq (tPar 2 3 (tCons (tCall (spM K Mpure C__law_split) [] E0 (tCons (tVar 0) tNil)) (tCons tDNewT tNil)))
    (tSeq (tAsg (tLc (iTup K (tVar 2)) (gName 9) tYes (tCall (spM K Mpure C__law_left) [] E0 (tCons (tVar 9) (tCons (tVar 1) tNil))) [9]) (gUnl K 2 (gCons (gName 4) (gCons (gName 5) gNil))))
    (tSeq (tLock (tFor (iKeys (tVar 4)) (gName 6) (tLock (tFor (iKeys (tVar 5)) (gName 7) (tIfS (tTest (tOp (rI0 fun i j => .bl (decide (i ≤ j))) (tOp (rI0 fun i j => .int (i + j)) (tOp (rI CDivW fun i j => .int (i / j)) (tOp (rI0 fun i j => .int (i + j)) (tCB (rLenQ K) (tCons (tVar 6) tNil)) (tC (.int 1))) (tC (.int 2))) (tOp (rI CDivW fun i j => .int (i / j)) (tOp (rI0 fun i j => .int (i + j)) (tCB (rLenQ K) (tCons (tVar 7) tNil)) (tC (.int 1))) (tC (.int 2)))) (tVar 1))) (tSeq (tAsg (tCall (spM K Mpure C__law_put) [] E0 (tCons (tVar 6) (tCons (tVar 7) tNil))) (gName 8))
    (sDPut (tVar 3) (tVar 8) (tOp (rI0 fun i j => .int (i + j)) (tDGet2 (tVar 3) (tVar 8) (tC (.int 0))) (tOp (rI CMulW fun i j => .int (i * j)) (tDGet (tVar 4) (tVar 6)) (tDGet (tVar 5) (tVar 7)))))) tNext)))))
    (tRet (tVar 3))))))
/-- slots: tree turning left right side -/
def t__law_turned (K : PySem.W.Frag) (C__law_split : Ct) (C__law_turned : Ct) : TS :=
  (tSeq (tIfS (tTest (tOp (rI0 fun i j => .bl (decide (i < j))) (tCB (rLenQ K) (tCons (tVar 0) tNil)) (tC (.int 2)))) (tRet (tIf (tTest (tOp (rNeD K) (tVar 0) (tTup tNil))) (tTup (tCons (tIf (tTest (tOp (rI0 fun i j => .bl (decide (j ≤ i))) (tOp (rIxT K) (tVar 0) (tC (.int 0))) (tC (.int 0)))) (tOp (rIxT K) (tOp (rIxT K) (tVar 1) (tC (.int 1))) (tOp (rIxT K) (tVar 0) (tC (.int 0)))) (tOp (rIxT K) (tVar 0) (tC (.int 0)))) tNil)) (tTup tNil))) tNext)
    (tSeq (tAsg (tLc (iTup K (tCall (spM K Mpure C__law_split) [] E0 (tCons (tVar 0) tNil))) (gName 4) tYes (tCall (spM K Mpure C__law_turned) [] E0 (tCons (tVar 4) (tCons (tVar 1) tNil))) [4]) (gUnl K 2 (gCons (gName 2) (gCons (gName 3) gNil))))
    (tRet (tIf (tTest (tOp (rEqD K) (tOp (rIxT K) (tVar 1) (tC (.int 0))) (tC (.int 1)))) (tOp (rCatA K) (tOp (rCatA K) (tTup (tCons (tUn (rU fun i => .int (-i)) (tC (.int 1))) tNil)) (tVar 3)) (tVar 2)) (tOp (rCatA K) (tOp (rCatA K) (tTup (tCons (tUn (rU fun i => .int (-i)) (tC (.int 1))) tNil)) (tVar 2)) (tVar 3))))))
/-- slots: turning letter -/
def t__law_back (K : PySem.W.Frag) : TS :=
  (tRet (tTup (tCons (tOp (rIxT K) (tVar 0) (tC (.int 0))) (tCons (tThen (tLc (iRng1 (tCons (tCB (rLenQ K) (tCons (tOp (rIxT K) (tVar 0) (tC (.int 1))) tNil)) tNil)) (gName 1) tYes (tTix K (tOp (rIxT K) (tVar 0) (tC (.int 1))) (tVar 1)) [1]) (kTup K)) tNil))))
/-- slots: k rows row -/
def t__law_turnings (K : PySem.W.Frag) : TS :=
  (tSeq (tAsg (tIf (tTest (tOp (rEqD K) (tVar 0) (tC (.int 1)))) (tLst (tCons (tTupB (tCons (tC (.int 0)) tNil)) tNil)) (tLst (tCons (tTupB (tCons (tC (.int 0)) (tCons (tC (.int 1)) tNil))) (tCons (tTupB (tCons (tC (.int 1)) (tCons (tC (.int 0)) tNil))) tNil)))) (gName 1))
    (tRet (tOp rCat (tLc (iList K (tVar 1)) (gName 2) tYes (tTup (tCons (tC (.int 0)) (tCons (tVar 2) tNil))) [2]) (tLc (iList K (tVar 1)) (gName 2) tYes (tTup (tCons (tC (.int 1)) (tCons (tVar 2) tNil))) [2]))))
/-- slots: laws turning s t -/
def t__law_laws_turned (K : PySem.W.Frag) (C__law_turned : Ct) : TS :=
  (tRet (tThen (tLc (iTup K (tVar 0)) (gTup K 2 (gCons (gName 2) (gCons (gName 3) gNil))) tYes (tTup (tCons (tCall (spM K Mpure C__law_turned) [] E0 (tCons (tVar 2) (tCons (tVar 1) tNil))) (tCons (tCall (spM K Mpure C__law_turned) [] E0 (tCons (tVar 3) (tCons (tVar 1) tNil))) tNil))) [2, 3]) (kTup K)))
/-- slots: script source lap k some tree laws counts shown p turning late s t other both -/
def t_law (K : PySem.W.Frag) (C__law_source : Sp) (C__law_pick : Ct) (C__law_turnings : Ct) (C_turnings : Ct) (C_turned_tree : Ct) (C__law_of : Ct) (C__law_laws : Ct) (C__law_tree : Ct) (C__law_left : Ct) (C__law_little : Ct) (C__law_turned : Ct) (C_turning_back : Ct) (C__law_back : Ct) (C_count_of : Ct) (C_turned_laws : Ct) (C__law_laws_turned : Ct) (C_turned_term : Ct) (C_turning_behind : Ct) : TS :=
  (tSeq (tAsg (tCall (C__law_source) [] E0 (tCons (tVar 0) tNil)) (gName 1))
    (tSeq (tFor (iRng1 (tCons (tC (.int 3)) tNil)) (gName 2) (tSeq (tAsg (tOp (rI0 fun i j => .int (i + j)) (tC (.int 1)) (tCall (spM K Msrc C__law_pick) [] E0 (tCons (tVar 1) (tCons (tC (.int 2)) tNil)))) (gName 3))
    (tSeq (tAsg (tCall (spM K Mpure C__law_turnings) [] E0 (tCons (tVar 3) tNil)) (gName 4))
    (tSeq (tIfS (tOr (tTest (tOp (rNeD K) (tCall (spM K Mpure C_turnings) [] E0 (tCons (tVar 3) tNil)) (tThen (tVar 4) (kTup K)))) (tTest (tOp (rNeD K) (tCall (spM K Mpure C_turned_tree) [] E0 (tCons (tTup tNil) (tCons (tCall (spM K Msrc C__law_of) [] E0 (tCons (tVar 1) (tCons (tVar 4) tNil))) tNil))) (tTup tNil)))) (tRet (tC (.bl false))) tNext)
    (tSeq (tPar 5 6 (tCons (tCall (spM K Msrc C__law_tree) [] E0 (tCons (tVar 1) (tCons (tVar 3) (tCons (tC (.int 8)) tNil)))) (tCons (tCall (spM K Msrc C__law_laws) [] E0 (tCons (tVar 1) (tCons (tVar 3) (tCons (tC (.int 3)) (tCons (tC (.int 4)) tNil))))) tNil)))
    (tSeq (tPar 7 8 (tCons (tCall (spM K Mpure C__law_left) [] E0 (tCons (tVar 5) (tCons (tC (.int 3)) tNil))) (tCons (tCB (rRepr K) (tCons (tTup (tCons (tVar 5) (tCons (tVar 6) tNil))) tNil)) tNil)))
    (tSeq (tAsg (tIf (tTest (tOp (rEqD K) (tCall (spM K Msrc C__law_pick) [] E0 (tCons (tVar 1) (tCons (tC (.int 2)) tNil))) (tC (.int 0)))) (tCall (spM K Msrc C__law_of) [] E0 (tCons (tVar 1) (tCons (tCB (rSortedD K) (tCons (tVar 7) tNil)) tNil))) (tCall (spM K Msrc C__law_little) [] E0 (tCons (tVar 1) (tCons (tVar 3) (tCons (tC (.int 3)) tNil))))) (gName 9))
    (tSeq (tFor (iList K (tVar 4)) (gName 10) (tSeq (tAsg (tCall (spM K Mpure C__law_turned) [] E0 (tCons (tVar 5) (tCons (tVar 10) tNil))) (gName 11))
    (tSeq (tIfS (tOr (tTest (tOp rNe (tCB (rRepr K) (tCons (tCall (spM K Mpure C_turned_tree) [] E0 (tCons (tVar 5) (tCons (tVar 10) tNil))) tNil)) (tCB (rRepr K) (tCons (tVar 11) tNil)))) (tTest (tOp (rNeD K) (tCall (spM K Mpure C_turning_back) [] E0 (tCons (tVar 10) tNil)) (tCall (spM K Mpure C__law_back) [] E0 (tCons (tVar 10) tNil))))) (tRet (tC (.bl false))) tNext)
    (tSeq (tIfS (tTest (tOp (rNeD K) (tCall (spM K Mpure C_count_of) [] E0 (tCons (tCall (spM K Mpure C_turned_tree) [] E0 (tCons (tVar 9) (tCons (tVar 10) tNil))) (tCons (tVar 11) tNil))) (tDGet2 (tVar 7) (tVar 9) (tC (.int 0))))) (tRet (tC (.bl false))) tNext)
    (tSeq (tIfS (tTest (tOp rNe (tCB (rRepr K) (tCons (tCall (spM K Mpure C_turned_laws) [] E0 (tCons (tVar 6) (tCons (tVar 10) tNil))) tNil)) (tCB (rRepr K) (tCons (tCall (spM K Mpure C__law_laws_turned) [] E0 (tCons (tVar 6) (tCons (tVar 10) tNil))) tNil)))) (tRet (tC (.bl false))) tNext)
    (tSeq (tFor (iTup K (tVar 6)) (gTup K 2 (gCons (gName 12) (gCons (gName 13) gNil))) (tIfS (tTest (tOp rNe (tCB (rRepr K) (tCons (tLst (tCons (tCall (spM K Mpure C_turned_term) [] E0 (tCons (tVar 12) (tCons (tVar 10) tNil))) (tCons (tCall (spM K Mpure C_turned_term) [] E0 (tCons (tVar 13) (tCons (tVar 10) tNil))) tNil))) tNil)) (tCB (rRepr K) (tCons (tLst (tCons (tCall (spM K Mpure C__law_turned) [] E0 (tCons (tVar 12) (tCons (tVar 10) tNil))) (tCons (tCall (spM K Mpure C__law_turned) [] E0 (tCons (tVar 13) (tCons (tVar 10) tNil))) tNil))) tNil)))) (tRet (tC (.bl false))) tNext))
    (tSeq (tFor (iList K (tVar 4)) (gName 14) (tSeq (tAsg (tCall (spM K Mpure C_turning_behind) [] E0 (tCons (tVar 10) (tCons (tVar 14) tNil))) (gName 15))
    (tIfS (tOr (tTest (tOp (rNotInD K) (tVar 15) (tVar 4))) (tTest (tOp (rNeD K) (tCall (spM K Mpure C_turned_tree) [] E0 (tCons (tVar 5) (tCons (tVar 15) tNil))) (tCall (spM K Mpure C__law_turned) [] E0 (tCons (tVar 11) (tCons (tVar 14) tNil)))))) (tRet (tC (.bl false))) tNext)))
    (tIfS (tOr (tTest (tOp (rNeD K) (tCall (spM K Mpure C_turning_behind) [] E0 (tCons (tVar 10) (tCons (tCall (spM K Mpure C_turning_back) [] E0 (tCons (tVar 10) tNil)) tNil))) (tOp (rIxL K) (tVar 4) (tC (.int 0))))) (tTest (tOp (rNeD K) (tCall (spM K Mpure C_turned_tree) [] E0 (tCons (tVar 11) (tCons (tCall (spM K Mpure C_turning_back) [] E0 (tCons (tVar 10) tNil)) tNil))) (tVar 5)))) (tRet (tC (.bl false))) tNext))))))))
    (tIfS (tTest (tOp rNe (tCB (rRepr K) (tCons (tTup (tCons (tVar 5) (tCons (tVar 6) tNil))) tNil)) (tVar 8))) (tRet (tC (.bl false))) tNext)))))))))
    (tRet (tC (.bl true)))))
end Rd

set_option Elab.async false
set_option linter.all false
set_option maxRecDepth 100000
set_option maxHeartbeats 2000000
/-! Stretches of a body that is walked by hand: slots of data and bare values alone, the heap told anew behind each statement. -/
namespace Rt
open PySem L2 StX
def simple : Sl → Bool
  | .un => true
  | .im _ => true
  | .rf _ => true
  | _ => false
section
variable {K : PySem.W.Frag} {m : Mode} {H0 H H' H1 H2 : Hp} {Γ Γ' : Gm} {σ σ' : L2.St} {v w : V} {r : R} {t : TS} {D : Ends}
theorem Sta.reb (S : Sta K m H0 Γ σ H) (tt : ∀ a (xs : TpO), H a = some xs.1 → H' a = some xs.1) (hs : ∀ s ∈ Γ, simple s = true) : Sta K pure0 H' Γ σ H' := by
  refine ⟨S.len, pure0_ok, .refl, trivial, fun i s e => ?_, fun i j s t a e1 o1 e2 o2 q1 q2 => ?_⟩
  · obtain ⟨o, e1, e2⟩ := S.sl i s e
    refine ⟨o, e1, ?_⟩
    have hq := hs s (List.mem_of_getElem? e)
    cases s with
    | un => exact trivial
    | im d => obtain ⟨v, ev, q⟩ := e2; exact ⟨v, ev, Im.mono tt _ _ q⟩
    | rf v => exact e2
    | rl ds => cases hq
    | ls ds => cases hq
    | dt ds => cases hq
    | rd ds => cases hq
    | lk _ _ _ _ => cases hq
    | ll _ _ _ => cases hq
  · have hq := hs s (List.mem_of_getElem? e1)
    cases s <;> first | exact nomatch (show false = true from o1) | exact nomatch (show false = true from hq)
theorem seg {N : Gm → Prop} {R' : R → Prop} (h : SS K pure0 H t Γ { nx := N, rt := R' }) (S : Sta K pure0 H Γ σ H) (nx : ∀ Γ' σ' H', Step pure0.W H H' → Sta K pure0 H Γ' σ' H' → N Γ' → D.nx σ' H')
    (rt : ∀ v r H', Step pure0.W H H' → Ret K pure0 H H' v r → R' r → D.rt v H') : t D σ H :=
  h σ H D S ⟨fun Γ' σ' H' _ S' p => nx Γ' σ' H' S'.sp S' p, fun v r H' st _ q p => rt v r H' st q p, fun _ _ _ _ _ p => p.elim, fun _ _ _ _ _ p => p.elim⟩
theorem seg_seq {N : Gm → Prop} {R' : R → Prop} {u : TS} (h : SS K pure0 H t Γ { nx := N, rt := R' }) (S : Sta K pure0 H Γ σ H) (nx : ∀ Γ' σ' H', Step pure0.W H H' → Sta K pure0 H Γ' σ' H' → N Γ' → u D σ' H')
    (rt : ∀ v r H', Step pure0.W H H' → Ret K pure0 H H' v r → R' r → D.rt v H') : tSeq t u D σ H :=
  seg (D := { D with nx := fun σ' H' => u D σ' H' }) h S nx rt
theorem gseg {N : Gm → Prop} {R' : R → Prop} {u : TS} (h : SS K m H0 t Γ { nx := N, rt := R' }) (S : Sta K m H0 Γ σ H) (nx : ∀ Γ' σ' H', Sta K m H0 Γ' σ' H' → N Γ' → u D σ' H')
    (rt : ∀ v r H', Step m.W H0 H' → m.S H' → Ret K m H0 H' v r → R' r → D.rt v H') : tSeq t u D σ H :=
  h σ H _ S ⟨fun Γ' σ' H' _ S' p => nx Γ' σ' H' S' p, fun v r H' st ok q p => rt v r H' st ok q p, fun _ _ _ _ _ p => p.elim, fun _ _ _ _ _ p => p.elim⟩
theorem Step.wide {W W' : Addr → Prop} (s : Step W H H') (h : ∀ a, W a → W' a) : Step W' H H' := ⟨fun a o w e => s.ob a o (fun z => w (h a z)) e, s.tp⟩
theorem Step.wide0 {W' : Addr → Prop} (s : Step pure0.W H H') : Step W' H H' := s.wide fun a z => z.elim
theorem Step.put {W : Addr → Prop} {a : Addr} {o : HO} (hw : W a) (hm : ∀ xs, ¬ Rd H a (.tup xs)) : Step W H (upd H a o) :=
  ⟨fun b u w e => by rw [upd_ne (show b ≠ a from fun z => w (by rw [z]; exact hw))]; exact e, fun b xs e => upd_rd_tup hm b xs e⟩
/-- one object that is none of ours changes -/
theorem Sta.alone {c : Addr} (S : Sta K m H0 Γ σ H) (st : Step (fun x => x = c) H H') (hn : H0 c = none) (hw : ¬ m.W c) (ap : Apart Γ σ c) : Sta K m H0 Γ σ H' := by
  have kk : ∀ {ks : List (List Key × V)} {kvs : List (List Int × PyData)}, KvAll K H ks kvs → KvAll K H' ks kvs := fun h => h.mono st.tp
  refine ⟨S.len, S.mo, ⟨fun b u w e => st.ob b u (ne_of_none e hn) (S.sp.ob b u w e), fun b xs e => st.tp b xs (S.sp.tp b xs e)⟩, S.mo.st H _ S.ok fun b u w e => st.ob b u (fun z => hw (by rw [← z]; exact w)) e, fun j t e => ?_, S.ne⟩
  obtain ⟨ov, e1, e2⟩ := S.sl j t e
  refine ⟨ov, e1, ?_⟩
  cases t with
  | un => exact trivial
  | im d => obtain ⟨v, e, q⟩ := e2; exact ⟨v, e, Im.mono st.tp _ _ q⟩
  | rf v => exact e2
  | rl ds => obtain ⟨b, xs, e, l, q, w⟩ := e2; exact ⟨b, xs, e, l, ImAll.mono st.tp _ _ q, w⟩
  | rd ds => obtain ⟨b, xs, e, l, q, w⟩ := e2; exact ⟨b, xs, e, l, kk q, w⟩
  | ls ds =>
    obtain ⟨b, xs, eb, n, w, l, q⟩ := e2
    have hne : b ≠ c := fun z => ap j _ e rfl (by rw [e1, eb, z])
    exact ⟨b, xs, eb, n, w, st.ob b _ hne l, ImAll.mono st.tp _ _ q⟩
  | dt kvs =>
    obtain ⟨b, ks, eb, n, w, l, q⟩ := e2
    have hne : b ≠ c := fun z => ap j _ e rfl (by rw [e1, eb, z])
    exact ⟨b, ks, eb, n, w, st.ob b _ hne l, kk q⟩
  | lk b od ks kvs =>
    obtain ⟨eb, n, w, l, q⟩ := e2
    have hne : b ≠ c := fun z => ap j _ e rfl (by rw [e1, eb, z])
    exact ⟨eb, n, w, st.ob b _ hne l, kk q⟩
  | ll b xs ds =>
    obtain ⟨eb, n, w, l, q⟩ := e2
    have hne : b ≠ c := fun z => ap j _ e rfl (by rw [e1, eb, z])
    exact ⟨eb, n, w, st.ob b _ hne l, ImAll.mono st.tp _ _ q⟩
theorem Step.of_alone {W : Addr → Prop} {c : Addr} (st : Step (fun x => x = c) H H') (n : H c = none) : Step W H H' := ⟨fun a o _ e => st.ob a o (ne_of_none e n) e, st.tp⟩
/-- a, b = (x, y), the pair laid ahead -/
theorem ss_tup2 {i j : Nat} {ta tb : TE} {O : Po} (h : E K m H0 ta Γ fun x => E K m H0 tb Γ fun y => O.nx ((Γ.set i x.sl).set j y.sl)) : SS K m H0 (tAsg (tTup (tCons ta (tCons tb tNil))) (gTup K 2 (gCons (gName i) (gCons (gName j) gNil)))) Γ O := fun σ H D S f =>
  h σ H S _ fun v x H1 st1 S1 r1 f1 h2 => h2 σ H1 S1 _ fun w y H2 st2 S2 r2 f2 p => by
    refine ⟨by rw [sizeLine_eq]; show 2 ≤ _; decide, fun q hq => ?_⟩
    have st3 : Step m.W H2 (upd H2 q (.tup [v, w])) := .new hq
    have r1' := (r1.step st2).step st3
    have r2' := r2.step st3
    have S3 := S2.new (o := .tup [v, w]) hq
    have Sa := S3.set (i := i) r1'
    have Sb := Sa.set (i := j) (r2'.set (i := i) (x := x) (v := v) fun a oy ox ew ev => by
      have n := fsh_no f2 oy ew
      obtain ⟨u, e⟩ := own_at r1 ox ev
      rw [n] at e; cases e)
    have A : Adv m Γ σ H ((Γ.set i x.sl).set j y.sl) ((σ.set i (some v)).set j (some w)) (upd H2 q (.tup [v, w])) := by
      have st := (st1.trans st2).trans st3
      refine ⟨fun a o wn h ap => ⟨st.ob a o wn h, apart_set (apart_set ap (fsh_ne f1 h)) (fsh_ne f2 (st1.ob a o wn h))⟩, fun a xs h => st.tp a xs h⟩
    exact ⟨q, _, rfl, .of upd_same, rfl, _, _, rfl, _, _, rfl, rfl, f.nx _ _ _ A Sb p⟩
theorem dK_noT {a : Addr} {ks : List (Key × V)} (h : H a = some (.dK ks)) (ys : List V) : ¬ Rd H a (.tup ys) := fun q => by
  rcases q with q | ⟨o, q⟩ <;> (rw [h] at q; cases q)
theorem Sta.rf (S : Sta K m H0 Γ σ H) {i : Nat} (e : Γ[i]? = some (.rf v)) : σ[i]? = some (some v) := by
  obtain ⟨o, e1, e2⟩ := S.sl i _ e
  rw [e1, show o = some v from e2]
theorem Sta.imv (S : Sta K m H0 Γ σ H) {i : Nat} {d : PyData} (e : Γ[i]? = some (.im d)) : ∃ v, σ[i]? = some (some v) ∧ Im K H v d := by
  obtain ⟨o, e1, v, e2, q⟩ := S.sl i _ e
  exact ⟨v, by rw [e1, e2], q⟩
end
end Rt

set_option Elab.async false
set_option linter.all false
set_option maxRecDepth 100000
set_option maxHeartbeats 2000000
namespace Rd
open PySem L2 Rt
section
variable {K : PySem.W.Frag} {m : Mode} {H0 : Hp} {rs : List R} {P : R → Prop}
/-- end_at(tree, place): behind the subtree that begins there -/
def C_end_at : Ct := fun rs P => ∃ (ns : List Int) (k : Nat) (t : T) (rest : List Int), rs = [.im (tD ns), .im (.int k)] ∧ ns.drop k = t.enc ++ rest ∧ t.ok ∧ P (.im (.int ((k + t.enc.length : Nat) : Int)))
theorem atI_drop {ns : List Int} {k : Nat} {x : Int} {r : List Int} (h : ns.drop k = x :: r) : atI (ns.map PyData.int) (k : Int) = some (.int x) := by
  apply atI_nat
  have hk : k < ns.length := by
    by_cases hk : k < ns.length
    · exact hk
    · rw [List.drop_eq_nil_of_le (by omega)] at h; cases h
  rw [List.drop_eq_getElem_cons hk] at h
  injection h with h1 h2
  rw [List.getElem?_map, List.getElem?_eq_getElem hk, h1]; rfl
theorem drop_succ {ns : List Int} {k : Nat} {x : Int} {r : List Int} (h : ns.drop k = x :: r) : ns.drop (k + 1) = r := by
  rw [← List.drop_drop, h]; rfl
theorem ss_end_at (h : C_end_at rs P) : SS K m H0 (t_end_at K) (ent 3 rs) { rt := P, nx := fun _ => P (.im .none) } := by
  obtain ⟨ns, k, t, rest, rfl, hd, ok, p⟩ := h
  refine ss_seq (ss_asg (e_int ?_))
  refine ss_seq (ss_while (fun n Γ => ∃ (ts : List T) (j : Nat), Γ = [.im (tD ns), .im (.int j), .im (.int ts.length)] ∧ (∀ s ∈ ts, s.ok) ∧ ns.drop j = encs ts ++ rest ∧ j + (encs ts).length = k + t.enc.length ∧ n = (encs ts).length) _
    ⟨[t], k, rfl, by simpa using ok, by simpa [encs] using hd, by simp [encs], rfl⟩ ?_)
  rintro n Γ ⟨ts, j, rfl, hok, hj, hsum, rfl⟩
  refine et_cmp (e_op (e_var rfl (e_int (rr_b ⟨_, rfl, ?_⟩))))
  cases ts with
  | nil =>
    refine ss_ret (e_var rfl ⟨rfl, ?_⟩)
    have : j = k + t.enc.length := by simpa [encs] using hsum
    rw [this]; exact p
  | cons s ts =>
    have hlt : (0 : Int) < ((s :: ts).length : Nat) := by simp only [List.length_cons]; omega
    rw [decide_eq_true hlt]
    cases s with
    | lf a =>
      have ha : a ≠ -1 := hok (.lf a) List.mem_cons_self
      have hj' : ns.drop j = a :: (encs ts ++ rest) := by simpa [encs, T.enc] using hj
      refine ss_seq (ss_asg (e_op (e_var rfl (e_if (et_cmp (e_op (e_op (e_var rfl (e_var rfl (rr_ixT (atI_drop hj') (e_un (e_int (ru_i (rr_eq (dat_int _) (dat_int _) (shaped_int _) (shaped_int _) ⟨_, rfl, ?_⟩))))))))))))))
      rw [eqv_int, decide_eq_false ha]
      refine e_un (e_int (ru_i (rr_i ?_)))
      refine ss_asg (e_op (e_var rfl (e_int (rr_i ?_))))
      refine ⟨_, ?_, ts, j + 1, ?_, fun s hs => hok s (List.mem_cons_of_mem _ hs), drop_succ hj', ?_, rfl⟩
      · simp [encs, T.enc]
      · simp only [List.set, R.sl, ent, List.length_cons]
        have e : ((ts.length + 1 : Nat) : Int) + -1 = (ts.length : Int) := by omega
        rw [e]; rfl
      · simp [encs, T.enc] at hsum ⊢; omega
    | nd l r =>
      have hok' := hok (.nd l r) List.mem_cons_self
      have hj' : ns.drop j = -1 :: (encs (l :: r :: ts) ++ rest) := by simpa [encs, T.enc] using hj
      refine ss_seq (ss_asg (e_op (e_var rfl (e_if (et_cmp (e_op (e_op (e_var rfl (e_var rfl (rr_ixT (atI_drop hj') (e_un (e_int (ru_i (rr_eq (dat_int _) (dat_int _) (shaped_int _) (shaped_int _) ⟨_, rfl, ?_⟩))))))))))))))
      rw [eqv_int, decide_eq_true rfl]
      refine e_int (rr_i ?_)
      refine ss_asg (e_op (e_var rfl (e_int (rr_i ?_))))
      refine ⟨_, ?_, l :: r :: ts, j + 1, ?_, ?_, drop_succ hj', ?_, rfl⟩
      · simp [encs, T.enc]
      · simp only [List.set, R.sl, ent, List.length_cons]
        have e : ((ts.length + 1 : Nat) : Int) + 1 = ((ts.length + 1 + 1 : Nat) : Int) := by omega
        rw [e]; rfl
      · intro s hs
        simp only [List.mem_cons] at hs
        rcases hs with rfl | rfl | hs
        · exact hok'.1
        · exact hok'.2
        · exact hok s (List.mem_cons_of_mem _ hs)
      · simp [encs, T.enc] at hsum ⊢; omega

theorem sIx_nat' {n d k : Nat} (h : k ≤ n) : HT.sIx n d (some (k : Int)) = k := by rw [HT.sIx_nat]; omega
theorem cut_mid (ns : List Int) {i j : Nat} (hi : i ≤ ns.length) (hj : j ≤ ns.length) : cutD (ns.map PyData.int) (some (i : Int)) (some (j : Int)) = ((ns.drop i).take (j - i)).map PyData.int := by
  unfold cutD
  rw [List.length_map, sIx_nat' hi, sIx_nat' hj, ← List.map_drop, ← List.map_take]
theorem cut_end (ns : List Int) {i : Nat} (hi : i ≤ ns.length) : cutD (ns.map PyData.int) (some (i : Int)) none = (ns.drop i).map PyData.int := by
  unfold cutD
  rw [List.length_map, sIx_nat' hi, HT.sIx_none, ← List.map_drop, List.take_of_length_le (by rw [List.length_map, List.length_drop]; omega)]

/-- sides_of(tree): both sides of a tree that is no leaf -/
def C_sides_of : Ct := fun rs P => ∃ l r : T, rs = [.im (tD (T.nd l r).enc)] ∧ l.ok ∧ r.ok ∧ P (.im (.tuple [tD l.enc, tD r.enc]))
theorem ss_sides_of (h : C_sides_of rs P) : SS K m H0 (t_sides_of K C_end_at) (ent 2 rs) { rt := P, nx := fun _ => P (.im .none) } := by
  obtain ⟨l, r, rfl, hl, hr, p⟩ := h
  refine ss_seq (ss_asg (e_callP (ea_cons (e_var rfl (ea_cons (e_int (ea_nil ⟨_, 1, l, r.enc, rfl, rfl, hl, ?_⟩)))))))
  refine ss_ret (e_tup (ea_cons ?_))
  refine e_slT (e_var rfl (eo_some (e_int ⟨_, rfl, eo_some (e_var rfl ⟨_, rfl, _, rfl, ea_cons ?_⟩)⟩)))
  refine e_slT (e_var rfl (eo_some (e_var rfl ⟨_, rfl, eo_no ⟨_, rfl, ea_nil ⟨_, rfl, by show 2 ≤ 1000000; decide, rfl, ?_⟩⟩⟩)))
  have e1 : cutD ((T.nd l r).enc.map PyData.int) (some (1 : Int)) (some ((1 + l.enc.length : Nat) : Int)) = l.enc.map PyData.int := by
    have := cut_mid (T.nd l r).enc (i := 1) (j := 1 + l.enc.length) (by simp [T.enc]) (by simp [T.enc]; omega)
    rw [show ((1 : Nat) : Int) = 1 from rfl] at this
    rw [this]
    simp [T.enc]
  have e2 : cutD ((T.nd l r).enc.map PyData.int) (some ((1 + l.enc.length : Nat) : Int)) none = r.enc.map PyData.int := by
    rw [cut_end (T.nd l r).enc (by simp [T.enc]; omega)]
    simp [T.enc, Nat.add_comm 1]
  show P (.im (.tuple [.tuple _, .tuple _]))
  rw [e1, e2]
  exact p

/-! ### counts -/
def cntO : Option T → Option T → Int
  | none, none => 1
  | some _, none => 0
  | p, some t => cnt p t
theorem cnt_none (t : T) : cnt none t = 1 := by cases t <;> rfl
theorem cnt_bd : ∀ (t : T) (p : Option T), 0 ≤ cnt p t ∧ (∀ q, p = some q → cnt p t ≤ 2 ^ t.lv - 1)
  | t, none => by rw [cnt_none]; exact ⟨by decide, fun q h => by cases h⟩
  | .lf a, some p => by
    simp only [cnt, T.lv]
    refine ⟨by split <;> decide, fun q _ => by split <;> decide⟩
  | .nd l r, some p => by
    have hl := (cnt_bd l (some p))
    have hr := (cnt_bd r (some p))
    have hl2 := hl.2 p rfl
    have hr2 := hr.2 p rfl
    have pw : (2 : Int) ^ (l.lv + r.lv) = 2 ^ l.lv * 2 ^ r.lv := Int.pow_add ..
    cases p with
    | lf a =>
      simp only [cnt, T.lv]
      refine ⟨by omega, fun q _ => ?_⟩
      have a1 : (1 : Int) ≤ 2 ^ l.lv := by have := hl.1; omega
      have b1 : (1 : Int) ≤ 2 ^ r.lv := by have := hr.1; omega
      have : (0 : Int) ≤ (2 ^ l.lv - 1) * (2 ^ r.lv - 1) := Int.mul_nonneg (by omega) (by omega)
      rw [Int.sub_mul, Int.mul_sub] at this
      rw [pw]; omega
    | nd q s =>
      have hq := cnt_bd l (some q)
      have hs := cnt_bd r (some s)
      have hq2 := hq.2 q rfl
      have hs2 := hs.2 s rfl
      simp only [cnt, T.lv]
      have m0 : 0 ≤ cnt (some q) l * cnt (some s) r := Int.mul_nonneg hq.1 hs.1
      refine ⟨by omega, fun _ _ => ?_⟩
      have m1 : cnt (some q) l * cnt (some s) r ≤ (2 ^ l.lv - 1) * (2 ^ r.lv - 1) := Int.mul_le_mul hq2 hs2 hs.1 (by have := hq.1; omega)
      rw [Int.sub_mul, Int.mul_sub] at m1
      rw [pw]; omega
theorem cnt_le (p : Option T) (t : T) : (cnt p t).natAbs ≤ 2 ^ t.lv := by
  have h := cnt_bd t p
  have hp : (0 : Int) < 2 ^ t.lv := Int.pow_pos (by decide)
  have e : ((2 ^ t.lv : Nat) : Int) = 2 ^ t.lv := by norm_cast
  cases p with
  | none => rw [cnt_none]; have := Nat.one_le_two_pow (n := t.lv); simpa using this
  | some q => have := h.2 q rfl; omega
theorem cnt_log (p : Option T) (t : T) : (cnt p t).natAbs.log2 ≤ t.lv := by
  by_cases h : (cnt p t).natAbs = 0
  · rw [h]; simp
  · have h1 := Nat.log2_self_le h
    have h2 := cnt_le p t
    exact (Nat.pow_le_pow_iff_right (by decide)).mp (Nat.le_trans h1 h2)
def C_count_of (n : Nat) : Ct := fun rs P => ∃ p t : Option T, rs = [.im (tD (encO p)), .im (tD (encO t))] ∧ okO p ∧ okO t ∧ lvO t < n ∧ lvO t ≤ 1000 ∧ P (.im (.int (cntO p t)))
theorem ix0 {x : Int} {r : List Int} : atI ((x :: r).map PyData.int) 0 = some (.int x) := atI_drop (k := 0) (ns := x :: r) (r := r) rfl
theorem ss_count_of {n : Nat} (h : C_count_of (n + 1) rs P) : SS K m H0 (t_count_of K C_sides_of (C_count_of n)) (ent 7 rs) { rt := P, nx := fun _ => P (.im .none) } := by
  obtain ⟨p, t, rfl, hp, ht, hn, h1, q⟩ := h
  refine ss_seq (ss_if (et_or (et_of (e_eqT (e_var rfl (e_nilT ⟨_, _, rfl, rfl, _, rfl, ?_⟩))))))
  by_cases hpn : encO p = []
  · rw [decide_eq_true hpn]
    refine ss_ret (e_cb (ea_cons (e_eqT (e_var rfl (e_nilT ⟨_, _, rfl, rfl, ea_nil (rc_intB ⟨rfl, ?_⟩)⟩)))))
    rw [decide_eq_true hpn]
    obtain rfl := encO_nil.mp hpn
    cases t with
    | none => exact q
    | some t => rw [show cntO none (some t) = cnt none t from rfl, cnt_none] at q; exact q
  · rw [decide_eq_false hpn]
    refine et_of (e_eqT (e_var rfl (e_nilT ⟨_, _, rfl, rfl, _, rfl, ?_⟩)))
    obtain ⟨p, rfl⟩ : ∃ p', p = some p' := by
      cases p with
      | none => exact absurd rfl hpn
      | some p => exact ⟨p, rfl⟩
    cases t with
    | none =>
      rw [show decide (encO none = []) = true from rfl]
      refine ss_ret (e_cb (ea_cons (e_eqT (e_var rfl (e_nilT ⟨_, _, rfl, rfl, ea_nil (rc_intB ⟨rfl, ?_⟩)⟩)))))
      rw [decide_eq_false hpn]
      exact q
    | some t =>
      rw [show decide (encO (some t) = []) = false from decide_eq_false fun z => by cases encO_nil.mp z]
      refine ss_next ?_
      cases t with
      | lf a =>
        refine ss_seq (ss_if (et_of (e_neI (e_op (e_var rfl (e_int (rr_ixT ix0 (e_neg ⟨_, _, rfl, rfl, _, rfl, ?_⟩))))))))
        rw [decide_eq_false (show ¬ a = -1 from ht)]
        refine ss_ret (e_cb (ea_cons (e_eqT (e_var rfl (e_var rfl ⟨_, _, rfl, rfl, ea_nil (rc_intB ⟨rfl, ?_⟩)⟩)))))
        have e : (encO (some p) = encO (some (.lf a))) ↔ p = .lf a := ⟨fun z => by have := encO_inj hp ht z; injection this, fun z => by rw [z]⟩
        rw [show cntO (some p) (some (.lf a)) = (if p = .lf a then 1 else 0) from rfl] at q
        by_cases z : p = .lf a
        · rw [if_pos z] at q; rw [decide_eq_true (e.mpr z)]; exact q
        · rw [if_neg z] at q; rw [decide_eq_false fun y => z (e.mp y)]; exact q
      | nd l r =>
        have lvl := l.lv_pos
        have lvr := r.lv_pos
        have hlv : l.lv + r.lv < n + 1 := hn
        have h1' : l.lv + r.lv ≤ 1000 := h1
        refine ss_seq (ss_if (et_of (e_neI (e_op (e_var rfl (e_int (rr_ixT ix0 (e_neg ⟨_, _, rfl, rfl, _, rfl, ?_⟩))))))))
        refine ss_next (ss_seq (ss_asgT [2, 3] (e_callP (ea_cons (e_var rfl (ea_nil ⟨l, r, rfl, ht.1, ht.2, _, rfl, gt_tup2 ?_⟩))))))
        refine ss_seq (ss_asg (e_op (e_callP (ea_cons (e_var rfl (ea_cons (e_var rfl (ea_nil ⟨some p, some l, rfl, hp, ht.1, by show l.lv < n; omega, by show l.lv ≤ 1000; omega, ?_⟩))))))))
        refine e_callP (ea_cons (e_var rfl (ea_cons (e_var rfl (ea_nil ⟨some p, some r, rfl, hp, ht.2, by show r.lv < n; omega, by show r.lv ≤ 1000; omega, rr_i ?_⟩)))))
        cases p with
        | lf a =>
          refine ss_seq (ss_if (et_of (e_eqI (e_op (e_var rfl (e_int (rr_ixT ix0 (e_neg ⟨_, _, rfl, rfl, _, rfl, ?_⟩))))))))
          rw [decide_eq_false (show ¬ a = -1 from hp)]
          refine ss_next (ss_ret (e_var rfl ⟨rfl, ?_⟩))
          rw [show cntO (some (.lf a)) (some (.nd l r)) = cnt (some (.lf a)) l + cnt (some (.lf a)) r + 0 from rfl, Int.add_zero] at q
          exact q
        | nd u v =>
          refine ss_seq (ss_if (et_of (e_eqI (e_op (e_var rfl (e_int (rr_ixT ix0 (e_neg ⟨_, _, rfl, rfl, _, rfl, ?_⟩))))))))
          refine ss_seq (ss_asgT [5, 6] (e_callP (ea_cons (e_var rfl (ea_nil ⟨u, v, rfl, hp.1, hp.2, _, rfl, gt_tup2 ?_⟩)))))
          refine ss_asg (e_op (e_var rfl (e_op (e_callP (ea_cons (e_var rfl (ea_cons (e_var rfl (ea_nil ⟨some u, some l, rfl, hp.1, ht.1, by show l.lv < n; omega, by show l.lv ≤ 1000; omega, ?_⟩))))))))) 
          refine e_callP (ea_cons (e_var rfl (ea_cons (e_var rfl (ea_nil ⟨some v, some r, rfl, hp.2, ht.2, by show r.lv < n; omega, by show r.lv ≤ 1000; omega, rr_ic ?_ (rr_i ?_)⟩)))))
          · have a1 := cnt_log (some u) l
            have a2 := cnt_log (some v) r
            show (cnt (some u) l).natAbs.log2 + (cnt (some v) r).natAbs.log2 < 1000000
            omega
          · exact ss_ret (e_var rfl ⟨rfl, q⟩)
end
end Rd

set_option Elab.async false
set_option linter.all false
set_option maxRecDepth 100000
set_option maxHeartbeats 2000000
namespace Rd
open PySem L2 Rt StX
section
variable {K : PySem.W.Frag} {m : Mode} {H0 : Hp} {rs : List R} {P : R → Prop} {Γ : Gm} {ta tb te : TE} {B : Bool → Prop} {O : Po}

/-! ### a few rules -/
theorem e_catT (h : E K m H0 ta Γ fun x => E K m H0 tb Γ fun y => ∃ a b : List Int, x = .im (tD a) ∧ y = .im (tD b) ∧ a.length + b.length ≤ 1000000 ∧ P (.im (tD (a ++ b)))) : E K m H0 (tOp (rCatA K) ta tb) Γ P :=
  e_op (h.imp fun x hx => hx.imp fun y ⟨a, b, e1, e2, z, p⟩ => by
    subst e1 e2
    refine rr_cat (by rw [List.length_map, List.length_map]; exact z) ?_
    rw [← List.map_append]; exact p)
theorem e_one (h : E K m H0 ta Γ fun x => ∃ i : Int, x = .im (.int i) ∧ P (.im (tD [i]))) : E K m H0 (tTup (tCons ta tNil)) Γ P :=
  e_tup (ea_cons (h.imp fun x ⟨i, e, p⟩ => ea_nil ⟨[.int i], by subst e; rfl, by show 1 ≤ 1000000; decide, p⟩))
/-- the mark alone -/
theorem e_mark (p : P (.im (tD [-1]))) : E K m H0 (tTup (tCons (tUn (rU fun i => .int (-i)) (tC (.int 1))) tNil)) Γ P := e_one (e_neg ⟨-1, rfl, p⟩)
/-- -1 before both -/
theorem e_join {a b : List Int} (ha : E K m H0 ta Γ fun x => x = .im (tD a)) (hb : E K m H0 tb Γ fun x => x = .im (tD b)) (z : a.length + b.length < 1000000) (p : P (.im (tD (-1 :: (a ++ b))))) :
    E K m H0 (tOp (rCatA K) (tOp (rCatA K) (tTup (tCons (tUn (rU fun i => .int (-i)) (tC (.int 1))) tNil)) ta) tb) Γ P :=
  e_catT (e_catT (e_mark (ha.imp fun x ex => ⟨[-1], a, rfl, ex, by show 1 + a.length ≤ 1000000; omega, hb.imp fun y ey => ⟨[-1] ++ a, b, rfl, ey, by simp; omega, p⟩⟩)))
theorem e_lenT {a : List Int} (h : E K m H0 ta Γ fun x => x = .im (tD a)) (p : P (.im (.int a.length))) : E K m H0 (tCB (rLenQ K) (tCons ta tNil)) Γ P :=
  e_cb (ea_cons (h.imp fun x e => ea_nil (by subst e; exact rc_len (ds := a.map .int) rfl (by rw [List.length_map]; exact p))))
theorem e_v {i : Nat} {r : R} (h : (Γ[i]?).bind Sl.r = some r) : E K m H0 (tVar i) Γ fun x => x = r := e_var h rfl

/-! ### turned trees -/
def turn (m : Int) (ns : List Int) : T → T
  | .lf a => .lf (if 0 ≤ a then ns.getD a.toNat 0 else a)
  | .nd l r => if m = 1 then .nd (turn m ns r) (turn m ns l) else .nd (turn m ns l) (turn m ns r)
/-- leaves: k letters, and unknowns -/
def lets (k : Nat) : T → Prop
  | .lf a => (0 ≤ a ∧ a < k) ∨ (a < -1 ∧ -5 < a)
  | .nd l r => lets k l ∧ lets k r
theorem lets_ok {k : Nat} : ∀ t : T, lets k t → t.ok
  | .lf a, h => by simp only [lets] at h; simp only [T.ok]; omega
  | .nd l r, h => ⟨lets_ok l h.1, lets_ok r h.2⟩
theorem turn_lv (m : Int) (ns : List Int) : ∀ t : T, (turn m ns t).lv = t.lv
  | .lf a => rfl
  | .nd l r => by
    simp only [turn]
    split
    · simp only [T.lv, turn_lv m ns l, turn_lv m ns r]; omega
    · simp only [T.lv, turn_lv m ns l, turn_lv m ns r]
theorem getD_mem {ns : List Int} {i : Nat} (h : i < ns.length) : ns.getD i 0 ∈ ns := by
  rw [List.getD_eq_getElem?_getD, List.getElem?_eq_getElem h]
  exact List.getElem_mem h
theorem turn_lets {m : Int} {ns : List Int} {k : Nat} (hn : ∀ n ∈ ns, 0 ≤ n ∧ n < k) : ∀ t : T, lets ns.length t → lets k (turn m ns t)
  | .lf a, h => by
    simp only [lets] at h
    simp only [turn, lets]
    by_cases h0 : 0 ≤ a
    · rw [if_pos h0]
      have := hn _ (getD_mem (ns := ns) (i := a.toNat) (by omega))
      omega
    · rw [if_neg h0]; omega
  | .nd l r, h => by
    simp only [turn]
    split
    · exact ⟨turn_lets hn r h.2, turn_lets hn l h.1⟩
    · exact ⟨turn_lets hn l h.1, turn_lets hn r h.2⟩
def letsO (k : Nat) : Option T → Prop
  | none => True
  | some t => lets k t
theorem letsO_ok {k : Nat} {t : Option T} (h : letsO k t) : okO t := by
  cases t with
  | none => trivial
  | some t => exact lets_ok t h
def turnO (m : Int) (ns : List Int) : Option T → Option T := Option.map (turn m ns)
theorem turnO_lv (m : Int) (ns : List Int) (t : Option T) : lvO (turnO m ns t) = lvO t := by
  cases t with
  | none => rfl
  | some t => exact turn_lv m ns t
theorem turnO_lets {m : Int} {ns : List Int} {k : Nat} (hn : ∀ n ∈ ns, 0 ≤ n ∧ n < k) {t : Option T} (h : letsO ns.length t) : letsO k (turnO m ns t) := by
  cases t with
  | none => trivial
  | some t => exact turn_lets hn t h
/-- names, of which the tuple is known or not -/
def nD (b : Bool) (ns : List Int) : PyData := if b = true then bD ns else tD ns
def tuD (b : Bool) (m : Int) (ns : List Int) : PyData := .tuple [.int m, nD b ns]
theorem un_nD (b : Bool) (ns : List Int) : un (nD b ns) = tD ns := by
  cases b
  · exact un_tD ns
  · exact un_bD ns
theorem rr_ixN {b : Bool} {ns : List Int} {i : Int} {d : PyData} (e : atI (ns.map PyData.int) i = some d) (p : P (.im d)) : RR K m H0 (rIxT K) (.im (nD b ns)) (.im (.int i)) Γ P := by
  cases b
  · exact rr_ixT e p
  · exact rr_ixB e p
theorem iw_N {b : Bool} {P' : List PyData → Prop} {ns : List Int} (h : E K m H0 te Γ fun r => r = .im (nD b ns)) (p : P' (ns.map .int)) : IW (K := K) (m := m) (H0 := H0) (iTup K te) Γ P' := by
  cases b
  · exact iw_T (h.imp fun r e => ⟨ns.map .int, e, p⟩)
  · exact iw_B (h.imp fun r e => ⟨ns.map .int, e, p⟩)
theorem e_lenN {b : Bool} {ns : List Int} (h : E K m H0 ta Γ fun x => x = .im (nD b ns)) (p : P (.im (.int ns.length))) : E K m H0 (tCB (rLenQ K) (tCons ta tNil)) Γ P := by
  cases b
  · exact e_lenT h p
  · exact e_cb (ea_cons (h.imp fun x e => ea_nil (by subst e; exact rc_lenB (ds := ns.map .int) (by rw [List.length_map]; exact p))))
theorem at_let {ns : List Int} {a : Int} (h0 : 0 ≤ a) (h1 : a < ns.length) : atI (ns.map PyData.int) a = some (.int (ns.getD a.toNat 0)) := by
  obtain ⟨k, rfl⟩ : ∃ k : Nat, a = k := ⟨a.toNat, by omega⟩
  have hk : k < ns.length := by omega
  apply atI_nat
  rw [List.getElem?_map, List.getElem?_eq_getElem hk, List.getD_eq_getElem?_getD, Int.toNat_natCast, List.getElem?_eq_getElem hk]; rfl

/-! ### the law's own def -/
def C__law_put : Ct := fun rs P => ∃ s t : Option T, rs = [.im (tD (encO s)), .im (tD (encO t))] ∧ okO s ∧ okO t ∧ lvO s + lvO t ≤ 1000 ∧ P (.im (tD (encO (putO s t))))
def C__law_split : Ct := fun rs P => ∃ l r : T, rs = [.im (tD (T.nd l r).enc)] ∧ l.ok ∧ r.ok ∧ l.lv + r.lv ≤ 1000 ∧ P (.im (.tuple [tD l.enc, tD r.enc]))
def C__law_turned (n : Nat) : Ct := fun rs P => ∃ (t : Option T) (b : Bool) (m : Int) (ns : List Int), rs = [.im (tD (encO t)), .im (tuD b m ns)] ∧ letsO ns.length t ∧ lvO t < n ∧ lvO t ≤ 1000 ∧ P (.im (tD (encO (turnO m ns t))))
/-- the letter of a leaf -/
theorem e_leaf {b : Bool} {mi : Int} {ns : List Int} {a : Int} {tc td : TE} (hc : ∀ P : R → Prop, P (.im (.int a)) → E K m H0 tc Γ P) (hn : ∀ P : R → Prop, P (.im (nD b ns)) → E K m H0 td Γ P)
    (hl : lets ns.length (.lf a)) (p : P (.im (tD (turn mi ns (.lf a)).enc))) :
    E K m H0 (tTup (tCons (tIf (tTest (tOp (rI0 fun i j => .bl (decide (j ≤ i))) tc (tC (.int 0)))) (tOp (rIxT K) td tc) tc) tNil)) Γ P := by
  refine e_one (e_if (et_cmp (e_op (hc _ (e_int (rr_b ⟨_, rfl, ?_⟩))))))
  by_cases h0 : 0 ≤ a
  · rw [decide_eq_true h0]
    refine e_op (hn _ (hc _ (rr_ixN (at_let h0 ?_) ⟨_, rfl, ?_⟩)))
    · simp only [lets] at hl; omega
    · simp only [turn, T.enc, if_pos h0] at p; exact p
  · rw [decide_eq_false h0]
    refine hc _ ⟨_, rfl, ?_⟩
    simp only [turn, T.enc, if_neg h0] at p; exact p
theorem ss__law_turned {n : Nat} (h : C__law_turned (n + 1) rs P) : SS K m H0 (t__law_turned K C__law_split (C__law_turned n)) (ent 5 rs) { rt := P, nx := fun _ => P (.im .none) } := by
  obtain ⟨t, b, mi, ns, rfl, hl, hn, h1, p⟩ := h
  refine ss_seq (ss_if (et_cmp (e_op (e_lenT (e_v rfl) (e_int (rr_b ⟨_, rfl, ?_⟩))))))
  cases t with
  | none =>
    rw [decide_eq_true (by show ((([] : List Int).length : Nat) : Int) < 2; decide)]
    refine ss_ret (e_if (et_of (e_neT (e_var rfl (e_nilT ⟨_, _, rfl, rfl, _, rfl, ?_⟩)))))
    rw [show decide (encO none = []) = true from rfl]
    exact e_nilT ⟨rfl, p⟩
  | some t =>
    cases t with
    | lf a =>
      rw [decide_eq_true (by show ((([a] : List Int).length : Nat) : Int) < 2; simp)]
      refine ss_ret (e_if (et_of (e_neT (e_var rfl (e_nilT ⟨_, _, rfl, rfl, _, rfl, ?_⟩)))))
      rw [show decide (encO (some (.lf a)) = []) = false from rfl]
      refine e_leaf (a := a) (b := b) (ns := ns) (mi := mi) (fun P p => e_op (e_var rfl (e_int (rr_ixT ix0 p)))) (fun P p => e_op (e_var rfl (e_int (rr_ixT (d := nD b ns) rfl p)))) hl ⟨rfl, p⟩
    | nd l r =>
      have lvl := l.lv_pos
      have lvr := r.lv_pos
      have el := l.enc_len
      have er := r.enc_len
      have hlv : l.lv + r.lv < n + 1 := hn
      have h1' : l.lv + r.lv ≤ 1000 := h1
      have hok := lets_ok _ (show lets ns.length (.nd l r) from hl)
      rw [decide_eq_false (by show ¬ ((((T.nd l r).enc.length : Nat) : Int) < 2); simp only [T.enc, List.length_cons, List.length_append]; omega)]
      refine ss_next (ss_seq (ss_asgL2 (e_lc (js := [4]) (by decide) (iw_T (e_callP (ea_cons (e_var rfl (ea_nil ⟨l, r, rfl, hok.1, hok.2, h1', [tD l.enc, tD r.enc], rfl, by show 2 ≤ 1000000; decide,
        fun i acc => acc = [tD (turn mi ns l).enc, tD (turn mi ns r).enc].take i, rfl, ?_, ?_⟩))))).e)))
      · intro i d acc hd ha
        refine gt_name (et_yes ?_)
        match i, hd with
        | 0, hd =>
          obtain rfl : tD l.enc = d := Option.some.inj hd
          exact e_callP (ea_cons (e_var rfl (ea_cons (e_var rfl (ea_nil ⟨some l, b, mi, ns, rfl, hl.1, by show l.lv < n; omega, by show l.lv ≤ 1000; omega, _, rfl, by rw [ha]; rfl⟩)))))
        | 1, hd =>
          obtain rfl : tD r.enc = d := Option.some.inj hd
          exact e_callP (ea_cons (e_var rfl (ea_cons (e_var rfl (ea_nil ⟨some r, b, mi, ns, rfl, hl.2, by show r.lv < n; omega, by show r.lv ≤ 1000; omega, _, rfl, by rw [ha]; rfl⟩)))))
        | i + 2, hd => simp at hd
      · intro acc ha
        refine ⟨_, _, by rw [ha]; rfl, ?_⟩
        have tl := turn_lv mi ns l
        have tr := turn_lv mi ns r
        have etl := (turn mi ns l).enc_len
        have etr := (turn mi ns r).enc_len
        refine ss_ret (e_if (et_of (e_eqI (e_op (e_var rfl (e_int (rr_ixT (d := .int mi) rfl (e_int ⟨_, _, rfl, rfl, _, rfl, ?_⟩))))))))
        simp only [turnO, Option.map_some, encO, turn] at p
        by_cases hm : mi = 1
        · rw [decide_eq_true hm]
          rw [if_pos hm] at p
          exact e_join (e_v rfl) (e_v rfl) (by omega) ⟨rfl, p⟩
        · rw [decide_eq_false hm]
          rw [if_neg hm] at p
          exact e_join (e_v rfl) (e_v rfl) (by omega) ⟨rfl, p⟩

/-! ### split, put -/
theorem encs_enum (ns : List Int) (j : Nat) (x : Int) (r : List Int) (h : ns.drop j = x :: r) : ns[j]? = some x ∧ ns.drop (j + 1) = r := by
  have hj : j < ns.length := by
    by_cases hj : j < ns.length
    · exact hj
    · rw [List.drop_eq_nil_of_le (by omega)] at h; cases h
  rw [List.drop_eq_getElem_cons hj] at h
  injection h with h1 h2
  exact ⟨by rw [List.getElem?_eq_getElem hj, h1], h2⟩
theorem ss__law_split (h : C__law_split rs P) : SS K m H0 (t__law_split K) (ent 4 rs) { rt := P, nx := fun _ => P (.im .none) } := by
  obtain ⟨l, r, rfl, hl, hr, hz, p⟩ := h
  have el := l.enc_len
  have er := r.enc_len
  have lvl := l.lv_pos
  have lvr := r.lv_pos
  have e1 : cutD ((T.nd l r).enc.map PyData.int) (some (1 : Int)) none = (l.enc ++ r.enc).map PyData.int := by
    have := cut_end (T.nd l r).enc (i := 1) (by simp [T.enc])
    rw [show ((1 : Nat) : Int) = 1 from rfl] at this
    rw [this]; simp [T.enc]
  refine ss_seq (ss_asg (e_int ?_))
  refine ss_seq (ss_for (g := gTup K 2 (gCons (gName 2) (gCons (gName 3) gNil))) (js := [2, 3]) (iw_En (e_slT (e_var rfl (eo_some (e_int ⟨_, rfl, eo_no ⟨_, rfl, (l.enc ++ r.enc).map .int, by rw [e1], ?_⟩⟩))))))
  refine ⟨fun i Γ => ∃ (ts : List T) (x y : Sl), Γ = [.im (tD (T.nd l r).enc), .im (.int ((ts.length : Int) - 1)), x, y] ∧ ts ≠ [] ∧ (∀ s ∈ ts, s.ok) ∧ (l.enc ++ r.enc).drop i = encs ts ++ r.enc ∧ i + (encs ts).length = l.enc.length, ?_, ?_, ?_⟩
  · exact ⟨[l], _, _, rfl, by simp, by simpa using hl, by simp [encs], by simp [encs]⟩
  · rintro i d Γ hd ⟨ts, x, y, rfl, hne, hok, hdr, hlen⟩
    cases ts with
    | nil => exact absurd rfl hne
    | cons s ts =>
    have fin : ∀ (v : Int) (us : List T), v = (us.length : Int) - 1 → (∀ s ∈ us, s.ok) → (l.enc ++ r.enc).drop (i + 1) = encs us ++ r.enc → (i + 1) + (encs us).length = l.enc.length → ∀ q : PyData,
        SS K m H0 (tIfS (tTest (tOp (rI0 fun i j => .bl (decide (i < j))) (tVar 1) (tC (.int 0)))) (tRet (tTup (tCons (tSl (rSlA K) (tVar 0) (tPart (tC (.int 1))) (tPart (tOp (rI0 fun i j => .int (i + j)) (tVar 2) (tC (.int 2))))) (tCons (tSl (rSlA K) (tVar 0) (tPart (tOp (rI0 fun i j => .int (i + j)) (tVar 2) (tC (.int 2)))) tNoPart) tNil)))) tNext)
          [.im (tD (T.nd l r).enc), .im (.int v), .im (.int (i : Nat)), .im q]
          { nx := fun Γ => ∃ (ts : List T) (x y : Sl), Γ = [.im (tD (T.nd l r).enc), .im (.int ((ts.length : Int) - 1)), x, y] ∧ ts ≠ [] ∧ (∀ s ∈ ts, s.ok) ∧ (l.enc ++ r.enc).drop (i + 1) = encs ts ++ r.enc ∧ (i + 1) + (encs ts).length = l.enc.length, rt := P, 
            ct := fun Γ => ∃ (ts : List T) (x y : Sl), Γ = [.im (tD (T.nd l r).enc), .im (.int ((ts.length : Int) - 1)), x, y] ∧ ts ≠ [] ∧ (∀ s ∈ ts, s.ok) ∧ (l.enc ++ r.enc).drop (i + 1) = encs ts ++ r.enc ∧ (i + 1) + (encs ts).length = l.enc.length,
            bk := fun Γ' => SS K m H0 (tRet (tC .non)) Γ' { rt := P, nx := fun _ => P (.im .none) } } := fun v us hv huo hud hul q => by
      refine ss_if (et_cmp (e_op (e_var rfl (e_int (rr_b ⟨_, rfl, ?_⟩)))))
      cases us with
      | nil =>
        subst hv
        rw [decide_eq_true (by simp)]
        have hi : i + 1 = l.enc.length := by simpa [encs] using hul
        refine ss_ret (e_tup (ea_cons ?_))
        refine e_slT (e_var rfl (eo_some (e_int ⟨_, rfl, eo_some (e_op (e_var rfl (e_int (rr_i ⟨_, rfl, _, rfl, ea_cons ?_⟩))))⟩)))
        refine e_slT (e_var rfl (eo_some (e_op (e_var rfl (e_int (rr_i ⟨_, rfl, eo_no ⟨_, rfl, ea_nil ⟨_, rfl, by show 2 ≤ 1000000; decide, rfl, ?_⟩⟩⟩)))))) 
        have ei : ((i : Nat) : Int) + 2 = ((1 + l.enc.length : Nat) : Int) := by omega
        rw [ei]
        have c1 : cutD ((T.nd l r).enc.map PyData.int) (some (1 : Int)) (some ((1 + l.enc.length : Nat) : Int)) = l.enc.map PyData.int := by
          have := cut_mid (T.nd l r).enc (i := 1) (j := 1 + l.enc.length) (by simp [T.enc]) (by simp [T.enc]; omega)
          rw [show ((1 : Nat) : Int) = 1 from rfl] at this
          rw [this]; simp [T.enc]
        have c2 : cutD ((T.nd l r).enc.map PyData.int) (some ((1 + l.enc.length : Nat) : Int)) none = r.enc.map PyData.int := by
          rw [cut_end (T.nd l r).enc (by simp [T.enc]; omega)]
          simp [T.enc, Nat.add_comm 1]
        show P (.im (.tuple [.tuple _, .tuple _]))
        rw [c1, c2]
        exact p
      | cons u us =>
        rw [decide_eq_false (by rw [hv, List.length_cons]; omega)]
        exact ss_next ⟨u :: us, _, _, by rw [hv], by simp, huo, hud, hul⟩
    have hd' : ∀ (x : Int) (q : List Int), (l.enc ++ r.enc).drop i = x :: q → d = .tuple [.int (i : Nat), .int x] ∧ (l.enc ++ r.enc).drop (i + 1) = q := fun x q hq => by
      obtain ⟨e1, e2⟩ := encs_enum _ _ _ _ hq
      have := enumD_get ((l.enc ++ r.enc).map .int) 0 i (.int x) (by rw [List.getElem?_map, e1]; rfl)
      rw [this, Nat.zero_add] at hd
      exact ⟨(Option.some.inj hd).symm, e2⟩
    cases s with
    | lf a =>
      have ha : a ≠ -1 := hok (.lf a) List.mem_cons_self
      obtain ⟨rfl, hq⟩ := hd' a (encs ts ++ r.enc) (by simpa [encs, T.enc] using hdr)
      refine gt_tup2 (ss_seq (ss_asg (e_if (et_of (e_eqI (e_var rfl (e_neg ⟨_, _, rfl, rfl, _, rfl, ?_⟩)))))))
      rw [decide_eq_false ha]
      refine e_op (e_var rfl (e_int (rr_i ?_)))
      exact fin _ ts (by rw [List.length_cons]; omega) (fun s hs => hok s (List.mem_cons_of_mem _ hs)) hq (by simp [encs, T.enc] at hlen ⊢; omega) _
    | nd u v =>
      have hok' := hok (.nd u v) List.mem_cons_self
      obtain ⟨rfl, hq⟩ := hd' (-1) (encs (u :: v :: ts) ++ r.enc) (by simpa [encs, T.enc] using hdr)
      refine gt_tup2 (ss_seq (ss_asg (e_if (et_of (e_eqI (e_var rfl (e_neg ⟨_, _, rfl, rfl, _, rfl, ?_⟩)))))))
      rw [decide_eq_true rfl]
      refine e_op (e_var rfl (e_int (rr_i ?_)))
      refine fin _ (u :: v :: ts) (by simp only [List.length_cons]; omega) (fun s hs => ?_) hq (by simp [encs, T.enc] at hlen ⊢; omega) _
      simp only [List.mem_cons] at hs
      rcases hs with rfl | rfl | hs
      · exact hok'.1
      · exact hok'.2
      · exact hok s (List.mem_cons_of_mem _ hs)
  · rintro Γ ⟨ts, x, y, rfl, hne, hok, hdr, hlen⟩
    exfalso
    rw [enumD_len, List.length_map, List.length_append] at hlen
    have : 0 < (encs ts).length := by
      cases ts with
      | nil => exact absurd rfl hne
      | cons s ts => have := s.enc_pos; simp [encs]; omega
    omega
theorem ss__law_put (h : C__law_put rs P) : SS K m H0 (t__law_put K) (ent 2 rs) { rt := P, nx := fun _ => P (.im .none) } := by
  obtain ⟨s, t, rfl, hs, ht, z, p⟩ := h
  refine ss_ret (e_if (et_of (e_eqT (e_var rfl (e_nilT ⟨_, _, rfl, rfl, _, rfl, ?_⟩)))))
  cases s with
  | none =>
    rw [show decide (encO none = []) = true from rfl]
    exact e_var rfl ⟨rfl, p⟩
  | some s =>
    rw [show decide (encO (some s) = []) = false from decide_eq_false fun z => by cases encO_nil.mp z]
    refine e_if (et_of (e_eqT (e_var rfl (e_nilT ⟨_, _, rfl, rfl, _, rfl, ?_⟩))))
    cases t with
    | none =>
      rw [show decide (encO none = []) = true from rfl]
      exact e_var rfl ⟨rfl, p⟩
    | some t =>
      rw [show decide (encO (some t) = []) = false from decide_eq_false fun z => by cases encO_nil.mp z]
      have es := s.enc_len
      have et := t.enc_len
      have z' : s.lv + t.lv ≤ 1000 := z
      exact e_join (e_v rfl) (e_v rfl) (by show s.enc.length + t.enc.length < _; omega) ⟨rfl, p⟩
end
end Rd

set_option Elab.async false
set_option linter.all false
set_option maxRecDepth 100000
set_option maxHeartbeats 2000000
namespace Rd
open PySem L2 Rt StX
section
variable {K : PySem.W.Frag} {m : Mode} {H0 : Hp} {rs : List R} {P : R → Prop} {Γ : Gm} {ta tb te : TE} {B : Bool → Prop} {O : Po}
/-- turned_from(parts, turning): takes one tree off the list -/
def S_turned_from (K : PySem.W.Frag) (n : Nat) : Sp := fun vs H Q _ => ∃ (a : Addr) (v : V) (t : T) (rest : List Int) (b : Bool) (mi : Int) (ns : List Int), vs = [.ref a, v] ∧ H a = some (.lst ((t.enc ++ rest).map .int)) ∧ Im K H v (tuD b mi ns) ∧
  lets ns.length t ∧ t.lv ≤ n ∧ t.lv ≤ 1000 ∧ ∀ w H', Step (fun x => x = a) H H' → H' a = some (.lst (rest.map .int)) → Im K H' w (tD (turn mi ns t).enc) → Q w H'
theorem imsOf_star (x : PyData) (a b : List PyData) : imsOf (R.im x :: (a.map R.im ++ (b.map R.im ++ []))) = some (x :: (a ++ b)) := by
  simp only [imsOf, List.append_nil]
  rw [imsOf_app (imsOf_map a) (imsOf_map b)]
  rfl
theorem raw_turned_from {n : Nat} {N : List Str} (hN : N.length = 7) {vs : List V} {H : Hp} {Q : VK} {E : XK} (h : S_turned_from K (n + 1) vs H Q E) :
    t_turned_from K (S_turned_from K n) { nx := fun _ H' => Q .non H', rt := Q } (L2.start N vs) H := by
  obtain ⟨a, v, t, rest, b, mi, ns, rfl, hl, im, hlets, hn, h1, q⟩ := h
  have S0 : Sta K pure0 H (ent N.length [.rf (.ref a), .im (tuD b mi ns)]) (L2.start N [.ref a, v]) H := sta_ent pure0_ok trivial (.cons rfl (.cons im .nil)) (by rw [hN]; show 2 ≤ 7; decide)
  rw [hN] at S0
  refine seg_seq (N := fun Γ => Γ = [.rf (.ref a), .im (tuD b mi ns), .im (.int mi), .im (nD b ns), .un, .un, .un]) (R' := fun _ => False) (ss_asgT [2, 3] (e_var rfl ⟨_, rfl, gt_tup2 rfl⟩)) S0 (fun Γ1 σ1 H1 st1 S1 e1 => ?_) fun _ _ _ _ _ z => z.elim
  subst e1
  have hl1 := st1.ob a _ (fun z => z) hl
  have nt := lst_noT hl1
  have hs : ∀ s ∈ ([.rf (.ref a), .im (tuD b mi ns), .im (.int mi), .im (nD b ns), .un, .un, .un] : Gm), simple s = true := by simp [simple]
  obtain ⟨x, tl, ex, hx⟩ : ∃ x tl, t.enc ++ rest = x :: tl ∧ ((∃ y, t = .lf y ∧ x = y ∧ tl = rest) ∨ ∃ l r, t = .nd l r ∧ x = -1 ∧ tl = l.enc ++ (r.enc ++ rest)) := by
    cases t with
    | lf y => exact ⟨y, rest, rfl, .inl ⟨y, rfl, rfl, rfl⟩⟩
    | nd l r => exact ⟨-1, l.enc ++ (r.enc ++ rest), by simp [T.enc], .inr ⟨l, r, rfl, rfl, rfl⟩⟩
  rw [ex] at hl1
  refine ⟨.ref a, S1.rf rfl, .inl ⟨rfl, _, .of hl1⟩, a, _, 0, 0, .int x, rfl, rfl, hl1, by decide, by decide, by simp [seqIndex?], rfl, ?_⟩
  have st2 : Step (fun x => x = a) H1 (upd H1 a (.lst (tl.map .int))) := .put rfl nt
  have S2 : Sta K pure0 (upd H1 a (.lst (tl.map .int))) [.rf (.ref a), .im (tuD b mi ns), .im (.int mi), .im (nD b ns), .im (.int x), .un, .un] (σ1.set 4 (some (.int x))) (upd H1 a (.lst (tl.map .int))) := (S1.reb st2.tp hs).set (i := 4) (r := .im (.int x)) (.int x)
  have hl2 : upd H1 a (.lst (tl.map .int)) a = some (.lst (tl.map .int)) := upd_same
  have st02 : Step (fun x => x = a) H (upd H1 a (.lst (tl.map .int))) := st1.wide0.trans st2
  rw [show ((x :: tl).map V.int).eraseIdx 0 = tl.map V.int from rfl]
  dsimp only [gName]
  generalize upd H1 a (.lst (tl.map .int)) = H2 at *
  rcases hx with ⟨y, rfl, rfl, rfl⟩ | ⟨l, r, rfl, rfl, rfl⟩
  · have hx1 : x ≠ -1 := lets_ok _ hlets
    refine seg_seq (N := fun Γ => False) (R' := fun r => r = .im (tD (turn mi ns (.lf x)).enc)) (ss_if (et_of (e_neI (e_var rfl (e_neg ⟨_, _, rfl, rfl, _, rfl, ?_⟩))))) S2 (fun _ _ _ _ _ z => z.elim) fun w r H3 st3 rt er => ?_
    · rw [decide_eq_false hx1]
      exact ss_ret (e_leaf (a := x) (b := b) (ns := ns) (mi := mi) (fun P p => e_var rfl p) (fun P p => e_var rfl p) hlets ⟨rfl, rfl⟩)
    · subst er
      exact q w H3 (st02.trans st3.wide0) (st3.ob a _ (fun z => z) hl2) rt
  · have lvl := l.lv_pos
    have lvr := r.lv_pos
    have hn' : l.lv + r.lv ≤ n + 1 := hn
    have h1' : l.lv + r.lv ≤ 1000 := h1
    refine seg_seq (N := fun Γ => Γ = [.rf (.ref a), .im (tuD b mi ns), .im (.int mi), .im (nD b ns), .im (.int (-1)), .un, .un]) (R' := fun _ => False) (ss_if (et_of (e_neI (e_var rfl (e_neg ⟨_, _, rfl, rfl, _, rfl, ?_⟩))))) S2 (fun Γ3 σ3 H3 st3 S3 e3 => ?_) fun _ _ _ _ _ z => z.elim
    · exact ss_next rfl
    subst e3
    have hl3 := st3.ob a _ (fun z => z) hl2
    obtain ⟨v3, ev3, im3⟩ := S3.imv (i := 1) rfl
    refine ⟨.ref a, S3.rf rfl, v3, ev3, a, v3, l, r.enc ++ rest, b, mi, ns, rfl, hl3, im3, hlets.1, by omega, by omega, fun w4 H4 st4 hl4 im4 => ?_⟩
    have S4 : Sta K pure0 H4 [.rf (.ref a), .im (tuD b mi ns), .im (.int mi), .im (nD b ns), .im (.int (-1)), .im (tD (turn mi ns l).enc), .un] (σ3.set 5 (some w4)) H4 := (S3.reb st4.tp (by simp [simple])).set (i := 5) (r := .im (tD (turn mi ns l).enc)) im4
    obtain ⟨v4, ev4, im4'⟩ := S4.imv (i := 1) rfl
    refine ⟨.ref a, S4.rf rfl, v4, ev4, a, v4, r, rest, b, mi, ns, rfl, hl4, im4', hlets.2, by omega, by omega, fun w5 H5 st5 hl5 im5 => ?_⟩
    have S5 : Sta K pure0 H5 [.rf (.ref a), .im (tuD b mi ns), .im (.int mi), .im (nD b ns), .im (.int (-1)), .im (tD (turn mi ns l).enc), .im (tD (turn mi ns r).enc)] ((σ3.set 5 (some w4)).set 6 (some w5)) H5 := (S4.reb st5.tp (by simp [simple])).set (i := 6) (r := .im (tD (turn mi ns r).enc)) im5
    have etl := (turn mi ns l).enc_len
    have etr := (turn mi ns r).enc_len
    have tvl := turn_lv mi ns l
    have tvr := turn_lv mi ns r
    refine seg (N := fun Γ => False) (R' := fun x => x = .im (tD (turn mi ns (.nd l r)).enc)) (ss_ret (e_if (et_of (e_eqI (e_var rfl (e_int ⟨_, _, rfl, rfl, _, rfl, ?_⟩)))))) S5 (fun _ _ _ _ _ z => z.elim) fun w x H6 st6 rt er => ?_
    · by_cases hm : mi = 1
      · rw [decide_eq_true hm]
        refine e_tup (ea_cons (e_neg (ea_star (e_var rfl ⟨(turn mi ns r).enc.map .int, rfl, ea_star (e_var rfl ⟨(turn mi ns l).enc.map .int, rfl, ea_nil ⟨_, imsOf_star _ _ _, ?_, rfl, ?_⟩⟩)⟩))))
        · simp; omega
        · simp [turn, hm, tD, T.enc]
      · rw [decide_eq_false hm]
        refine e_tup (ea_cons (e_neg (ea_star (e_var rfl ⟨(turn mi ns l).enc.map .int, rfl, ea_star (e_var rfl ⟨(turn mi ns r).enc.map .int, rfl, ea_nil ⟨_, imsOf_star _ _ _, ?_, rfl, ?_⟩⟩)⟩))))
        · simp; omega
        · simp [turn, hm, tD, T.enc]
    · subst er
      exact q w H6 ((((st02.trans st3.wide0).trans st4).trans st5).trans st6.wide0) (st6.ob a _ (fun z => z) hl5) rt

theorem e_turned_from {n i j : Nat} {t : T} {b : Bool} {mi : Int} {ns : List Int} (hi : Γ[i]? = some (.im (tD t.enc))) (hj : Γ[j]? = some (.im (tuD b mi ns))) (hl : lets ns.length t) (hn : t.lv ≤ n) (h1 : t.lv ≤ 1000) (p : P (.im (tD (turn mi ns t).enc))) :
    E K m H0 (tCall (S_turned_from K n) [] E0 (tCons (tCB (rListOf K) (tCons (tVar i) tNil)) (tCons (tVar j) tNil))) Γ P := fun σ H S Q k => by
  obtain ⟨v1, e1, im1⟩ := S.imv hi
  obtain ⟨v2, e2, im2⟩ := S.imv hj
  obtain ⟨a, xs, rfl, la, qa⟩ := Im.tup_inv' im1
  have ex := qa.ints_inv
  subst ex
  refine ⟨.ref a, e1, a, _, rfl, .inr (.of la), fun c hc => ⟨v2, e2, c, v2, t, [], b, mi, ns, rfl, by rw [List.append_nil]; exact upd_same, (Step.new (W := m.W) hc).im im2, hl, hn, h1, fun w H' st hl' im' => ?_⟩⟩
  have stF : Step (fun x => x = c) H H' := (Step.new hc).trans st
  exact k w (.im _) H' (stF.of_alone hc) ((S.new hc).alone st (S.none0 hc) (S.noW hc) (S.apart hc)) im' trivial p
/-! ### turned terms, trees, laws -/
def C_turned_term : Ct := fun rs P => ∃ (t : T) (b : Bool) (mi : Int) (ns : List Int), rs = [.im (tD t.enc), .im (tuD b mi ns)] ∧ lets ns.length t ∧ t.lv ≤ 8 ∧ P (.im (tD (turn mi ns t).enc))
theorem ss_turned_term (h : C_turned_term rs P) : SS K m H0 (t_turned_term K (S_turned_from K 8)) (ent 2 rs) { rt := P, nx := fun _ => P (.im .none) } := by
  obtain ⟨t, b, mi, ns, rfl, hl, hn, p⟩ := h
  exact ss_ret (e_turned_from rfl rfl hl hn (by omega) ⟨rfl, p⟩)
def C_turned_tree : Ct := fun rs P => ∃ (t : Option T) (b : Bool) (mi : Int) (ns : List Int), rs = [.im (tD (encO t)), .im (tuD b mi ns)] ∧ letsO ns.length t ∧ lvO t ≤ 8 ∧ P (.im (tD (encO (turnO mi ns t))))
theorem ss_turned_tree (h : C_turned_tree rs P) : SS K m H0 (t_turned_tree K C_turned_term) (ent 2 rs) { rt := P, nx := fun _ => P (.im .none) } := by
  obtain ⟨t, b, mi, ns, rfl, hl, hn, p⟩ := h
  refine ss_ret (e_if (et_of (e_neT (e_var rfl (e_nilT ⟨_, _, rfl, rfl, _, rfl, ?_⟩)))))
  cases t with
  | none =>
    rw [show decide (encO none = []) = true from rfl]
    exact e_nilT ⟨rfl, p⟩
  | some t =>
    rw [show decide (encO (some t) = []) = false from decide_eq_false fun z => by cases encO_nil.mp z]
    exact e_callP (ea_cons (e_var rfl (ea_cons (e_var rfl (ea_nil ⟨t, b, mi, ns, rfl, hl, hn, rfl, p⟩)))))
def lawD (p : T × T) : PyData := .tuple [tD p.1.enc, tD p.2.enc]
def lawsD (L : List (T × T)) : PyData := .tuple (L.map lawD)
def turn2 (mi : Int) (ns : List Int) (p : T × T) : T × T := (turn mi ns p.1, turn mi ns p.2)
def C_turned_laws : Ct := fun rs P => ∃ (L : List (T × T)) (b : Bool) (mi : Int) (ns : List Int), rs = [.im (lawsD L), .im (tuD b mi ns)] ∧ (∀ p ∈ L, lets ns.length p.1 ∧ lets ns.length p.2 ∧ p.1.lv ≤ 8 ∧ p.2.lv ≤ 8) ∧ L.length ≤ 1000 ∧ P (.im (lawsD (L.map (turn2 mi ns))))
theorem take_next {α β : Type} {f : α → β} {L : List α} {i : Nat} {d : α} (h : L[i]? = some d) : (L.map f).take (i + 1) = (L.map f).take i ++ [f d] := by
  rw [List.take_add_one, List.getElem?_map, h]; rfl
theorem ss_turned_laws (h : C_turned_laws rs P) : SS K m H0 (t_turned_laws K C_turned_term) (ent 4 rs) { rt := P, nx := fun _ => P (.im .none) } := by
  obtain ⟨L, b, mi, ns, rfl, hl, hz, p⟩ := h
  refine ss_ret (e_then (e_lc (js := [2, 3]) (by decide) (iw_T (e_var rfl ⟨L.map lawD, rfl, by rw [List.length_map]; omega, fun i acc => acc = (L.map fun p => lawD (turn2 mi ns p)).take i, rfl, ?_, ?_⟩)).e))
  · intro i d acc hd ha
    rw [List.getElem?_map] at hd
    cases hL : L[i]? with
    | none => rw [hL] at hd; cases hd
    | some q =>
      rw [hL] at hd
      obtain rfl : lawD q = d := Option.some.inj hd
      obtain ⟨h1, h2, h3, h4⟩ := hl q (List.mem_of_getElem? hL)
      refine gt_tup2 (et_yes (e_tup (ea_cons (e_callP (ea_cons (e_var rfl (ea_cons (e_var rfl (ea_nil ⟨q.1, b, mi, ns, rfl, h1, h3, ?_⟩)))))))))
      refine ea_cons (e_callP (ea_cons (e_var rfl (ea_cons (e_var rfl (ea_nil ⟨q.2, b, mi, ns, rfl, h2, h4, ea_nil ⟨_, rfl, by show 2 ≤ 1000000; decide, _, rfl, ?_⟩⟩))))))
      show acc ++ [lawD (turn2 mi ns q)] = ((L.map fun p => lawD (turn2 mi ns p)).take (i + 1))
      rw [take_next hL, ha]
  · intro acc ha
    refine ru_tuple rfl ⟨rfl, ?_⟩
    rw [ha, List.length_map, List.take_of_length_le (by rw [List.length_map]; exact Nat.le_refl _)]
    unfold lawsD at p
    rw [List.map_map] at p
    exact p
def C__law_laws_turned : Ct := fun rs P => ∃ (L : List (T × T)) (b : Bool) (mi : Int) (ns : List Int), rs = [.im (lawsD L), .im (tuD b mi ns)] ∧ (∀ p ∈ L, lets ns.length p.1 ∧ lets ns.length p.2 ∧ p.1.lv ≤ 8 ∧ p.2.lv ≤ 8) ∧ L.length ≤ 1000 ∧ P (.im (lawsD (L.map (turn2 mi ns))))
theorem ss__law_laws_turned (h : C__law_laws_turned rs P) : SS K m H0 (t__law_laws_turned K (C__law_turned 9)) (ent 4 rs) { rt := P, nx := fun _ => P (.im .none) } := by
  obtain ⟨L, b, mi, ns, rfl, hl, hz, p⟩ := h
  refine ss_ret (e_then (e_lc (js := [2, 3]) (by decide) (iw_T (e_var rfl ⟨L.map lawD, rfl, by rw [List.length_map]; omega, fun i acc => acc = (L.map fun p => lawD (turn2 mi ns p)).take i, rfl, ?_, ?_⟩)).e))
  · intro i d acc hd ha
    rw [List.getElem?_map] at hd
    cases hL : L[i]? with
    | none => rw [hL] at hd; cases hd
    | some q =>
      rw [hL] at hd
      obtain rfl : lawD q = d := Option.some.inj hd
      obtain ⟨h1, h2, h3, h4⟩ := hl q (List.mem_of_getElem? hL)
      refine gt_tup2 (et_yes (e_tup (ea_cons (e_callP (ea_cons (e_var rfl (ea_cons (e_var rfl (ea_nil ⟨some q.1, b, mi, ns, rfl, h1, Nat.lt_succ_of_le h3, Nat.le_trans h3 (by decide), ?_⟩)))))))))
      refine ea_cons (e_callP (ea_cons (e_var rfl (ea_cons (e_var rfl (ea_nil ⟨some q.2, b, mi, ns, rfl, h2, Nat.lt_succ_of_le h4, Nat.le_trans h4 (by decide), ea_nil ⟨_, rfl, by show 2 ≤ 1000000; decide, _, rfl, ?_⟩⟩))))))
      show acc ++ [lawD (turn2 mi ns q)] = ((L.map fun p => lawD (turn2 mi ns p)).take (i + 1))
      rw [take_next hL, ha]
  · intro acc ha
    refine ru_tuple rfl ⟨rfl, ?_⟩
    rw [ha, List.length_map, List.take_of_length_le (by rw [List.length_map]; exact Nat.le_refl _)]
    unfold lawsD at p
    rw [List.map_map] at p
    exact p

/-! ### all turnings -/
def rows (k : Nat) : List (List Int) := if k = 1 then [[0]] else [[0, 1], [1, 0]]
def allT (k : Nat) : List (Int × List Int) := (rows k).map (fun r => (0, r)) ++ (rows k).map (fun r => (1, r))
def tuB (p : Int × List Int) : PyData := tuD true p.1 p.2
def C_turnings : Ct := fun rs P => ∃ k : Nat, rs = [.im (.int (k : Nat))] ∧ (k = 1 ∨ k = 2) ∧ P (.im (.tuple ((allT k).map tuB)))
def C__law_turnings : Ct := fun rs P => ∃ k : Nat, rs = [.im (.int (k : Nat))] ∧ (k = 1 ∨ k = 2) ∧ P (.fl ((allT k).map tuB))
/-- the rows -/
theorem e_rows {k : Nat} (e : Γ[0]? = some (.im (.int (k : Nat)))) (hk : k = 1 ∨ k = 2) (p : P (.fl ((rows k).map bD))) :
    E K m H0 (tIf (tTest (tOp (rEqD K) (tVar 0) (tC (.int 1)))) (tLst (tCons (tTupB (tCons (tC (.int 0)) tNil)) tNil)) (tLst (tCons (tTupB (tCons (tC (.int 0)) (tCons (tC (.int 1)) tNil))) (tCons (tTupB (tCons (tC (.int 1)) (tCons (tC (.int 0)) tNil))) tNil)))) Γ P := by
  refine e_if (et_of (e_eqI (e_var (by rw [e]; rfl) (e_int ⟨_, _, rfl, rfl, _, rfl, ?_⟩))))
  rcases hk with rfl | rfl
  · rw [decide_eq_true (by rfl)]
    exact e_lst (ea_cons (e_tupB (ea_cons (e_int (ea_nil ⟨_, rfl, by show 1 ≤ 1000000; decide, ea_nil ⟨_, rfl, by show 1 ≤ 1000000; decide, p⟩⟩)))))
  · rw [decide_eq_false (by decide)]
    refine e_lst (ea_cons (e_tupB (ea_cons (e_int (ea_cons (e_int (ea_nil ⟨_, rfl, by show 2 ≤ 1000000; decide, ?_⟩)))))))
    refine ea_cons (e_tupB (ea_cons (e_int (ea_cons (e_int (ea_nil ⟨_, rfl, by show 2 ≤ 1000000; decide, ?_⟩))))))
    exact ea_nil ⟨_, rfl, by show 2 ≤ 1000000; decide, p⟩
/-- [(m, row) for row in rows] -/
theorem e_withm {k : Nat} {mi : Int} (e : Γ[1]? = some (.ls ((rows k).map bD))) (e2 : 2 < Γ.length) (p : P (.fl ((rows k).map fun r => tuB (mi, r)))) :
    E K m H0 (tLc (iList K (tVar 1)) (gName 2) tYes (tTup (tCons (tC (.int mi)) (tCons (tVar 2) tNil))) [2]) Γ P := by
  have hlen : ((rows k).map bD).length ≤ 1000000 := by unfold rows; split <;> simp
  refine e_lc (js := [2]) (by decide) (iwe_Ls e ⟨hlen, fun i acc => acc = ((rows k).map fun r => tuB (mi, r)).take i, rfl, ?_, ?_⟩)
  · intro i d acc hd ha
    rw [List.getElem?_map] at hd
    cases hL : (rows k)[i]? with
    | none => rw [hL] at hd; cases hd
    | some q =>
      rw [hL] at hd
      obtain rfl : bD q = d := Option.some.inj hd
      refine gt_name (et_yes (e_tup (ea_cons (e_int (ea_cons (e_var (r := .im (bD q)) ?_ (ea_nil ⟨_, rfl, by show 2 ≤ 1000000; decide, _, rfl, ?_⟩)))))))
      · show (((wipeG Γ [2]).set 2 (R.im (bD q)).sl)[2]?).bind Sl.r = _
        rw [List.getElem?_set_self (by simpa [wipeG] using e2)]; rfl
      · show acc ++ [tuB (mi, q)] = ((rows k).map fun r => tuB (mi, r)).take (i + 1)
        rw [take_next hL, ha]
  · intro acc ha
    rw [ha, List.length_map, List.take_of_length_le (by rw [List.length_map]; exact Nat.le_refl _)]
    exact p
theorem allT_map (k : Nat) : (allT k).map tuB = ((rows k).map fun r => tuB (0, r)) ++ ((rows k).map fun r => tuB (1, r)) := by
  unfold allT
  rw [List.map_append, List.map_map, List.map_map]; rfl
theorem rows_len (k : Nat) : (rows k).length ≤ 2 := by unfold rows; split <;> simp
theorem ss__law_turnings (h : C__law_turnings rs P) : SS K m H0 (t__law_turnings K) (ent 3 rs) { rt := P, nx := fun _ => P (.im .none) } := by
  obtain ⟨k, rfl, hk, p⟩ := h
  have hl := rows_len k
  refine ss_seq (ss_asg (e_rows rfl hk ?_))
  refine ss_ret (e_op (e_withm (k := k) (mi := 0) rfl (by show 2 < 3; decide) (e_withm (k := k) (mi := 1) rfl (by show 2 < 3; decide) (rr_catL (by rw [List.length_map, List.length_map]; omega) ⟨rfl, ?_⟩))))
  rw [← allT_map]; exact p
theorem ss_turnings (h : C_turnings rs P) : SS K m H0 (t_turnings K) (ent 3 rs) { rt := P, nx := fun _ => P (.im .none) } := by
  obtain ⟨k, rfl, hk, p⟩ := h
  have hl := rows_len k
  refine ss_seq (ss_asg (e_rows rfl hk ?_))
  refine ss_ret (e_then (e_op (e_withm (k := k) (mi := 0) rfl (by show 2 < 3; decide) (e_withm (k := k) (mi := 1) rfl (by show 2 < 3; decide) (rr_catL (by rw [List.length_map, List.length_map]; omega) (ru_tuple rfl ⟨rfl, ?_⟩))))))
  rw [← allT_map]; exact p

/-! ### back, behind one another -/
/-- the place of j -/
def idx (ns : List Int) (j : Nat) : Nat := (ns.takeWhile fun z => !decide (z = (j : Int))).length
def inv (ns : List Int) : List Int := (List.range ns.length).map fun j => ((idx ns j : Nat) : Int)
def isPerm (ns : List Int) : Prop := ∀ j : Nat, j < ns.length → (j : Int) ∈ ns
theorem idx_spec {ns : List Int} {j : Nat} (h : (j : Int) ∈ ns) : ns[idx ns j]? = some (j : Int) ∧ ∀ m, m < idx ns j → ns[m]? ≠ some (j : Int) := by
  unfold idx
  induction ns with
  | nil => cases h
  | cons a ns ih =>
    by_cases e : a = (j : Int)
    · subst e
      simp [List.takeWhile_cons]
    · rw [List.takeWhile_cons, if_pos (by simp [e])]
      rcases List.mem_cons.mp h with h | h
      · exact absurd h.symm e
      · obtain ⟨h1, h2⟩ := ih h
        refine ⟨by simpa using h1, fun m hm => ?_⟩
        cases m with
        | zero => simpa using e
        | succ m => simpa using h2 m (by simpa using hm)
theorem e_inv {i j : Nat} {te : TE} {ns : List Int} (hp : isPerm ns) (hz : ns.length ≤ 1000) (he : ∀ (Γ' : Gm) (Q : R → Prop), Γ'[j]? = Γ[j]? → Q (.im (bD ns)) → E K m H0 te Γ' Q) (hij : i ≠ j) (hi : i < Γ.length) (p : P (.fl ((inv ns).map .int))) :
    E K m H0 (tLc (iRng1 (tCons (tCB (rLenQ K) (tCons te tNil)) tNil)) (gName i) tYes (tTix K te (tVar i)) [i]) Γ P := by
  refine e_lc (js := [i]) (by simp) (iw_R1 (e_lenN (b := true) (ns := ns) (he Γ _ rfl rfl) ⟨_, rfl, by omega, by omega, ?_, fun i acc => acc = ((inv ns).map PyData.int).take i, rfl, ?_, ?_⟩)).e
  · have := rangeD_len 0 ns.length
    rw [Int.zero_add] at this
    rw [this]; omega
  · intro x d acc hd ha
    have hlt : x < ns.length := by
      have := (List.getElem?_eq_some_iff.mp hd).1
      have e := rangeD_len 0 ns.length
      rw [Int.zero_add] at e
      rw [e] at this; exact this
    have hg := rangeD_get 0 ns.length x hlt
    rw [Int.zero_add, Int.zero_add] at hg
    rw [hg] at hd
    obtain rfl := Option.some.inj hd
    obtain ⟨s1, s2⟩ := idx_spec (hp x hlt)
    refine gt_name (et_yes (e_tix (he _ _ ?_ ⟨ns, rfl, e_var (r := .im (.int (x : Nat))) ?_ ⟨x, idx ns x, rfl, s1, s2, _, rfl, ?_⟩⟩)))
    · simp [wipeG, List.getElem?_set_ne hij]
    · show (((wipeG Γ [i]).set i (R.im (.int (x : Nat))).sl)[i]?).bind Sl.r = _
      rw [List.getElem?_set_self (by simpa [wipeG] using hi)]; rfl
    · show acc ++ [PyData.int (idx ns x : Nat)] = ((inv ns).map PyData.int).take (x + 1)
      have e : (inv ns)[x]? = some ((idx ns x : Nat) : Int) := by unfold inv; rw [List.getElem?_map, List.getElem?_range hlt]; rfl
      rw [take_next e, ha]
  · intro acc ha
    have e := rangeD_len 0 ns.length
    rw [Int.zero_add] at e
    rw [ha, e, List.take_of_length_le (by simp [inv])]
    exact p
def C_turning_back : Ct := fun rs P => ∃ (mi : Int) (ns : List Int), rs = [.im (tuD true mi ns)] ∧ isPerm ns ∧ ns.length ≤ 1000 ∧ P (.im (tuD false mi (inv ns)))
theorem ss_turning_back (h : C_turning_back rs P) : SS K m H0 (t_turning_back K) (ent 4 rs) { rt := P, nx := fun _ => P (.im .none) } := by
  obtain ⟨mi, ns, rfl, hp, hz, p⟩ := h
  refine ss_seq (ss_asgT [1, 2] (e_var rfl ⟨_, rfl, gt_tup2 ?_⟩))
  refine ss_ret (e_tup (ea_cons (e_var rfl (ea_cons (e_then (e_inv (i := 3) (j := 2) (ns := ns) hp hz (fun Γ' Q he q => e_var (by rw [he]; rfl) q) (by decide) (by show 3 < 4; decide) (ru_tuple rfl (ea_nil ⟨_, rfl, by show 2 ≤ 1000000; decide, rfl, p⟩))))))))
def C__law_back : Ct := C_turning_back
theorem ss__law_back (h : C__law_back rs P) : SS K m H0 (t__law_back K) (ent 2 rs) { rt := P, nx := fun _ => P (.im .none) } := by
  obtain ⟨mi, ns, rfl, hp, hz, p⟩ := h
  refine ss_ret (e_tup (ea_cons (e_op (e_var rfl (e_int (rr_ixT (d := .int mi) rfl (ea_cons (e_then (e_inv (i := 1) (j := 0) (ns := ns) hp hz (fun Γ' Q he q => e_op (e_var (r := .im (tuD true mi ns)) (by rw [he]; rfl) (e_int (rr_ixT (d := bD ns) rfl q)))) (by decide) (by show 1 < 2; decide) (ru_tuple rfl (ea_nil ⟨_, rfl, by show 2 ≤ 1000000; decide, rfl, p⟩))))))))))) 
def behind (n1 n2 : List Int) : List Int := n1.map fun a => n2.getD a.toNat 0
def C_turning_behind : Ct := fun rs P => ∃ (b1 b2 : Bool) (m1 m2 : Int) (n1 n2 : List Int), rs = [.im (tuD b1 m1 n1), .im (tuD b2 m2 n2)] ∧ (∀ a ∈ n1, 0 ≤ a ∧ a < n2.length) ∧ n1.length ≤ 1000 ∧ P (.im (tuD false ((m1 + m2) % 2) (behind n1 n2)))
theorem ss_turning_behind (h : C_turning_behind rs P) : SS K m H0 (t_turning_behind K) (ent 3 rs) { rt := P, nx := fun _ => P (.im .none) } := by
  obtain ⟨b1, b2, m1, m2, n1, n2, rfl, hl, hz, p⟩ := h
  refine ss_ret (e_tup (ea_cons ?_))
  refine e_op (e_op (e_op (e_var rfl (e_int (rr_ixT (d := .int m1) rfl ?_)))))
  refine e_op (e_var rfl (e_int (rr_ixT (d := .int m2) rfl (rr_i ?_))))
  refine e_int (rr_ic (by show (0 : Int) < 2; decide) (ea_cons ?_))
  refine e_then (e_lc (js := [2]) (by decide) (iw_N (b := b1) (ns := n1) (e_op (e_var rfl (e_int (rr_ixT (d := nD b1 n1) rfl rfl)))) ⟨by rw [List.length_map]; omega, fun i acc => acc = ((behind n1 n2).map PyData.int).take i, rfl, ?_, ?_⟩).e)
  · intro i d acc hd ha
    rw [List.getElem?_map] at hd
    cases hL : n1[i]? with
    | none => rw [hL] at hd; cases hd
    | some a =>
      rw [hL] at hd
      obtain rfl : PyData.int a = d := Option.some.inj hd
      obtain ⟨h0, h1⟩ := hl a (List.mem_of_getElem? hL)
      refine gt_name (et_yes (e_op (e_op (e_var rfl (e_int (rr_ixT (d := nD b2 n2) rfl (e_var rfl (rr_ixN (at_let h0 h1) ⟨_, rfl, ?_⟩))))))))
      show acc ++ [PyData.int (n2.getD a.toNat 0)] = ((behind n1 n2).map PyData.int).take (i + 1)
      have e : (behind n1 n2)[i]? = some (n2.getD a.toNat 0) := by unfold behind; rw [List.getElem?_map, hL]; rfl
      rw [take_next e, ha]
  · intro acc ha
    rw [List.length_map] at ha
    refine ru_tuple rfl (ea_nil ⟨_, rfl, by show 2 ≤ 1000000; decide, rfl, ?_⟩)
    rw [ha, List.take_of_length_le (by simp [behind])]
    exact p
end
end Rd

set_option Elab.async false
set_option linter.all false
set_option maxRecDepth 100000
set_option maxHeartbeats 2000000
namespace Rd
open PySem L2 Rt StX
section
variable {K : PySem.W.Frag} {m : Mode} {H0 H H' : Hp} {rs : List R} {P : R → Prop} {Γ : Gm} {ta tb te : TE} {B : Bool → Prop} {O : Po} {σ : L2.St}

/-! ### the law's source of numbers, walked by hand -/
theorem n_cl : (Str.ofString "cells") ≠ Str.ofString "left" := by decide +kernel
theorem n_cm : (Str.ofString "cells") ≠ Str.ofString "mixed" := by decide +kernel
theorem n_ct : (Str.ofString "cells") ≠ Str.ofString "turn" := by decide +kernel
theorem n_lm : (Str.ofString "left") ≠ Str.ofString "mixed" := by decide +kernel
theorem n_lt : (Str.ofString "left") ≠ Str.ofString "turn" := by decide +kernel
theorem n_mt : (Str.ofString "mixed") ≠ Str.ofString "turn" := by decide +kernel
theorem src_cells (c : Addr) (l x t : Int) : valV (srcKv c l x t) (.inr "cells") = some (.ref c) := by simp [valV, srcKv]
theorem src_left (c : Addr) (l x t : Int) : valV (srcKv c l x t) (.inr "left") = some (.int l) := by simp [valV, srcKv, n_cl]
theorem src_mixed (c : Addr) (l x t : Int) : valV (srcKv c l x t) (.inr "mixed") = some (.int x) := by simp [valV, srcKv, n_cm, n_lm]
theorem src_turn (c : Addr) (l x t : Int) : valV (srcKv c l x t) (.inr "turn") = some (.int t) := by simp [valV, srcKv, n_ct, n_lt, n_mt]
theorem put_left (c : Addr) (l x t y : Int) : putK (srcKv c l x t) (.inr "left") (.int y) = srcKv c y x t := by
  simp [putK, srcKv, n_cl, n_lm.symm, n_lt.symm]
theorem put_turn (c : Addr) (l x t y : Int) : putK (srcKv c l x t) (.inr "turn") (.int y) = srcKv c l x y := by
  simp [putK, srcKv, n_ct, n_lt, n_mt]
/-- the source stands so -/
structure Sr (H : Hp) (s c : Addr) (cs : List Int) (l x t : Int) : Prop where
  ne : s ≠ c
  hs : H s = some (.dK (srcKv c l x t))
  hc : H c = some (.lst (cs.map V.int))
theorem Sr.src {s c : Addr} {cs : List Int} {l x t : Int} (h : Sr H s c cs l x t) (h1 : 0 ≤ x) (h2 : x < 2147483648) : Src H s c := ⟨h.ne, cs, l, x, t, h.hs, h.hc, h1, h2⟩
theorem Sr.left {s c : Addr} {cs : List Int} {l x t : Int} (h : Sr H s c cs l x t) : DGet H s (.str "left") (some (.int l)) := by
  have := DGet.k (k := .inr "left") h.hs
  rw [src_left] at this; exact this
theorem Sr.cells {s c : Addr} {cs : List Int} {l x t : Int} (h : Sr H s c cs l x t) : DGet H s (.str "cells") (some (.ref c)) := by
  have := DGet.k (k := .inr "cells") h.hs
  rw [src_cells] at this; exact this
theorem Sr.mixed {s c : Addr} {cs : List Int} {l x t : Int} (h : Sr H s c cs l x t) : DGet H s (.str "mixed") (some (.int x)) := by
  have := DGet.k (k := .inr "mixed") h.hs
  rw [src_mixed] at this; exact this
theorem Sr.turn {s c : Addr} {cs : List Int} {l x t : Int} (h : Sr H s c cs l x t) : DGet H s (.str "turn") (some (.int t)) := by
  have := DGet.k (k := .inr "turn") h.hs
  rw [src_turn] at this; exact this
theorem srcKv_len (c : Addr) (l x t : Int) : (srcKv c l x t).length < sizeLine := by show 4 < sizeLine; rw [sizeLine_eq]; decide
theorem Sr.putLeft {s c : Addr} {cs : List Int} {l x t : Int} (h : Sr H s c cs l x t) (y : Int) : DPut H s (.str "left") (.int y) (upd H s (.dK (srcKv c y x t))) ∧ Sr (upd H s (.dK (srcKv c y x t))) s c cs y x t ∧ Step (srcM s c).W H (upd H s (.dK (srcKv c y x t))) := by
  refine ⟨?_, ⟨h.ne, upd_same, by rw [upd_ne (Ne.symm h.ne)]; exact h.hc⟩, .put (.inl rfl) (dK_noT h.hs)⟩
  have := DPut.k (k := .inr "left") (v := .int y) h.hs (srcKv_len _ _ _ _)
  rw [put_left] at this; exact this
theorem Sr.putTurn {s c : Addr} {cs : List Int} {l x t : Int} (h : Sr H s c cs l x t) (y : Int) : DPut H s (.str "turn") (.int y) (upd H s (.dK (srcKv c l x y))) ∧ Sr (upd H s (.dK (srcKv c l x y))) s c cs l x y ∧ Step (srcM s c).W H (upd H s (.dK (srcKv c l x y))) := by
  refine ⟨?_, ⟨h.ne, upd_same, by rw [upd_ne (Ne.symm h.ne)]; exact h.hc⟩, .put (.inl rfl) (dK_noT h.hs)⟩
  have := DPut.k (k := .inr "turn") (v := .int y) h.hs (srcKv_len _ _ _ _)
  rw [put_turn] at this; exact this
theorem Sr.pop {s c : Addr} {cs : List Int} {y l x t : Int} (h : Sr H s c (cs ++ [y]) l x t) : Sr (upd H c (.lst (cs.map V.int))) s c cs l x t ∧ Step (srcM s c).W H (upd H c (.lst (cs.map V.int))) :=
  ⟨⟨h.ne, by rw [upd_ne h.ne]; exact h.hs, upd_same⟩, .put (.inr rfl) (lst_noT h.hc)⟩
theorem mod_lt {i many : Int} (h : 0 < many) : 0 ≤ i % many ∧ i % many < many := ⟨Int.emod_nonneg _ (by omega), Int.emod_lt_of_pos _ h⟩
def pick_tail (K : PySem.W.Frag) : TS :=
  (tSeq (tAsg (tDGet (tVar 0) (tC (.str "left"))) (gName 2))
    (tSeq (tIfS (tTest (tOp (rI0 fun i j => .bl (decide (j < i))) (tVar 2) (tC (.int 1)))) (tSeq (sDPut (tVar 0) (tC (.str "left")) (tOp (rI CDivW fun i j => .int (i / j)) (tVar 2) (tVar 1)))
    (tRet (tOp (rI (fun _ j => 0 < j) fun i j => .int (i % j)) (tCB (rInt) (tCons (tVar 2) tNil)) (tVar 1)))) tNext)
    (tSeq (sDPut (tVar 0) (tC (.str "turn")) (tOp (rI0 fun i j => .int (i + j)) (tDGet (tVar 0) (tC (.str "turn"))) (tC (.int 1))))
    (tSeq (tAsg (tOp (rI (fun _ j => 0 < j) fun i j => .int (i % j)) (tCB (rInt) (tCons (tOp (rI0 fun i j => .int (i + j)) (tDGet (tVar 0) (tC (.str "mixed"))) (tOp (rI CMul fun i j => .int (i * j)) (tDGet (tVar 0) (tC (.str "turn"))) (tC (.int 92821)))) tNil)) (tC (.int 998244353))) (gName 3))
    (tSeq (tAsg (tOp (rI (fun _ j => 0 < j) fun i j => .int (i % j)) (tCB (rInt) (tCons (tOp (rI0 fun i j => .int (i + j)) (tOp (rI CMul fun i j => .int (i * j)) (tVar 3) (tVar 3)) (tOp (rI CMul fun i j => .int (i * j)) (tDGet (tVar 0) (tC (.str "turn"))) (tC (.int 29)))) tNil)) (tC (.int 2147483647))) (gName 3))
    (tRet (tOp (rI (fun _ j => 0 < j) fun i j => .int (i % j)) (tCB (rInt) (tCons (tOp (rI CDivW fun i j => .int (i / j)) (tVar 3) (tC (.int 16))) tNil)) (tVar 1))))))))
theorem raw_tail {s c : Addr} {many : Int} {D : Ends} {cs : List Int} {l x t : Int} (h2 : ¬ many < 2) (hm : many ≤ 1000000) (S1 : Sr H s c cs l x t) (hx0 : 0 ≤ x) (hx1 : x < 2147483648)
    (q : ∀ H' i, Step (srcM s c).W H H' → Src H' s c → 0 ≤ i → (i < many ∨ i = 0) → D.rt (.int i) H') : pick_tail K D [some (.ref s), some (.int many), none, none] H := by
  refine ⟨.ref s, rfl, s, .int l, rfl, S1.left, ?_⟩
  dsimp only [gName, List.set]
  refine ⟨.int l, rfl, l, 1, rfl, rfl, _, rfl, ?_⟩
  dsimp only
  by_cases h1 : 1 < l
  · rw [if_pos (by simpa using h1)]
    obtain ⟨p1, S2, st2⟩ := S1.putLeft (l / many)
    refine ⟨.int l, rfl, .int many, rfl, l, many, rfl, rfl, ⟨by omega, ?_⟩, .ref s, rfl, s, _, rfl, p1, ?_⟩
    · have : many.natAbs.log2 ≤ many.natAbs := Nat.log2_le_self _
      have h3 : many.natAbs < 2 ^ 20 := by omega
      exact Nat.lt_of_lt_of_le (PySem.Flt.log2_lt_of (by decide) h3) (by decide)
    · refine ⟨.int l, rfl, .inl ⟨l, rfl, .int many, rfl, l, many, rfl, rfl, by omega, ?_⟩⟩
      exact q _ _ st2 (S2.src hx0 hx1) (mod_lt (by omega)).1 (.inl (mod_lt (by omega)).2)
  · rw [if_neg (by simpa using h1)]
    obtain ⟨p1, S2, st2⟩ := S1.putTurn (t + 1)
    refine ⟨.ref s, rfl, s, .int t, rfl, S1.turn, t, 1, rfl, rfl, .ref s, rfl, s, _, rfl, p1, ?_⟩
    generalize upd H s (.dK (srcKv c l x (t + 1))) = H2 at *
    refine ⟨.ref s, rfl, s, .int x, rfl, S2.mixed, .ref s, rfl, s, .int (t + 1), rfl, S2.turn, t + 1, 92821, rfl, rfl, .inr ⟨by decide, by decide⟩, x, (t + 1) * 92821, rfl, rfl, .inl ⟨_, rfl, _, 998244353, rfl, rfl, (by show (0 : Int) < 998244353; decide), ?_⟩⟩
    dsimp only [gName, List.set]
    have b1 := mod_lt (i := x + (t + 1) * 92821) (many := 998244353) (by decide)
    generalize (x + (t + 1) * 92821) % 998244353 = y at b1 ⊢
    refine ⟨.int y, rfl, .int y, rfl, y, y, rfl, rfl, .inl ⟨by omega, by omega⟩, .ref s, rfl, s, .int (t + 1), rfl, S2.turn, t + 1, 29, rfl, rfl, .inr ⟨by decide, by decide⟩, y * y, (t + 1) * 29, rfl, rfl, .inl ⟨_, rfl, _, 2147483647, rfl, rfl, (by show (0 : Int) < 2147483647; decide), ?_⟩⟩
    dsimp only [gName, List.set]
    generalize (y * y + (t + 1) * 29) % 2147483647 = z
    refine ⟨.int z, rfl, z, 16, rfl, rfl, ⟨by decide, by decide⟩, .inl ⟨_, rfl, .int many, rfl, _, many, rfl, rfl, by omega, ?_⟩⟩
    exact q _ _ st2 (S2.src hx0 hx1) (mod_lt (by omega)).1 (.inl (mod_lt (by omega)).2)
theorem raw_pick {s c : Addr} {many : Int} {D : Ends} (hm : many ≤ 1000000) (hS : Src H s c)
    (q : ∀ H' i, Step (srcM s c).W H H' → Src H' s c → 0 ≤ i → (i < many ∨ i = 0) → D.rt (.int i) H') : t__law_pick K D [some (.ref s), some (.int many), none, none] H := by
  obtain ⟨ne, cs0, l0, x, t0, hs0, hc0, hx0, hx1⟩ := hS
  have S0 : Sr H s c cs0 l0 x t0 := ⟨ne, hs0, hc0⟩
  refine ⟨.int many, rfl, many, 2, rfl, rfl, _, rfl, ?_⟩
  dsimp only
  by_cases h2 : many < 2
  · rw [if_pos (by simpa using h2)]
    exact q H 0 .refl (S0.src hx0 hx1) (Int.le_refl _) (.inr rfl)
  · rw [if_neg (by simpa using h2)]
    refine ⟨fun n σ' H' => ∃ cs l, n = cs.length ∧ σ' = [some (.ref s), some (.int many), none, none] ∧ Sr H' s c cs l x t0 ∧ Step (srcM s c).W H H', ⟨_, cs0, l0, rfl, rfl, S0, .refl⟩, ?_⟩
    rintro n σ' H1 ⟨cs, l, rfl, rfl, S1, st1⟩
    have rest : pick_tail K D [some (.ref s), some (.int many), none, none] H1 := raw_tail h2 hm S1 hx0 hx1 fun H' i st => q H' i (st1.trans st)
    refine ⟨.ref s, rfl, s, .int l, rfl, S1.left, l, 2, rfl, rfl, _, rfl, ?_⟩
    dsimp only
    by_cases hl : l < 2
    · rw [if_pos (by simpa using hl)]
      refine ⟨.ref s, rfl, s, .ref c, rfl, S1.cells, c, _, rfl, .inl (.of S1.hc), (cs.map V.int).length, 0, rfl, rfl, _, rfl, ?_⟩
      rw [List.length_map]
      rcases List.eq_nil_or_concat cs with rfl | ⟨cs', y, rfl⟩
      · rw [if_neg (by simp)]
        exact rest
      · rw [if_pos (by simp)]
        rw [List.concat_eq_append] at S1 ⊢
        obtain ⟨S2, st2⟩ := S1.pop
        obtain ⟨p3, S3, st3⟩ := S2.putLeft y
        refine ⟨fun σ' H' => ∃ cs l, cs = cs' ∧ σ' = [some (.ref s), some (.int many), none, none] ∧ Sr H' s c cs l x t0 ∧ Step (srcM s c).W H H', fun σ'' H'' ⟨cs, l, e1, e2, e3, e4⟩ => ⟨cs'.length, by simp, cs, l, by rw [e1], e2, e3, e4⟩, ?_⟩
        have hc1 := S1.hc
        refine ⟨.ref s, rfl, s, .ref c, rfl, S1.cells, .inl ⟨rfl, _, .of hc1⟩, c, _, .int y, rfl, rfl, hc1, by simp, ?_⟩
        rw [show ((cs' ++ [y]).map V.int).dropLast = cs'.map V.int by simp]
        exact ⟨.ref s, rfl, s, _, rfl, p3, cs', y, rfl, rfl, S3, (st1.trans st2).trans st3⟩
    · rw [if_neg (by simpa using hl)]
      exact rest

/-! ### it is made -/
def S__law_source (K : PySem.W.Frag) : Sp := fun vs H Q _ => ∃ (a : Addr) (ns : List Int), vs = [.ref a] ∧ SqL K H a (ns.map V.int) ∧ ns.length ≤ 1000000 ∧ ∀ p b H', Step pure0.W H H' → Src H' p b → H p = none → H b = none → Q (.ref p) H'
theorem merge_src (b : Addr) (x : Int) : mergeK [] [(.inr "cells", .ref b), (.inr "left", .int 0), (.inr "mixed", .int x), (.inr "turn", .int 0)] = srcKv b 0 x 0 := by
  simp [mergeK, putK, srcKv, n_cl, n_cm, n_ct, n_lm, n_lt, n_mt]
theorem raw_source {N : List Str} (hN : N.length = 3) {vs : List V} {Q : VK} {E : XK} (h : S__law_source K vs H Q E) : t__law_source K { nx := fun _ H' => Q .non H', rt := Q } (L2.start N vs) H := by
  obtain ⟨a, ns, rfl, hl, hz, q⟩ := h
  have S0 : Sta K pure0 H (ent N.length [.rl (ns.map .int)]) (L2.start N [.ref a]) H := sta_ent pure0_ok trivial (.cons ⟨a, _, rfl, hl, ImAll.ints ns, fun z => z⟩ .nil) (by rw [hN]; show 1 ≤ 3; decide)
  rw [hN] at S0
  refine gseg (N := fun Γ => Γ = [.rl (ns.map .int), .im (.int 31), .un]) (R' := fun _ => False) (ss_asg (e_int rfl)) S0 (fun Γ1 σ1 H1 S1 e1 => ?_) fun _ _ _ _ _ _ z => z.elim
  subst e1
  refine gseg (N := fun Γ => ∃ (x : Int) (y : Sl), Γ = [.rl (ns.map .int), .im (.int x), y] ∧ 0 ≤ x ∧ x < 2147483648) (R' := fun _ => False) (ss_for (js := [2]) (iw_Lv rfl ⟨fun i Γ => ∃ (x : Int) (y : Sl), Γ = [.rl (ns.map .int), .im (.int x), y] ∧ 0 ≤ x ∧ x < 2147483648, ?_, ?_, ?_⟩)) S1 (fun Γ2 σ2 H2 S2 ⟨x, y, e2, x0, x1⟩ => ?_) fun _ _ _ _ _ _ z => z.elim
  · exact ⟨31, _, rfl, by decide, by decide⟩
  · rintro i d Γ hd ⟨x, y, rfl, x0, x1⟩
    rw [List.getElem?_map] at hd
    cases hL : ns[i]? with
    | none => rw [hL] at hd; cases hd
    | some z =>
      rw [hL] at hd
      obtain rfl := Option.some.inj hd
      refine gt_name (ss_asg (e_op (e_cb (ea_cons (e_op (e_op (e_op (e_var rfl (e_int (rr_ic (.inr ⟨by decide, by decide⟩) ?_)))))))))) 
      refine e_op (e_var rfl (e_int (rr_ic (.inr ⟨by decide, by decide⟩) (rr_i (e_int (rr_i (ea_nil (rc_int ?_))))))))
      have b1 := mod_lt (i := x * 48271 + z * 41 + 13) (many := 2147483629) (by decide)
      exact e_int (rr_ic (by show (0 : Int) < 2147483629; decide) ⟨_, _, rfl, b1.1, by omega⟩)
  · rintro Γ ⟨x, y, rfl, x0, x1⟩
    exact ⟨x, y, rfl, x0, x1⟩
  · subst e2
    intro p hp
    have S3 := S2.new (o := .dK []) hp
    have hc : Rt.E K pure0 H (tRevL K (tLc (iList K (tVar 0)) (gName 2) tYes (tCB (rAbs) (tCons (tVar 2) tNil)) [2])) [.rl (ns.map .int), .im (.int x), y] fun r => ∃ cs : List Int, r = .fl (cs.map .int) := by
      refine e_revL (e_lc (js := [2]) (by decide) (iw_Lv rfl ⟨by rw [List.length_map]; exact hz, fun i acc => ∃ cs : List Int, acc = cs.map .int, ⟨[], rfl⟩, ?_, ?_⟩).e)
      · rintro i d acc hd ⟨cs, rfl⟩
        rw [List.getElem?_map] at hd
        cases hL : ns[i]? with
        | none => rw [hL] at hd; cases hd
        | some z =>
          rw [hL] at hd
          obtain rfl := Option.some.inj hd
          exact gt_name (et_yes (e_cb (ea_cons (e_var rfl (ea_nil (rc_abs ⟨_, rfl, cs ++ [_], by rw [List.map_append]; rfl⟩))))))
      · rintro acc ⟨cs, rfl⟩
        exact ⟨_, rfl, cs.reverse, by rw [List.map_reverse]⟩
    obtain ⟨v1, ev1, im1⟩ := S3.imv (i := 1) rfl
    cases Im.int_inv im1
    dsimp only [tPairs, tC]
    refine hc σ2 _ S3 _ fun v r H4 st4 S4 ro fs ⟨cs, er⟩ => ?_
    subst er
    obtain ⟨b, xs, rfl, nb, _, lb, qb, _⟩ := ro
    rw [qb.ints_inv] at lb
    have hp4 := st4.ob p _ (fun z => z) upd_same
    have hbp : p ≠ b := fun z => by rw [z, lb] at hp4; cases hp4
    refine ⟨_, ev1, hp4, [(.inr "cells", .ref b), (.inr "left", .int 0), (.inr "mixed", .int x), (.inr "turn", .int 0)], rfl, (by show 4 ≤ 15; decide), ?_⟩
    rw [merge_src]
    refine q p b _ (S4.sp.over (S2.none0 hp) (dK_noT hp4)) ⟨hbp, cs, 0, x, 0, upd_same, by rw [upd_ne (Ne.symm hbp)]; exact lb, x0, x1⟩ (S2.none0 hp) nb
end
end Rd

set_option Elab.async false
set_option linter.all false
set_option maxRecDepth 100000
set_option maxHeartbeats 2000000
namespace Rd
open PySem L2 Rt StX
section
variable {K : PySem.W.Frag} {s c : Addr} {H0 H H' : Hp} {rs : List R} {P : R → Prop} {Γ : Gm} {ta tb te : TE} {B : Bool → Prop} {O : Po} {σ : L2.St}

/-! ### what is drawn -/
def C__law_pick : Ct := fun rs P => ∃ (s : Addr) (many : Int), rs = [.rf (.ref s), .im (.int many)] ∧ 1 ≤ many ∧ many ≤ 1000000 ∧ ∀ i : Nat, (i : Int) < many → P (.im (.int (i : Nat)))
/-- a draw -/
theorem e_pick {j : Nat} (ej : Γ[j]? = some (.rf (.ref s))) (h : E K (srcM s c) H0 te Γ fun x => ∃ many : Int, x = .im (.int many) ∧ 1 ≤ many ∧ many ≤ 1000000 ∧ ∀ i : Nat, (i : Int) < many → P (.im (.int (i : Nat)))) :
    E K (srcM s c) H0 (tCall (spM K Msrc C__law_pick) [] E0 (tCons (tVar j) (tCons te tNil))) Γ P :=
  e_call (ea_cons (e_var (r := .rf (.ref s)) (by rw [ej]; rfl) (ea_cons (h.imp fun x ⟨many, ex, h1, h2, hp⟩ => ea_nil ⟨⟨s, c, _, rfl, rfl⟩, s, many, by subst ex; rfl, h1, h2, hp⟩))))
def C__law_of : Ct := fun rs P => ∃ (s : Addr) (ds : List PyData), rs = [.rf (.ref s), .rl ds] ∧ ds ≠ [] ∧ ds.length ≤ 1000000 ∧ ∀ d ∈ ds, P (.im d)
theorem ss__law_of (h : C__law_of rs P) (hs : ∃ t, rs = .rf (.ref s) :: t) : SS K (srcM s c) H0 (t__law_of K C__law_pick) (ent 2 rs) { rt := P, nx := fun _ => P (.im .none) } := by
  obtain ⟨s', ds, rfl, hne, hz, p⟩ := h
  obtain ⟨t, ht⟩ := hs
  cases ht
  have hl : 0 < ds.length := List.length_pos_iff.mpr hne
  refine ss_ret (e_op (e_var rfl (e_pick rfl (e_cb (ea_cons (e_var rfl (ea_nil (rc_len rfl ⟨_, rfl, by omega, by omega, fun i hi => ?_⟩))))))))
  have hi' : i < ds.length := by omega
  exact rr_ixL (d := ds[i]) rfl (atI_nat (List.getElem?_eq_getElem hi')) ⟨rfl, p _ (List.getElem_mem hi')⟩
/-- all leaves are such -/
def allL (p : Int → Prop) : T → Prop
  | .lf a => p a
  | .nd l r => allL p l ∧ allL p r
def C__law_built (n : Nat) : Ct := fun rs P => ∃ (s : Addr) (ns : List Int) (lv : Nat), rs = [.rf (.ref s), .rl (ns.map .int), .im (.int (lv : Nat))] ∧ ns ≠ [] ∧ ns.length ≤ 1000 ∧ 1 ≤ lv ∧ lv ≤ n ∧ lv ≤ 1000 ∧ ∀ t : T, t.lv = lv → allL (· ∈ ns) t → P (.im (tD t.enc))
theorem ss__law_built {n : Nat} (h : C__law_built (n + 1) rs P) (hs : ∃ t, rs = .rf (.ref s) :: t) : SS K (srcM s c) H0 (t__law_built K C__law_of C__law_pick (C__law_built n)) (ent 4 rs) { rt := P, nx := fun _ => P (.im .none) } := by
  obtain ⟨s', ns, lv, rfl, hne, hz, h1, hn, h2, p⟩ := h
  obtain ⟨t, ht⟩ := hs
  cases ht
  refine ss_seq (ss_if (et_of (e_eqI (e_var rfl (e_int ⟨_, _, rfl, rfl, _, rfl, ?_⟩)))))
  by_cases hl : lv = 1
  · subst hl
    rw [decide_eq_true (by rfl)]
    refine ss_ret (e_one (e_call (ea_cons (e_var rfl (ea_cons (e_var rfl (ea_nil ⟨⟨s, c, _, rfl, rfl⟩, s, ns.map .int, rfl, by simpa using hne, by rw [List.length_map]; omega, fun d hd => ?_⟩)))))))
    obtain ⟨i, hi, rfl⟩ := List.mem_map.mp hd
    exact ⟨i, rfl, rfl, p (.lf i) rfl hi⟩
  · rw [decide_eq_false (by omega)]
    refine ss_next (ss_seq (ss_asg (e_op (e_int (e_pick rfl (e_op (e_var rfl (e_int (rr_i ⟨_, rfl, by omega, by omega, fun i hi => rr_i ?_⟩)))))))))
    have el : (1 : Int) + (i : Nat) = ((i + 1 : Nat) : Int) := by omega
    have er : (lv : Int) - ((i + 1 : Nat) : Int) = ((lv - (i + 1) : Nat) : Int) := by omega
    rw [el]
    refine ss_ret <| e_catT <| e_catT <| e_mark <| e_call <| ea_cons <| e_var rfl <| ea_cons <| e_var rfl <| ea_cons <| e_var rfl <| ea_nil ⟨⟨s, c, _, rfl, rfl⟩, s, ns, i + 1, rfl, hne, hz, by omega, by omega, by omega, fun l ll la => ?_⟩
    have e1 := l.enc_len
    refine ⟨[-1], l.enc, rfl, rfl, by show 1 + _ ≤ _; omega, ?_⟩
    refine e_call <| ea_cons <| e_var rfl <| ea_cons <| e_var rfl <| ea_cons <| e_op <| e_var rfl <| e_var rfl <| rr_i <| ea_nil ⟨⟨s, c, _, rfl, rfl⟩, s, ns, lv - (i + 1), by rw [er]; rfl, hne, hz, by omega, by omega, by omega, fun r lr ra => ?_⟩
    have e2 := r.enc_len
    refine ⟨[-1] ++ l.enc, r.enc, rfl, rfl, by simp; omega, rfl, ?_⟩
    exact p (.nd l r) (by simp only [T.lv]; omega) ⟨la, ra⟩
theorem allL_imp {p q : Int → Prop} (h : ∀ a, p a → q a) : ∀ t : T, allL p t → allL q t
  | .lf a, x => h a x
  | .nd l r, x => ⟨allL_imp h l x.1, allL_imp h r x.2⟩
theorem lets_of {k : Nat} : ∀ t : T, allL (fun a => (0 ≤ a ∧ a < k) ∨ (a < -1 ∧ -5 < a)) t → lets k t
  | .lf a, x => x
  | .nd l r, x => ⟨lets_of l x.1, lets_of r x.2⟩
def ltrs (k : Nat) : List Int := (List.range k).map fun i : Nat => (i : Int)
theorem rangeD_ltrs (k : Nat) : rangeD 0 (k : Nat) = (ltrs k).map .int := by
  unfold rangeD ltrs
  rw [List.map_map]
  have : ((k : Int) - 0).toNat = k := by omega
  rw [this]
  apply List.map_congr_left
  intro i _
  simp
theorem ltrs_mem {k : Nat} {a : Int} (h : a ∈ ltrs k) : 0 ≤ a ∧ a < k := by
  obtain ⟨i, hi, rfl⟩ := List.mem_map.mp h
  have := List.mem_range.mp hi
  omega
def C__law_tree : Ct := fun rs P => ∃ (s : Addr) (k most : Nat), rs = [.rf (.ref s), .im (.int (k : Nat)), .im (.int (most : Nat))] ∧ 1 ≤ k ∧ k ≤ 2 ∧ 1 ≤ most ∧ most ≤ 8 ∧ ∀ t : T, t.lv ≤ most → lets k t → P (.im (tD t.enc))
theorem ss__law_tree (h : C__law_tree rs P) (hs : ∃ t, rs = .rf (.ref s) :: t) : SS K (srcM s c) H0 (t__law_tree K (C__law_built 8) C__law_pick) (ent 3 rs) { rt := P, nx := fun _ => P (.im .none) } := by
  obtain ⟨s', k, most, rfl, k1, k2, h1, h2, p⟩ := h
  obtain ⟨t, ht⟩ := hs
  cases ht
  refine ss_ret (e_call (ea_cons (e_var rfl (ea_cons (e_listRg (e_var rfl ⟨_, rfl, by omega, by omega, ?_⟩))))))
  refine ea_cons (e_op (e_int (e_pick rfl (e_var rfl ⟨_, rfl, by omega, by omega, fun i hi => rr_i (ea_nil ⟨⟨s, c, _, rfl, rfl⟩, s, ltrs k, i + 1, ?_, ?_, ?_, by omega, by omega, by omega, fun t lt la => ⟨rfl, p t (by omega) (lets_of t (allL_imp (fun a ha => .inl (ltrs_mem ha)) t la))⟩⟩)⟩))))
  · have el : (1 : Int) + (i : Nat) = ((i + 1 : Nat) : Int) := by omega
    rw [el, rangeD_ltrs]; rfl
  · intro z
    have := congrArg List.length z
    simp [ltrs] at this; omega
  · simp [ltrs]; omega
def C__law_little : Ct := fun rs P => ∃ (s : Addr) (k most : Nat), rs = [.rf (.ref s), .im (.int (k : Nat)), .im (.int (most : Nat))] ∧ 1 ≤ k ∧ k ≤ 2 ∧ 1 ≤ most ∧ most ≤ 8 ∧ ∀ t : Option T, lvO t ≤ most → letsO k t → P (.im (tD (encO t)))
theorem ss__law_little (h : C__law_little rs P) (hs : ∃ t, rs = .rf (.ref s) :: t) : SS K (srcM s c) H0 (t__law_little K C__law_pick (C__law_built 8)) (ent 4 rs) { rt := P, nx := fun _ => P (.im .none) } := by
  obtain ⟨s', k, most, rfl, k1, k2, h1, h2, p⟩ := h
  obtain ⟨t, ht⟩ := hs
  cases ht
  refine ss_seq (ss_asg (e_pick rfl (e_op (e_var rfl (e_int (rr_i ⟨_, rfl, by omega, by omega, fun i hi => ?_⟩))))))
  refine ss_ret (e_if (et_cmp (e_op (e_var rfl (e_int (rr_b ⟨_, rfl, ?_⟩))))))
  by_cases h0 : 0 < i
  · rw [decide_eq_true (by omega)]
    refine e_call (ea_cons (e_var rfl (ea_cons (e_listRg (e_var rfl ⟨_, rfl, by omega, by omega, ?_⟩)))))
    refine ea_cons (e_var rfl (ea_nil ⟨⟨s, c, _, rfl, rfl⟩, s, ltrs k, i, by rw [rangeD_ltrs]; rfl, ?_, ?_, by omega, by omega, by omega, fun t lt la => ⟨rfl, p (some t) (by show t.lv ≤ most; omega) (lets_of t (allL_imp (fun a ha => .inl (ltrs_mem ha)) t la))⟩⟩))
    · intro z
      have := congrArg List.length z
      simp [ltrs] at this; omega
    · simp [ltrs]; omega
  · rw [decide_eq_false (by omega)]
    exact e_nilT ⟨rfl, p none (Nat.zero_le _) trivial⟩

def C__law_laws : Ct := fun rs P => ∃ (s : Addr) (k many most : Nat), rs = [.rf (.ref s), .im (.int (k : Nat)), .im (.int (many : Nat)), .im (.int (most : Nat))] ∧ 1 ≤ k ∧ k ≤ 2 ∧ many ≤ 8 ∧ 1 ≤ most ∧ most ≤ 8 ∧
  ∀ L : List (T × T), L.length ≤ many → (∀ p ∈ L, lets k p.1 ∧ lets k p.2 ∧ p.1.lv ≤ most ∧ p.2.lv ≤ most) → P (.im (lawsD L))
theorem e_ones {i : Int} (p : P (.im (tD [i]))) : E K (srcM s c) H0 (tTup (tCons (tC (.int i)) tNil)) Γ P := e_one (e_int ⟨i, rfl, p⟩)
theorem e_two {a b : List Int} (ha : E K (srcM s c) H0 ta Γ fun x => x = .im (tD a)) (hb : E K (srcM s c) H0 tb Γ fun x => x = .im (tD b)) (p : P (.im (.tuple [tD a, tD b]))) : E K (srcM s c) H0 (tTup (tCons ta (tCons tb tNil))) Γ P :=
  e_tup (ea_cons (ha.imp fun x ex => ea_cons (hb.imp fun y ey => ea_nil ⟨[tD a, tD b], by subst ex ey; rfl, by show 2 ≤ 1000000; decide, p⟩)))
theorem ss__law_laws (h : C__law_laws rs P) (hs : ∃ t, rs = .rf (.ref s) :: t) : SS K (srcM s c) H0 (t__law_laws K C__law_pick (C__law_built 8)) (ent 10 rs) { rt := P, nx := fun _ => P (.im .none) } := by
  obtain ⟨s', k, many, most, rfl, k1, k2, h0, h1, h2, p⟩ := h
  obtain ⟨t, ht⟩ := hs
  cases ht
  generalize hns : ltrs k ++ [-2, -3, -2, -4] = ns
  have nl : ns.length = k + 4 := by rw [← hns]; simp [ltrs]
  have nm : ∀ a ∈ ns, (0 ≤ a ∧ a < k) ∨ (a < -1 ∧ -5 < a) := fun a ha => by
    rw [← hns] at ha
    rcases List.mem_append.mp ha with ha | ha
    · exact .inl (ltrs_mem ha)
    · right; simp at ha; omega
  refine ss_seq (ss_tup2 (e_lst (ea_nil ⟨[], rfl, Nat.zero_le _, ?_⟩)))
  refine e_op (e_listRg (e_var rfl ⟨_, rfl, by omega, by omega, ?_⟩))
  refine e_lst (ea_cons (e_neg (ea_cons (e_neg (ea_cons (e_neg (ea_cons (e_neg (ea_nil ⟨_, rfl, by show 4 ≤ 1000000; decide, rr_catL ?_ ?_⟩)))))))))
  · rw [rangeD_ltrs]; simp [ltrs]; omega
  have ens : rangeD 0 (k : Nat) ++ [.int (-2), .int (-3), .int (-2), .int (-4)] = ns.map .int := by rw [rangeD_ltrs, ← hns]; simp
  rw [ens]
  refine ss_seq (ss_for (js := [6]) (iw_R1 (e_pick rfl (e_op (e_var rfl (e_int (rr_i ⟨_, rfl, by omega, by omega, fun i hi => ⟨_, rfl, by omega, by omega, ?_⟩⟩)))))))
  have hli : (rangeD 0 (i : Nat)).length = i := by have := rangeD_len 0 i; rwa [Int.zero_add] at this
  refine ⟨fun j Γ => ∃ (L : List (T × T)) (a b d : Sl), Γ = [.rf (.ref s), .im (.int (k : Nat)), .im (.int (many : Nat)), .im (.int (most : Nat)), .ls (L.map lawD), .ls (ns.map .int), a, b, d, .un] ∧ L.length = j ∧ ∀ p ∈ L, lets k p.1 ∧ lets k p.2 ∧ p.1.lv ≤ most ∧ p.2.lv ≤ most, ⟨[], _, _, _, rfl, rfl, by simp⟩, ?_, ?_⟩
  · rintro j d Γ hd ⟨L, a, b, e, rfl, hL, hp⟩
    have hj : j < i := by have := (List.getElem?_eq_some_iff.mp hd).1; omega
    refine gt_name (ss_seq (ss_asgL2 (e_lc (js := [9]) (by decide) (iw_R1 (e_int ⟨2, rfl, by decide, by decide, by decide, fun n acc => ∃ ts : List T, acc = ts.map (fun t => tD t.enc) ∧ ts.length = n ∧ ∀ t ∈ ts, lets k t ∧ t.lv ≤ most, ⟨[], rfl, rfl, by simp⟩, ?_, ?_⟩)).e)))
    · rintro n d' acc hd' ⟨ts, rfl, hn, hts⟩
      refine gt_name <| et_yes <| e_call <| ea_cons <| e_var rfl <| ea_cons <| e_var rfl <| ea_cons <| e_op <| e_int <| e_pick rfl <| e_var rfl ⟨_, rfl, by omega, by omega, fun x hx => rr_i <| ea_nil ⟨⟨s, c, _, rfl, rfl⟩, s, ns, x + 1, ?_, ?_, by omega, by omega, by omega, by omega, fun t lt la => ?_⟩⟩
      · have el : (1 : Int) + (x : Nat) = ((x + 1 : Nat) : Int) := by omega
        rw [el]; rfl
      · intro z; rw [z] at nl; simp at nl
      · refine ⟨_, rfl, ts ++ [t], by simp, by simp [hn], fun u hu => ?_⟩
        rcases List.mem_append.mp hu with hu | hu
        · exact hts u hu
        · simp at hu; subst hu
          exact ⟨lets_of u (allL_imp nm u la), by omega⟩
    · rintro acc ⟨ts, rfl, hn, hts⟩
      have hn2 : ts.length = 2 := hn
      obtain ⟨u, v, rfl⟩ : ∃ u v, ts = [u, v] := by
        match ts, hn2 with
        | [u, v], _ => exact ⟨u, v, rfl⟩
      have hu := hts u (by simp)
      have hv := hts v (by simp)
      refine ⟨tD u.enc, tD v.enc, rfl, ?_⟩
      have step : ∀ w : T, lets k w → w.lv ≤ most → ∃ (L' : List (T × T)) (a b dd : Sl), ([.rf (.ref s), .im (.int (k : Nat)), .im (.int (many : Nat)), .im (.int (most : Nat)), .ls (L.map lawD ++ [lawD (u, w)]), .ls (ns.map .int), .im d, .im (tD u.enc), .im (tD v.enc), .un] : Gm) =
          [.rf (.ref s), .im (.int (k : Nat)), .im (.int (many : Nat)), .im (.int (most : Nat)), .ls (L'.map lawD), .ls (ns.map .int), a, b, dd, .un] ∧ L'.length = j + 1 ∧ ∀ p ∈ L', lets k p.1 ∧ lets k p.2 ∧ p.1.lv ≤ most ∧ p.2.lv ≤ most := fun w hw hw2 => by
        refine ⟨L ++ [(u, w)], _, _, _, by rw [List.map_append]; rfl, by simp [hL], fun q hq => ?_⟩
        rcases List.mem_append.mp hq with hq | hq
        · exact hp q hq
        · simp at hq; subst hq; exact ⟨hu.1, hw, hu.2, hw2⟩
      refine ss_append rfl (by rw [List.length_map]; omega) <| e_if <| et_of <| e_neT <| e_var rfl <| e_var rfl ⟨u.enc, v.enc, rfl, rfl, _, rfl, ?_⟩
      by_cases he : u.enc = v.enc
      · rw [decide_eq_true he]
        refine e_if <| et_of <| e_neT <| e_var rfl <| e_ones ⟨u.enc, [0], rfl, rfl, _, rfl, ?_⟩
        by_cases h0' : u.enc = [0]
        · rw [decide_eq_true h0']
          exact e_two (e_v rfl) (e_one (e_neg ⟨-2, rfl, rfl⟩)) ⟨_, rfl, step (.lf (-2)) (.inr (by decide)) h1⟩
        · rw [decide_eq_false h0']
          exact e_two (e_v rfl) (e_ones rfl) ⟨_, rfl, step (.lf 0) (.inl ⟨by decide, by omega⟩) h1⟩
      · rw [decide_eq_false he]
        exact e_two (e_v rfl) (e_v rfl) ⟨_, rfl, step v hv.1 hv.2⟩
  · rintro Γ ⟨L, a, b, d, rfl, hL, hp⟩
    rw [hli] at hL
    exact ss_ret (e_then (e_var rfl (ru_tuple rfl ⟨rfl, p L (by omega) hp⟩)))
end
end Rd

set_option Elab.async false
set_option linter.all false
set_option maxRecDepth 100000
set_option maxHeartbeats 2000000
namespace Rt
open PySem L2 StX
section
variable {K : PySem.W.Frag} {m : Mode} {H0 H H' H1 H2 : Hp} {Γ Γ' : Gm} {σ σ' : L2.St} {v w : V} {r : R} {t : TS} {D : Ends} {O : Po} {te : TE}
abbrev Kvs := List (List Int × PyData)
/-- a, b = [f(x) for x in a pair], the answers new dicts -/
theorem ss_lcD2 {i j a b : Nat} {ds : List PyData} (e : Γ[i]? = some (.im (.tuple ds))) (hz : ds.length ≤ 1000000) (G : Nat → List Kvs → Prop) (g0 : G 0 [])
    (hs : ∀ i d acc, ds[i]? = some d → G i acc → E K m H0 te ((wipeG Γ [j]).set j (.im d)) fun r => ∃ kvs, r = .fd kvs ∧ G (i + 1) (acc ++ [kvs]))
    (hd : ∀ acc, G ds.length acc → ∃ k1 k2, acc = [k1, k2] ∧ O.nx ((Γ.set a (.dt k1)).set b (.dt k2))) :
    SS K m H0 (tAsg (tLc (iTup K (tVar i)) (gName j) tYes te [j]) (gUnl K 2 (gCons (gName a) (gCons (gName b) gNil)))) Γ O := fun σ H D S f => by
  obtain ⟨v0, ev, im⟩ := S.imv e
  obtain ⟨a0, xs, rfl, l, q⟩ := Im.tup_inv' im
  refine ⟨.ref a0, ev, a0, rfl, ⟨xs, .of l⟩, fun C hC => ?_⟩
  have nC0 := S.none0 hC
  have wC := S.noW hC
  have apC := S.apart hC
  have wk : Walk (Itt K a0) ds.length (fun H => H a0 = some (.tup xs) ∧ ImAll K H xs ds) (YAt xs) := by
    rw [← q.length]; exact walk_tup.mono (fun H g => .of g.1) fun i H x H' _ _ y => y
  refine lc_it wk (fun n H' => ∃ ps : List (Addr × Kvs), G n (ps.map (·.2)) ∧ ps.length = n ∧ Sta K m H0 Γ σ H' ∧ Step m.W H H' ∧ H' C = some (.lst (ps.map fun p => V.ref p.1)) ∧
      (∀ p ∈ ps, H p.1 = none ∧ p.1 ≠ C ∧ ∃ ks, H' p.1 = some (.dT ks) ∧ KvAll K H' ks p.2) ∧ (ps.map (·.1)).Nodup)
    ⟨[], g0, rfl, S.new hC, .new hC, upd_same, by simp, List.nodup_nil⟩ (fun n H' _ ⟨_, _, _, _, st, _⟩ => ⟨st.tp _ ⟨.tup xs, trivial⟩ l, st.ims q⟩) (fun n x H1 H2 hn ⟨ps, hG, hl, S1, st1, hc1, hp1, hnd⟩ y => ?_) fun H' ⟨ps, hG, hl, S', st, hc, hp, hnd⟩ => ?_
  · obtain ⟨ey, y⟩ := y
    subst ey
    obtain ⟨d, ed, imd⟩ := (st1.ims q).getV y
    have S2 : Sta K m H0 ((wipeG Γ [j]).set j (.im d)) ((L2.wipe σ [j]).set j (some x)) H2 := (S1.wipe [j]).set (r := .im d) imd
    refine ⟨by rw [wipe_set (by simp), wipe_wipe], ?_⟩
    refine hs n d _ ed hG _ H2 S2 _ fun z r H4 st4 S4 ro fs ⟨kvs, er, hG'⟩ => ?_
    subst er
    obtain ⟨p, ks, rfl, n0, wp, lp, qp, _⟩ := ro
    have np : H2 p = none := fs p rfl
    have hc4 := st4.ob C _ wC hc1
    have nt := lst_noT hc4
    have hpC : p ≠ C := fun z => by rw [z, hc4] at lp; cases lp
    have S5 := (S1.step st4 S4.ok).other (o := .lst ((ps.map fun p => V.ref p.1) ++ [V.ref p])) nC0 wC apC nt
    have tt : ∀ b (xs : TpO), H4 b = some xs.1 → upd H4 C (.lst ((ps.map fun p => V.ref p.1) ++ [V.ref p])) b = some xs.1 := fun b xs h => upd_rd_tup nt b xs h
    refine ⟨_, hc4, szl (by rw [List.length_map, hl]; omega), ps ++ [(p, kvs)], by rw [List.map_append]; exact hG', by simp [hl], S5, (st1.trans st4).over hC nt, by rw [upd_same, List.map_append]; rfl, fun u hu => ?_, ?_⟩
    · rcases List.mem_append.mp hu with hu | hu
      · obtain ⟨h1, h2, ks', h3, h4⟩ := hp1 u hu
        refine ⟨h1, h2, ks', by rw [upd_ne h2]; exact st4.ob _ _ (S.noW h1) h3, (st4.kvs h4).mono tt⟩
      · obtain rfl : u = (p, kvs) := by simpa using hu
        refine ⟨?_, hpC, ks, by rw [upd_ne hpC]; exact lp, qp.mono tt⟩
        cases q : H p with
        | none => rfl
        | some o => rw [st1.ob p o wp q] at np; cases np
    · rw [List.map_append, List.nodup_append]
      refine ⟨hnd, by simp, fun u hu w hw z => ?_⟩
      obtain ⟨u', hu', rfl⟩ := List.mem_map.mp hu
      obtain rfl : w = p := by simpa using hw
      obtain ⟨_, _, ks', h3, _⟩ := hp1 u' hu'
      rw [z, np] at h3; cases h3
  · obtain ⟨k1, k2, eacc, hO⟩ := hd _ hG
    match ps, eacc with
    | [(p1, kk1), (p2, kk2)], eacc =>
      simp only [List.map_cons, List.map_nil, List.cons.injEq, and_true] at eacc
      obtain ⟨rfl, rfl⟩ := eacc
      obtain ⟨a1, a2, ks1, a3, a4⟩ := hp (p1, kk1) (by simp)
      obtain ⟨b1, b2, ks2, b3, b4⟩ := hp (p2, kk2) (by simp)
      have hne : p1 ≠ p2 := by simpa using hnd
      have r1 : ROk K m H0 Γ σ H' (.ref p1) (.fd kk1) := ⟨p1, ks1, rfl, S.none0 a1, S.noW a1, a3, a4, S.apart a1⟩
      have r2 : ROk K m H0 Γ σ H' (.ref p2) (.fd kk2) := ⟨p2, ks2, rfl, S.none0 b1, S.noW b1, b3, b4, S.apart b1⟩
      have f1 : Fsh H (.ref p1) (.fd kk1) := fun c ec => by cases ec; exact a1
      have f2 : Fsh H (.ref p2) (.fd kk2) := fun c ec => by cases ec; exact b1
      have Sa := S'.set (i := a) r1
      have Sb := Sa.set (i := b) (r2.set (i := a) (x := .fd kk1) (v := .ref p1) fun c _ _ ew ev => by cases ew; cases ev; exact hne rfl)
      refine ⟨C, _, rfl, .of hc, rfl, _, _, rfl, _, _, rfl, rfl, f.nx _ _ H' ?_ Sb hO⟩
      exact ⟨fun c o w h ap => ⟨st.ob c o w h, apart_set (apart_set ap (fsh_ne f1 h)) (fsh_ne f2 h)⟩, fun c xs h => st.tp c xs h⟩

/-- for x in an own list that is held -/
theorem ss_forLl {i : Nat} {a : Addr} {xs : List V} {ds : List PyData} {g : TG} {js : List Nat} (e : Γ[i]? = some (.ll a xs ds)) (h : ∃ I : Nat → Gm → Prop, I 0 Γ ∧ (∀ j Γ', I j Γ' → Γ'[i]? = some (.ll a xs ds)) ∧
      (∀ j d Γ', ds[j]? = some d → I j Γ' → GT (K := K) (m := m) (H0 := H0) g js d Γ' fun Γ'' => SS K m H0 t Γ'' { nx := I (j + 1), ct := I (j + 1), bk := O.nx, rt := O.rt }) ∧
      ∀ Γ', I ds.length Γ' → O.nx Γ') : SS K m H0 (tFor (iList K (tVar i)) g t) Γ O := fun σ H D S f => by
  obtain ⟨I, i0, hk, hs, hd⟩ := h
  obtain ⟨o, e1, rfl, n, w, l, q⟩ := S.sl i _ e
  have wk : Walk (Itl K a) ds.length (fun H' => SqL K H' a xs ∧ ImAll K H' xs ds) (YAt xs) := by
    rw [← q.length]; exact walk_list.mono (fun H g => g.1) fun i H x H' _ _ y => y
  have G : ∀ j Γ' σ' H', I j Γ' → Sta K m H0 Γ' σ' H' → SqL K H' a xs ∧ ImAll K H' xs ds := fun j Γ' σ' H' hI S' => by
    obtain ⟨o, e2, e3, n', w', l', q'⟩ := S'.sl i _ (hk j Γ' hI)
    exact ⟨.of l', q'⟩
  refine ⟨_, e1, a, rfl, ⟨xs, .of l⟩, for_it wk (fun j σ' H' => ∃ Γ', I j Γ' ∧ Sta K m H0 Γ' σ' H' ∧ Adv m Γ σ H Γ' σ' H') ⟨_, i0, S, .refl⟩ (fun j σ' H' _ ⟨Γ', hI, S', _⟩ => G j Γ' σ' H' hI S') (fun j x σ' H' H'' hj ⟨Γ', hI, S', A⟩ y => ?_) fun σ' H' ⟨Γ', hI, S', A⟩ => ?_⟩
  · obtain ⟨ey, y⟩ := y
    subst ey
    obtain ⟨d, e4, e5⟩ := (G j Γ' σ' H'' hI S').2.getV y
    refine hs j d Γ' e4 hI σ' H'' x S' e5 _ fun Γ2 σ2 A2 S2 _ p => ?_
    have AA := A.trans A2
    exact p σ2 H'' _ S2 ⟨fun Γ3 σ3 H3 A3 S3 q => ⟨Γ3, q, S3, AA.trans A3⟩, f.rt, fun Γ3 σ3 H3 A3 S3 q => f.nx _ σ3 H3 (AA.trans A3) S3 q, fun Γ3 σ3 H3 A3 S3 q => ⟨Γ3, q, S3, AA.trans A3⟩⟩
  · exact f.nx _ σ' H' A S' (hd Γ' hI)

/-! ### tests that must fail, texts -/
theorem ss_ifF {t1 : TT} {ts : TS} (h : ∀ B : Bool → Prop, B false → ET K m H0 t1 Γ B) (hn : O.nx Γ) : SS K m H0 (tIfS t1 ts tNext) Γ O := ss_if (h _ (ss_next hn))
theorem ss_orF {t1 t2 : TT} {ts : TS} (h1 : ∀ B : Bool → Prop, B false → ET K m H0 t1 Γ B) (h2 : ∀ B : Bool → Prop, B false → ET K m H0 t2 Γ B) (hn : O.nx Γ) : SS K m H0 (tIfS (tOr t1 t2) ts tNext) Γ O :=
  ss_if (et_or (h1 _ (h2 _ (ss_next hn))))
theorem et_F {ta : TE} {B : Bool → Prop} (h : ∀ P : R → Prop, P (.im (.bool false)) → E K m H0 ta Γ P) (b : B false) : ET K m H0 (tTest ta) Γ B := et_cmp (h _ ⟨false, rfl, b⟩)
theorem e_neS {ta tb : TE} {s : Str} {P : R → Prop} (ha : E K m H0 ta Γ fun x => x = .im (.str s)) (hb : E K m H0 tb Γ fun x => x = .im (.str s)) (p : P (.im (.bool false))) : E K m H0 (tOp rNe ta tb) Γ P :=
  e_op (ha.imp fun x ex => hb.imp fun y ey => by
    subst ex ey
    intro σ H v w S hx hy Q k
    cases Im.str_inv hx; cases Im.str_inv hy
    refine ⟨by simp [scal], ?_⟩
    rw [show (!decide (V.str s = V.str s)) = false by simp]
    exact k.im S (.bl _) p)
theorem e_neSame {ta tb : TE} {d : PyData} {P : R → Prop} (ha : E K m H0 ta Γ fun x => x.dat = some d) (hb : E K m H0 tb Γ fun x => x.dat = some d) (hp : pd 60 d) (p : P (.im (.bool false))) : E K m H0 (tOp (rNeD K) ta tb) Γ P :=
  e_neP (ha.imp fun x ex => hb.imp fun y ey => ⟨d, d, ex, ey, hp, hp, fun k hk => by rw [hk.mpr rfl]; exact p⟩)
end
end Rt

set_option Elab.async false
set_option linter.all false
set_option maxRecDepth 100000
set_option maxHeartbeats 2000000
namespace Rd
open PySem L2 Rt StX

/-! ### sums -/
section
variable {α β : Type}
def sm (f : α → Int) : List α → Int
  | [] => 0
  | a :: as => f a + sm f as
theorem sm_app (f : α → Int) : ∀ a b : List α, sm f (a ++ b) = sm f a + sm f b
  | [], b => by simp [sm]
  | x :: a, b => by simp only [List.cons_append, sm, sm_app f a b]; omega
theorem sm_add (f g : α → Int) : ∀ a : List α, sm (fun x => f x + g x) a = sm f a + sm g a
  | [] => rfl
  | x :: a => by simp only [sm, sm_add f g a]; omega
theorem sm_congr {f g : α → Int} : ∀ {a : List α}, (∀ x ∈ a, f x = g x) → sm f a = sm g a
  | [], _ => rfl
  | x :: a, h => by simp only [sm]; rw [h x List.mem_cons_self, sm_congr fun y hy => h y (List.mem_cons_of_mem _ hy)]
theorem sm_mul (c : Int) (f : α → Int) : ∀ a : List α, sm (fun x => c * f x) a = c * sm f a
  | [] => by simp [sm]
  | x :: a => by simp only [sm, sm_mul c f a, Int.mul_add]
theorem sm_mulr (c : Int) (f : α → Int) : ∀ a : List α, sm (fun x => f x * c) a = sm f a * c
  | [] => by simp [sm]
  | x :: a => by simp only [sm, sm_mulr c f a, Int.add_mul]
theorem sm_zero {f : α → Int} : ∀ {a : List α}, (∀ x ∈ a, f x = 0) → sm f a = 0
  | [], _ => rfl
  | x :: a, h => by simp only [sm]; rw [h x List.mem_cons_self, sm_zero fun y hy => h y (List.mem_cons_of_mem _ hy)]; rfl
theorem sm_map (f : β → Int) (g : α → β) : ∀ a : List α, sm f (a.map g) = sm (fun x => f (g x)) a
  | [] => rfl
  | x :: a => by simp only [List.map_cons, sm, sm_map f g a]
theorem sm_flat (f : β → Int) (g : α → List β) : ∀ a : List α, sm f (a.flatMap g) = sm (fun x => sm f (g x)) a
  | [] => rfl
  | x :: a => by simp only [List.flatMap_cons, sm, sm_app, sm_flat f g a]
theorem sm_pick [DecidableEq α] (f : α → Int) (b : α) : ∀ a : List α, a.Nodup → sm (fun x => if x = b then f x else 0) a = if b ∈ a then f b else 0
  | [], _ => rfl
  | x :: a, h => by
    have hx := (List.nodup_cons.mp h)
    simp only [sm]
    rw [sm_pick f b a hx.2]
    by_cases e : x = b
    · subst e
      rw [if_pos rfl, if_neg hx.1, if_pos List.mem_cons_self]; omega
    · rw [if_neg e]
      by_cases hb : b ∈ a
      · rw [if_pos hb, if_pos (List.mem_cons_of_mem _ hb)]; omega
      · rw [if_neg hb, if_neg (fun z => by rcases List.mem_cons.mp z with z | z
                                           · exact e z.symm
                                           · exact hb z)]; rfl
end

/-! ### the dict of counts -/
abbrev O := Option T
/-- what pairs count for -/
def tally (l r : T) (prs : List (O × O)) (x : O) : Int := sm (fun pq => if putO pq.1 pq.2 = x then cnt pq.1 l * cnt pq.2 r else 0) prs
def prod (a b : List O) : List (O × O) := a.flatMap fun p => b.map fun q => (p, q)
theorem putO_lv (p q : O) : lvO (putO p q) = lvO p + lvO q := by
  cases p <;> cases q <;> simp [putO, lvO, T.lv]
theorem putO_ok {p q : O} (h1 : okO p) (h2 : okO q) : okO (putO p q) := by
  cases p <;> cases q <;> first | trivial | exact h1 | exact h2 | exact ⟨h1, h2⟩
theorem putO_lets {k : Nat} {p q : O} (h1 : letsO k p) (h2 : letsO k q) : letsO k (putO p q) := by
  cases p <;> cases q <;> first | trivial | exact h1 | exact h2 | exact ⟨h1, h2⟩
/-- one lot -/
theorem lot {l r : T} {A B : List O} {M : Nat} (nA : A.Nodup) (nB : B.Nodup) (hA : ∀ p, okO p → lvO p ≤ M → p ∉ A → cnt p l = 0) (hB : ∀ p, okO p → lvO p ≤ M → p ∉ B → cnt p r = 0) {a b : O} (ha : okO a) (hb : okO b) (la : lvO a ≤ M) (lb : lvO b ≤ M) :
    sm (fun pq : O × O => (if pq.1 = a then cnt pq.1 l else 0) * (if pq.2 = b then cnt pq.2 r else 0)) (prod A B) = cnt a l * cnt b r := by
  unfold prod
  rw [sm_flat]
  have e : ∀ p ∈ A, sm (fun pq : O × O => (if pq.1 = a then cnt pq.1 l else 0) * (if pq.2 = b then cnt pq.2 r else 0)) (B.map fun q => (p, q)) = (if p = a then cnt p l else 0) * cnt b r := fun p _ => by
    rw [sm_map]
    show sm (fun q => (if p = a then cnt p l else 0) * (if q = b then cnt q r else 0)) B = _
    rw [sm_mul, sm_pick (fun q => cnt q r) b B nB]
    congr 1
    by_cases h : b ∈ B
    · rw [if_pos h]
    · rw [if_neg h, hB b hb lb h]
  rw [sm_congr e, sm_mulr, sm_pick (fun p => cnt p l) a A nA]
  congr 1
  by_cases h : a ∈ A
  · rw [if_pos h]
  · rw [if_neg h, hA a ha la h]
theorem mul_ite {p q : Prop} [Decidable p] [Decidable q] (x y : Int) : (if p then x else 0) * (if q then y else 0) = if p ∧ q then x * y else 0 := by
  by_cases hp : p
  · by_cases hq : q <;> simp [hp, hq]
  · simp [hp]
theorem tally_all {l r : T} {A B : List O} {M : Nat} (nA : A.Nodup) (nB : B.Nodup) (hA : ∀ p, okO p → lvO p ≤ M → p ∉ A → cnt p l = 0) (hB : ∀ p, okO p → lvO p ≤ M → p ∉ B → cnt p r = 0) {x : O} (hx : okO x) (lx : lvO x ≤ M) :
    tally l r (prod A B) x = cnt x (.nd l r) := by
  unfold tally
  have L := fun {a b : O} (ha : okO a) (hb : okO b) (la : lvO a ≤ M) (lb : lvO b ≤ M) => lot nA nB hA hB ha hb la lb
  cases x with
  | none =>
    have e : ∀ pq ∈ prod A B, (if putO pq.1 pq.2 = none then cnt pq.1 l * cnt pq.2 r else 0) = (if pq.1 = none then cnt pq.1 l else 0) * (if pq.2 = none then cnt pq.2 r else 0) := fun pq _ => by
      obtain ⟨p, q⟩ := pq
      cases p <;> cases q <;> simp [putO]
    rw [sm_congr e, L (a := none) (b := none) trivial trivial (Nat.zero_le _) (Nat.zero_le _), cnt_none, cnt_none, cnt_none]; rfl
  | some t =>
    cases t with
    | lf v =>
      have e : ∀ pq ∈ prod A B, (if putO pq.1 pq.2 = some (.lf v) then cnt pq.1 l * cnt pq.2 r else 0) =
          (if pq.1 = some (.lf v) then cnt pq.1 l else 0) * (if pq.2 = none then cnt pq.2 r else 0) + (if pq.1 = none then cnt pq.1 l else 0) * (if pq.2 = some (.lf v) then cnt pq.2 r else 0) := fun pq _ => by
        obtain ⟨p, q⟩ := pq
        cases p <;> cases q <;> simp [putO] <;> split <;> simp
      rw [sm_congr e, sm_add, L (a := some (.lf v)) (b := none) hx trivial lx (Nat.zero_le _), L (a := none) (b := some (.lf v)) trivial hx (Nat.zero_le _) lx, cnt_none, cnt_none]
      show _ = cnt (some (.lf v)) l + cnt (some (.lf v)) r + 0
      omega
    | nd u w =>
      have e : ∀ pq ∈ prod A B, (if putO pq.1 pq.2 = some (.nd u w) then cnt pq.1 l * cnt pq.2 r else 0) =
          ((if pq.1 = some (.nd u w) then cnt pq.1 l else 0) * (if pq.2 = none then cnt pq.2 r else 0) + (if pq.1 = none then cnt pq.1 l else 0) * (if pq.2 = some (.nd u w) then cnt pq.2 r else 0)) + (if pq.1 = some u then cnt pq.1 l else 0) * (if pq.2 = some w then cnt pq.2 r else 0) := fun pq _ => by
        obtain ⟨p, q⟩ := pq
        cases p with
        | none => cases q <;> simp [putO] <;> split <;> simp
        | some p => cases q with
          | none => simp [putO]; split <;> simp
          | some q => simp only [putO, mul_ite]; simp
      have lu : u.lv ≤ M := by have : u.lv + w.lv ≤ M := lx; omega
      have lw : w.lv ≤ M := by have : u.lv + w.lv ≤ M := lx; omega
      rw [sm_congr e, sm_add, sm_add, L (a := some (.nd u w)) (b := none) hx trivial lx (Nat.zero_le _), L (a := none) (b := some (.nd u w)) trivial hx (Nat.zero_le _) lx, L (a := some u) (b := some w) hx.1 hx.2 lu lw, cnt_none, cnt_none]
      show _ = cnt (some (.nd u w)) l + cnt (some (.nd u w)) r + cnt (some u) l * cnt (some w) r
      omega

/-- told by its keys -/
def asD (ps : List O) (F : O → Int) : List (List Int × PyData) := ps.map fun p => (encO p, .int (F p))
theorem getT_asD {F : O → Int} {x : O} (hx : okO x) : ∀ {ps : List O}, (∀ p ∈ ps, okO p) → getT (asD ps F) (encO x) = if x ∈ ps then some (.int (F x)) else none
  | [], _ => by simp [getT, asD]
  | p :: ps, h => by
    have ih := getT_asD (F := F) hx (ps := ps) fun q hq => h q (List.mem_cons_of_mem _ hq)
    unfold getT asD at ih ⊢
    rw [List.map_cons, List.find?_cons]
    by_cases e : p = x
    · subst e
      simp
    · have e' : ¬ encO p = encO x := fun z => e (encO_inj (h p List.mem_cons_self) hx z)
      rw [decide_eq_false e']
      show Option.map _ (List.find? _ _) = _
      rw [ih]
      by_cases hm : x ∈ ps
      · rw [if_pos hm, if_pos (List.mem_cons_of_mem _ hm)]
      · rw [if_neg hm, if_neg (fun z => by rcases List.mem_cons.mp z with z | z
                                           · exact e z.symm
                                           · exact hm z)]
theorem any_asD {F : O → Int} {x : O} (hx : okO x) {ps : List O} (h : ∀ p ∈ ps, okO p) : ((asD ps F).any fun p => decide (p.1 = encO x)) = true ↔ x ∈ ps := by
  unfold asD
  rw [List.any_map, List.any_eq_true]
  refine ⟨fun ⟨p, hp, e⟩ => ?_, fun hm => ⟨x, hm, by simp⟩⟩
  have : encO p = encO x := by simpa using e
  rw [← encO_inj (h p hp) hx this]; exact hp
theorem putT_asD {F : O → Int} {x : O} {v : Int} (hx : okO x) {ps : List O} (h : ∀ p ∈ ps, okO p) : putT (asD ps F) (encO x) (.int v) = asD (if x ∈ ps then ps else ps ++ [x]) (fun y => if y = x then v else F y) := by
  unfold putT
  by_cases hm : x ∈ ps
  · rw [if_pos ((any_asD hx h).mpr hm), if_pos hm]
    unfold asD
    rw [List.map_map]
    apply List.map_congr_left
    intro p hp
    by_cases e : p = x
    · subst e; simp
    · have e' : ¬ encO p = encO x := fun z => e (encO_inj (h p hp) hx z)
      simp [e, e']
  · rw [if_neg (fun z => hm ((any_asD hx h).mp z)), if_neg hm]
    unfold asD
    rw [List.map_append]
    congr 1
    · apply List.map_congr_left
      intro p hp
      have e : ¬ p = x := fun z => hm (z ▸ hp)
      simp [e]
    · simp
/-- the counts of the trees to M leaves -/
def Good (k M : Nat) (t : T) (kvs : List (List Int × PyData)) : Prop := ∃ ps : List O, kvs = asD ps (fun p => cnt p t) ∧ ps.Nodup ∧ (∀ p ∈ ps, letsO k p ∧ lvO p ≤ M) ∧ (∀ p, okO p → lvO p ≤ M → p ∉ ps → cnt p t = 0) ∧ ps.length ≤ 2 ^ t.lv
theorem asD_congr {F G : O → Int} {ps : List O} (h : ∀ p ∈ ps, F p = G p) : asD ps F = asD ps G := List.map_congr_left fun p hp => by rw [h p hp]
/-- a pair more -/
structure Part (k M : Nat) (l r : T) (prs : List (O × O)) (kvs : List (List Int × PyData)) : Prop where
  ex : ∃ ps : List O, kvs = asD ps (tally l r prs) ∧ ps.Nodup ∧ (∀ p ∈ ps, letsO k p ∧ lvO p ≤ M) ∧ (∀ p, okO p → lvO p ≤ M → p ∉ ps → tally l r prs p = 0) ∧ ps.length ≤ prs.length
theorem tally_snoc (l r : T) (prs : List (O × O)) (p q x : O) : tally l r (prs ++ [(p, q)]) x = tally l r prs x + if putO p q = x then cnt p l * cnt q r else 0 := by
  unfold tally
  rw [sm_app]
  simp [sm]
theorem Part.skip {k M : Nat} {l r : T} {prs : List (O × O)} {kvs : List (List Int × PyData)} (h : Part k M l r prs kvs) {p q : O} (hn : ¬ lvO p + lvO q ≤ M) : Part k M l r (prs ++ [(p, q)]) kvs := by
  obtain ⟨ps, e, h1, h2, h3, h4⟩ := h.ex
  have key : ∀ x, lvO x ≤ M → tally l r (prs ++ [(p, q)]) x = tally l r prs x := fun x hx => by
    rw [tally_snoc, if_neg (fun z => by rw [← z, putO_lv] at hx; exact hn hx)]; omega
  exact ⟨ps, by rw [e]; exact asD_congr fun y hy => (key y (h2 y hy).2).symm, h1, h2, fun y hy ly hm => by rw [key y ly]; exact h3 y hy ly hm, by simp; omega⟩
theorem Part.get {k M : Nat} {l r : T} {prs : List (O × O)} {kvs : List (List Int × PyData)} (h : Part k M l r prs kvs) {x : O} (hx : okO x) (lx : lvO x ≤ M) : (getT kvs (encO x)).getD (.int 0) = .int (tally l r prs x) := by
  obtain ⟨ps, e, h1, h2, h3, h4⟩ := h.ex
  rw [e, getT_asD hx fun p hp => letsO_ok (h2 p hp).1]
  by_cases hm : x ∈ ps
  · rw [if_pos hm]; rfl
  · rw [if_neg hm, h3 x hx lx hm]; rfl
theorem Part.put {k M : Nat} {l r : T} {prs : List (O × O)} {kvs : List (List Int × PyData)} (h : Part k M l r prs kvs) {p q : O} (hp : letsO k p) (hq : letsO k q) (hn : lvO p + lvO q ≤ M) :
    Part k M l r (prs ++ [(p, q)]) (putT kvs (encO (putO p q)) (.int (tally l r prs (putO p q) + cnt p l * cnt q r))) := by
  obtain ⟨ps, e, h1, h2, h3, h4⟩ := h.ex
  have hx := putO_lets hp hq
  have lx : lvO (putO p q) ≤ M := by rw [putO_lv]; exact hn
  generalize hxx : putO p q = x at hx lx ⊢
  have key : ∀ y, tally l r (prs ++ [(p, q)]) y = if y = x then tally l r prs x + cnt p l * cnt q r else tally l r prs y := fun y => by
    rw [tally_snoc, hxx]
    by_cases ey : x = y
    · subst ey; rw [if_pos rfl, if_pos rfl]
    · rw [if_neg ey, if_neg (Ne.symm ey)]; omega
  have e2 : asD (if x ∈ ps then ps else ps ++ [x]) (fun y => if y = x then tally l r prs x + cnt p l * cnt q r else tally l r prs y) = asD (if x ∈ ps then ps else ps ++ [x]) (tally l r (prs ++ [(p, q)])) := asD_congr fun y _ => (key y).symm
  refine ⟨if x ∈ ps then ps else ps ++ [x], by rw [e, putT_asD (letsO_ok hx) fun p hp => letsO_ok (h2 p hp).1]; exact e2, ?_, ?_, ?_, ?_⟩
  · by_cases hm : x ∈ ps
    · rw [if_pos hm]; exact h1
    · rw [if_neg hm, List.nodup_append]
      exact ⟨h1, by simp, fun a ha b hb z => hm (by rw [← List.mem_singleton.mp hb, ← z]; exact ha)⟩
  · intro y hy
    by_cases hm : x ∈ ps
    · rw [if_pos hm] at hy; exact h2 y hy
    · rw [if_neg hm] at hy
      rcases List.mem_append.mp hy with hy | hy
      · exact h2 y hy
      · obtain rfl : y = x := by simpa using hy
        exact ⟨hx, lx⟩
  · intro y hy ly hny
    have hyx : y ≠ x := fun z => hny (by
      subst z
      by_cases hm : y ∈ ps
      · rw [if_pos hm]; exact hm
      · rw [if_neg hm]; simp)
    have hyp : y ∉ ps := fun z => hny (by
      by_cases hm : x ∈ ps
      · rw [if_pos hm]; exact z
      · rw [if_neg hm]; exact List.mem_append_left _ z)
    rw [key y, if_neg hyx]; exact h3 y hy ly hyp
  · by_cases hm : x ∈ ps
    · rw [if_pos hm]; simp; omega
    · rw [if_neg hm]; simp; omega
theorem Part.nil {k M : Nat} {l r : T} : Part k M l r [] [] := ⟨[], rfl, List.nodup_nil, by simp, fun _ _ _ _ => rfl, Nat.le_refl _⟩
theorem prod_len (A B : List O) : (prod A B).length = A.length * B.length := by
  unfold prod
  induction A with
  | nil => simp
  | cons a A ih => rw [List.flatMap_cons, List.length_append, ih, List.length_map, List.length_cons, Nat.succ_mul]; omega
theorem Part.good {k M : Nat} {l r : T} {A B : List O} {kvs : List (List Int × PyData)} (h : Part k M l r (prod A B) kvs) (nA : A.Nodup) (nB : B.Nodup) (hA : ∀ p, okO p → lvO p ≤ M → p ∉ A → cnt p l = 0) (hB : ∀ p, okO p → lvO p ≤ M → p ∉ B → cnt p r = 0)
    (zA : A.length ≤ 2 ^ l.lv) (zB : B.length ≤ 2 ^ r.lv) : Good k M (.nd l r) kvs := by
  obtain ⟨ps, e, h1, h2, h3, h4⟩ := h.ex
  have key : ∀ y, okO y → lvO y ≤ M → tally l r (prod A B) y = cnt y (.nd l r) := fun y hy ly => tally_all nA nB hA hB hy ly
  refine ⟨ps, by rw [e]; exact asD_congr fun y hy => key y (letsO_ok (h2 y hy).1) (h2 y hy).2, h1, h2, fun y hy ly hm => by rw [← key y hy ly]; exact h3 y hy ly hm, ?_⟩
  rw [prod_len] at h4
  show ps.length ≤ 2 ^ (l.lv + r.lv)
  rw [Nat.pow_add]
  exact Nat.le_trans h4 (Nat.mul_le_mul zA zB)
theorem Good.get {k M : Nat} {t : T} {kvs : List (List Int × PyData)} (h : Good k M t kvs) {x : O} (hx : okO x) (lx : lvO x ≤ M) : (getT kvs (encO x)).getD (.int 0) = .int (cnt x t) := by
  obtain ⟨ps, e, h1, h2, h3, h4⟩ := h
  rw [e, getT_asD hx fun p hp => letsO_ok (h2 p hp).1]
  by_cases hm : x ∈ ps
  · rw [if_pos hm]; rfl
  · rw [if_neg hm, h3 x hx lx hm]; rfl
theorem good_leaf {k M : Nat} {a : Int} (hl : lets k (.lf a)) (hM : 1 ≤ M) : Good k M (.lf a) [([], .int 1), ([a], .int 1)] := by
  refine ⟨[none, some (.lf a)], by simp [asD, encO, T.enc, cnt], by simp, fun p hp => ?_, fun p _ _ hm => ?_, by show 2 ≤ 2 ^ 1; decide⟩
  · rcases List.mem_cons.mp hp with rfl | hp
    · exact ⟨trivial, Nat.zero_le _⟩
    · obtain rfl : p = some (.lf a) := by simpa using hp
      exact ⟨hl, hM⟩
  · cases p with
    | none => simp at hm
    | some q =>
      have : q ≠ .lf a := fun z => hm (by simp [z])
      simp [cnt, this]
end Rd

set_option Elab.async false
set_option linter.all false
set_option maxRecDepth 100000
set_option maxHeartbeats 2000000
namespace Rd
open PySem L2 Rt StX
section
variable {K : PySem.W.Frag} {m : Mode} {H0 H H' : Hp} {rs : List R} {P : R → Prop} {Γ : Gm} {ta tb te : TE}
def C__law_left (n : Nat) : Ct := fun rs P => ∃ (k M : Nat) (t : T), rs = [.im (tD t.enc), .im (.int (M : Nat))] ∧ lets k t ∧ 1 ≤ M ∧ M ≤ 8 ∧ t.lv ≤ n ∧ t.lv ≤ 8 ∧ ∀ kvs, Good k M t kvs → P (.fd kvs)
theorem half_len (p : O) : (((encO p).length : Nat) + 1 : Int) / 2 = (lvO p : Nat) := by
  cases p with
  | none => rfl
  | some t =>
    have := t.enc_len
    show (((t.enc.length : Nat) : Int) + 1) / 2 = (t.lv : Nat)
    omega
theorem e_half {i : Nat} {p : O} (e : (Γ[i]?).bind Sl.r = some (.im (tD (encO p)))) (h : P (.im (.int (lvO p : Nat)))) :
    E K m H0 (tOp (rI CDivW fun i j => .int (i / j)) (tOp (rI0 fun i j => .int (i + j)) (tCB (rLenQ K) (tCons (tVar i) tNil)) (tC (.int 1))) (tC (.int 2))) Γ P := by
  refine e_op <| e_op <| e_lenT (e_v e) <| e_int <| rr_i <| e_int <| rr_ic ⟨by decide, by decide⟩ ?_
  rw [half_len]; exact h
theorem asD_at {ps : List O} {F : O → Int} {j : Nat} {key : List Int} {d : PyData} (h : (asD ps F)[j]? = some (key, d)) : ∃ p, ps[j]? = some p ∧ key = encO p ∧ d = .int (F p) := by
  unfold asD at h
  rw [List.getElem?_map] at h
  cases e : ps[j]? with
  | none => rw [e] at h; cases h
  | some p =>
    rw [e] at h
    have := Option.some.inj h
    exact ⟨p, rfl, (congrArg Prod.fst this).symm, (congrArg Prod.snd this).symm⟩
theorem asD_len (ps : List O) (F : O → Int) : (asD ps F).length = ps.length := List.length_map ..
theorem prod_take {A B : List O} {i : Nat} {p : O} (h : A[i]? = some p) : prod (A.take (i + 1)) B = prod (A.take i) B ++ B.map fun q => (p, q) := by
  unfold prod
  rw [List.take_add_one, h, List.flatMap_append]
  simp
theorem ss__law_left {n : Nat} (h : C__law_left (n + 1) rs P) : SS K m H0 (t__law_left K C__law_split (C__law_left n) C__law_put) (ent 10 rs) { rt := P, nx := fun _ => P (.im .none) } := by
  obtain ⟨k, M, t, rfl, hl, hM, hM8, hn, h8, p⟩ := h
  refine ss_seq <| ss_if <| et_of <| e_eqI <| e_lenT (e_v rfl) <| e_int ⟨_, _, rfl, rfl, _, rfl, ?_⟩
  cases t with
  | lf a =>
    rw [decide_eq_true (by rfl)]
    refine ss_ret <| e_if <| et_cmp <| e_op <| e_var rfl <| e_int <| rr_b ⟨_, rfl, ?_⟩
    rw [decide_eq_true (by omega)]
    refine e_dispT <| ep_cons <| e_nilT ⟨[], rfl, e_int ⟨_, rfl, ep_cons <| e_var rfl ⟨[a], rfl, e_int ⟨_, rfl, ep_nil ⟨by show 2 ≤ 15; decide, rfl, ?_⟩⟩⟩⟩⟩
    have e : ([(([] : List Int), PyData.int 1), ([a], .int 1)].foldl (fun acc t => putT acc t.1 t.2) []) = [([], .int 1), ([a], .int 1)] := by simp [putT]
    rw [e]
    exact p _ (good_leaf hl hM)
  | nd l r =>
    have lvl := l.lv_pos
    have lvr := r.lv_pos
    have el := l.enc_len
    have er := r.enc_len
    have hn' : l.lv + r.lv ≤ n + 1 := hn
    have h8' : l.lv + r.lv ≤ 8 := h8
    rw [decide_eq_false (by simp only [T.enc, List.length_cons, List.length_append]; omega)]
    refine ss_next <| ss_seq <| ss_par <| e_callP <| ea_cons <| e_var rfl <| ea_nil ⟨l, r, rfl, lets_ok _ hl.1, lets_ok _ hl.2, by omega, e_dnewT ?_⟩
    refine ss_seq <| ss_lcD2 (i := 2) (j := 9) (a := 4) (b := 5) (ds := [tD l.enc, tD r.enc]) rfl (by show 2 ≤ 1000000; decide) (fun n acc => acc.length = n ∧ (∀ kv, acc[0]? = some kv → Good k M l kv) ∧ ∀ kv, acc[1]? = some kv → Good k M r kv) ⟨rfl, by simp, by simp⟩ ?_ ?_
    · rintro i d acc hd ⟨ha, g1, g2⟩
      match i, hd with
      | 0, hd =>
        obtain rfl : tD l.enc = d := Option.some.inj hd
        obtain rfl := List.eq_nil_of_length_eq_zero ha
        refine e_callP <| ea_cons <| e_var rfl <| ea_cons <| e_var rfl <| ea_nil ⟨k, M, l, rfl, hl.1, hM, hM8, by omega, by omega, fun kvs g => ⟨kvs, rfl, rfl, fun kv e => ?_, by simp⟩⟩
        obtain rfl : kvs = kv := by simpa using e
        exact g
      | 1, hd =>
        obtain rfl : tD r.enc = d := Option.some.inj hd
        obtain ⟨kv1, rfl⟩ := List.length_eq_one_iff.mp ha
        refine e_callP <| ea_cons <| e_var rfl <| ea_cons <| e_var rfl <| ea_nil ⟨k, M, r, rfl, hl.2, hM, hM8, by omega, by omega, fun kvs g => ⟨kvs, rfl, rfl, fun kv e => g1 kv (by simpa using e), fun kv e => ?_⟩⟩
        obtain rfl : kvs = kv := by simpa using e
        exact g
      | i + 2, hd => simp at hd
    · rintro acc ⟨ha, g1, g2⟩
      have ha2 : acc.length = 2 := ha
      obtain ⟨kvs1, kvs2, rfl⟩ : ∃ a b, acc = [a, b] := by
        match acc, ha2 with
        | [a, b], _ => exact ⟨a, b, rfl⟩
      refine ⟨kvs1, kvs2, rfl, ?_⟩
      obtain ⟨A, rfl, nA, lA, zA, bA⟩ := g1 _ rfl
      obtain ⟨B, rfl, nB, lB, zB, bB⟩ := g2 _ rfl
      have hAB : A.length * B.length ≤ 256 := by
        have h1 := Nat.mul_le_mul bA bB
        rw [← Nat.pow_add] at h1
        exact Nat.le_trans h1 (Nat.pow_le_pow_right (by decide) h8')
      generalize hk1 : asD A (fun p => cnt p l) = kvs1 at *
      generalize hk2 : asD B (fun p => cnt p r) = kvs2 at *
      have l1 : kvs1.length = A.length := by rw [← hk1, asD_len]
      have l2 : kvs2.length = B.length := by rw [← hk2, asD_len]
      refine ss_seq <| ss_forDt (i := 4) (js := [6]) rfl fun a od ks => ⟨fun i Γ => ∃ (found : List (List Int × PyData)) (s6 s7 s8 : Sl), Γ = [.im (tD (T.nd l r).enc), .im (.int (M : Nat)), .im (.tuple [tD l.enc, tD r.enc]), .dt found, .lk a od ks kvs1, .dt kvs2, s6, s7, s8, .un] ∧ Part k M l r (prod (A.take i) B) found, ?_, ?_, ?_, ?_⟩
      · exact ⟨[], _, _, _, rfl, by simpa [prod] using Part.nil⟩
      · rintro i Γ ⟨found, s6, s7, s8, rfl, hp⟩; rfl
      · rintro i key d Γ hd ⟨found, s6, s7, s8, rfl, hp⟩
        rw [← hk1] at hd
        obtain ⟨x, hx, rfl, rfl⟩ := asD_at hd
        have hxA := List.mem_of_getElem? hx
        have hi : i < A.length := (List.getElem?_eq_some_iff.mp hx).1
        obtain ⟨lx, mx⟩ := lA x hxA
        refine gt_name <| ss_forDt (i := 5) (js := [7]) rfl fun a2 od2 ks2 => ⟨fun j Γ => ∃ (found : List (List Int × PyData)) (s7 s8 : Sl), Γ = [.im (tD (T.nd l r).enc), .im (.int (M : Nat)), .im (.tuple [tD l.enc, tD r.enc]), .dt found, .lk a od ks kvs1, .lk a2 od2 ks2 kvs2, .im (tD (encO x)), s7, s8, .un] ∧ Part k M l r (prod (A.take i) B ++ (B.take j).map fun q => (x, q)) found, ?_, ?_, ?_, ?_⟩
        · exact ⟨found, _, _, rfl, by simpa using hp⟩
        · rintro j Γ ⟨found, s7, s8, rfl, hp⟩; rfl
        · rintro j key d Γ hd ⟨found, s7, s8, rfl, hp⟩
          rw [← hk2] at hd
          obtain ⟨y, hy, rfl, rfl⟩ := asD_at hd
          have hyB := List.mem_of_getElem? hy
          have hj : j < B.length := (List.getElem?_eq_some_iff.mp hy).1
          obtain ⟨ly, my⟩ := lB y hyB
          have hnext : (prod (A.take i) B ++ (B.take j).map fun q => (x, q)) ++ [(x, y)] = prod (A.take i) B ++ (B.take (j + 1)).map fun q => (x, q) := by
            rw [List.take_add_one, hy, List.map_append, List.append_assoc]; rfl
          have hlen : found.length < 1000000 := by
            obtain ⟨ps, e, _, _, _, h4⟩ := hp.ex
            rw [e, asD_len]
            rw [List.length_append, List.length_map, prod_len, List.length_take, List.length_take, Nat.min_eq_left (Nat.le_of_lt hi), Nat.min_eq_left (Nat.le_of_lt hj)] at h4
            have : (i + 1) * B.length ≤ A.length * B.length := Nat.mul_le_mul_right _ hi
            rw [Nat.succ_mul] at this
            omega
          refine gt_name <| ss_if <| et_cmp <| e_op <| e_op <| e_half (p := x) rfl <| e_half (p := y) rfl <| rr_i <| e_var rfl <| rr_b ⟨_, rfl, ?_⟩
          by_cases hs : lvO x + lvO y ≤ M
          · rw [decide_eq_true (by omega)]
            refine ss_seq <| ss_asg <| e_callP <| ea_cons <| e_var rfl <| ea_cons <| e_var rfl <| ea_nil ⟨x, y, rfl, letsO_ok lx, letsO_ok ly, by omega, ?_⟩
            have okxy := putO_ok (letsO_ok lx) (letsO_ok ly)
            have lvxy : lvO (putO x y) ≤ M := by rw [putO_lv]; exact hs
            have c1 := cnt_log x l
            have c2 := cnt_log y r
            have g1' : getT kvs1 (encO x) = some (.int (cnt x l)) := by rw [← hk1, getT_asD (letsO_ok lx) fun p hp => letsO_ok (lA p hp).1, if_pos hxA]
            have g2' : getT kvs2 (encO y) = some (.int (cnt y r)) := by rw [← hk2, getT_asD (letsO_ok ly) fun p hp => letsO_ok (lB p hp).1, if_pos hyB]
            refine ss_dput (i := 3) (kvs := found) rfl hlen <| e_op <| e_dget2 <| e_var rfl ⟨found, rfl, e_var rfl ⟨encO (putO x y), rfl, e_int ⟨_, rfl, ?_⟩⟩⟩
            rw [hp.get okxy lvxy]
            refine e_op <| e_dget <| e_var rfl ⟨kvs1, rfl, e_var rfl ⟨encO x, _, rfl, g1', e_dget <| e_var rfl ⟨kvs2, rfl, e_var rfl ⟨encO y, _, rfl, g2', rr_ic ?_ <| rr_i ⟨_, rfl, e_var rfl ⟨encO (putO x y), rfl, ?_⟩⟩⟩⟩⟩⟩
            · show (cnt x l).natAbs.log2 + (cnt y r).natAbs.log2 < 1000000; omega
            · exact ⟨_, _, _, rfl, by rw [← hnext]; exact hp.put lx ly hs⟩
          · rw [decide_eq_false (by omega)]
            exact ss_next ⟨found, _, _, rfl, by rw [← hnext]; exact hp.skip hs⟩
        · rintro Γ ⟨found, s7, s8, rfl, hp⟩
          refine ⟨found, _, _, _, rfl, ?_⟩
          rw [l2, List.take_of_length_le (Nat.le_refl _)] at hp
          rw [prod_take hx]; exact hp
      · rintro Γ ⟨found, s6, s7, s8, rfl, hp⟩
        rw [l1, List.take_of_length_le (Nat.le_refl _)] at hp
        exact ss_retDic rfl (p _ (hp.good nA nB zA zB bA bB))
end
end Rd

set_option Elab.async false
set_option linter.all false
set_option maxRecDepth 100000
set_option maxHeartbeats 2000000
namespace Rd
open PySem L2 Rt StX

/-! ### turnings, in plain mathematics -/
def IsTu (k : Nat) (m : Int) (n : List Int) : Prop := (k = 1 ∨ k = 2) ∧ (m = 0 ∨ m = 1) ∧ n ∈ rows k
theorem IsTu.mem {k : Nat} {p : Int × List Int} (hk : k = 1 ∨ k = 2) (h : p ∈ allT k) : IsTu k p.1 p.2 := by
  unfold allT at h
  rcases List.mem_append.mp h with h | h
  · obtain ⟨r, hr, rfl⟩ := List.mem_map.mp h; exact ⟨hk, .inl rfl, hr⟩
  · obtain ⟨r, hr, rfl⟩ := List.mem_map.mp h; exact ⟨hk, .inr rfl, hr⟩
theorem IsTu.of {k : Nat} {m : Int} {n : List Int} (h : IsTu k m n) : (m, n) ∈ allT k := by
  obtain ⟨_, hm, hn⟩ := h
  unfold allT
  rcases hm with rfl | rfl
  · exact List.mem_append_left _ (List.mem_map.mpr ⟨n, hn, rfl⟩)
  · exact List.mem_append_right _ (List.mem_map.mpr ⟨n, hn, rfl⟩)
theorem rows_cases {k : Nat} {n : List Int} (hk : k = 1 ∨ k = 2) (h : n ∈ rows k) : (k = 1 ∧ n = [0]) ∨ (k = 2 ∧ n = [0, 1]) ∨ (k = 2 ∧ n = [1, 0]) := by
  rcases hk with rfl | rfl
  · left; simpa [rows] using h
  · right; simpa [rows] using h
theorem IsTu.len {k : Nat} {m : Int} {n : List Int} (h : IsTu k m n) : n.length = k := by
  rcases rows_cases h.1 h.2.2 with ⟨rfl, rfl⟩ | ⟨rfl, rfl⟩ | ⟨rfl, rfl⟩ <;> rfl
theorem IsTu.rng {k : Nat} {m : Int} {n : List Int} (h : IsTu k m n) : ∀ a ∈ n, 0 ≤ a ∧ a < k := by
  rcases rows_cases h.1 h.2.2 with ⟨rfl, rfl⟩ | ⟨rfl, rfl⟩ | ⟨rfl, rfl⟩ <;> (intro a ha; simp at ha; omega)
theorem IsTu.perm {k : Nat} {m : Int} {n : List Int} (h : IsTu k m n) : isPerm n := by
  rcases rows_cases h.1 h.2.2 with ⟨rfl, rfl⟩ | ⟨rfl, rfl⟩ | ⟨rfl, rfl⟩
  · intro j hj
    have : j < 1 := hj
    obtain rfl : j = 0 := by omega
    simp
  · intro j hj
    have : j < 2 := hj
    rcases (show j = 0 ∨ j = 1 by omega) with rfl | rfl <;> simp
  · intro j hj
    have : j < 2 := hj
    rcases (show j = 0 ∨ j = 1 by omega) with rfl | rfl <;> simp
theorem IsTu.inj {k : Nat} {m : Int} {n : List Int} (h : IsTu k m n) {a b : Int} (ha : 0 ≤ a ∧ a < k) (hb : 0 ≤ b ∧ b < k) (e : n.getD a.toNat 0 = n.getD b.toNat 0) : a = b := by
  rcases rows_cases h.1 h.2.2 with ⟨rfl, rfl⟩ | ⟨rfl, rfl⟩ | ⟨rfl, rfl⟩
  · omega
  · rcases (show a = 0 ∨ a = 1 by omega) with rfl | rfl <;> rcases (show b = 0 ∨ b = 1 by omega) with rfl | rfl <;> first | rfl | (exfalso; revert e; decide)
  · rcases (show a = 0 ∨ a = 1 by omega) with rfl | rfl <;> rcases (show b = 0 ∨ b = 1 by omega) with rfl | rfl <;> first | rfl | (exfalso; revert e; decide)
theorem IsTu.behind {k : Nat} {m1 m2 : Int} {n1 n2 : List Int} (h1 : IsTu k m1 n1) (h2 : IsTu k m2 n2) : IsTu k ((m1 + m2) % 2) (behind n1 n2) := by
  refine ⟨h1.1, ?_, ?_⟩
  · rcases h1.2.1 with rfl | rfl <;> rcases h2.2.1 with rfl | rfl <;> decide
  · rcases rows_cases h1.1 h1.2.2 with ⟨rfl, rfl⟩ | ⟨rfl, rfl⟩ | ⟨rfl, rfl⟩ <;> rcases rows_cases h2.1 h2.2.2 with ⟨e, rfl⟩ | ⟨e, rfl⟩ | ⟨e, rfl⟩ <;> first | (exfalso; revert e; decide) | decide
theorem IsTu.inv {k : Nat} {m : Int} {n : List Int} (h : IsTu k m n) : IsTu k m (inv n) := by
  refine ⟨h.1, h.2.1, ?_⟩
  rcases rows_cases h.1 h.2.2 with ⟨rfl, rfl⟩ | ⟨rfl, rfl⟩ | ⟨rfl, rfl⟩ <;> decide
theorem IsTu.both {k : Nat} {m : Int} {n : List Int} (h : IsTu k m n) : (m + m) % 2 = 0 ∧ (rows k)[0]? = some (Rd.behind n (Rd.inv n)) := by
  refine ⟨?_, ?_⟩
  · rcases h.2.1 with rfl | rfl <;> decide
  · rcases rows_cases h.1 h.2.2 with ⟨rfl, rfl⟩ | ⟨rfl, rfl⟩ | ⟨rfl, rfl⟩ <;> decide
theorem turn_behind {k : Nat} {m1 m2 : Int} {n1 n2 : List Int} (h1 : IsTu k m1 n1) (h2 : IsTu k m2 n2) : ∀ t : T, lets k t → turn ((m1 + m2) % 2) (behind n1 n2) t = turn m2 n2 (turn m1 n1 t)
  | .lf a, h => by
    simp only [lets] at h
    simp only [turn]
    by_cases h0 : 0 ≤ a
    · have hl := h1.len
      have ha : a.toNat < n1.length := by omega
      have hr := h1.rng _ (getD_mem (ns := n1) ha)
      rw [if_pos h0, if_pos h0, if_pos hr.1]
      congr 1
      unfold behind
      rw [List.getD_eq_getElem?_getD, List.getElem?_map, List.getElem?_eq_getElem ha, List.getD_eq_getElem?_getD (l := n1), List.getElem?_eq_getElem ha]; rfl
    · rw [if_neg h0, if_neg h0, if_neg h0]
  | .nd l r, h => by
    have i1 := turn_behind h1 h2 l h.1
    have i2 := turn_behind h1 h2 r h.2
    simp only [turn]
    rcases h1.2.1 with rfl | rfl <;> rcases h2.2.1 with rfl | rfl <;> simp [turn] at i1 i2 ⊢ <;> exact ⟨by assumption, by assumption⟩
theorem turn_id {k : Nat} {n : List Int} (hk : k = 1 ∨ k = 2) (h : (rows k)[0]? = some n) : ∀ t : T, lets k t → turn 0 n t = t
  | .lf a, hl => by
    simp only [lets] at hl
    simp only [turn]
    congr 1
    rcases hk with rfl | rfl
    · obtain rfl : [0] = n := Option.some.inj h
      split
      · obtain rfl : a = 0 := by omega
        rfl
      · rfl
    · obtain rfl : [0, 1] = n := Option.some.inj h
      split
      · rcases (show a = 0 ∨ a = 1 by omega) with rfl | rfl <;> rfl
      · rfl
  | .nd l r, hl => by
    simp only [turn]
    rw [if_neg (by decide), turn_id hk h l hl.1, turn_id hk h r hl.2]
theorem turn_back {k : Nat} {m : Int} {n : List Int} (h : IsTu k m n) {t : T} (ht : lets k t) : turn m (inv n) (turn m n t) = t := by
  obtain ⟨e1, e2⟩ := h.both
  rw [← turn_behind h h.inv t ht, e1, turn_id h.1 e2 t ht]
theorem cnt_turn {k : Nat} {m : Int} {n : List Int} (h : IsTu k m n) : ∀ (t : T) (p : Option T), lets k t → letsO k p → cnt (turnO m n p) (turn m n t) = cnt p t
  | t, none, _, _ => by rw [show turnO m n none = none from rfl, cnt_none, cnt_none]
  | .lf a, some q, ht, hq => by
    simp only [lets] at ht
    show cnt (some (turn m n q)) (.lf (if 0 ≤ a then n.getD a.toNat 0 else a)) = cnt (some q) (.lf a)
    simp only [cnt]
    have key : (turn m n q = .lf (if 0 ≤ a then n.getD a.toNat 0 else a)) ↔ q = .lf a := by
      refine ⟨fun e => ?_, fun e => by rw [e]; rfl⟩
      cases q with
      | lf b =>
        have hq' : (0 ≤ b ∧ b < k) ∨ (b < -1 ∧ -5 < b) := hq
        simp only [turn, T.lf.injEq] at e
        have hl := h.len
        by_cases hb : 0 ≤ b
        · by_cases ha : 0 ≤ a
          · rw [if_pos hb, if_pos ha] at e
            rw [h.inj (by omega) (by omega) e]
          · rw [if_pos hb, if_neg ha] at e
            have := h.rng _ (getD_mem (ns := n) (i := b.toNat) (by omega))
            omega
        · by_cases ha : 0 ≤ a
          · rw [if_neg hb, if_pos ha] at e
            have := h.rng _ (getD_mem (ns := n) (i := a.toNat) (by omega))
            omega
          · rw [if_neg hb, if_neg ha] at e
            rw [e]
      | nd u v =>
        simp only [turn] at e
        split at e <;> cases e
    by_cases e : q = .lf a
    · rw [if_pos e, if_pos (key.mpr e)]
    · rw [if_neg e, if_neg (fun z => e (key.mp z))]
  | .nd l r, some q, ht, hq => by
    have il := fun p hp => cnt_turn h l p ht.1 hp
    have ir := fun p hp => cnt_turn h r p ht.2 hp
    have iql : cnt (some (turn m n q)) (turn m n l) = cnt (some q) l := il (some q) hq
    have iqr : cnt (some (turn m n q)) (turn m n r) = cnt (some q) r := ir (some q) hq
    show cnt (some (turn m n q)) (turn m n (.nd l r)) = cnt (some q) (.nd l r)
    by_cases hm : m = 1
    · have e1 : turn m n (.nd l r) = .nd (turn m n r) (turn m n l) := by simp [turn, hm]
      rw [e1]
      cases q with
      | lf b =>
        have e2 : turn m n (.lf b) = .lf (if 0 ≤ b then n.getD b.toNat 0 else b) := rfl
        rw [e2] at iql iqr ⊢
        simp only [cnt] at iql iqr ⊢
        omega
      | nd u v =>
        have iu : cnt (some (turn m n u)) (turn m n l) = cnt (some u) l := il (some u) hq.1
        have iv : cnt (some (turn m n v)) (turn m n r) = cnt (some v) r := ir (some v) hq.2
        have e2 : turn m n (.nd u v) = .nd (turn m n v) (turn m n u) := by simp [turn, hm]
        rw [e2] at iql iqr ⊢
        show cnt (some (.nd (turn m n v) (turn m n u))) (turn m n r) + cnt (some (.nd (turn m n v) (turn m n u))) (turn m n l) + cnt (some (turn m n v)) (turn m n r) * cnt (some (turn m n u)) (turn m n l) = cnt (some (.nd u v)) l + cnt (some (.nd u v)) r + cnt (some u) l * cnt (some v) r
        rw [iql, iqr, iu, iv, Int.mul_comm (cnt (some v) r)]
        omega
    · have e1 : turn m n (.nd l r) = .nd (turn m n l) (turn m n r) := by simp [turn, hm]
      rw [e1]
      cases q with
      | lf b =>
        have e2 : turn m n (.lf b) = .lf (if 0 ≤ b then n.getD b.toNat 0 else b) := rfl
        rw [e2] at iql iqr ⊢
        simp only [cnt] at iql iqr ⊢
        omega
      | nd u v =>
        have iu : cnt (some (turn m n u)) (turn m n l) = cnt (some u) l := il (some u) hq.1
        have iv : cnt (some (turn m n v)) (turn m n r) = cnt (some v) r := ir (some v) hq.2
        have e2 : turn m n (.nd u v) = .nd (turn m n u) (turn m n v) := by simp [turn, hm]
        rw [e2] at iql iqr ⊢
        show cnt (some (.nd (turn m n u) (turn m n v))) (turn m n l) + cnt (some (.nd (turn m n u) (turn m n v))) (turn m n r) + cnt (some (turn m n u)) (turn m n l) * cnt (some (turn m n v)) (turn m n r) = cnt (some (.nd u v)) l + cnt (some (.nd u v)) r + cnt (some u) l * cnt (some v) r
        rw [iql, iqr, iu, iv]
end Rd

set_option Elab.async false
set_option linter.all false
set_option maxRecDepth 100000
set_option maxHeartbeats 4000000
namespace Rd
open PySem L2 Rt StX
def t_law_turn (K : PySem.W.Frag) (C__law_pick : Ct) (C__law_turnings : Ct) (C_turnings : Ct) (C_turned_tree : Ct) (C__law_of : Ct) (C__law_laws : Ct) (C__law_tree : Ct) (C__law_left : Ct) (C__law_little : Ct) (C__law_turned : Ct) (C_turning_back : Ct) (C__law_back : Ct) (C_count_of : Ct) (C_turned_laws : Ct) (C__law_laws_turned : Ct) (C_turned_term : Ct) (C_turning_behind : Ct) : TS :=
  (tSeq (tAsg (tCall (spM K Mpure C__law_turned) [] E0 (tCons (tVar 5) (tCons (tVar 10) tNil))) (gName 11))
    (tSeq (tIfS (tOr (tTest (tOp rNe (tCB (rRepr K) (tCons (tCall (spM K Mpure C_turned_tree) [] E0 (tCons (tVar 5) (tCons (tVar 10) tNil))) tNil)) (tCB (rRepr K) (tCons (tVar 11) tNil)))) (tTest (tOp (rNeD K) (tCall (spM K Mpure C_turning_back) [] E0 (tCons (tVar 10) tNil)) (tCall (spM K Mpure C__law_back) [] E0 (tCons (tVar 10) tNil))))) (tRet (tC (.bl false))) tNext)
    (tSeq (tIfS (tTest (tOp (rNeD K) (tCall (spM K Mpure C_count_of) [] E0 (tCons (tCall (spM K Mpure C_turned_tree) [] E0 (tCons (tVar 9) (tCons (tVar 10) tNil))) (tCons (tVar 11) tNil))) (tDGet2 (tVar 7) (tVar 9) (tC (.int 0))))) (tRet (tC (.bl false))) tNext)
    (tSeq (tIfS (tTest (tOp rNe (tCB (rRepr K) (tCons (tCall (spM K Mpure C_turned_laws) [] E0 (tCons (tVar 6) (tCons (tVar 10) tNil))) tNil)) (tCB (rRepr K) (tCons (tCall (spM K Mpure C__law_laws_turned) [] E0 (tCons (tVar 6) (tCons (tVar 10) tNil))) tNil)))) (tRet (tC (.bl false))) tNext)
    (tSeq (tFor (iTup K (tVar 6)) (gTup K 2 (gCons (gName 12) (gCons (gName 13) gNil))) (tIfS (tTest (tOp rNe (tCB (rRepr K) (tCons (tLst (tCons (tCall (spM K Mpure C_turned_term) [] E0 (tCons (tVar 12) (tCons (tVar 10) tNil))) (tCons (tCall (spM K Mpure C_turned_term) [] E0 (tCons (tVar 13) (tCons (tVar 10) tNil))) tNil))) tNil)) (tCB (rRepr K) (tCons (tLst (tCons (tCall (spM K Mpure C__law_turned) [] E0 (tCons (tVar 12) (tCons (tVar 10) tNil))) (tCons (tCall (spM K Mpure C__law_turned) [] E0 (tCons (tVar 13) (tCons (tVar 10) tNil))) tNil))) tNil)))) (tRet (tC (.bl false))) tNext))
    (tSeq (tFor (iList K (tVar 4)) (gName 14) (tSeq (tAsg (tCall (spM K Mpure C_turning_behind) [] E0 (tCons (tVar 10) (tCons (tVar 14) tNil))) (gName 15))
    (tIfS (tOr (tTest (tOp (rNotInD K) (tVar 15) (tVar 4))) (tTest (tOp (rNeD K) (tCall (spM K Mpure C_turned_tree) [] E0 (tCons (tVar 5) (tCons (tVar 15) tNil))) (tCall (spM K Mpure C__law_turned) [] E0 (tCons (tVar 11) (tCons (tVar 14) tNil)))))) (tRet (tC (.bl false))) tNext)))
    (tIfS (tOr (tTest (tOp (rNeD K) (tCall (spM K Mpure C_turning_behind) [] E0 (tCons (tVar 10) (tCons (tCall (spM K Mpure C_turning_back) [] E0 (tCons (tVar 10) tNil)) tNil))) (tOp (rIxL K) (tVar 4) (tC (.int 0))))) (tTest (tOp (rNeD K) (tCall (spM K Mpure C_turned_tree) [] E0 (tCons (tVar 11) (tCons (tCall (spM K Mpure C_turning_back) [] E0 (tCons (tVar 10) tNil)) tNil))) (tVar 5)))) (tRet (tC (.bl false))) tNext)))))))
def t_law_end (K : PySem.W.Frag) (C__law_pick : Ct) (C__law_turnings : Ct) (C_turnings : Ct) (C_turned_tree : Ct) (C__law_of : Ct) (C__law_laws : Ct) (C__law_tree : Ct) (C__law_left : Ct) (C__law_little : Ct) (C__law_turned : Ct) (C_turning_back : Ct) (C__law_back : Ct) (C_count_of : Ct) (C_turned_laws : Ct) (C__law_laws_turned : Ct) (C_turned_term : Ct) (C_turning_behind : Ct) : TS :=
  (tSeq (tFor (iList K (tVar 4)) (gName 10) (t_law_turn K C__law_pick C__law_turnings C_turnings C_turned_tree C__law_of C__law_laws C__law_tree C__law_left C__law_little C__law_turned C_turning_back C__law_back C_count_of C_turned_laws C__law_laws_turned C_turned_term C_turning_behind))
    (tIfS (tTest (tOp rNe (tCB (rRepr K) (tCons (tTup (tCons (tVar 5) (tCons (tVar 6) tNil))) tNil)) (tVar 8))) (tRet (tC (.bl false))) tNext))
def t_law_rest (K : PySem.W.Frag) (C__law_pick : Ct) (C__law_turnings : Ct) (C_turnings : Ct) (C_turned_tree : Ct) (C__law_of : Ct) (C__law_laws : Ct) (C__law_tree : Ct) (C__law_left : Ct) (C__law_little : Ct) (C__law_turned : Ct) (C_turning_back : Ct) (C__law_back : Ct) (C_count_of : Ct) (C_turned_laws : Ct) (C__law_laws_turned : Ct) (C_turned_term : Ct) (C_turning_behind : Ct) : TS :=
  (tSeq (tFor (iRng1 (tCons (tC (.int 3)) tNil)) (gName 2) (tSeq (tAsg (tOp (rI0 fun i j => .int (i + j)) (tC (.int 1)) (tCall (spM K Msrc C__law_pick) [] E0 (tCons (tVar 1) (tCons (tC (.int 2)) tNil)))) (gName 3))
    (tSeq (tAsg (tCall (spM K Mpure C__law_turnings) [] E0 (tCons (tVar 3) tNil)) (gName 4))
    (tSeq (tIfS (tOr (tTest (tOp (rNeD K) (tCall (spM K Mpure C_turnings) [] E0 (tCons (tVar 3) tNil)) (tThen (tVar 4) (kTup K)))) (tTest (tOp (rNeD K) (tCall (spM K Mpure C_turned_tree) [] E0 (tCons (tTup tNil) (tCons (tCall (spM K Msrc C__law_of) [] E0 (tCons (tVar 1) (tCons (tVar 4) tNil))) tNil))) (tTup tNil)))) (tRet (tC (.bl false))) tNext)
    (tSeq (tPar 5 6 (tCons (tCall (spM K Msrc C__law_tree) [] E0 (tCons (tVar 1) (tCons (tVar 3) (tCons (tC (.int 8)) tNil)))) (tCons (tCall (spM K Msrc C__law_laws) [] E0 (tCons (tVar 1) (tCons (tVar 3) (tCons (tC (.int 3)) (tCons (tC (.int 4)) tNil))))) tNil)))
    (tSeq (tPar 7 8 (tCons (tCall (spM K Mpure C__law_left) [] E0 (tCons (tVar 5) (tCons (tC (.int 3)) tNil))) (tCons (tCB (rRepr K) (tCons (tTup (tCons (tVar 5) (tCons (tVar 6) tNil))) tNil)) tNil)))
    (tSeq (tAsg (tIf (tTest (tOp (rEqD K) (tCall (spM K Msrc C__law_pick) [] E0 (tCons (tVar 1) (tCons (tC (.int 2)) tNil))) (tC (.int 0)))) (tCall (spM K Msrc C__law_of) [] E0 (tCons (tVar 1) (tCons (tCB (rSortedD K) (tCons (tVar 7) tNil)) tNil))) (tCall (spM K Msrc C__law_little) [] E0 (tCons (tVar 1) (tCons (tVar 3) (tCons (tC (.int 3)) tNil))))) (gName 9))
    (t_law_end K C__law_pick C__law_turnings C_turnings C_turned_tree C__law_of C__law_laws C__law_tree C__law_left C__law_little C__law_turned C_turning_back C__law_back C_count_of C_turned_laws C__law_laws_turned C_turned_term C_turning_behind))))))))
    (tRet (tC (.bl true))))

section
variable {K : PySem.W.Frag} {m : Mode} {s c : Addr} {H0 H H' : Hp} {rs : List R} {P : R → Prop} {Γ : Gm} {ta tb te : TE}

/-! ### what is shown -/
theorem nds_ints : ∀ xs : List Int, ndsAll (xs.map .int) = xs.length
  | [] => by simp [ndsAll]
  | x :: xs => by simp only [List.map_cons, ndsAll, nds, nds_ints xs, List.length_cons]; omega
theorem nds_tD (xs : List Int) : nds (tD xs) = xs.length + 1 := by unfold tD; simp only [nds]; rw [nds_ints]
theorem sh_int {a : Int} (h : a.natAbs ≤ 10) : sh (.int a) = true := by
  simp only [sh]
  rw [decide_eq_true_iff]
  have h1 : a.natAbs.log2 ≤ a.natAbs := Nat.log2_le_self _
  omega
theorem sh_tD {xs : List Int} (h : ∀ a ∈ xs, a.natAbs ≤ 10) : sh (tD xs) = true := by
  unfold tD
  simp only [sh]
  exact shAll_iff.mpr fun d hd => by
    obtain ⟨a, ha, rfl⟩ := List.mem_map.mp hd
    exact sh_int (h a ha)
theorem enc_small {k : Nat} (hk : k ≤ 2) : ∀ t : T, lets k t → ∀ a ∈ t.enc, a.natAbs ≤ 10
  | .lf b, h, a, ha => by
    simp only [lets] at h
    simp only [T.enc, List.mem_singleton] at ha
    subst ha
    omega
  | .nd l r, h, a, ha => by
    simp only [T.enc, List.mem_cons, List.mem_append] at ha
    rcases ha with rfl | ha | ha
    · decide
    · exact enc_small hk l h.1 a ha
    · exact enc_small hk r h.2 a ha
theorem e_rp {d : PyData} {ds : List PyData} {tb : TE} (h : E K m H0 tb Γ fun x => x.dat = some d) (hd : d = .tuple ds ∨ d = .list ds) (h1 : sh d = true) (h2 : nds d ≤ 8000) (h3 : d.depth ≤ 60) (p : P (.im (.str d.shown))) : E K m H0 (tCB (rRepr K) (tCons tb tNil)) Γ P :=
  e_cb (ea_cons (h.imp fun x ex => ea_nil (rc_repr ex hd h1 h2 h3 p)))
/-- the tree of the law -/
structure TrOk (k : Nat) (t : T) : Prop where
  k2 : k ≤ 2
  lt : lets k t
  lv : t.lv ≤ 8
theorem TrOk.sh {k : Nat} {t : T} (h : TrOk k t) : Rt.sh (tD t.enc) = true := sh_tD (enc_small h.k2 t h.lt)
theorem TrOk.nds {k : Nat} {t : T} (h : TrOk k t) : Rt.nds (tD t.enc) ≤ 16 := by rw [nds_tD]; have := t.enc_len; have := h.lv; omega
theorem e_rpT {k : Nat} {t : T} (ok : TrOk k t) (h : E K m H0 te Γ fun x => x = .im (tD t.enc)) (p : P (.im (.str (tD t.enc).shown))) : E K m H0 (tCB (rRepr K) (tCons te tNil)) Γ P :=
  e_rp (ds := t.enc.map .int) (h.imp fun x ex => by subst ex; exact dat_tD _) (.inl rfl) ok.sh (Nat.le_trans ok.nds (by decide)) (Nat.le_trans (pd_tD t.enc).2 (by decide)) p
theorem pu_tD (xs : List Int) : pu (tD xs) = true := by
  unfold tD
  simp only [pu]
  exact puAll_iff.mpr fun d hd => by
    obtain ⟨i, _, rfl⟩ := List.mem_map.mp hd; rfl
theorem pu_laws (L : List (T × T)) : pu (lawsD L) = true := by
  unfold lawsD
  simp only [pu]
  exact puAll_iff.mpr fun d hd => by
    obtain ⟨p, _, rfl⟩ := List.mem_map.mp hd
    unfold lawD
    simp [pu, puAll, pu_tD]
theorem pd_law (p : T × T) : pd 2 (lawD p) := pd_tuple fun d hd => by
  rcases List.mem_cons.mp hd with rfl | hd
  · exact pd_tD _
  · obtain rfl := List.mem_singleton.mp hd; exact pd_tD _
theorem pd_laws (L : List (T × T)) : pd 3 (lawsD L) := pd_tuple fun d hd => by
  obtain ⟨p, _, rfl⟩ := List.mem_map.mp hd
  exact pd_law p
structure LwOk (k : Nat) (L : List (T × T)) : Prop where
  k2 : k ≤ 2
  few : L.length ≤ 3
  all : ∀ p ∈ L, lets k p.1 ∧ lets k p.2 ∧ p.1.lv ≤ 8 ∧ p.2.lv ≤ 8
theorem sh_law {k : Nat} {p : T × T} (h1 : TrOk k p.1) (h2 : TrOk k p.2) : Rt.sh (lawD p) = true := by
  unfold lawD
  simp [Rt.sh, shAll, h1.sh, h2.sh]
theorem nds_law {k : Nat} {p : T × T} (h1 : TrOk k p.1) (h2 : TrOk k p.2) : Rt.nds (lawD p) ≤ 40 := by
  unfold lawD
  have a := h1.nds
  have b := h2.nds
  simp only [Rt.nds, ndsAll]
  omega
theorem LwOk.sh {k : Nat} {L : List (T × T)} (h : LwOk k L) : Rt.sh (lawsD L) = true := by
  unfold lawsD
  simp only [Rt.sh]
  exact shAll_iff.mpr fun d hd => by
    obtain ⟨p, hp, rfl⟩ := List.mem_map.mp hd
    obtain ⟨a, b, e, f⟩ := h.all p hp
    exact sh_law ⟨h.k2, a, e⟩ ⟨h.k2, b, f⟩
theorem LwOk.nds {k : Nat} {L : List (T × T)} (h : LwOk k L) : Rt.nds (lawsD L) ≤ 200 := by
  unfold lawsD
  simp only [Rt.nds]
  have := ndsAll_le (n := 40) (ds := L.map lawD) fun d hd => by
    obtain ⟨p, hp, rfl⟩ := List.mem_map.mp hd
    obtain ⟨a, b, e, f⟩ := h.all p hp
    exact nds_law ⟨h.k2, a, e⟩ ⟨h.k2, b, f⟩
  rw [List.length_map] at this
  have := h.few
  omega
theorem LwOk.turn {k : Nat} {L : List (T × T)} {mi : Int} {n : List Int} (h : LwOk k L) (tu : IsTu k mi n) : LwOk k (L.map (turn2 mi n)) := by
  refine ⟨h.k2, by rw [List.length_map]; exact h.few, fun p hp => ?_⟩
  obtain ⟨q, hq, rfl⟩ := List.mem_map.mp hp
  obtain ⟨a, b, e, f⟩ := h.all q hq
  have hl := tu.len
  have ha : lets n.length q.1 := by rw [hl]; exact a
  have hb : lets n.length q.2 := by rw [hl]; exact b
  exact ⟨turn_lets tu.rng _ ha, turn_lets tu.rng _ hb, by show (Rd.turn mi n q.1).lv ≤ 8; rw [turn_lv]; exact e, by show (Rd.turn mi n q.2).lv ≤ 8; rw [turn_lv]; exact f⟩
theorem TrOk.turn {k : Nat} {t : T} {mi : Int} {n : List Int} (h : TrOk k t) (tu : IsTu k mi n) : TrOk k (Rd.turn mi n t) :=
  ⟨h.k2, turn_lets tu.rng _ (by rw [tu.len]; exact h.lt), by rw [turn_lv]; exact h.lv⟩
theorem e_rpL {k : Nat} {L : List (T × T)} (ok : LwOk k L) (h : E K m H0 te Γ fun x => x = .im (lawsD L)) (p : P (.im (.str (lawsD L).shown))) : E K m H0 (tCB (rRepr K) (tCons te tNil)) Γ P :=
  e_rp (ds := L.map lawD) (h.imp fun x ex => by subst ex; exact dat_pu (pu_laws L)) (.inl rfl) ok.sh (Nat.le_trans ok.nds (by decide)) (Nat.le_trans (pd_laws L).2 (by decide)) p
/-- a list of two trees -/
theorem e_rp2 {k : Nat} {t u : T} (o1 : TrOk k t) (o2 : TrOk k u) (ha : E K m H0 ta Γ fun x => x = .im (tD t.enc)) (hb : E K m H0 tb Γ fun x => x = .im (tD u.enc)) (p : P (.im (.str (PyData.list [tD t.enc, tD u.enc]).shown))) :
    E K m H0 (tCB (rRepr K) (tCons (tLst (tCons ta (tCons tb tNil))) tNil)) Γ P := by
  refine e_rp (d := .list [tD t.enc, tD u.enc]) (ds := [tD t.enc, tD u.enc]) ?_ (.inr rfl) ?_ ?_ ?_ p
  · refine e_lst <| ea_cons <| ha.imp fun x ex => ea_cons <| hb.imp fun y ey => ea_nil ⟨[tD t.enc, tD u.enc], by subst ex ey; rfl, by show 2 ≤ 1000000; decide, ?_⟩
    show some (PyData.list (unAll [tD t.enc, tD u.enc])) = _
    rw [unAll_id _ (by simp [puAll, pu_tD])]
  · simp [Rt.sh, shAll, o1.sh, o2.sh]
  · have a := o1.nds
    have b := o2.nds
    simp only [Rt.nds, ndsAll]; omega
  · have := (pd_list (n := 1) (ds := [tD t.enc, tD u.enc]) fun d hd => by
      rcases List.mem_cons.mp hd with rfl | hd
      · exact pd_tD _
      · obtain rfl := List.mem_singleton.mp hd; exact pd_tD _).2
    omega
/-- a pair of the tree and the laws -/
theorem e_rpP {k : Nat} {t : T} {L : List (T × T)} (o1 : TrOk k t) (o2 : LwOk k L) (ha : E K m H0 ta Γ fun x => x = .im (tD t.enc)) (hb : E K m H0 tb Γ fun x => x = .im (lawsD L)) (p : P (.im (.str (PyData.tuple [tD t.enc, lawsD L]).shown))) :
    E K m H0 (tCB (rRepr K) (tCons (tTup (tCons ta (tCons tb tNil))) tNil)) Γ P := by
  refine e_rp (d := .tuple [tD t.enc, lawsD L]) (ds := [tD t.enc, lawsD L]) ?_ (.inl rfl) ?_ ?_ ?_ p
  · refine e_tup <| ea_cons <| ha.imp fun x ex => ea_cons <| hb.imp fun y ey => ea_nil ⟨[tD t.enc, lawsD L], by subst ex ey; rfl, by show 2 ≤ 1000000; decide, ?_⟩
    exact dat_pu (by simp [pu, puAll, pu_tD, pu_laws])
  · simp [Rt.sh, shAll, o1.sh, o2.sh]
  · have a := o1.nds
    have b := o2.nds
    simp only [Rt.nds, ndsAll]; omega
  · have := (pd_tuple (n := 3) (ds := [tD t.enc, lawsD L]) fun d hd => by
      rcases List.mem_cons.mp hd with rfl | hd
      · exact (pd_tD _).mono (by decide)
      · obtain rfl := List.mem_singleton.mp hd; exact pd_laws L).2
    omega
/-- turnings as data -/
def tuU (p : Int × List Int) : PyData := .tuple [.int p.1, tD p.2]
theorem un_tuD (b : Bool) (mi : Int) (n : List Int) : un (tuD b mi n) = tuU (mi, n) := by
  unfold tuD tuU
  simp only [un, unAll, un_nD]
theorem pd_tuU (p : Int × List Int) : pd 2 (tuU p) := pd_tuple fun d hd => by
  rcases List.mem_cons.mp hd with rfl | hd
  · exact (pd_int _).mono (by decide)
  · obtain rfl := List.mem_singleton.mp hd; exact pd_tD _
theorem tuU_inj {p q : Int × List Int} (h : tuU p = tuU q) : p = q := by
  unfold tuU at h
  injection h with h
  injection h with h1 h2
  injection h1 with h1
  injection h2 with h2 _
  rw [tD_inj] at h2
  exact Prod.ext h1 h2
theorem unAll_allT (k : Nat) : unAll ((allT k).map tuB) = (allT k).map tuU := by
  rw [unAll_map, List.map_map]
  apply List.map_congr_left
  intro p _
  exact un_tuD true p.1 p.2
/-- the slots while the turnings are gone through -/
def G53 (a s : Addr) (a4 : Addr) (xs : List V) (k : Nat) (t : T) (L : List (T × T)) (kvs : List (List Int × PyData)) (sh : Str) (po : Option T) (lap s10 s11 s12 s13 s14 s15 : Sl) : Gm :=
  [.rf (.ref a), .rf (.ref s), lap, .im (.int (k : Nat)), .ll a4 xs ((allT k).map tuB), .im (tD t.enc), .im (lawsD L), .dt kvs, .im (.str sh), .im (tD (encO po)), s10, s11, s12, s13, s14, s15]
theorem ss_law_turn {a a4 : Addr} {xs : List V} {k : Nat} {t : T} {L : List (T × T)} {kvs : List (List Int × PyData)} {shn : Str} {po : Option T} {lap s11 s12 s13 s14 s15 : Sl} {mi : Int} {n : List Int} {O : Po}
    (ot : TrOk k t) (ol : LwOk k L) (good : Good k 3 t kvs) (hpo : letsO k po) (lpo : lvO po ≤ 3) (tu : IsTu k mi n) (hO : ∀ s10 s11 s12 s13 s14 s15, O.nx (G53 a s a4 xs k t L kvs shn po lap s10 s11 s12 s13 s14 s15)) :
    SS K (srcM s c) H0 (t_law_turn K C__law_pick C__law_turnings C_turnings C_turned_tree C__law_of C__law_laws C__law_tree (C__law_left 8) C__law_little (C__law_turned 9) C_turning_back C__law_back (C_count_of 9) C_turned_laws C__law_laws_turned C_turned_term C_turning_behind) (G53 a s a4 xs k t L kvs shn po lap (.im (tuD true mi n)) s11 s12 s13 s14 s15) O := by
  have hl := tu.len
  have ltn : lets n.length t := by rw [hl]; exact ot.lt
  have otn := ot.turn tu
  refine ss_seq <| ss_asg <| e_callP <| ea_cons <| e_var rfl <| ea_cons <| e_var rfl <| ea_nil ⟨some t, true, mi, n, rfl, ltn, Nat.lt_succ_of_le ot.lv, Nat.le_trans ot.lv (by decide), ?_⟩
  have cT : ∀ {Γ : Gm} {P : R → Prop} {i j : Nat} {b : Bool} {mj : Int} {u : T} {w : List Int}, (Γ[i]?).bind Sl.r = some (.im (tD u.enc)) → (Γ[j]?).bind Sl.r = some (.im (tuD b mj w)) → lets w.length u → u.lv ≤ 8 → P (.im (tD (turn mj w u).enc)) → E K (srcM s c) H0 (tCall (spM K Mpure C_turned_tree) [] E0 (tCons (tVar i) (tCons (tVar j) tNil))) Γ P := fun {Γ P i j b mj u w} hi hj h1 h2 p =>
    e_callP <| ea_cons <| e_var hi <| ea_cons <| e_var hj <| ea_nil ⟨some u, b, mj, w, rfl, h1, h2, p⟩
  -- the trees shown, the turnings back
  refine ss_seq <| ss_orF (fun B hB => et_F (fun P p => e_neS (e_rpT otn (cT rfl rfl ltn ot.lv rfl) rfl) (e_rpT otn (e_v rfl) rfl) p) hB)
    (fun B hB => et_F (fun P p => e_neSame (d := tuU (mi, inv n)) (e_callP <| ea_cons <| e_var rfl <| ea_nil ⟨mi, n, rfl, tu.perm, by rw [hl]; have := ot.k2; omega, congrArg some (un_tuD false mi _)⟩) (e_callP <| ea_cons <| e_var rfl <| ea_nil ⟨mi, n, rfl, tu.perm, by rw [hl]; have := ot.k2; omega, congrArg some (un_tuD false mi _)⟩) ((pd_tuU _).mono (by decide)) p) hB) ?_
  -- the counts
  refine ss_seq <| ss_ifF (fun B hB => et_F (fun P p => ?_) hB) ?_
  · refine e_neI <| e_callP <| ea_cons <| e_callP <| ea_cons <| e_var rfl <| ea_cons <| e_var rfl <| ea_nil ⟨po, true, mi, n, rfl, by rw [hl]; exact hpo, by omega, ?_⟩
    refine ea_cons <| e_var rfl <| ea_nil ⟨turnO mi n po, some (turn mi n t), rfl, letsO_ok (turnO_lets tu.rng (by rw [hl]; exact hpo)), lets_ok _ otn.lt, Nat.lt_succ_of_le otn.lv, Nat.le_trans otn.lv (by decide), ?_⟩
    refine e_dget2 <| e_var rfl ⟨kvs, rfl, e_var rfl ⟨encO po, rfl, e_int ⟨_, rfl, ?_⟩⟩⟩
    rw [good.get (letsO_ok hpo) lpo]
    refine ⟨_, _, rfl, rfl, ?_⟩
    have e : cntO (turnO mi n po) (some (turn mi n t)) = cnt po t := by
      rw [← cnt_turn tu t po ot.lt hpo]
      cases po <;> rfl
    rw [e, decide_eq_true rfl]
    exact p
  -- the laws shown
  have cL : ∀ p ∈ L, lets n.length p.1 ∧ lets n.length p.2 ∧ p.1.lv ≤ 8 ∧ p.2.lv ≤ 8 := fun p hp => by
    obtain ⟨a, b, e, f⟩ := ol.all p hp
    rw [hl]; exact ⟨a, b, e, f⟩
  have few := ol.few
  refine ss_seq <| ss_ifF (fun B hB => et_F (fun P p => e_neS
    (e_rpL (ol.turn tu) (e_callP <| ea_cons <| e_var rfl <| ea_cons <| e_var rfl <| ea_nil ⟨L, true, mi, n, rfl, cL, by omega, rfl⟩) rfl)
    (e_rpL (ol.turn tu) (e_callP <| ea_cons <| e_var rfl <| ea_cons <| e_var rfl <| ea_nil ⟨L, true, mi, n, rfl, cL, by omega, rfl⟩) rfl) p) hB) ?_
  -- each law
  refine ss_seq <| ss_for (js := [12, 13]) <| iw_T <| e_var rfl ⟨L.map lawD, rfl, fun i Γ => ∃ s12 s13, Γ = G53 a s a4 xs k t L kvs shn po lap (.im (tuD true mi n)) (.im (tD (turn mi n t).enc)) s12 s13 s14 s15, ⟨_, _, rfl⟩, ?_, ?_⟩
  · rintro i d Γ hd ⟨x12, x13, rfl⟩
    rw [List.getElem?_map] at hd
    cases hL : L[i]? with
    | none => rw [hL] at hd; cases hd
    | some q =>
      rw [hL] at hd
      obtain rfl : lawD q = d := Option.some.inj hd
      obtain ⟨h1, h2, h3, h4⟩ := cL q (List.mem_of_getElem? hL)
      obtain ⟨g1, g2, _, _⟩ := ol.all q (List.mem_of_getElem? hL)
      have o1 : TrOk k (turn mi n q.1) := (TrOk.mk ot.k2 g1 h3).turn tu
      have o2 : TrOk k (turn mi n q.2) := (TrOk.mk ot.k2 g2 h4).turn tu
      refine gt_tup2 <| ss_ifF (fun B hB => et_F (fun P p => e_neS (e_rp2 o1 o2 ?_ ?_ rfl) (e_rp2 o1 o2 ?_ ?_ rfl) p) hB) ⟨_, _, rfl⟩
      · exact e_callP <| ea_cons <| e_var rfl <| ea_cons <| e_var rfl <| ea_nil ⟨q.1, true, mi, n, rfl, h1, h3, rfl⟩
      · exact e_callP <| ea_cons <| e_var rfl <| ea_cons <| e_var rfl <| ea_nil ⟨q.2, true, mi, n, rfl, h2, h4, rfl⟩
      · exact e_callP <| ea_cons <| e_var rfl <| ea_cons <| e_var rfl <| ea_nil ⟨some q.1, true, mi, n, rfl, h1, Nat.lt_succ_of_le h3, Nat.le_trans h3 (by decide), rfl⟩
      · exact e_callP <| ea_cons <| e_var rfl <| ea_cons <| e_var rfl <| ea_nil ⟨some q.2, true, mi, n, rfl, h2, Nat.lt_succ_of_le h4, Nat.le_trans h4 (by decide), rfl⟩
  rintro Γ ⟨x12, x13, rfl⟩
  -- each other turning
  refine ss_seq <| ss_forLl (i := 4) (js := [14]) rfl ⟨fun i Γ => ∃ s14 s15, Γ = G53 a s a4 xs k t L kvs shn po lap (.im (tuD true mi n)) (.im (tD (turn mi n t).enc)) x12 x13 s14 s15, ⟨_, _, rfl⟩, ?_, ?_, ?_⟩
  · rintro j Γ ⟨_, _, rfl⟩; rfl
  · rintro j d Γ hd ⟨x14, x15, rfl⟩
    rw [List.getElem?_map] at hd
    cases hj : (allT k)[j]? with
    | none => rw [hj] at hd; cases hd
    | some q =>
      rw [hj] at hd
      obtain rfl : tuB q = d := Option.some.inj hd
      have tq := IsTu.mem tu.1 (List.mem_of_getElem? hj)
      have hql := tq.len
      have tb' := tu.behind tq
      refine gt_name <| ss_seq <| ss_asg <| e_callP <| ea_cons <| e_var rfl <| ea_cons <| e_var rfl <| ea_nil ⟨true, true, mi, q.1, n, q.2, rfl, fun x hx => by rw [hql]; exact tu.rng x hx, by rw [hl]; have := ot.k2; omega, ?_⟩
      refine ss_orF (fun B hB => et_F (fun P p => ?_) hB) (fun B hB => et_F (fun P p => ?_) hB) ⟨_, _, rfl⟩
      · refine e_op <| e_var rfl <| e_var rfl <| rr_notInD (ds := (allT k).map tuB) (d := tuU ((mi + q.1) % 2, behind n q.2)) (congrArg some (un_tuD false _ _)) rfl ((pd_tuU _).shaped (by decide)) ?_ ?_
        · rw [unAll_allT]
          exact (pd_list (n := 2) fun d hd => by
            obtain ⟨p, _, rfl⟩ := List.mem_map.mp hd
            exact pd_tuU p).shaped (by decide)
        · have e : ((unAll ((allT k).map tuB)).any fun z => PyData.eqv z (tuU ((mi + q.1) % 2, behind n q.2))) = true := by
            rw [unAll_allT, List.any_map, List.any_eq_true]
            exact ⟨_, tb'.of, eqv_self (pd_tuU _).1⟩
          rw [e]
          exact p
      · refine e_neSame (d := tD (turn q.1 q.2 (turn mi n t)).enc) (cT rfl rfl (by rw [tb'.len]; exact ot.lt) ot.lv (by rw [turn_behind tu tq t ot.lt]; exact dat_tD _)) ?_ ((pd_tD _).mono (by decide)) p
        exact e_callP <| ea_cons <| e_var rfl <| ea_cons <| e_var rfl <| ea_nil ⟨some (turn mi n t), true, q.1, q.2, rfl, by rw [hql]; exact otn.lt, Nat.lt_succ_of_le otn.lv, Nat.le_trans otn.lv (by decide), dat_tD _⟩
  rintro Γ ⟨x14, x15, rfl⟩
  -- back
  have ti := tu.inv
  obtain ⟨eb1, eb2⟩ := tu.both
  refine ss_orF (fun B hB => et_F (fun P p => ?_) hB) (fun B hB => et_F (fun P p => ?_) hB) (hO _ _ _ _ _ _)
  · refine e_neSame (d := tuU (0, behind n (inv n))) (e_callP <| ea_cons <| e_var rfl <| ea_cons <| e_callP <| ea_cons <| e_var rfl <| ea_nil ⟨mi, n, rfl, tu.perm, by rw [hl]; have := ot.k2; omega, ea_nil ⟨true, false, mi, mi, n, inv n, rfl, fun x hx => by rw [ti.len]; exact tu.rng x hx, by rw [hl]; have := ot.k2; omega, ?_⟩⟩) ?_ ((pd_tuU _).mono (by decide)) p
    · rw [eb1]; exact congrArg some (un_tuD false _ _)
    · refine e_op <| e_var rfl <| e_int <| rr_ixL (ds := (allT k).map tuB) (d := tuB (0, behind n (inv n))) rfl ?_ (congrArg some (un_tuD true _ _))
      refine atI_nat (j := 0) ?_
      rw [List.getElem?_map]
      unfold allT
      rw [List.getElem?_append_left (by rw [List.length_map]; exact (List.getElem?_eq_some_iff.mp eb2).1), List.getElem?_map, eb2]; rfl
  · refine e_neSame (d := tD t.enc) (e_callP <| ea_cons <| e_var rfl <| ea_cons <| e_callP <| ea_cons <| e_var rfl <| ea_nil ⟨mi, n, rfl, tu.perm, by rw [hl]; have := ot.k2; omega, ea_nil ⟨some (turn mi n t), false, mi, inv n, rfl, by rw [ti.len]; exact otn.lt, otn.lv, ?_⟩⟩) ((e_v rfl).imp fun x ex => by subst ex; exact dat_tD _) ((pd_tD _).mono (by decide)) p
    show (R.im (tD (encO (turnO mi (inv n) (some (turn mi n t)))))).dat = _
    rw [show turnO mi (inv n) (some (turn mi n t)) = some (turn mi (inv n) (turn mi n t)) from rfl, turn_back tu ot.lt]
    exact dat_tD _

/-- a lap's end -/
theorem ss_law_end {a : Addr} {k : Nat} {t : T} {L : List (T × T)} {kvs : List (List Int × PyData)} {po : Option T} {lap s10 s11 s12 s13 s14 s15 : Sl} {O : Po} (hk : k = 1 ∨ k = 2)
    (ot : TrOk k t) (ol : LwOk k L) (good : Good k 3 t kvs) (hpo : letsO k po) (lpo : lvO po ≤ 3)
    (hO : ∀ x4 x7 s10 s11 s12 s13 s14 s15, O.nx [.rf (.ref a), .rf (.ref s), lap, .im (.int (k : Nat)), x4, .im (tD t.enc), .im (lawsD L), x7, .im (.str (PyData.tuple [tD t.enc, lawsD L]).shown), .im (tD (encO po)), s10, s11, s12, s13, s14, s15]) :
    SS K (srcM s c) H0 (t_law_end K C__law_pick C__law_turnings C_turnings C_turned_tree C__law_of C__law_laws C__law_tree (C__law_left 8) C__law_little (C__law_turned 9) C_turning_back C__law_back (C_count_of 9) C_turned_laws C__law_laws_turned C_turned_term C_turning_behind)
      [.rf (.ref a), .rf (.ref s), lap, .im (.int (k : Nat)), .ls ((allT k).map tuB), .im (tD t.enc), .im (lawsD L), .dt kvs, .im (.str (PyData.tuple [tD t.enc, lawsD L]).shown), .im (tD (encO po)), s10, s11, s12, s13, s14, s15] O := by
  refine ss_seq <| ss_forLs (i := 4) (js := [10]) rfl fun a4 xs => ⟨fun i Γ => ∃ s10 s11 s12 s13 s14 s15, Γ = G53 a s a4 xs k t L kvs (PyData.tuple [tD t.enc, lawsD L]).shown po lap s10 s11 s12 s13 s14 s15, ⟨_, _, _, _, _, _, rfl⟩, ?_, ?_, ?_⟩
  · rintro j Γ ⟨_, _, _, _, _, _, rfl⟩; rfl
  · rintro j d Γ hd ⟨x10, x11, x12, x13, x14, x15, rfl⟩
    rw [List.getElem?_map] at hd
    cases hj : (allT k)[j]? with
    | none => rw [hj] at hd; cases hd
    | some q =>
      rw [hj] at hd
      obtain rfl : tuB q = d := Option.some.inj hd
      have tq := IsTu.mem hk (List.mem_of_getElem? hj)
      exact gt_name <| ss_law_turn ot ol good hpo lpo tq fun _ _ _ _ _ _ => ⟨_, _, _, _, _, _, rfl⟩
  · rintro Γ ⟨x10, x11, x12, x13, x14, x15, rfl⟩
    exact ss_ifF (fun B hB => et_F (fun P p => e_neS (e_rpP ot ol (e_v rfl) (e_v rfl) rfl) (e_v rfl) p) hB) (hO _ _ _ _ _ _ _ _)
theorem good_none {k M : Nat} {t : T} {kvs : List (List Int × PyData)} (h : Good k M t kvs) : kvs ≠ [] ∧ kvs.length ≤ 2 ^ t.lv ∧ ∀ key ∈ kvs.map (·.1), ∃ p, key = encO p ∧ letsO k p ∧ lvO p ≤ M := by
  obtain ⟨ps, rfl, h1, h2, h3, h4⟩ := h
  refine ⟨fun z => ?_, by rw [asD_len]; exact h4, fun key hkey => ?_⟩
  · have e : ps = [] := by
      cases ps with
      | nil => rfl
      | cons p ps => simp [asD] at z
    have := h3 none trivial (Nat.zero_le _) (by rw [e]; simp)
    rw [cnt_none] at this; cases this
  · unfold asD at hkey
    rw [List.map_map] at hkey
    obtain ⟨p, hp, rfl⟩ := List.mem_map.mp hkey
    exact ⟨p, rfl, h2 p hp⟩
theorem ss_law_rest {a : Addr} : SS K (srcM s c) H0 (t_law_rest K C__law_pick C__law_turnings C_turnings C_turned_tree C__law_of C__law_laws C__law_tree (C__law_left 8) C__law_little (C__law_turned 9) C_turning_back C__law_back (C_count_of 9) C_turned_laws C__law_laws_turned C_turned_term C_turning_behind) (ent 16 [.rf (.ref a), .rf (.ref s)]) { rt := fun r => r = .im (.bool true) } := by
  refine ss_seq <| ss_for (js := [2]) <| iw_R1 <| e_int ⟨3, rfl, by decide, by decide, fun i Γ => ∃ x2 x3 x4 x5 x6 x7 x8 x9 x10 x11 x12 x13 x14 x15, Γ = [.rf (.ref a), .rf (.ref s), x2, x3, x4, x5, x6, x7, x8, x9, x10, x11, x12, x13, x14, x15], ⟨_, _, _, _, _, _, _, _, _, _, _, _, _, _, rfl⟩, ?_, ?_⟩
  · rintro i d Γ hd ⟨x2, x3, x4, x5, x6, x7, x8, x9, x10, x11, x12, x13, x14, x15, rfl⟩
    refine gt_name <| ss_seq <| ss_asg <| e_op <| e_int <| e_pick rfl <| e_int ⟨2, rfl, by decide, by decide, fun i hi => rr_i ?_⟩
    have el : (1 : Int) + (i : Nat) = ((i + 1 : Nat) : Int) := by omega
    rw [el]
    have hk : i + 1 = 1 ∨ i + 1 = 2 := by omega
    have hk2 : i + 1 ≤ 2 := by omega
    generalize i + 1 = k at hk hk2 ⊢
    refine ss_seq <| ss_asg <| e_callP <| ea_cons <| e_var rfl <| ea_nil ⟨k, rfl, hk, ?_⟩
    have hlen : (allT k).length ≤ 4 := by
      unfold allT
      have := rows_len k
      rw [List.length_append, List.length_map, List.length_map]; omega
    have hne : (allT k).map tuB ≠ [] := by
      rcases hk with rfl | rfl <;> simp [allT, rows]
    refine ss_seq <| ss_orF (fun B hB => et_F (fun P p => ?_) hB) (fun B hB => et_F (fun P p => ?_) hB) ?_
    · have eu : un (.tuple ((allT k).map tuB)) = .tuple ((allT k).map tuU) := by
        simp only [un]; rw [unAll_allT]
      refine e_neSame (d := .tuple ((allT k).map tuU)) (e_callP <| ea_cons <| e_var rfl <| ea_nil ⟨k, rfl, hk, congrArg some eu⟩) (e_then <| e_var rfl <| ru_tuple rfl (congrArg some eu)) ?_ p
      exact (pd_tuple (n := 2) fun d hd => by
        obtain ⟨q, _, rfl⟩ := List.mem_map.mp hd
        exact pd_tuU q).mono (by decide)
    · refine e_neT <| e_callP <| ea_cons <| e_nilT <| ea_cons <| e_call <| ea_cons <| e_var rfl <| ea_cons <| e_var rfl <| ea_nil ⟨⟨s, c, _, rfl, rfl⟩, s, (allT k).map tuB, rfl, hne, by rw [List.length_map]; omega, fun d hd => ?_⟩
      obtain ⟨q, hq, rfl⟩ := List.mem_map.mp hd
      exact ea_nil ⟨none, true, q.1, q.2, rfl, trivial, Nat.zero_le _, e_nilT ⟨[], [], rfl, rfl, p⟩⟩
    refine ss_seq <| ss_par <| e_call <| ea_cons <| e_var rfl <| ea_cons <| e_var rfl <| ea_cons <| e_int <| ea_nil ⟨⟨s, c, _, rfl, rfl⟩, s, k, 8, rfl, by omega, hk2, by decide, by decide, fun t lt le => ?_⟩
    refine e_call <| ea_cons <| e_var rfl <| ea_cons <| e_var rfl <| ea_cons <| e_int <| ea_cons <| e_int <| ea_nil ⟨⟨s, c, _, rfl, rfl⟩, s, k, 3, 4, rfl, by omega, hk2, by decide, by decide, by decide, fun L lL le2 => ?_⟩
    have ot : TrOk k t := ⟨hk2, le, lt⟩
    have ol : LwOk k L := ⟨hk2, lL, fun p hp => by
      obtain ⟨h1, h2, h3, h4⟩ := le2 p hp
      exact ⟨h1, h2, by omega, by omega⟩⟩
    refine ss_seq <| ss_par <| e_callP <| ea_cons <| e_var rfl <| ea_cons <| e_int <| ea_nil ⟨k, 3, t, rfl, le, by decide, by decide, lt, lt, fun kvs good => e_rpP ot ol (e_v rfl) (e_v rfl) ?_⟩
    obtain ⟨gn, gl, gk⟩ := good_none good
    refine ss_seq <| ss_asg <| e_if <| et_of <| e_eqI <| e_pick rfl <| e_int ⟨2, rfl, by decide, by decide, fun i hi => e_int ⟨_, _, rfl, rfl, _, rfl, ?_⟩⟩
    by_cases h0 : (i : Int) = 0
    · rw [decide_eq_true h0]
      refine e_call <| ea_cons <| e_var rfl <| ea_cons <| e_cb <| ea_cons <| e_var rfl <| ea_nil <| rc_sortedD rfl <| ea_nil ⟨⟨s, c, _, rfl, rfl⟩, s, ((kvs.map (·.1)).map tD).mergeSort ordD, rfl, fun z => gn ?_, ?_, fun d hd => ?_⟩
      · have := congrArg List.length z
        rw [List.length_mergeSort, List.length_map, List.length_map] at this
        exact List.eq_nil_of_length_eq_zero this
      · rw [List.length_mergeSort, List.length_map, List.length_map]
        have : 2 ^ t.lv ≤ 2 ^ 8 := Nat.pow_le_pow_right (by decide) lt
        omega
      · rw [List.mem_mergeSort] at hd
        obtain ⟨key, hkey, rfl⟩ := List.mem_map.mp hd
        obtain ⟨po, rfl, h1, h2⟩ := gk key hkey
        exact ss_law_end hk ot ol good h1 h2 fun _ _ _ _ _ _ _ _ => ⟨_, _, _, _, _, _, _, _, _, _, _, _, _, _, rfl⟩
    · rw [decide_eq_false h0]
      refine e_call <| ea_cons <| e_var rfl <| ea_cons <| e_var rfl <| ea_cons <| e_int <| ea_nil ⟨⟨s, c, _, rfl, rfl⟩, s, k, 3, rfl, by omega, hk2, by decide, by decide, fun po h2 h1 => ?_⟩
      exact ss_law_end hk ot ol good h1 h2 fun _ _ _ _ _ _ _ _ => ⟨_, _, _, _, _, _, _, _, _, _, _, _, _, _, rfl⟩
  · rintro Γ ⟨x2, x3, x4, x5, x6, x7, x8, x9, x10, x11, x12, x13, x14, x15, rfl⟩
    exact ss_ret (e_bl ⟨rfl, rfl⟩)
/-- the whole law -/
def S_law (K : PySem.W.Frag) : Sp := fun vs H Q _ => ∃ (a : Addr) (ns : List Int), vs = [.ref a] ∧ SqL K H a (ns.map V.int) ∧ ns.length ≤ 1000000 ∧ ∀ H', Q (.bl true) H'
theorem raw_law {N : List Str} (hN : N = (["script", "source", "lap", "k", "some", "tree", "laws", "counts", "shown", "p", "turning", "late", "s", "t", "other", "both"] : List Str)) {vs : List V} {H : Hp} {Q : VK} {E : XK} (h : S_law K vs H Q E) :
    t_law K (S__law_source K) C__law_pick C__law_turnings C_turnings C_turned_tree C__law_of C__law_laws C__law_tree (C__law_left 8) C__law_little (C__law_turned 9) C_turning_back C__law_back (C_count_of 9) C_turned_laws C__law_laws_turned C_turned_term C_turning_behind { nx := fun _ H' => Q .non H', rt := Q } (L2.start N vs) H := by
  obtain ⟨a, ns, rfl, hl, hz, q⟩ := h
  subst hN
  refine ⟨.ref a, rfl, a, ns, rfl, hl, hz, fun p b H1 st hsrc n1 n2 => ?_⟩
  have S1 : Sta K (srcM p b) H1 (ent 16 [.rf (.ref a), .rf (.ref p)]) (L2.start ["script", "source", "lap", "k", "some", "tree", "laws", "counts", "shown", "p", "turning", "late", "s", "t", "other", "both"] [.ref a, .ref p]) H1 :=
    sta_ent (N := ["script", "source", "lap", "k", "some", "tree", "laws", "counts", "shown", "p", "turning", "late", "s", "t", "other", "both"]) (srcM_ok p b) hsrc (.cons rfl (.cons rfl .nil)) (by show 2 ≤ 16; decide)
  exact ss_law_rest (s := p) (c := b) (H0 := H1) (a := a) _ H1 { nx := fun _ H' => Q .non H', rt := Q } S1 ⟨fun _ _ _ _ _ z => z.elim, fun v r H' _ _ rt er => by
    subst er
    have hv : v = .bl true := Im.bl_inv rt
    subst hv
    exact q H', fun _ _ _ _ _ z => z.elim, fun _ _ _ _ _ z => z.elim⟩
end
end Rd

set_option Elab.async false
set_option linter.all false
set_option maxRecDepth 100000
set_option maxHeartbeats 4000000
namespace K53
open PySem L2 Rt StX Rd
def topS (i : Nat) : Stmt := PySem.Challenge.pw_ruledtrees_k53_whole_turned_trees_and_co.main.body.getD i (.Pass ⟨0, 0, 0, 0⟩)

abbrev s_end_at : Stmt := topS 1
theorem sc_end_at : FnScope ["tree", "place", "lacking"] ["tree", "place"] (defScope s_end_at) := ⟨rfl, rfl, rfl, by decide +kernel, rfl, by decide +kernel, by decide +kernel⟩
theorem tm_end_at {P : Program} {w : World} {K : PySem.W.Frag} {mg : Str → Option Value} {base : Heap} (B : Blt mg) {n : Nat}
    {f : Addr} {cdv : Value} {A : Around} {outer : List Env} {s : Shared} {H : Hp} {E : XK} (hr : Room n (A.deeper (PyProof.Rows.envOfC "end_at" (defScope s_end_at) s.heap.objs.size f cdv))) :
    PSs (cxOf CX0 P w K mg base ["tree", "place", "lacking"] "end_at" (defScope s_end_at) f cdv A outer s H E).nox (defBody s_end_at) (t_end_at K) :=
  (pss_cons (ps_set (i := 2) sc_end_at.nd rfl (Or.inl rfl) pe_int)
    (pss_cons (ps_while PassesOwn.never (pt_cmpR op_gt (pv 2) pe_int (nomark _)) (pss_cons (ps_set (i := 2) sc_end_at.nd rfl (Or.inl rfl) (pe_op op_add (pv 2) (pe_ifExp (pt_cmpR (op_eqD hr.units) (pe_ix ix_tup (pv 0) (pv 1) (fun _ _ => rfl)) (pe_un un_neg pe_int) (nomark _)) pe_int (pe_un un_neg pe_int))))
    (pss_one (ps_set (i := 1) sc_end_at.nd rfl (Or.inl rfl) (pe_op op_add (pv 1) pe_int)))))
    (pss_one (ps_ret (pv 1)))))
abbrev s_sides_of : Stmt := topS 2
theorem sc_sides_of : FnScope ["tree", "middle"] ["tree"] (defScope s_sides_of) := ⟨rfl, rfl, rfl, by decide +kernel, rfl, by decide +kernel, by decide +kernel⟩
theorem tm_sides_of {P : Program} {w : World} {K : PySem.W.Frag} {mg : Str → Option Value} {base : Heap} (B : Blt mg) {n : Nat} {C_end_at : Ct}
    {k_end_at : Nat} (F_end_at : Fn P w K mg base k_end_at "end_at" ["tree", "place"] (spM K Mpure C_end_at)) (l_end_at : k_end_at ≤ n)
    {f : Addr} {cdv : Value} {A : Around} {outer : List Env} {s : Shared} {H : Hp} {E : XK} (hr : Room n (A.deeper (PyProof.Rows.envOfC "sides_of" (defScope s_sides_of) s.heap.objs.size f cdv))) :
    PSs (cxOf CX0 P w K mg base ["tree", "middle"] "sides_of" (defScope s_sides_of) f cdv A outer s H E).nox (defBody s_sides_of) (t_sides_of K C_end_at) :=
  (pss_cons (ps_set (i := 1) sc_sides_of.nd rfl (Or.inl rfl) (pe_fn F_end_at (hr.mono (by omega)) rfl (pa_cons (pv 0) (pa_cons pe_int pa_nil))))
    (pss_one (ps_ret (pe_tup (pa_cons (pe_slice sl_tupA (pv 0) (po_some pe_int) (po_some (pv 1))) (pa_cons (pe_slice sl_tupA (pv 0) (po_some (pv 1)) po_none) pa_nil))))))
abbrev s_count_of : Stmt := topS 3
theorem sc_count_of : FnScope ["p", "tree", "one", "other", "found", "left", "right"] ["p", "tree"] (defScope s_count_of) := ⟨rfl, rfl, rfl, by decide +kernel, rfl, by decide +kernel, by decide +kernel⟩
theorem tm_count_of {P : Program} {w : World} {K : PySem.W.Frag} {mg : Str → Option Value} {base : Heap} (B : Blt mg) {n : Nat} {C_sides_of : Ct} {C_count_of : Ct}
    {k_sides_of : Nat} (F_sides_of : Fn P w K mg base k_sides_of "sides_of" ["tree"] (spM K Mpure C_sides_of)) (l_sides_of : k_sides_of ≤ n)
    {k_count_of : Nat} (F_count_of : Fn P w K mg base k_count_of "count_of" ["p", "tree"] (spM K Mpure C_count_of)) (l_count_of : k_count_of ≤ n)
    {f : Addr} {cdv : Value} {A : Around} {outer : List Env} {s : Shared} {H : Hp} {E : XK} (hr : Room n (A.deeper (PyProof.Rows.envOfC "count_of" (defScope s_count_of) s.heap.objs.size f cdv))) :
    PSs (cxOf CX0 P w K mg base ["p", "tree", "one", "other", "found", "left", "right"] "count_of" (defScope s_count_of) f cdv A outer s H E).nox (defBody s_count_of) (t_count_of K C_sides_of C_count_of) :=
  (pss_cons (ps_if (PW.pt (pw_or (pt_cmpR (op_eqD hr.units) (pv 0) (pe_tup pa_nil) (nomark _)) (pw_or1 (pt_cmpR (op_eqD hr.units) (pv 1) (pe_tup pa_nil) (nomark _))))) (pss_one (ps_ret (pe_callTy call_int1 (by rfl) B.int (by decide +kernel) (pa_cons (pe_cmpR (op_eqD hr.units) (pv 0) (pe_tup pa_nil) (nomark _)) pa_nil)))) pss_nil)
    (pss_cons (ps_if (pt_cmpR (op_neD hr.units) (pe_ix ix_tup (pv 1) pe_int (fun _ _ => rfl)) (pe_un un_neg pe_int) (nomark _)) (pss_one (ps_ret (pe_callTy call_int1 (by rfl) B.int (by decide +kernel) (pa_cons (pe_cmpR (op_eqD hr.units) (pv 0) (pv 1) (nomark _)) pa_nil)))) pss_nil)
    (pss_cons (ps_asg (pe_fn F_sides_of (hr.mono (by omega)) rfl (pa_cons (pv 1) pa_nil)) (pg_tup rfl (pgs_cons (pg_name (i := 2) sc_count_of.nd rfl (Or.inl rfl)) (pgs_cons (pg_name (i := 3) sc_count_of.nd rfl (Or.inl rfl)) pgs_nil))))
    (pss_cons (ps_set (i := 4) sc_count_of.nd rfl (Or.inl rfl) (pe_op op_add (pe_fn F_count_of (hr.mono (by omega)) rfl (pa_cons (pv 0) (pa_cons (pv 2) pa_nil))) (pe_fn F_count_of (hr.mono (by omega)) rfl (pa_cons (pv 0) (pa_cons (pv 3) pa_nil)))))
    (pss_cons (ps_if (pt_cmpR (op_eqD hr.units) (pe_ix ix_tup (pv 0) pe_int (fun _ _ => rfl)) (pe_un un_neg pe_int) (nomark _)) (pss_cons (ps_asg (pe_fn F_sides_of (hr.mono (by omega)) rfl (pa_cons (pv 0) pa_nil)) (pg_tup rfl (pgs_cons (pg_name (i := 5) sc_count_of.nd rfl (Or.inl rfl)) (pgs_cons (pg_name (i := 6) sc_count_of.nd rfl (Or.inl rfl)) pgs_nil))))
    (pss_one (ps_set (i := 4) sc_count_of.nd rfl (Or.inl rfl) (pe_op op_add (pv 4) (pe_op op_mulW (pe_fn F_count_of (hr.mono (by omega)) rfl (pa_cons (pv 5) (pa_cons (pv 2) pa_nil))) (pe_fn F_count_of (hr.mono (by omega)) rfl (pa_cons (pv 6) (pa_cons (pv 3) pa_nil)))))))) pss_nil)
    (pss_one (ps_ret (pv 4))))))))
abbrev s_turnings : Stmt := topS 5
theorem sc_turnings : FnScope ["k", "rows", "names"] ["k"] (defScope s_turnings) := ⟨rfl, rfl, rfl, by decide +kernel, rfl, by decide +kernel, by decide +kernel⟩
theorem tm_turnings {P : Program} {w : World} {K : PySem.W.Frag} {mg : Str → Option Value} {base : Heap} (B : Blt mg) {n : Nat}
    {f : Addr} {cdv : Value} {A : Around} {outer : List Env} {s : Shared} {H : Hp} {E : XK} (hr : Room n (A.deeper (PyProof.Rows.envOfC "turnings" (defScope s_turnings) s.heap.objs.size f cdv))) :
    PSs (cxOf CX0 P w K mg base ["k", "rows", "names"] "turnings" (defScope s_turnings) f cdv A outer s H E).nox (defBody s_turnings) (t_turnings K) :=
  (pss_cons (ps_set (i := 1) sc_turnings.nd rfl (Or.inl rfl) (pe_ifExp (pt_cmpR (op_eqD hr.units) (pv 0) pe_int (nomark _)) (pe_lst (pa_cons (pe_tupB (pa_cons pe_int pa_nil)) pa_nil)) (pe_lst (pa_cons (pe_tupB (pa_cons pe_int (pa_cons pe_int pa_nil))) (pa_cons (pe_tupB (pa_cons pe_int (pa_cons pe_int pa_nil))) pa_nil)))))
    (pss_one (ps_ret (pe_tupleOf rfl B.tuple (pe_op op_cat (pe_lc (own := [("names", 2)]) (g := (gName 2)) (tt := tYes) rfl sc_turnings.nd (pi_list (pv 1)) (blkOk_by (own := [("names", 2)]) (N := ["k", "rows", "names"]) (sc := defScope s_turnings) (by decide +kernel)) (fun _ _ _ _ _ => (pg_name (i := 2) sc_turnings.nd rfl (Or.inl rfl))) (fun _ _ _ _ _ => pts_nil) (fun _ _ _ _ _ => (pe_tup (pa_cons pe_int (pa_cons (pv 2) pa_nil))))) (pe_lc (own := [("names", 2)]) (g := (gName 2)) (tt := tYes) rfl sc_turnings.nd (pi_list (pv 1)) (blkOk_by (own := [("names", 2)]) (N := ["k", "rows", "names"]) (sc := defScope s_turnings) (by decide +kernel)) (fun _ _ _ _ _ => (pg_name (i := 2) sc_turnings.nd rfl (Or.inl rfl))) (fun _ _ _ _ _ => pts_nil) (fun _ _ _ _ _ => (pe_tup (pa_cons pe_int (pa_cons (pv 2) pa_nil))))))))))
abbrev s_turned_from : Stmt := topS 6
theorem sc_turned_from : FnScope ["parts", "turning", "mirror", "names", "part", "left", "right"] ["parts", "turning"] (defScope s_turned_from) := ⟨rfl, rfl, rfl, by decide +kernel, rfl, by decide +kernel, by decide +kernel⟩
theorem tm_turned_from {P : Program} {w : World} {K : PySem.W.Frag} {mg : Str → Option Value} {base : Heap} (B : Blt mg) {n : Nat} {C_turned_from : Sp}
    {k_turned_from : Nat} (F_turned_from : Fn P w K mg base k_turned_from "turned_from" ["parts", "turning"] C_turned_from) (l_turned_from : k_turned_from ≤ n)
    {f : Addr} {cdv : Value} {A : Around} {outer : List Env} {s : Shared} {H : Hp} {E : XK} (hr : Room n (A.deeper (PyProof.Rows.envOfC "turned_from" (defScope s_turned_from) s.heap.objs.size f cdv))) :
    PSs (cxOf CX0 P w K mg base ["parts", "turning", "mirror", "names", "part", "left", "right"] "turned_from" (defScope s_turned_from) f cdv A outer s H E).nox (defBody s_turned_from) (t_turned_from K C_turned_from) :=
  (pss_cons (ps_asg (pv 1) (pg_tup rfl (pgs_cons (pg_name (i := 2) sc_turned_from.nd rfl (Or.inl rfl)) (pgs_cons (pg_name (i := 3) sc_turned_from.nd rfl (Or.inl rfl)) pgs_nil))))
    (pss_cons (ps_set (i := 4) sc_turned_from.nd rfl (Or.inl rfl) (pe_bm PySem.F.plainAttrs_list PySem.F.slot_list_pop PySem.F.type_list_pop mt_popAt (pv 0) (pa_cons pe_int pa_nil)))
    (pss_cons (ps_if (pt_cmpR (op_neD hr.units) (pv 4) (pe_un un_neg pe_int) (nomark _)) (pss_one (ps_ret (pe_tup (pa_cons (pe_ifExp (pt_cmpR op_ge (pv 4) pe_int (nomark _)) (pe_ix ix_tup (pv 3) (pv 4) (fun _ _ => rfl)) (pv 4)) pa_nil)))) pss_nil)
    (pss_cons (ps_set (i := 5) sc_turned_from.nd rfl (Or.inl rfl) (pe_fn F_turned_from (hr.mono (by omega)) rfl (pa_cons (pv 0) (pa_cons (pv 1) pa_nil))))
    (pss_cons (ps_set (i := 6) sc_turned_from.nd rfl (Or.inl rfl) (pe_fn F_turned_from (hr.mono (by omega)) rfl (pa_cons (pv 0) (pa_cons (pv 1) pa_nil))))
    (pss_one (ps_ret (pe_ifExp (pt_cmpR (op_eqD hr.units) (pv 2) pe_int (nomark _)) (pe_tup (pa_cons (pe_un un_neg pe_int) (pa_star (pv 6) (pa_star (pv 5) pa_nil)))) (pe_tup (pa_cons (pe_un un_neg pe_int) (pa_star (pv 5) (pa_star (pv 6) pa_nil))))))))))))
abbrev s_turned_term : Stmt := topS 7
theorem sc_turned_term : FnScope ["term", "turning"] ["term", "turning"] (defScope s_turned_term) := ⟨rfl, rfl, rfl, by decide +kernel, rfl, by decide +kernel, by decide +kernel⟩
theorem tm_turned_term {P : Program} {w : World} {K : PySem.W.Frag} {mg : Str → Option Value} {base : Heap} (B : Blt mg) {n : Nat} {C_turned_from : Sp}
    {k_turned_from : Nat} (F_turned_from : Fn P w K mg base k_turned_from "turned_from" ["parts", "turning"] C_turned_from) (l_turned_from : k_turned_from ≤ n)
    {f : Addr} {cdv : Value} {A : Around} {outer : List Env} {s : Shared} {H : Hp} {E : XK} (hr : Room n (A.deeper (PyProof.Rows.envOfC "turned_term" (defScope s_turned_term) s.heap.objs.size f cdv))) :
    PSs (cxOf CX0 P w K mg base ["term", "turning"] "turned_term" (defScope s_turned_term) f cdv A outer s H E).nox (defBody s_turned_term) (t_turned_term K C_turned_from) :=
  (pss_one (ps_ret (pe_fn F_turned_from (hr.mono (by omega)) rfl (pa_cons (pe_callTy call_list_of (by rfl) B.list (by decide +kernel) (pa_cons (pv 0) pa_nil)) (pa_cons (pv 1) pa_nil)))))
abbrev s_turned_tree : Stmt := topS 8
theorem sc_turned_tree : FnScope ["tree", "turning"] ["tree", "turning"] (defScope s_turned_tree) := ⟨rfl, rfl, rfl, by decide +kernel, rfl, by decide +kernel, by decide +kernel⟩
theorem tm_turned_tree {P : Program} {w : World} {K : PySem.W.Frag} {mg : Str → Option Value} {base : Heap} (B : Blt mg) {n : Nat} {C_turned_term : Ct}
    {k_turned_term : Nat} (F_turned_term : Fn P w K mg base k_turned_term "turned_term" ["term", "turning"] (spM K Mpure C_turned_term)) (l_turned_term : k_turned_term ≤ n)
    {f : Addr} {cdv : Value} {A : Around} {outer : List Env} {s : Shared} {H : Hp} {E : XK} (hr : Room n (A.deeper (PyProof.Rows.envOfC "turned_tree" (defScope s_turned_tree) s.heap.objs.size f cdv))) :
    PSs (cxOf CX0 P w K mg base ["tree", "turning"] "turned_tree" (defScope s_turned_tree) f cdv A outer s H E).nox (defBody s_turned_tree) (t_turned_tree K C_turned_term) :=
  (pss_one (ps_ret (pe_ifExp (pt_cmpR (op_neD hr.units) (pv 0) (pe_tup pa_nil) (nomark _)) (pe_fn F_turned_term (hr.mono (by omega)) rfl (pa_cons (pv 0) (pa_cons (pv 1) pa_nil))) (pe_tup pa_nil))))
abbrev s_turned_laws : Stmt := topS 9
theorem sc_turned_laws : FnScope ["laws", "turning", "one", "other"] ["laws", "turning"] (defScope s_turned_laws) := ⟨rfl, rfl, rfl, by decide +kernel, rfl, by decide +kernel, by decide +kernel⟩
theorem tm_turned_laws {P : Program} {w : World} {K : PySem.W.Frag} {mg : Str → Option Value} {base : Heap} (B : Blt mg) {n : Nat} {C_turned_term : Ct}
    {k_turned_term : Nat} (F_turned_term : Fn P w K mg base k_turned_term "turned_term" ["term", "turning"] (spM K Mpure C_turned_term)) (l_turned_term : k_turned_term ≤ n)
    {f : Addr} {cdv : Value} {A : Around} {outer : List Env} {s : Shared} {H : Hp} {E : XK} (hr : Room n (A.deeper (PyProof.Rows.envOfC "turned_laws" (defScope s_turned_laws) s.heap.objs.size f cdv))) :
    PSs (cxOf CX0 P w K mg base ["laws", "turning", "one", "other"] "turned_laws" (defScope s_turned_laws) f cdv A outer s H E).nox (defBody s_turned_laws) (t_turned_laws K C_turned_term) :=
  (pss_one (ps_ret (pe_tupleOf rfl B.tuple (pe_lc (own := [("one", 2), ("other", 3)]) (g := (gTup K 2 (gCons (gName 2) (gCons (gName 3) gNil)))) (tt := tYes) rfl sc_turned_laws.nd (pi_tup (pv 0)) (blkOk_by (own := [("one", 2), ("other", 3)]) (N := ["laws", "turning", "one", "other"]) (sc := defScope s_turned_laws) (by decide +kernel)) (fun _ _ _ _ _ => (pg_tup rfl (pgs_cons (pg_name (i := 2) sc_turned_laws.nd rfl (Or.inl rfl)) (pgs_cons (pg_name (i := 3) sc_turned_laws.nd rfl (Or.inl rfl)) pgs_nil)))) (fun _ _ _ _ _ => pts_nil) (fun _ _ _ _ _ => (pe_tup (pa_cons (pe_fn F_turned_term (hr.mono (by omega)) rfl (pa_cons (pv 2) (pa_cons (pv 1) pa_nil))) (pa_cons (pe_fn F_turned_term (hr.mono (by omega)) rfl (pa_cons (pv 3) (pa_cons (pv 1) pa_nil))) pa_nil))))))))
abbrev s_turning_back : Stmt := topS 10
theorem sc_turning_back : FnScope ["turning", "mirror", "names", "letter"] ["turning"] (defScope s_turning_back) := ⟨rfl, rfl, rfl, by decide +kernel, rfl, by decide +kernel, by decide +kernel⟩
theorem tm_turning_back {P : Program} {w : World} {K : PySem.W.Frag} {mg : Str → Option Value} {base : Heap} (B : Blt mg) {n : Nat}
    {f : Addr} {cdv : Value} {A : Around} {outer : List Env} {s : Shared} {H : Hp} {E : XK} (hr : Room n (A.deeper (PyProof.Rows.envOfC "turning_back" (defScope s_turning_back) s.heap.objs.size f cdv))) :
    PSs (cxOf CX0 P w K mg base ["turning", "mirror", "names", "letter"] "turning_back" (defScope s_turning_back) f cdv A outer s H E).nox (defBody s_turning_back) (t_turning_back K) :=
  (pss_cons (ps_asg (pv 0) (pg_tup rfl (pgs_cons (pg_name (i := 1) sc_turning_back.nd rfl (Or.inl rfl)) (pgs_cons (pg_name (i := 2) sc_turning_back.nd rfl (Or.inr rfl)) pgs_nil))))
    (pss_one (ps_ret (pe_tup (pa_cons (pv 1) (pa_cons (pe_tupleOf rfl B.tuple (pe_lc (own := [("letter", 3)]) (g := (gName 3)) (tt := tYes) rfl sc_turning_back.nd (pi_range1 rfl B.range (pa_cons (pe_callB call_len_seq (by rfl) B.len (by decide +kernel) (pa_cons (pv 2) pa_nil)) pa_nil)) (blkOk_by (own := [("letter", 3)]) (N := ["turning", "mirror", "names", "letter"]) (sc := defScope s_turning_back) (by decide +kernel)) (fun _ _ _ _ _ => (pg_name (i := 3) sc_turning_back.nd rfl (Or.inl rfl))) (fun _ _ _ _ _ => pts_nil) (fun _ _ _ _ _ => (pe_tix (pv 2) (pv 3))))) pa_nil))))))
abbrev s_turning_behind : Stmt := topS 11
theorem sc_turning_behind : FnScope ["one", "other", "letter"] ["one", "other"] (defScope s_turning_behind) := ⟨rfl, rfl, rfl, by decide +kernel, rfl, by decide +kernel, by decide +kernel⟩
theorem tm_turning_behind {P : Program} {w : World} {K : PySem.W.Frag} {mg : Str → Option Value} {base : Heap} (B : Blt mg) {n : Nat}
    {f : Addr} {cdv : Value} {A : Around} {outer : List Env} {s : Shared} {H : Hp} {E : XK} (hr : Room n (A.deeper (PyProof.Rows.envOfC "turning_behind" (defScope s_turning_behind) s.heap.objs.size f cdv))) :
    PSs (cxOf CX0 P w K mg base ["one", "other", "letter"] "turning_behind" (defScope s_turning_behind) f cdv A outer s H E).nox (defBody s_turning_behind) (t_turning_behind K) :=
  (pss_one (ps_ret (pe_tup (pa_cons (pe_op op_mod (pe_op op_add (pe_ix ix_tup (pv 0) pe_int (fun _ _ => rfl)) (pe_ix ix_tup (pv 1) pe_int (fun _ _ => rfl))) pe_int) (pa_cons (pe_tupleOf rfl B.tuple (pe_lc (own := [("letter", 2)]) (g := (gName 2)) (tt := tYes) rfl sc_turning_behind.nd (pi_tup (pe_ix ix_tup (pv 0) pe_int (fun _ _ => rfl))) (blkOk_by (own := [("letter", 2)]) (N := ["one", "other", "letter"]) (sc := defScope s_turning_behind) (by decide +kernel)) (fun _ _ _ _ _ => (pg_name (i := 2) sc_turning_behind.nd rfl (Or.inl rfl))) (fun _ _ _ _ _ => pts_nil) (fun _ _ _ _ _ => (pe_ix ix_tup (pe_ix ix_tup (pv 1) pe_int (fun _ _ => rfl)) (pv 2) (fun _ _ => rfl))))) pa_nil)))))
abbrev s__law_source : Stmt := topS 13
theorem sc__law_source : FnScope ["script", "mixed", "cell"] ["script"] (defScope s__law_source) := ⟨rfl, rfl, rfl, by decide +kernel, rfl, by decide +kernel, by decide +kernel⟩
theorem tm__law_source {P : Program} {w : World} {K : PySem.W.Frag} {mg : Str → Option Value} {base : Heap} (B : Blt mg) {n : Nat}
    {f : Addr} {cdv : Value} {A : Around} {outer : List Env} {s : Shared} {H : Hp} {E : XK} (hr : Room n (A.deeper (PyProof.Rows.envOfC "_law_source" (defScope s__law_source) s.heap.objs.size f cdv))) :
    PSs (cxOf CX0 P w K mg base ["script", "mixed", "cell"] "_law_source" (defScope s__law_source) f cdv A outer s H E).nox (defBody s__law_source) (t__law_source K) :=
  (pss_cons (ps_set (i := 1) sc__law_source.nd rfl (Or.inl rfl) pe_int)
    (pss_cons (ps_for PassesOwn.never rfl (pi_list (pv 0)) (pg_name (i := 2) sc__law_source.nd rfl (Or.inl rfl)) (pss_one (ps_set (i := 1) sc__law_source.nd rfl (Or.inl rfl) (pe_op op_mod (pe_callTy call_int1 (by rfl) B.int (by decide +kernel) (pa_cons (pe_op op_add (pe_op op_add (pe_op op_mul (pv 1) pe_int) (pe_op op_mul (pv 2) pe_int)) pe_int) pa_nil)) pe_int))))
    (pss_one (ps_ret (pe_disp (pps_cons pe_str (pe_revL (pe_lc (own := [("cell", 2)]) (g := (gName 2)) (tt := tYes) rfl sc__law_source.nd (pi_list (pv 0)) (blkOk_by (own := [("cell", 2)]) (N := ["script", "mixed", "cell"]) (sc := defScope s__law_source) (by decide +kernel)) (fun _ _ _ _ _ => (pg_name (i := 2) sc__law_source.nd rfl (Or.inl rfl))) (fun _ _ _ _ _ => pts_nil) (fun _ _ _ _ _ => (pe_callB call_abs (by rfl) B.abs (by decide +kernel) (pa_cons (pv 2) pa_nil))))) (pps_cons pe_str pe_int (pps_cons pe_str (pv 1) (pps_cons pe_str pe_int pps_nil)))) (by rfl) (by rfl) (fun z => by cases z) (by decide))))))
abbrev s__law_pick : Stmt := topS 14
theorem sc__law_pick : FnScope ["source", "many", "left", "mixed"] ["source", "many"] (defScope s__law_pick) := ⟨rfl, rfl, rfl, by decide +kernel, rfl, by decide +kernel, by decide +kernel⟩
theorem tm__law_pick {P : Program} {w : World} {K : PySem.W.Frag} {mg : Str → Option Value} {base : Heap} (B : Blt mg) {n : Nat}
    {f : Addr} {cdv : Value} {A : Around} {outer : List Env} {s : Shared} {H : Hp} {E : XK} (hr : Room n (A.deeper (PyProof.Rows.envOfC "_law_pick" (defScope s__law_pick) s.heap.objs.size f cdv))) :
    PSs (cxOf CX0 P w K mg base ["source", "many", "left", "mixed"] "_law_pick" (defScope s__law_pick) f cdv A outer s H E).nox (defBody s__law_pick) (t__law_pick K) :=
  (pss_cons (ps_if (pt_cmpR op_lt (pv 1) pe_int (nomark _)) (pss_one (ps_ret pe_int)) pss_nil)
    (pss_cons (ps_while PassesOwn.never (PW.pt (pw_and (pt_cmpR op_lt (pe_dget (hu_of hr) (pv 0) pe_str (fun _ _ => rfl)) pe_int (nomark _)) (pw_and1 (pt_cmpR op_gt (pe_callB call_len_seq (by rfl) B.len (by decide +kernel) (pa_cons (pe_dget (hu_of hr) (pv 0) pe_str (fun _ _ => rfl)) pa_nil)) pe_int (nomark _))))) (pss_one (ps_dput (hu_of hr) (pv 0) pe_str (pe_bm0 PySem.F.plainAttrs_list PySem.F.slot_list_pop PySem.F.type_list_pop mt_pop (pe_dget (hu_of hr) (pv 0) pe_str (fun _ _ => rfl))) rfl)))
    (pss_cons (ps_set (i := 2) sc__law_pick.nd rfl (Or.inl rfl) (pe_dget (hu_of hr) (pv 0) pe_str (fun _ _ => rfl)))
    (pss_cons (ps_if (pt_cmpR op_gt (pv 2) pe_int (nomark _)) (pss_cons (ps_dput (hu_of hr) (pv 0) pe_str (pe_op op_fdivW (pv 2) (pv 1)) rfl)
    (pss_one (ps_ret (pe_op op_mod (pe_callTy call_int1 (by rfl) B.int (by decide +kernel) (pa_cons (pv 2) pa_nil)) (pv 1))))) pss_nil)
    (pss_cons (ps_dput (hu_of hr) (pv 0) pe_str (pe_op op_add (pe_dget (hu_of hr) (pv 0) pe_str (fun _ _ => rfl)) pe_int) rfl)
    (pss_cons (ps_set (i := 3) sc__law_pick.nd rfl (Or.inl rfl) (pe_op op_mod (pe_callTy call_int1 (by rfl) B.int (by decide +kernel) (pa_cons (pe_op op_add (pe_dget (hu_of hr) (pv 0) pe_str (fun _ _ => rfl)) (pe_op op_mul (pe_dget (hu_of hr) (pv 0) pe_str (fun _ _ => rfl)) pe_int)) pa_nil)) pe_int))
    (pss_cons (ps_set (i := 3) sc__law_pick.nd rfl (Or.inl rfl) (pe_op op_mod (pe_callTy call_int1 (by rfl) B.int (by decide +kernel) (pa_cons (pe_op op_add (pe_op op_mul (pv 3) (pv 3)) (pe_op op_mul (pe_dget (hu_of hr) (pv 0) pe_str (fun _ _ => rfl)) pe_int)) pa_nil)) pe_int))
    (pss_one (ps_ret (pe_op op_mod (pe_callTy call_int1 (by rfl) B.int (by decide +kernel) (pa_cons (pe_op op_fdivW (pv 3) pe_int) pa_nil)) (pv 1)))))))))))
abbrev s__law_of : Stmt := topS 15
theorem sc__law_of : FnScope ["source", "some"] ["source", "some"] (defScope s__law_of) := ⟨rfl, rfl, rfl, by decide +kernel, rfl, by decide +kernel, by decide +kernel⟩
theorem tm__law_of {P : Program} {w : World} {K : PySem.W.Frag} {mg : Str → Option Value} {base : Heap} (B : Blt mg) {n : Nat} {C__law_pick : Ct}
    {k__law_pick : Nat} (F__law_pick : Fn P w K mg base k__law_pick "_law_pick" ["source", "many"] (spM K Msrc C__law_pick)) (l__law_pick : k__law_pick ≤ n)
    {f : Addr} {cdv : Value} {A : Around} {outer : List Env} {s : Shared} {H : Hp} {E : XK} (hr : Room n (A.deeper (PyProof.Rows.envOfC "_law_of" (defScope s__law_of) s.heap.objs.size f cdv))) :
    PSs (cxOf CX0 P w K mg base ["source", "some"] "_law_of" (defScope s__law_of) f cdv A outer s H E).nox (defBody s__law_of) (t__law_of K C__law_pick) :=
  (pss_one (ps_ret (pe_ix ix_list (pv 1) (pe_fn F__law_pick (hr.mono (by omega)) rfl (pa_cons (pv 0) (pa_cons (pe_callB call_len_seq (by rfl) B.len (by decide +kernel) (pa_cons (pv 1) pa_nil)) pa_nil))) (fun _ _ => rfl))))
abbrev s__law_built : Stmt := topS 16
theorem sc__law_built : FnScope ["source", "some", "leaves", "left"] ["source", "some", "leaves"] (defScope s__law_built) := ⟨rfl, rfl, rfl, by decide +kernel, rfl, by decide +kernel, by decide +kernel⟩
theorem tm__law_built {P : Program} {w : World} {K : PySem.W.Frag} {mg : Str → Option Value} {base : Heap} (B : Blt mg) {n : Nat} {C__law_of : Ct} {C__law_pick : Ct} {C__law_built : Ct}
    {k__law_of : Nat} (F__law_of : Fn P w K mg base k__law_of "_law_of" ["source", "some"] (spM K Msrc C__law_of)) (l__law_of : k__law_of ≤ n)
    {k__law_pick : Nat} (F__law_pick : Fn P w K mg base k__law_pick "_law_pick" ["source", "many"] (spM K Msrc C__law_pick)) (l__law_pick : k__law_pick ≤ n)
    {k__law_built : Nat} (F__law_built : Fn P w K mg base k__law_built "_law_built" ["source", "some", "leaves"] (spM K Msrc C__law_built)) (l__law_built : k__law_built ≤ n)
    {f : Addr} {cdv : Value} {A : Around} {outer : List Env} {s : Shared} {H : Hp} {E : XK} (hr : Room n (A.deeper (PyProof.Rows.envOfC "_law_built" (defScope s__law_built) s.heap.objs.size f cdv))) :
    PSs (cxOf CX0 P w K mg base ["source", "some", "leaves", "left"] "_law_built" (defScope s__law_built) f cdv A outer s H E).nox (defBody s__law_built) (t__law_built K C__law_of C__law_pick C__law_built) :=
  (pss_cons (ps_if (pt_cmpR (op_eqD hr.units) (pv 2) pe_int (nomark _)) (pss_one (ps_ret (pe_tup (pa_cons (pe_fn F__law_of (hr.mono (by omega)) rfl (pa_cons (pv 0) (pa_cons (pv 1) pa_nil))) pa_nil)))) pss_nil)
    (pss_cons (ps_set (i := 3) sc__law_built.nd rfl (Or.inl rfl) (pe_op op_add pe_int (pe_fn F__law_pick (hr.mono (by omega)) rfl (pa_cons (pv 0) (pa_cons (pe_op op_sub (pv 2) pe_int) pa_nil)))))
    (pss_one (ps_ret (pe_op op_catA (pe_op op_catA (pe_tup (pa_cons (pe_un un_neg pe_int) pa_nil)) (pe_fn F__law_built (hr.mono (by omega)) rfl (pa_cons (pv 0) (pa_cons (pv 1) (pa_cons (pv 3) pa_nil))))) (pe_fn F__law_built (hr.mono (by omega)) rfl (pa_cons (pv 0) (pa_cons (pv 1) (pa_cons (pe_op op_sub (pv 2) (pv 3)) pa_nil)))))))))
abbrev s__law_tree : Stmt := topS 17
theorem sc__law_tree : FnScope ["source", "k", "most"] ["source", "k", "most"] (defScope s__law_tree) := ⟨rfl, rfl, rfl, by decide +kernel, rfl, by decide +kernel, by decide +kernel⟩
theorem tm__law_tree {P : Program} {w : World} {K : PySem.W.Frag} {mg : Str → Option Value} {base : Heap} (B : Blt mg) {n : Nat} {C__law_built : Ct} {C__law_pick : Ct}
    {k__law_built : Nat} (F__law_built : Fn P w K mg base k__law_built "_law_built" ["source", "some", "leaves"] (spM K Msrc C__law_built)) (l__law_built : k__law_built ≤ n)
    {k__law_pick : Nat} (F__law_pick : Fn P w K mg base k__law_pick "_law_pick" ["source", "many"] (spM K Msrc C__law_pick)) (l__law_pick : k__law_pick ≤ n)
    {f : Addr} {cdv : Value} {A : Around} {outer : List Env} {s : Shared} {H : Hp} {E : XK} (hr : Room n (A.deeper (PyProof.Rows.envOfC "_law_tree" (defScope s__law_tree) s.heap.objs.size f cdv))) :
    PSs (cxOf CX0 P w K mg base ["source", "k", "most"] "_law_tree" (defScope s__law_tree) f cdv A outer s H E).nox (defBody s__law_tree) (t__law_tree K C__law_built C__law_pick) :=
  (pss_one (ps_ret (pe_fn F__law_built (hr.mono (by omega)) rfl (pa_cons (pv 0) (pa_cons (pe_listRg rfl rfl B.list (prg_1 rfl B.range (pv 1))) (pa_cons (pe_op op_add pe_int (pe_fn F__law_pick (hr.mono (by omega)) rfl (pa_cons (pv 0) (pa_cons (pv 2) pa_nil)))) pa_nil))))))
abbrev s__law_little : Stmt := topS 18
theorem sc__law_little : FnScope ["source", "k", "most", "leaves"] ["source", "k", "most"] (defScope s__law_little) := ⟨rfl, rfl, rfl, by decide +kernel, rfl, by decide +kernel, by decide +kernel⟩
theorem tm__law_little {P : Program} {w : World} {K : PySem.W.Frag} {mg : Str → Option Value} {base : Heap} (B : Blt mg) {n : Nat} {C__law_pick : Ct} {C__law_built : Ct}
    {k__law_pick : Nat} (F__law_pick : Fn P w K mg base k__law_pick "_law_pick" ["source", "many"] (spM K Msrc C__law_pick)) (l__law_pick : k__law_pick ≤ n)
    {k__law_built : Nat} (F__law_built : Fn P w K mg base k__law_built "_law_built" ["source", "some", "leaves"] (spM K Msrc C__law_built)) (l__law_built : k__law_built ≤ n)
    {f : Addr} {cdv : Value} {A : Around} {outer : List Env} {s : Shared} {H : Hp} {E : XK} (hr : Room n (A.deeper (PyProof.Rows.envOfC "_law_little" (defScope s__law_little) s.heap.objs.size f cdv))) :
    PSs (cxOf CX0 P w K mg base ["source", "k", "most", "leaves"] "_law_little" (defScope s__law_little) f cdv A outer s H E).nox (defBody s__law_little) (t__law_little K C__law_pick C__law_built) :=
  (pss_cons (ps_set (i := 3) sc__law_little.nd rfl (Or.inl rfl) (pe_fn F__law_pick (hr.mono (by omega)) rfl (pa_cons (pv 0) (pa_cons (pe_op op_add (pv 2) pe_int) pa_nil))))
    (pss_one (ps_ret (pe_ifExp (pt_cmpR op_gt (pv 3) pe_int (nomark _)) (pe_fn F__law_built (hr.mono (by omega)) rfl (pa_cons (pv 0) (pa_cons (pe_listRg rfl rfl B.list (prg_1 rfl B.range (pv 1))) (pa_cons (pv 3) pa_nil)))) (pe_tup pa_nil)))))
abbrev s__law_laws : Stmt := topS 19
theorem sc__law_laws : FnScope ["source", "k", "many", "most", "laws", "some", "turn", "s", "t", "side"] ["source", "k", "many", "most"] (defScope s__law_laws) := ⟨rfl, rfl, rfl, by decide +kernel, rfl, by decide +kernel, by decide +kernel⟩
theorem tm__law_laws {P : Program} {w : World} {K : PySem.W.Frag} {mg : Str → Option Value} {base : Heap} (B : Blt mg) {n : Nat} {C__law_pick : Ct} {C__law_built : Ct}
    {k__law_pick : Nat} (F__law_pick : Fn P w K mg base k__law_pick "_law_pick" ["source", "many"] (spM K Msrc C__law_pick)) (l__law_pick : k__law_pick ≤ n)
    {k__law_built : Nat} (F__law_built : Fn P w K mg base k__law_built "_law_built" ["source", "some", "leaves"] (spM K Msrc C__law_built)) (l__law_built : k__law_built ≤ n)
    {f : Addr} {cdv : Value} {A : Around} {outer : List Env} {s : Shared} {H : Hp} {E : XK} (hr : Room n (A.deeper (PyProof.Rows.envOfC "_law_laws" (defScope s__law_laws) s.heap.objs.size f cdv))) :
    PSs (cxOf CX0 P w K mg base ["source", "k", "many", "most", "laws", "some", "turn", "s", "t", "side"] "_law_laws" (defScope s__law_laws) f cdv A outer s H E).nox (defBody s__law_laws) (t__law_laws K C__law_pick C__law_built) :=
  (pss_cons (ps_asg (pe_tup (pa_cons (pe_lst pa_nil) (pa_cons (pe_op op_cat (pe_listRg rfl rfl B.list (prg_1 rfl B.range (pv 1))) (pe_lst (pa_cons (pe_un un_neg pe_int) (pa_cons (pe_un un_neg pe_int) (pa_cons (pe_un un_neg pe_int) (pa_cons (pe_un un_neg pe_int) pa_nil)))))) pa_nil))) (pg_tup rfl (pgs_cons (pg_name (i := 4) sc__law_laws.nd rfl (Or.inl rfl)) (pgs_cons (pg_name (i := 5) sc__law_laws.nd rfl (Or.inr rfl)) pgs_nil))))
    (pss_cons (ps_for PassesOwn.never rfl (pi_range1 rfl B.range (pa_cons (pe_fn F__law_pick (hr.mono (by omega)) rfl (pa_cons (pv 0) (pa_cons (pe_op op_add (pv 2) pe_int) pa_nil))) pa_nil)) (pg_name (i := 6) sc__law_laws.nd rfl (Or.inl rfl)) (pss_cons (ps_asg (pe_lc (own := [("side", 9)]) (g := (gName 9)) (tt := tYes) rfl sc__law_laws.nd (pi_range1 rfl B.range (pa_cons pe_int pa_nil)) (blkOk_by (own := [("side", 9)]) (N := ["source", "k", "many", "most", "laws", "some", "turn", "s", "t", "side"]) (sc := defScope s__law_laws) (by decide +kernel)) (fun _ _ _ _ _ => (pg_name (i := 9) sc__law_laws.nd rfl (Or.inl rfl))) (fun _ _ _ _ _ => pts_nil) (fun _ _ _ _ _ => (pe_fn F__law_built (hr.mono (by omega)) rfl (pa_cons (pv 0) (pa_cons (pv 5) (pa_cons (pe_op op_add pe_int (pe_fn F__law_pick (hr.mono (by omega)) rfl (pa_cons (pv 0) (pa_cons (pv 3) pa_nil)))) pa_nil)))))) (pg_unl rfl (pgs_cons (pg_name (i := 7) sc__law_laws.nd rfl (Or.inl rfl)) (pgs_cons (pg_name (i := 8) sc__law_laws.nd rfl (Or.inl rfl)) pgs_nil))))
    (pss_one (ps_expr (pe_bm PySem.F.plainAttrs_list PySem.F.slot_list_append PySem.F.type_list_append mt_append (pv 4) (pa_cons (pe_ifExp (pt_cmpR (op_neD hr.units) (pv 7) (pv 8) (nomark _)) (pe_tup (pa_cons (pv 7) (pa_cons (pv 8) pa_nil))) (pe_ifExp (pt_cmpR (op_neD hr.units) (pv 7) (pe_tup (pa_cons pe_int pa_nil)) (nomark _)) (pe_tup (pa_cons (pv 7) (pa_cons (pe_tup (pa_cons pe_int pa_nil)) pa_nil))) (pe_tup (pa_cons (pv 7) (pa_cons (pe_tup (pa_cons (pe_un un_neg pe_int) pa_nil)) pa_nil))))) pa_nil))))))
    (pss_one (ps_ret (pe_tupleOf rfl B.tuple (pv 4))))))
abbrev s__law_split : Stmt := topS 21
theorem sc__law_split : FnScope ["tree", "wanted", "at", "part"] ["tree"] (defScope s__law_split) := ⟨rfl, rfl, rfl, by decide +kernel, rfl, by decide +kernel, by decide +kernel⟩
theorem tm__law_split {P : Program} {w : World} {K : PySem.W.Frag} {mg : Str → Option Value} {base : Heap} (B : Blt mg) {n : Nat}
    {f : Addr} {cdv : Value} {A : Around} {outer : List Env} {s : Shared} {H : Hp} {E : XK} (hr : Room n (A.deeper (PyProof.Rows.envOfC "_law_split" (defScope s__law_split) s.heap.objs.size f cdv))) :
    PSs (cxOf CX0 P w K mg base ["tree", "wanted", "at", "part"] "_law_split" (defScope s__law_split) f cdv A outer s H E).nox (defBody s__law_split) (t__law_split K) :=
  (pss_cons (ps_set (i := 1) sc__law_split.nd rfl (Or.inl rfl) pe_int)
    (pss_cons (ps_for PassesOwn.never rfl (pi_enumT rfl B.enumerate (pa_cons (pe_slice sl_tupA (pv 0) (po_some pe_int) po_none) pa_nil)) (pg_tup rfl (pgs_cons (pg_name (i := 2) sc__law_split.nd rfl (Or.inl rfl)) (pgs_cons (pg_name (i := 3) sc__law_split.nd rfl (Or.inl rfl)) pgs_nil))) (pss_cons (ps_set (i := 1) sc__law_split.nd rfl (Or.inl rfl) (pe_ifExp (pt_cmpR (op_eqD hr.units) (pv 3) (pe_un un_neg pe_int) (nomark _)) (pe_op op_add (pv 1) pe_int) (pe_op op_sub (pv 1) pe_int)))
    (pss_one (ps_if (pt_cmpR op_lt (pv 1) pe_int (nomark _)) (pss_one (ps_ret (pe_tup (pa_cons (pe_slice sl_tupA (pv 0) (po_some pe_int) (po_some (pe_op op_add (pv 2) pe_int))) (pa_cons (pe_slice sl_tupA (pv 0) (po_some (pe_op op_add (pv 2) pe_int)) po_none) pa_nil))))) pss_nil))))
    (pss_one (ps_ret pe_non))))
abbrev s__law_put : Stmt := topS 22
theorem sc__law_put : FnScope ["s", "t"] ["s", "t"] (defScope s__law_put) := ⟨rfl, rfl, rfl, by decide +kernel, rfl, by decide +kernel, by decide +kernel⟩
theorem tm__law_put {P : Program} {w : World} {K : PySem.W.Frag} {mg : Str → Option Value} {base : Heap} (B : Blt mg) {n : Nat}
    {f : Addr} {cdv : Value} {A : Around} {outer : List Env} {s : Shared} {H : Hp} {E : XK} (hr : Room n (A.deeper (PyProof.Rows.envOfC "_law_put" (defScope s__law_put) s.heap.objs.size f cdv))) :
    PSs (cxOf CX0 P w K mg base ["s", "t"] "_law_put" (defScope s__law_put) f cdv A outer s H E).nox (defBody s__law_put) (t__law_put K) :=
  (pss_one (ps_ret (pe_ifExp (pt_cmpR (op_eqD hr.units) (pv 0) (pe_tup pa_nil) (nomark _)) (pv 1) (pe_ifExp (pt_cmpR (op_eqD hr.units) (pv 1) (pe_tup pa_nil) (nomark _)) (pv 0) (pe_op op_catA (pe_op op_catA (pe_tup (pa_cons (pe_un un_neg pe_int) pa_nil)) (pv 0)) (pv 1))))))
abbrev s__law_left : Stmt := topS 23
theorem sc__law_left : FnScope ["tree", "most", "sides", "found", "one", "other", "p", "q", "both", "side"] ["tree", "most"] (defScope s__law_left) := ⟨rfl, rfl, rfl, by decide +kernel, rfl, by decide +kernel, by decide +kernel⟩
theorem tm__law_left {P : Program} {w : World} {K : PySem.W.Frag} {mg : Str → Option Value} {base : Heap} (B : Blt mg) {n : Nat} {C__law_split : Ct} {C__law_left : Ct} {C__law_put : Ct}
    {k__law_split : Nat} (F__law_split : Fn P w K mg base k__law_split "_law_split" ["tree"] (spM K Mpure C__law_split)) (l__law_split : k__law_split ≤ n)
    {k__law_left : Nat} (F__law_left : Fn P w K mg base k__law_left "_law_left" ["tree", "most"] (spM K Mpure C__law_left)) (l__law_left : k__law_left ≤ n)
    {k__law_put : Nat} (F__law_put : Fn P w K mg base k__law_put "_law_put" ["s", "t"] (spM K Mpure C__law_put)) (l__law_put : k__law_put ≤ n)
    {f : Addr} {cdv : Value} {A : Around} {outer : List Env} {s : Shared} {H : Hp} {E : XK} (hr : Room n (A.deeper (PyProof.Rows.envOfC "_law_left" (defScope s__law_left) s.heap.objs.size f cdv))) :
    PSs (cxOf CX0 P w K mg base ["tree", "most", "sides", "found", "one", "other", "p", "q", "both", "side"] "_law_left" (defScope s__law_left) f cdv A outer s H E).nox (defBody s__law_left) (t__law_left K C__law_split C__law_left C__law_put) :=
  (pss_cons (ps_if (pt_cmpR (op_eqD hr.units) (pe_callB call_len_seq (by rfl) B.len (by decide +kernel) (pa_cons (pv 0) pa_nil)) pe_int (nomark _)) (pss_one (ps_ret (pe_ifExp (pt_cmpR op_gt (pv 1) pe_int (nomark _)) (pe_dispT (hu_of hr) (pps_cons (pe_tup pa_nil) pe_int (pps_cons (pv 0) pe_int pps_nil)) (by rfl) (by rfl) (fun z => by cases z) (by decide)) (pe_dispT (hu_of hr) (pps_cons (pe_tup pa_nil) pe_int pps_nil) (by rfl) (by rfl) (fun z => by cases z) (by decide))))) pss_nil)
    (pss_cons (ps_par (i := 2) (j := 3) (by rfl) sc__law_left.nd rfl rfl (by decide) rfl rfl (pa_cons (pe_fn F__law_split (hr.mono (by omega)) rfl (pa_cons (pv 0) pa_nil)) (pa_cons pe_dnewT pa_nil)) (by rfl))
    (pss_cons (ps_asg (pe_lc (own := [("side", 9)]) (g := (gName 9)) (tt := tYes) rfl sc__law_left.nd (pi_tup (pv 2)) (blkOk_by (own := [("side", 9)]) (N := ["tree", "most", "sides", "found", "one", "other", "p", "q", "both", "side"]) (sc := defScope s__law_left) (by decide +kernel)) (fun _ _ _ _ _ => (pg_name (i := 9) sc__law_left.nd rfl (Or.inl rfl))) (fun _ _ _ _ _ => pts_nil) (fun _ _ _ _ _ => (pe_fn F__law_left (hr.mono (by omega)) rfl (pa_cons (pv 9) (pa_cons (pv 1) pa_nil))))) (pg_unl rfl (pgs_cons (pg_name (i := 4) sc__law_left.nd rfl (Or.inl rfl)) (pgs_cons (pg_name (i := 5) sc__law_left.nd rfl (Or.inl rfl)) pgs_nil))))
    (pss_cons (ps_lock (ps_for PassesOwn.never rfl (pi_keys (pv 4)) (pg_name (i := 6) sc__law_left.nd rfl (Or.inl rfl)) (pss_one (ps_lock (ps_for PassesOwn.never rfl (pi_keys (pv 5)) (pg_name (i := 7) sc__law_left.nd rfl (Or.inl rfl)) (pss_one (ps_if (pt_cmpR op_le (pe_op op_add (pe_op op_fdivW (pe_op op_add (pe_callB call_len_seq (by rfl) B.len (by decide +kernel) (pa_cons (pv 6) pa_nil)) pe_int) pe_int) (pe_op op_fdivW (pe_op op_add (pe_callB call_len_seq (by rfl) B.len (by decide +kernel) (pa_cons (pv 7) pa_nil)) pe_int) pe_int)) (pv 1) (nomark _)) (pss_cons (ps_set (i := 8) sc__law_left.nd rfl (Or.inl rfl) (pe_fn F__law_put (hr.mono (by omega)) rfl (pa_cons (pv 6) (pa_cons (pv 7) pa_nil))))
    (pss_one (ps_dput (hu_of hr) (pv 3) (pv 8) (pe_op op_add (pe_dget2 (hu_of hr) (pv 3) (pv 8) pe_int ⟨rfl, rfl, rfl, rfl⟩) (pe_op op_mulW (pe_dget (hu_of hr) (pv 4) (pv 6) (fun _ _ => rfl)) (pe_dget (hu_of hr) (pv 5) (pv 7) (fun _ _ => rfl)))) rfl))) pss_nil)))))))
    (pss_one (ps_ret (pv 3)))))))
abbrev s__law_turned : Stmt := topS 25
theorem sc__law_turned : FnScope ["tree", "turning", "left", "right", "side"] ["tree", "turning"] (defScope s__law_turned) := ⟨rfl, rfl, rfl, by decide +kernel, rfl, by decide +kernel, by decide +kernel⟩
theorem tm__law_turned {P : Program} {w : World} {K : PySem.W.Frag} {mg : Str → Option Value} {base : Heap} (B : Blt mg) {n : Nat} {C__law_split : Ct} {C__law_turned : Ct}
    {k__law_split : Nat} (F__law_split : Fn P w K mg base k__law_split "_law_split" ["tree"] (spM K Mpure C__law_split)) (l__law_split : k__law_split ≤ n)
    {k__law_turned : Nat} (F__law_turned : Fn P w K mg base k__law_turned "_law_turned" ["tree", "turning"] (spM K Mpure C__law_turned)) (l__law_turned : k__law_turned ≤ n)
    {f : Addr} {cdv : Value} {A : Around} {outer : List Env} {s : Shared} {H : Hp} {E : XK} (hr : Room n (A.deeper (PyProof.Rows.envOfC "_law_turned" (defScope s__law_turned) s.heap.objs.size f cdv))) :
    PSs (cxOf CX0 P w K mg base ["tree", "turning", "left", "right", "side"] "_law_turned" (defScope s__law_turned) f cdv A outer s H E).nox (defBody s__law_turned) (t__law_turned K C__law_split C__law_turned) :=
  (pss_cons (ps_if (pt_cmpR op_lt (pe_callB call_len_seq (by rfl) B.len (by decide +kernel) (pa_cons (pv 0) pa_nil)) pe_int (nomark _)) (pss_one (ps_ret (pe_ifExp (pt_cmpR (op_neD hr.units) (pv 0) (pe_tup pa_nil) (nomark _)) (pe_tup (pa_cons (pe_ifExp (pt_cmpR op_ge (pe_ix ix_tup (pv 0) pe_int (fun _ _ => rfl)) pe_int (nomark _)) (pe_ix ix_tup (pe_ix ix_tup (pv 1) pe_int (fun _ _ => rfl)) (pe_ix ix_tup (pv 0) pe_int (fun _ _ => rfl)) (fun _ _ => rfl)) (pe_ix ix_tup (pv 0) pe_int (fun _ _ => rfl))) pa_nil)) (pe_tup pa_nil)))) pss_nil)
    (pss_cons (ps_asg (pe_lc (own := [("side", 4)]) (g := (gName 4)) (tt := tYes) rfl sc__law_turned.nd (pi_tup (pe_fn F__law_split (hr.mono (by omega)) rfl (pa_cons (pv 0) pa_nil))) (blkOk_by (own := [("side", 4)]) (N := ["tree", "turning", "left", "right", "side"]) (sc := defScope s__law_turned) (by decide +kernel)) (fun _ _ _ _ _ => (pg_name (i := 4) sc__law_turned.nd rfl (Or.inl rfl))) (fun _ _ _ _ _ => pts_nil) (fun _ _ _ _ _ => (pe_fn F__law_turned (hr.mono (by omega)) rfl (pa_cons (pv 4) (pa_cons (pv 1) pa_nil))))) (pg_unl rfl (pgs_cons (pg_name (i := 2) sc__law_turned.nd rfl (Or.inl rfl)) (pgs_cons (pg_name (i := 3) sc__law_turned.nd rfl (Or.inl rfl)) pgs_nil))))
    (pss_one (ps_ret (pe_ifExp (pt_cmpR (op_eqD hr.units) (pe_ix ix_tup (pv 1) pe_int (fun _ _ => rfl)) pe_int (nomark _)) (pe_op op_catA (pe_op op_catA (pe_tup (pa_cons (pe_un un_neg pe_int) pa_nil)) (pv 3)) (pv 2)) (pe_op op_catA (pe_op op_catA (pe_tup (pa_cons (pe_un un_neg pe_int) pa_nil)) (pv 2)) (pv 3)))))))
abbrev s__law_back : Stmt := topS 26
theorem sc__law_back : FnScope ["turning", "letter"] ["turning"] (defScope s__law_back) := ⟨rfl, rfl, rfl, by decide +kernel, rfl, by decide +kernel, by decide +kernel⟩
theorem tm__law_back {P : Program} {w : World} {K : PySem.W.Frag} {mg : Str → Option Value} {base : Heap} (B : Blt mg) {n : Nat}
    {f : Addr} {cdv : Value} {A : Around} {outer : List Env} {s : Shared} {H : Hp} {E : XK} (hr : Room n (A.deeper (PyProof.Rows.envOfC "_law_back" (defScope s__law_back) s.heap.objs.size f cdv))) :
    PSs (cxOf CX0 P w K mg base ["turning", "letter"] "_law_back" (defScope s__law_back) f cdv A outer s H E).nox (defBody s__law_back) (t__law_back K) :=
  (pss_one (ps_ret (pe_tup (pa_cons (pe_ix ix_tup (pv 0) pe_int (fun _ _ => rfl)) (pa_cons (pe_tupleOf rfl B.tuple (pe_lc (own := [("letter", 1)]) (g := (gName 1)) (tt := tYes) rfl sc__law_back.nd (pi_range1 rfl B.range (pa_cons (pe_callB call_len_seq (by rfl) B.len (by decide +kernel) (pa_cons (pe_ix ix_tup (pv 0) pe_int (fun _ _ => rfl)) pa_nil)) pa_nil)) (blkOk_by (own := [("letter", 1)]) (N := ["turning", "letter"]) (sc := defScope s__law_back) (by decide +kernel)) (fun _ _ _ _ _ => (pg_name (i := 1) sc__law_back.nd rfl (Or.inl rfl))) (fun _ _ _ _ _ => pts_nil) (fun _ _ _ _ _ => (pe_tix (pe_ix ix_tup (pv 0) pe_int (fun _ _ => rfl)) (pv 1))))) pa_nil)))))
abbrev s__law_turnings : Stmt := topS 27
theorem sc__law_turnings : FnScope ["k", "rows", "row"] ["k"] (defScope s__law_turnings) := ⟨rfl, rfl, rfl, by decide +kernel, rfl, by decide +kernel, by decide +kernel⟩
theorem tm__law_turnings {P : Program} {w : World} {K : PySem.W.Frag} {mg : Str → Option Value} {base : Heap} (B : Blt mg) {n : Nat}
    {f : Addr} {cdv : Value} {A : Around} {outer : List Env} {s : Shared} {H : Hp} {E : XK} (hr : Room n (A.deeper (PyProof.Rows.envOfC "_law_turnings" (defScope s__law_turnings) s.heap.objs.size f cdv))) :
    PSs (cxOf CX0 P w K mg base ["k", "rows", "row"] "_law_turnings" (defScope s__law_turnings) f cdv A outer s H E).nox (defBody s__law_turnings) (t__law_turnings K) :=
  (pss_cons (ps_set (i := 1) sc__law_turnings.nd rfl (Or.inl rfl) (pe_ifExp (pt_cmpR (op_eqD hr.units) (pv 0) pe_int (nomark _)) (pe_lst (pa_cons (pe_tupB (pa_cons pe_int pa_nil)) pa_nil)) (pe_lst (pa_cons (pe_tupB (pa_cons pe_int (pa_cons pe_int pa_nil))) (pa_cons (pe_tupB (pa_cons pe_int (pa_cons pe_int pa_nil))) pa_nil)))))
    (pss_one (ps_ret (pe_op op_cat (pe_lc (own := [("row", 2)]) (g := (gName 2)) (tt := tYes) rfl sc__law_turnings.nd (pi_list (pv 1)) (blkOk_by (own := [("row", 2)]) (N := ["k", "rows", "row"]) (sc := defScope s__law_turnings) (by decide +kernel)) (fun _ _ _ _ _ => (pg_name (i := 2) sc__law_turnings.nd rfl (Or.inl rfl))) (fun _ _ _ _ _ => pts_nil) (fun _ _ _ _ _ => (pe_tup (pa_cons pe_int (pa_cons (pv 2) pa_nil))))) (pe_lc (own := [("row", 2)]) (g := (gName 2)) (tt := tYes) rfl sc__law_turnings.nd (pi_list (pv 1)) (blkOk_by (own := [("row", 2)]) (N := ["k", "rows", "row"]) (sc := defScope s__law_turnings) (by decide +kernel)) (fun _ _ _ _ _ => (pg_name (i := 2) sc__law_turnings.nd rfl (Or.inl rfl))) (fun _ _ _ _ _ => pts_nil) (fun _ _ _ _ _ => (pe_tup (pa_cons pe_int (pa_cons (pv 2) pa_nil)))))))))
abbrev s__law_laws_turned : Stmt := topS 28
theorem sc__law_laws_turned : FnScope ["laws", "turning", "s", "t"] ["laws", "turning"] (defScope s__law_laws_turned) := ⟨rfl, rfl, rfl, by decide +kernel, rfl, by decide +kernel, by decide +kernel⟩
theorem tm__law_laws_turned {P : Program} {w : World} {K : PySem.W.Frag} {mg : Str → Option Value} {base : Heap} (B : Blt mg) {n : Nat} {C__law_turned : Ct}
    {k__law_turned : Nat} (F__law_turned : Fn P w K mg base k__law_turned "_law_turned" ["tree", "turning"] (spM K Mpure C__law_turned)) (l__law_turned : k__law_turned ≤ n)
    {f : Addr} {cdv : Value} {A : Around} {outer : List Env} {s : Shared} {H : Hp} {E : XK} (hr : Room n (A.deeper (PyProof.Rows.envOfC "_law_laws_turned" (defScope s__law_laws_turned) s.heap.objs.size f cdv))) :
    PSs (cxOf CX0 P w K mg base ["laws", "turning", "s", "t"] "_law_laws_turned" (defScope s__law_laws_turned) f cdv A outer s H E).nox (defBody s__law_laws_turned) (t__law_laws_turned K C__law_turned) :=
  (pss_one (ps_ret (pe_tupleOf rfl B.tuple (pe_lc (own := [("s", 2), ("t", 3)]) (g := (gTup K 2 (gCons (gName 2) (gCons (gName 3) gNil)))) (tt := tYes) rfl sc__law_laws_turned.nd (pi_tup (pv 0)) (blkOk_by (own := [("s", 2), ("t", 3)]) (N := ["laws", "turning", "s", "t"]) (sc := defScope s__law_laws_turned) (by decide +kernel)) (fun _ _ _ _ _ => (pg_tup rfl (pgs_cons (pg_name (i := 2) sc__law_laws_turned.nd rfl (Or.inl rfl)) (pgs_cons (pg_name (i := 3) sc__law_laws_turned.nd rfl (Or.inl rfl)) pgs_nil)))) (fun _ _ _ _ _ => pts_nil) (fun _ _ _ _ _ => (pe_tup (pa_cons (pe_fn F__law_turned (hr.mono (by omega)) rfl (pa_cons (pv 2) (pa_cons (pv 1) pa_nil))) (pa_cons (pe_fn F__law_turned (hr.mono (by omega)) rfl (pa_cons (pv 3) (pa_cons (pv 1) pa_nil))) pa_nil))))))))
abbrev s_law : Stmt := topS 29
theorem sc_law : FnScope ["script", "source", "lap", "k", "some", "tree", "laws", "counts", "shown", "p", "turning", "late", "s", "t", "other", "both"] ["script"] (defScope s_law) := ⟨rfl, rfl, rfl, by decide +kernel, rfl, by decide +kernel, by decide +kernel⟩
theorem tm_law {P : Program} {w : World} {K : PySem.W.Frag} {mg : Str → Option Value} {base : Heap} (B : Blt mg) {n : Nat} {C__law_source : Sp} {C__law_pick : Ct} {C__law_turnings : Ct} {C_turnings : Ct} {C_turned_tree : Ct} {C__law_of : Ct} {C__law_laws : Ct} {C__law_tree : Ct} {C__law_left : Ct} {C__law_little : Ct} {C__law_turned : Ct} {C_turning_back : Ct} {C__law_back : Ct} {C_count_of : Ct} {C_turned_laws : Ct} {C__law_laws_turned : Ct} {C_turned_term : Ct} {C_turning_behind : Ct}
    {k__law_source : Nat} (F__law_source : Fn P w K mg base k__law_source "_law_source" ["script"] C__law_source) (l__law_source : k__law_source ≤ n)
    {k__law_pick : Nat} (F__law_pick : Fn P w K mg base k__law_pick "_law_pick" ["source", "many"] (spM K Msrc C__law_pick)) (l__law_pick : k__law_pick ≤ n)
    {k__law_turnings : Nat} (F__law_turnings : Fn P w K mg base k__law_turnings "_law_turnings" ["k"] (spM K Mpure C__law_turnings)) (l__law_turnings : k__law_turnings ≤ n)
    {k_turnings : Nat} (F_turnings : Fn P w K mg base k_turnings "turnings" ["k"] (spM K Mpure C_turnings)) (l_turnings : k_turnings ≤ n)
    {k_turned_tree : Nat} (F_turned_tree : Fn P w K mg base k_turned_tree "turned_tree" ["tree", "turning"] (spM K Mpure C_turned_tree)) (l_turned_tree : k_turned_tree ≤ n)
    {k__law_of : Nat} (F__law_of : Fn P w K mg base k__law_of "_law_of" ["source", "some"] (spM K Msrc C__law_of)) (l__law_of : k__law_of ≤ n)
    {k__law_laws : Nat} (F__law_laws : Fn P w K mg base k__law_laws "_law_laws" ["source", "k", "many", "most"] (spM K Msrc C__law_laws)) (l__law_laws : k__law_laws ≤ n)
    {k__law_tree : Nat} (F__law_tree : Fn P w K mg base k__law_tree "_law_tree" ["source", "k", "most"] (spM K Msrc C__law_tree)) (l__law_tree : k__law_tree ≤ n)
    {k__law_left : Nat} (F__law_left : Fn P w K mg base k__law_left "_law_left" ["tree", "most"] (spM K Mpure C__law_left)) (l__law_left : k__law_left ≤ n)
    {k__law_little : Nat} (F__law_little : Fn P w K mg base k__law_little "_law_little" ["source", "k", "most"] (spM K Msrc C__law_little)) (l__law_little : k__law_little ≤ n)
    {k__law_turned : Nat} (F__law_turned : Fn P w K mg base k__law_turned "_law_turned" ["tree", "turning"] (spM K Mpure C__law_turned)) (l__law_turned : k__law_turned ≤ n)
    {k_turning_back : Nat} (F_turning_back : Fn P w K mg base k_turning_back "turning_back" ["turning"] (spM K Mpure C_turning_back)) (l_turning_back : k_turning_back ≤ n)
    {k__law_back : Nat} (F__law_back : Fn P w K mg base k__law_back "_law_back" ["turning"] (spM K Mpure C__law_back)) (l__law_back : k__law_back ≤ n)
    {k_count_of : Nat} (F_count_of : Fn P w K mg base k_count_of "count_of" ["p", "tree"] (spM K Mpure C_count_of)) (l_count_of : k_count_of ≤ n)
    {k_turned_laws : Nat} (F_turned_laws : Fn P w K mg base k_turned_laws "turned_laws" ["laws", "turning"] (spM K Mpure C_turned_laws)) (l_turned_laws : k_turned_laws ≤ n)
    {k__law_laws_turned : Nat} (F__law_laws_turned : Fn P w K mg base k__law_laws_turned "_law_laws_turned" ["laws", "turning"] (spM K Mpure C__law_laws_turned)) (l__law_laws_turned : k__law_laws_turned ≤ n)
    {k_turned_term : Nat} (F_turned_term : Fn P w K mg base k_turned_term "turned_term" ["term", "turning"] (spM K Mpure C_turned_term)) (l_turned_term : k_turned_term ≤ n)
    {k_turning_behind : Nat} (F_turning_behind : Fn P w K mg base k_turning_behind "turning_behind" ["one", "other"] (spM K Mpure C_turning_behind)) (l_turning_behind : k_turning_behind ≤ n)
    {f : Addr} {cdv : Value} {A : Around} {outer : List Env} {s : Shared} {H : Hp} {E : XK} (hr : Room n (A.deeper (PyProof.Rows.envOfC "law" (defScope s_law) s.heap.objs.size f cdv))) (hg : A.guards = some []) :
    PSs (cxOf CX0 P w K mg base ["script", "source", "lap", "k", "some", "tree", "laws", "counts", "shown", "p", "turning", "late", "s", "t", "other", "both"] "law" (defScope s_law) f cdv A outer s H E).nox (defBody s_law) (t_law K C__law_source C__law_pick C__law_turnings C_turnings C_turned_tree C__law_of C__law_laws C__law_tree C__law_left C__law_little C__law_turned C_turning_back C__law_back C_count_of C_turned_laws C__law_laws_turned C_turned_term C_turning_behind) :=
  (pss_cons (ps_set (i := 1) sc_law.nd rfl (Or.inl rfl) (pe_fn F__law_source (hr.mono (by omega)) rfl (pa_cons (pv 0) pa_nil)))
    (pss_cons (ps_for PassesOwn.never rfl (pi_range1 rfl B.range (pa_cons pe_int pa_nil)) (pg_name (i := 2) sc_law.nd rfl (Or.inl rfl)) (pss_cons (ps_set (i := 3) sc_law.nd rfl (Or.inl rfl) (pe_op op_add pe_int (pe_fn F__law_pick (hr.mono (by omega)) rfl (pa_cons (pv 1) (pa_cons pe_int pa_nil)))))
    (pss_cons (ps_set (i := 4) sc_law.nd rfl (Or.inl rfl) (pe_fn F__law_turnings (hr.mono (by omega)) rfl (pa_cons (pv 3) pa_nil)))
    (pss_cons (ps_if (PW.pt (pw_or (pt_cmpR (op_neD hr.units) (pe_fn F_turnings (hr.mono (by omega)) rfl (pa_cons (pv 3) pa_nil)) (pe_tupleOf rfl B.tuple (pv 4)) (nomark _)) (pw_or1 (pt_cmpR (op_neD hr.units) (pe_fn F_turned_tree (hr.mono (by omega)) rfl (pa_cons (pe_tup pa_nil) (pa_cons (pe_fn F__law_of (hr.mono (by omega)) rfl (pa_cons (pv 1) (pa_cons (pv 4) pa_nil))) pa_nil))) (pe_tup pa_nil) (nomark _))))) (pss_one (ps_ret pe_bl)) pss_nil)
    (pss_cons (ps_par (i := 5) (j := 6) (by rfl) sc_law.nd rfl rfl (by decide) rfl rfl (pa_cons (pe_fn F__law_tree (hr.mono (by omega)) rfl (pa_cons (pv 1) (pa_cons (pv 3) (pa_cons pe_int pa_nil)))) (pa_cons (pe_fn F__law_laws (hr.mono (by omega)) rfl (pa_cons (pv 1) (pa_cons (pv 3) (pa_cons pe_int (pa_cons pe_int pa_nil))))) pa_nil)) (by rfl))
    (pss_cons (ps_par (i := 7) (j := 8) (by rfl) sc_law.nd rfl rfl (by decide) rfl rfl (pa_cons (pe_fn F__law_left (hr.mono (by omega)) rfl (pa_cons (pv 5) (pa_cons pe_int pa_nil))) (pa_cons (pe_callB (call_repr hg (huD hr)) (by rfl) B.repr (by decide +kernel) (pa_cons (pe_tup (pa_cons (pv 5) (pa_cons (pv 6) pa_nil))) pa_nil)) pa_nil)) (by rfl))
    (pss_cons (ps_set (i := 9) sc_law.nd rfl (Or.inl rfl) (pe_ifExp (pt_cmpR (op_eqD hr.units) (pe_fn F__law_pick (hr.mono (by omega)) rfl (pa_cons (pv 1) (pa_cons pe_int pa_nil))) pe_int (nomark _)) (pe_fn F__law_of (hr.mono (by omega)) rfl (pa_cons (pv 1) (pa_cons (pe_callB (call_sortedD hr) (by rfl) B.sorted (by decide +kernel) (pa_cons (pv 7) pa_nil)) pa_nil))) (pe_fn F__law_little (hr.mono (by omega)) rfl (pa_cons (pv 1) (pa_cons (pv 3) (pa_cons pe_int pa_nil))))))
    (pss_cons (ps_for PassesOwn.never rfl (pi_list (pv 4)) (pg_name (i := 10) sc_law.nd rfl (Or.inl rfl)) (pss_cons (ps_set (i := 11) sc_law.nd rfl (Or.inl rfl) (pe_fn F__law_turned (hr.mono (by omega)) rfl (pa_cons (pv 5) (pa_cons (pv 10) pa_nil))))
    (pss_cons (ps_if (PW.pt (pw_or (pt_cmpR op_ne (pe_callB (call_repr hg (huD hr)) (by rfl) B.repr (by decide +kernel) (pa_cons (pe_fn F_turned_tree (hr.mono (by omega)) rfl (pa_cons (pv 5) (pa_cons (pv 10) pa_nil))) pa_nil)) (pe_callB (call_repr hg (huD hr)) (by rfl) B.repr (by decide +kernel) (pa_cons (pv 11) pa_nil)) (nomark _)) (pw_or1 (pt_cmpR (op_neD hr.units) (pe_fn F_turning_back (hr.mono (by omega)) rfl (pa_cons (pv 10) pa_nil)) (pe_fn F__law_back (hr.mono (by omega)) rfl (pa_cons (pv 10) pa_nil)) (nomark _))))) (pss_one (ps_ret pe_bl)) pss_nil)
    (pss_cons (ps_if (pt_cmpR (op_neD hr.units) (pe_fn F_count_of (hr.mono (by omega)) rfl (pa_cons (pe_fn F_turned_tree (hr.mono (by omega)) rfl (pa_cons (pv 9) (pa_cons (pv 10) pa_nil))) (pa_cons (pv 11) pa_nil))) (pe_dget2 (hu_of hr) (pv 7) (pv 9) pe_int ⟨rfl, rfl, rfl, rfl⟩) (nomark _)) (pss_one (ps_ret pe_bl)) pss_nil)
    (pss_cons (ps_if (pt_cmpR op_ne (pe_callB (call_repr hg (huD hr)) (by rfl) B.repr (by decide +kernel) (pa_cons (pe_fn F_turned_laws (hr.mono (by omega)) rfl (pa_cons (pv 6) (pa_cons (pv 10) pa_nil))) pa_nil)) (pe_callB (call_repr hg (huD hr)) (by rfl) B.repr (by decide +kernel) (pa_cons (pe_fn F__law_laws_turned (hr.mono (by omega)) rfl (pa_cons (pv 6) (pa_cons (pv 10) pa_nil))) pa_nil)) (nomark _)) (pss_one (ps_ret pe_bl)) pss_nil)
    (pss_cons (ps_for PassesOwn.never rfl (pi_tup (pv 6)) (pg_tup rfl (pgs_cons (pg_name (i := 12) sc_law.nd rfl (Or.inl rfl)) (pgs_cons (pg_name (i := 13) sc_law.nd rfl (Or.inl rfl)) pgs_nil))) (pss_one (ps_if (pt_cmpR op_ne (pe_callB (call_repr hg (huD hr)) (by rfl) B.repr (by decide +kernel) (pa_cons (pe_lst (pa_cons (pe_fn F_turned_term (hr.mono (by omega)) rfl (pa_cons (pv 12) (pa_cons (pv 10) pa_nil))) (pa_cons (pe_fn F_turned_term (hr.mono (by omega)) rfl (pa_cons (pv 13) (pa_cons (pv 10) pa_nil))) pa_nil))) pa_nil)) (pe_callB (call_repr hg (huD hr)) (by rfl) B.repr (by decide +kernel) (pa_cons (pe_lst (pa_cons (pe_fn F__law_turned (hr.mono (by omega)) rfl (pa_cons (pv 12) (pa_cons (pv 10) pa_nil))) (pa_cons (pe_fn F__law_turned (hr.mono (by omega)) rfl (pa_cons (pv 13) (pa_cons (pv 10) pa_nil))) pa_nil))) pa_nil)) (nomark _)) (pss_one (ps_ret pe_bl)) pss_nil)))
    (pss_cons (ps_for PassesOwn.never rfl (pi_list (pv 4)) (pg_name (i := 14) sc_law.nd rfl (Or.inl rfl)) (pss_cons (ps_set (i := 15) sc_law.nd rfl (Or.inl rfl) (pe_fn F_turning_behind (hr.mono (by omega)) rfl (pa_cons (pv 10) (pa_cons (pv 14) pa_nil))))
    (pss_one (ps_if (PW.pt (pw_or (pt_cmpR (op_notInD (huD hr)) (pv 15) (pv 4) (by rfl)) (pw_or1 (pt_cmpR (op_neD hr.units) (pe_fn F_turned_tree (hr.mono (by omega)) rfl (pa_cons (pv 5) (pa_cons (pv 15) pa_nil))) (pe_fn F__law_turned (hr.mono (by omega)) rfl (pa_cons (pv 11) (pa_cons (pv 14) pa_nil))) (nomark _))))) (pss_one (ps_ret pe_bl)) pss_nil))))
    (pss_one (ps_if (PW.pt (pw_or (pt_cmpR (op_neD hr.units) (pe_fn F_turning_behind (hr.mono (by omega)) rfl (pa_cons (pv 10) (pa_cons (pe_fn F_turning_back (hr.mono (by omega)) rfl (pa_cons (pv 10) pa_nil)) pa_nil))) (pe_ix ix_list (pv 4) pe_int (fun _ _ => rfl)) (nomark _)) (pw_or1 (pt_cmpR (op_neD hr.units) (pe_fn F_turned_tree (hr.mono (by omega)) rfl (pa_cons (pv 11) (pa_cons (pe_fn F_turning_back (hr.mono (by omega)) rfl (pa_cons (pv 10) pa_nil)) pa_nil))) (pv 5) (nomark _))))) (pss_one (ps_ret pe_bl)) pss_nil)))))))))
    (pss_one (ps_if (pt_cmpR op_ne (pe_callB (call_repr hg (huD hr)) (by rfl) B.repr (by decide +kernel) (pa_cons (pe_tup (pa_cons (pv 5) (pa_cons (pv 6) pa_nil))) pa_nil)) (pv 8) (nomark _)) (pss_one (ps_ret pe_bl)) pss_nil))))))))))
    (pss_one (ps_ret pe_bl))))
end K53

set_option Elab.async false
set_option linter.all false
set_option maxRecDepth 100000
namespace K53
open PySem L2 Rt StX Rd
section
variable {P : Program} {w : World} {K : PySem.W.Frag} {mg : Str → Option Value} {base : Heap}
/-- the defs of the text stand as it says -/
structure Txt (K : PySem.W.Frag) (mg : Str → Option Value) : Prop where
  d_end_at : Df K mg "end_at" s_end_at ["tree", "place"]
  d_sides_of : Df K mg "sides_of" s_sides_of ["tree"]
  d_count_of : Df K mg "count_of" s_count_of ["p", "tree"]
  d_turnings : Df K mg "turnings" s_turnings ["k"]
  d_turned_from : Df K mg "turned_from" s_turned_from ["parts", "turning"]
  d_turned_term : Df K mg "turned_term" s_turned_term ["term", "turning"]
  d_turned_tree : Df K mg "turned_tree" s_turned_tree ["tree", "turning"]
  d_turned_laws : Df K mg "turned_laws" s_turned_laws ["laws", "turning"]
  d_turning_back : Df K mg "turning_back" s_turning_back ["turning"]
  d_turning_behind : Df K mg "turning_behind" s_turning_behind ["one", "other"]
  d__law_source : Df K mg "_law_source" s__law_source ["script"]
  d__law_pick : Df K mg "_law_pick" s__law_pick ["source", "many"]
  d__law_of : Df K mg "_law_of" s__law_of ["source", "some"]
  d__law_built : Df K mg "_law_built" s__law_built ["source", "some", "leaves"]
  d__law_tree : Df K mg "_law_tree" s__law_tree ["source", "k", "most"]
  d__law_little : Df K mg "_law_little" s__law_little ["source", "k", "most"]
  d__law_laws : Df K mg "_law_laws" s__law_laws ["source", "k", "many", "most"]
  d__law_split : Df K mg "_law_split" s__law_split ["tree"]
  d__law_put : Df K mg "_law_put" s__law_put ["s", "t"]
  d__law_left : Df K mg "_law_left" s__law_left ["tree", "most"]
  d__law_turned : Df K mg "_law_turned" s__law_turned ["tree", "turning"]
  d__law_back : Df K mg "_law_back" s__law_back ["turning"]
  d__law_turnings : Df K mg "_law_turnings" s__law_turnings ["k"]
  d__law_laws_turned : Df K mg "_law_laws_turned" s__law_laws_turned ["laws", "turning"]
theorem fn_end_at (T : Txt K mg) (B : Blt mg) : Fn P w K mg base 1 "end_at" ["tree", "place"] (spM K Mpure C_end_at) := T.d_end_at.fn fun f fd F =>
  okM F sc_end_at (by decide) (fun rs P h => by obtain ⟨_, _, _, _, rfl, _⟩ := h; rfl) fun cdv A outer s H E hr => ⟨_, tm_end_at B hr, fun m H0 rs P hM hC => ss_end_at hC⟩
theorem fn_sides_of (T : Txt K mg) (B : Blt mg) : Fn P w K mg base 2 "sides_of" ["tree"] (spM K Mpure C_sides_of) := T.d_sides_of.fn fun f fd F =>
  okM F sc_sides_of (by decide) (fun rs P h => by obtain ⟨_, _, rfl, _⟩ := h; rfl) fun cdv A outer s H E hr => ⟨_, tm_sides_of B (fn_end_at T B) (by decide) hr, fun m H0 rs P hM hC => ss_sides_of hC⟩
theorem fn_count_of (T : Txt K mg) (B : Blt mg) : ∀ n : Nat, Fn P w K mg base (n + 2) "count_of" ["p", "tree"] (spM K Mpure (C_count_of n))
  | 0 => T.d_count_of.never fun vs H Q E ⟨m, rs, P, _, _, _, _, ⟨_, _, _, _, _, h, _⟩, _⟩ => Nat.not_lt_zero _ h
  | n + 1 => T.d_count_of.fn fun f fd F => okM F sc_count_of (by decide) (fun rs P h => by obtain ⟨_, _, rfl, _⟩ := h; rfl) fun cdv A outer s H E hr =>
    ⟨_, tm_count_of B (fn_sides_of T B) (by omega) (fn_count_of T B n) (by omega) hr, fun m H0 rs P hM hC => ss_count_of hC⟩
theorem fn_turnings (T : Txt K mg) (B : Blt mg) : Fn P w K mg base 1 "turnings" ["k"] (spM K Mpure C_turnings) := T.d_turnings.fn fun f fd F =>
  okM F sc_turnings (by decide) (fun rs P h => by obtain ⟨_, rfl, _⟩ := h; rfl) fun cdv A outer s H E hr => ⟨_, tm_turnings B hr, fun m H0 rs P hM hC => ss_turnings hC⟩
theorem fn__law_turnings (T : Txt K mg) (B : Blt mg) : Fn P w K mg base 1 "_law_turnings" ["k"] (spM K Mpure C__law_turnings) := T.d__law_turnings.fn fun f fd F =>
  okM F sc__law_turnings (by decide) (fun rs P h => by obtain ⟨_, rfl, _⟩ := h; rfl) fun cdv A outer s H E hr => ⟨_, tm__law_turnings B hr, fun m H0 rs P hM hC => ss__law_turnings hC⟩
theorem fn_turned_from (T : Txt K mg) (B : Blt mg) : ∀ n : Nat, Fn P w K mg base n "turned_from" ["parts", "turning"] (S_turned_from K n)
  | 0 => T.d_turned_from.never fun vs H Q E ⟨_, _, t, _, _, _, _, _, _, _, _, h, _⟩ => by have := t.lv_pos; omega
  | n + 1 => T.d_turned_from.fn fun f fd F => F.ok sc_turned_from (fun vs H Q E h => by obtain ⟨_, _, _, _, _, _, _, rfl, _⟩ := h; rfl) fun cdv A outer s H vs Q E hr h =>
    ⟨_, tm_turned_from B (fn_turned_from T B n) (Nat.le_refl _) hr, raw_turned_from rfl h⟩
theorem fn_turned_term (T : Txt K mg) (B : Blt mg) : Fn P w K mg base 9 "turned_term" ["term", "turning"] (spM K Mpure C_turned_term) := T.d_turned_term.fn fun f fd F =>
  okM F sc_turned_term (by decide) (fun rs P h => by obtain ⟨_, _, _, _, rfl, _⟩ := h; rfl) fun cdv A outer s H E hr => ⟨_, tm_turned_term B (fn_turned_from T B 8) (by decide) hr, fun m H0 rs P hM hC => ss_turned_term hC⟩
theorem fn_turned_tree (T : Txt K mg) (B : Blt mg) : Fn P w K mg base 10 "turned_tree" ["tree", "turning"] (spM K Mpure C_turned_tree) := T.d_turned_tree.fn fun f fd F =>
  okM F sc_turned_tree (by decide) (fun rs P h => by obtain ⟨_, _, _, _, rfl, _⟩ := h; rfl) fun cdv A outer s H E hr => ⟨_, tm_turned_tree B (fn_turned_term T B) (by decide) hr, fun m H0 rs P hM hC => ss_turned_tree hC⟩
theorem fn_turned_laws (T : Txt K mg) (B : Blt mg) : Fn P w K mg base 10 "turned_laws" ["laws", "turning"] (spM K Mpure C_turned_laws) := T.d_turned_laws.fn fun f fd F =>
  okM F sc_turned_laws (by decide) (fun rs P h => by obtain ⟨_, _, _, _, rfl, _⟩ := h; rfl) fun cdv A outer s H E hr => ⟨_, tm_turned_laws B (fn_turned_term T B) (by decide) hr, fun m H0 rs P hM hC => ss_turned_laws hC⟩
theorem fn_turning_back (T : Txt K mg) (B : Blt mg) : Fn P w K mg base 1 "turning_back" ["turning"] (spM K Mpure C_turning_back) := T.d_turning_back.fn fun f fd F =>
  okM F sc_turning_back (by decide) (fun rs P h => by obtain ⟨_, _, rfl, _⟩ := h; rfl) fun cdv A outer s H E hr => ⟨_, tm_turning_back B hr, fun m H0 rs P hM hC => ss_turning_back hC⟩
theorem fn__law_back (T : Txt K mg) (B : Blt mg) : Fn P w K mg base 1 "_law_back" ["turning"] (spM K Mpure C__law_back) := T.d__law_back.fn fun f fd F =>
  okM F sc__law_back (by decide) (fun rs P h => by obtain ⟨_, _, rfl, _⟩ := h; rfl) fun cdv A outer s H E hr => ⟨_, tm__law_back B hr, fun m H0 rs P hM hC => ss__law_back hC⟩
theorem fn_turning_behind (T : Txt K mg) (B : Blt mg) : Fn P w K mg base 1 "turning_behind" ["one", "other"] (spM K Mpure C_turning_behind) := T.d_turning_behind.fn fun f fd F =>
  okM F sc_turning_behind (by decide) (fun rs P h => by obtain ⟨_, _, _, _, _, _, rfl, _⟩ := h; rfl) fun cdv A outer s H E hr => ⟨_, tm_turning_behind B hr, fun m H0 rs P hM hC => ss_turning_behind hC⟩
theorem fn__law_source (T : Txt K mg) (B : Blt mg) : Fn P w K mg base 1 "_law_source" ["script"] (S__law_source K) := T.d__law_source.fn fun f fd F =>
  F.ok sc__law_source (fun vs H Q E h => by obtain ⟨_, _, rfl, _⟩ := h; rfl) fun cdv A outer s H vs Q E hr h => ⟨_, tm__law_source B hr, raw_source rfl h⟩
theorem fn__law_pick (T : Txt K mg) (B : Blt mg) : Fn P w K mg base 1 "_law_pick" ["source", "many"] (spM K Msrc C__law_pick) := T.d__law_pick.fn fun f fd F =>
  F.ok sc__law_pick (fun vs H Q E ⟨m, rs, P, _, _, _, ha, hC, _⟩ => ha.length.trans (by obtain ⟨_, _, rfl, _⟩ := hC; rfl)) fun cdv A outer s H vs Q E hr ⟨m, rs, P, mo, ok, hM, ha, hC, q⟩ => by
    obtain ⟨s', many, rfl, h1, h2, hp⟩ := hC
    obtain ⟨s2, c, t, ht, rfl⟩ := hM
    cases ht
    cases ha with
    | cons a1 a2 =>
      cases a2 with
      | cons a2 a3 =>
        cases a3
        obtain rfl := (show _ = V.ref s' from a1)
        obtain rfl := Im.int_inv a2
        refine ⟨_, tm__law_pick B hr, raw_pick (s := s') (c := c) (many := many) h2 ok fun H' i st src i0 i1 => ?_⟩
        refine q (.int i) (.im (.int i)) H' st src (.int i) ?_
        have := hp i.toNat (by omega)
        rwa [Int.toNat_of_nonneg i0] at this
theorem fn__law_of (T : Txt K mg) (B : Blt mg) : Fn P w K mg base 2 "_law_of" ["source", "some"] (spM K Msrc C__law_of) := T.d__law_of.fn fun f fd F =>
  okM F sc__law_of (by decide) (fun rs P h => by obtain ⟨_, _, rfl, _⟩ := h; rfl) fun cdv A outer s H E hr => ⟨_, tm__law_of B (fn__law_pick T B) (by decide) hr, fun m H0 rs P ⟨s, c, t, ht, hm⟩ hC => by subst hm; exact ss__law_of hC ⟨t, ht⟩⟩
theorem fn__law_built (T : Txt K mg) (B : Blt mg) : ∀ n : Nat, Fn P w K mg base (n + 2) "_law_built" ["source", "some", "leaves"] (spM K Msrc (C__law_built n))
  | 0 => T.d__law_built.never fun vs H Q E ⟨m, rs, P, _, _, _, _, ⟨_, _, _, _, _, _, h1, h2, _⟩, _⟩ => by omega
  | n + 1 => T.d__law_built.fn fun f fd F => okM F sc__law_built (by decide) (fun rs P h => by obtain ⟨_, _, _, rfl, _⟩ := h; rfl) fun cdv A outer s H E hr =>
    ⟨_, tm__law_built B (fn__law_of T B) (by omega) (fn__law_pick T B) (by omega) (fn__law_built T B n) (by omega) hr, fun m H0 rs P ⟨s, c, t, ht, hm⟩ hC => by subst hm; exact ss__law_built hC ⟨t, ht⟩⟩
theorem fn__law_tree (T : Txt K mg) (B : Blt mg) : Fn P w K mg base 11 "_law_tree" ["source", "k", "most"] (spM K Msrc C__law_tree) := T.d__law_tree.fn fun f fd F =>
  okM F sc__law_tree (by decide) (fun rs P h => by obtain ⟨_, _, _, rfl, _⟩ := h; rfl) fun cdv A outer s H E hr => ⟨_, tm__law_tree B (fn__law_built T B 8) (by decide) (fn__law_pick T B) (by decide) hr, fun m H0 rs P ⟨s, c, t, ht, hm⟩ hC => by subst hm; exact ss__law_tree hC ⟨t, ht⟩⟩
theorem fn__law_little (T : Txt K mg) (B : Blt mg) : Fn P w K mg base 11 "_law_little" ["source", "k", "most"] (spM K Msrc C__law_little) := T.d__law_little.fn fun f fd F =>
  okM F sc__law_little (by decide) (fun rs P h => by obtain ⟨_, _, _, rfl, _⟩ := h; rfl) fun cdv A outer s H E hr => ⟨_, tm__law_little B (fn__law_pick T B) (by decide) (fn__law_built T B 8) (by decide) hr, fun m H0 rs P ⟨s, c, t, ht, hm⟩ hC => by subst hm; exact ss__law_little hC ⟨t, ht⟩⟩
theorem fn__law_laws (T : Txt K mg) (B : Blt mg) : Fn P w K mg base 11 "_law_laws" ["source", "k", "many", "most"] (spM K Msrc C__law_laws) := T.d__law_laws.fn fun f fd F =>
  okM F sc__law_laws (by decide) (fun rs P h => by obtain ⟨_, _, _, _, rfl, _⟩ := h; rfl) fun cdv A outer s H E hr => ⟨_, tm__law_laws B (fn__law_pick T B) (by decide) (fn__law_built T B 8) (by decide) hr, fun m H0 rs P ⟨s, c, t, ht, hm⟩ hC => by subst hm; exact ss__law_laws hC ⟨t, ht⟩⟩
theorem fn__law_split (T : Txt K mg) (B : Blt mg) : Fn P w K mg base 1 "_law_split" ["tree"] (spM K Mpure C__law_split) := T.d__law_split.fn fun f fd F =>
  okM F sc__law_split (by decide) (fun rs P h => by obtain ⟨_, _, rfl, _⟩ := h; rfl) fun cdv A outer s H E hr => ⟨_, tm__law_split B hr, fun m H0 rs P hM hC => ss__law_split hC⟩
theorem fn__law_put (T : Txt K mg) (B : Blt mg) : Fn P w K mg base 1 "_law_put" ["s", "t"] (spM K Mpure C__law_put) := T.d__law_put.fn fun f fd F =>
  okM F sc__law_put (by decide) (fun rs P h => by obtain ⟨_, _, rfl, _⟩ := h; rfl) fun cdv A outer s H E hr => ⟨_, tm__law_put B hr, fun m H0 rs P hM hC => ss__law_put hC⟩
theorem fn__law_left (T : Txt K mg) (B : Blt mg) : ∀ n : Nat, Fn P w K mg base (n + 1) "_law_left" ["tree", "most"] (spM K Mpure (C__law_left n))
  | 0 => T.d__law_left.never fun vs H Q E ⟨m, rs, P, _, _, _, _, ⟨_, _, t, _, _, _, _, h, _⟩, _⟩ => by have := t.lv_pos; omega
  | n + 1 => T.d__law_left.fn fun f fd F => okM F sc__law_left (by decide) (fun rs P h => by obtain ⟨_, _, _, rfl, _⟩ := h; rfl) fun cdv A outer s H E hr =>
    ⟨_, tm__law_left B (fn__law_split T B) (by omega) (fn__law_left T B n) (by omega) (fn__law_put T B) (by omega) hr, fun m H0 rs P hM hC => ss__law_left hC⟩
theorem fn__law_turned (T : Txt K mg) (B : Blt mg) : ∀ n : Nat, Fn P w K mg base (n + 1) "_law_turned" ["tree", "turning"] (spM K Mpure (C__law_turned n))
  | 0 => T.d__law_turned.never fun vs H Q E ⟨m, rs, P, _, _, _, _, ⟨_, _, _, _, _, _, h, _⟩, _⟩ => Nat.not_lt_zero _ h
  | n + 1 => T.d__law_turned.fn fun f fd F => okM F sc__law_turned (by decide) (fun rs P h => by obtain ⟨_, _, _, _, rfl, _⟩ := h; rfl) fun cdv A outer s H E hr =>
    ⟨_, tm__law_turned B (fn__law_split T B) (by omega) (fn__law_turned T B n) (by omega) hr, fun m H0 rs P hM hC => ss__law_turned hC⟩
theorem fn__law_laws_turned (T : Txt K mg) (B : Blt mg) : Fn P w K mg base 11 "_law_laws_turned" ["laws", "turning"] (spM K Mpure C__law_laws_turned) := T.d__law_laws_turned.fn fun f fd F =>
  okM F sc__law_laws_turned (by decide) (fun rs P h => by obtain ⟨_, _, _, _, rfl, _⟩ := h; rfl) fun cdv A outer s H E hr => ⟨_, tm__law_laws_turned B (fn__law_turned T B 9) (by decide) hr, fun m H0 rs P hM hC => ss__law_laws_turned hC⟩
theorem run_law {f : Addr} {fd : FuncData} (T : Txt K mg) (B : Blt mg) (F : Fun K "law" "law" s_law f fd) : Runs P w K mg base callerA f fd ["script"] (S_law K) :=
  runs_of (k := 64) F sc_law ⟨rfl, by decide, by decide⟩ (fun vs H Q E h => by obtain ⟨_, _, rfl, _⟩ := h; rfl) fun cdv outer s H vs Q E hr h =>
    ⟨_, tm_law B (fn__law_source T B) (by decide) (fn__law_pick T B) (by decide) (fn__law_turnings T B) (by decide) (fn_turnings T B) (by decide) (fn_turned_tree T B) (by decide) (fn__law_of T B) (by decide) (fn__law_laws T B) (by decide) (fn__law_tree T B) (by decide)
      (fn__law_left T B 8) (by decide) (fn__law_little T B) (by decide) (fn__law_turned T B 9) (by decide) (fn_turning_back T B) (by decide) (fn__law_back T B) (by decide) (fn_count_of T B 9) (by decide) (fn_turned_laws T B) (by decide) (fn__law_laws_turned T B) (by decide) (fn_turned_term T B) (by decide) (fn_turning_behind T B) (by decide) hr rfl, raw_law rfl h⟩

end
theorem all_mk {l : PySem.W.OpenLaw} {w : World} {K : PySem.W.Frag} {h : Heap} {mg : Str → Option Value} {fa f0 f1 f2 f3 f4 f5 f6 f7 f8 f9 f10 f11 f12 f13 f14 f15 f16 f17 f18 f19 f20 f21 f22 f23 f24 : Addr} (X : K.In h) (G : h.Ns mainGlobals mg) (hfa : mg "law" = some (.ref fa))
    {od0 an0 od1 an1 od2 an2 od3 an3 od4 an4 od5 an5 od6 an6 od7 an7 od8 an8 od9 an9 od10 an10 od11 an11 od12 an12 od13 an13 od14 an14 od15 an15 od16 an16 od17 an17 od18 an18 od19 an19 od20 an20 od21 an21 od22 an22 od23 an23 od24 an24 : Option Addr} {sl0 sl1 sl2 sl3 sl4 sl5 sl6 sl7 sl8 sl9 sl10 sl11 sl12 sl13 sl14 sl15 sl16 sl17 sl18 sl19 sl20 sl21 sl22 sl23 sl24 : Array (Option Value)} {oc0 kV0 dc0 pm0 cd0 ct0 oc1 kV1 dc1 pm1 cd1 ct1 oc2 kV2 dc2 pm2 cd2 ct2 oc3 kV3 dc3 pm3 cd3 ct3 oc4 kV4 dc4 pm4 cd4 ct4 oc5 kV5 dc5 pm5 cd5 ct5 oc6 kV6 dc6 pm6 cd6 ct6 oc7 kV7 dc7 pm7 cd7 ct7 oc8 kV8 dc8 pm8 cd8 ct8 oc9 kV9 dc9 pm9 cd9 ct9 oc10 kV10 dc10 pm10 cd10 ct10 oc11 kV11 dc11 pm11 cd11 ct11 oc12 kV12 dc12 pm12 cd12 ct12 oc13 kV13 dc13 pm13 cd13 ct13 oc14 kV14 dc14 pm14 cd14 ct14 oc15 kV15 dc15 pm15 cd15 ct15 oc16 kV16 dc16 pm16 cd16 ct16 oc17 kV17 dc17 pm17 cd17 ct17 oc18 kV18 dc18 pm18 cd18 ct18 oc19 kV19 dc19 pm19 cd19 ct19 oc20 kV20 dc20 pm20 cd20 ct20 oc21 kV21 dc21 pm21 cd21 ct21 oc22 kV22 dc22 pm22 cd22 ct22 oc23 kV23 dc23 pm23 cd23 ct23 oc24 kV24 dc24 pm24 cd24 ct24 : Value}
    (a0 : PySem.W.nsIn K mainGlobals "end_at" = some (some (.ref f0))) (l0 : K.lookup f0 = some ⟨oc0, od0, .func (PySem.W.fnOf "end_at" "end_at" (defArgs s_end_at) (defBody s_end_at) (defScope s_end_at) .none kV0 dc0 pm0 an0 cd0 ct0), sl0⟩) (c0 : PySem.W.codeIn K cd0 "end_at" = true) (k0 : PySem.W.keepIn K (.ref f0) = true)
    (a1 : PySem.W.nsIn K mainGlobals "sides_of" = some (some (.ref f1))) (l1 : K.lookup f1 = some ⟨oc1, od1, .func (PySem.W.fnOf "sides_of" "sides_of" (defArgs s_sides_of) (defBody s_sides_of) (defScope s_sides_of) .none kV1 dc1 pm1 an1 cd1 ct1), sl1⟩) (c1 : PySem.W.codeIn K cd1 "sides_of" = true) (k1 : PySem.W.keepIn K (.ref f1) = true)
    (a2 : PySem.W.nsIn K mainGlobals "count_of" = some (some (.ref f2))) (l2 : K.lookup f2 = some ⟨oc2, od2, .func (PySem.W.fnOf "count_of" "count_of" (defArgs s_count_of) (defBody s_count_of) (defScope s_count_of) .none kV2 dc2 pm2 an2 cd2 ct2), sl2⟩) (c2 : PySem.W.codeIn K cd2 "count_of" = true) (k2 : PySem.W.keepIn K (.ref f2) = true)
    (a3 : PySem.W.nsIn K mainGlobals "turnings" = some (some (.ref f3))) (l3 : K.lookup f3 = some ⟨oc3, od3, .func (PySem.W.fnOf "turnings" "turnings" (defArgs s_turnings) (defBody s_turnings) (defScope s_turnings) .none kV3 dc3 pm3 an3 cd3 ct3), sl3⟩) (c3 : PySem.W.codeIn K cd3 "turnings" = true) (k3 : PySem.W.keepIn K (.ref f3) = true)
    (a4 : PySem.W.nsIn K mainGlobals "turned_from" = some (some (.ref f4))) (l4 : K.lookup f4 = some ⟨oc4, od4, .func (PySem.W.fnOf "turned_from" "turned_from" (defArgs s_turned_from) (defBody s_turned_from) (defScope s_turned_from) .none kV4 dc4 pm4 an4 cd4 ct4), sl4⟩) (c4 : PySem.W.codeIn K cd4 "turned_from" = true) (k4 : PySem.W.keepIn K (.ref f4) = true)
    (a5 : PySem.W.nsIn K mainGlobals "turned_term" = some (some (.ref f5))) (l5 : K.lookup f5 = some ⟨oc5, od5, .func (PySem.W.fnOf "turned_term" "turned_term" (defArgs s_turned_term) (defBody s_turned_term) (defScope s_turned_term) .none kV5 dc5 pm5 an5 cd5 ct5), sl5⟩) (c5 : PySem.W.codeIn K cd5 "turned_term" = true) (k5 : PySem.W.keepIn K (.ref f5) = true)
    (a6 : PySem.W.nsIn K mainGlobals "turned_tree" = some (some (.ref f6))) (l6 : K.lookup f6 = some ⟨oc6, od6, .func (PySem.W.fnOf "turned_tree" "turned_tree" (defArgs s_turned_tree) (defBody s_turned_tree) (defScope s_turned_tree) .none kV6 dc6 pm6 an6 cd6 ct6), sl6⟩) (c6 : PySem.W.codeIn K cd6 "turned_tree" = true) (k6 : PySem.W.keepIn K (.ref f6) = true)
    (a7 : PySem.W.nsIn K mainGlobals "turned_laws" = some (some (.ref f7))) (l7 : K.lookup f7 = some ⟨oc7, od7, .func (PySem.W.fnOf "turned_laws" "turned_laws" (defArgs s_turned_laws) (defBody s_turned_laws) (defScope s_turned_laws) .none kV7 dc7 pm7 an7 cd7 ct7), sl7⟩) (c7 : PySem.W.codeIn K cd7 "turned_laws" = true) (k7 : PySem.W.keepIn K (.ref f7) = true)
    (a8 : PySem.W.nsIn K mainGlobals "turning_back" = some (some (.ref f8))) (l8 : K.lookup f8 = some ⟨oc8, od8, .func (PySem.W.fnOf "turning_back" "turning_back" (defArgs s_turning_back) (defBody s_turning_back) (defScope s_turning_back) .none kV8 dc8 pm8 an8 cd8 ct8), sl8⟩) (c8 : PySem.W.codeIn K cd8 "turning_back" = true) (k8 : PySem.W.keepIn K (.ref f8) = true)
    (a9 : PySem.W.nsIn K mainGlobals "turning_behind" = some (some (.ref f9))) (l9 : K.lookup f9 = some ⟨oc9, od9, .func (PySem.W.fnOf "turning_behind" "turning_behind" (defArgs s_turning_behind) (defBody s_turning_behind) (defScope s_turning_behind) .none kV9 dc9 pm9 an9 cd9 ct9), sl9⟩) (c9 : PySem.W.codeIn K cd9 "turning_behind" = true) (k9 : PySem.W.keepIn K (.ref f9) = true)
    (a10 : PySem.W.nsIn K mainGlobals "_law_source" = some (some (.ref f10))) (l10 : K.lookup f10 = some ⟨oc10, od10, .func (PySem.W.fnOf "_law_source" "_law_source" (defArgs s__law_source) (defBody s__law_source) (defScope s__law_source) .none kV10 dc10 pm10 an10 cd10 ct10), sl10⟩) (c10 : PySem.W.codeIn K cd10 "_law_source" = true) (k10 : PySem.W.keepIn K (.ref f10) = true)
    (a11 : PySem.W.nsIn K mainGlobals "_law_pick" = some (some (.ref f11))) (l11 : K.lookup f11 = some ⟨oc11, od11, .func (PySem.W.fnOf "_law_pick" "_law_pick" (defArgs s__law_pick) (defBody s__law_pick) (defScope s__law_pick) .none kV11 dc11 pm11 an11 cd11 ct11), sl11⟩) (c11 : PySem.W.codeIn K cd11 "_law_pick" = true) (k11 : PySem.W.keepIn K (.ref f11) = true)
    (a12 : PySem.W.nsIn K mainGlobals "_law_of" = some (some (.ref f12))) (l12 : K.lookup f12 = some ⟨oc12, od12, .func (PySem.W.fnOf "_law_of" "_law_of" (defArgs s__law_of) (defBody s__law_of) (defScope s__law_of) .none kV12 dc12 pm12 an12 cd12 ct12), sl12⟩) (c12 : PySem.W.codeIn K cd12 "_law_of" = true) (k12 : PySem.W.keepIn K (.ref f12) = true)
    (a13 : PySem.W.nsIn K mainGlobals "_law_built" = some (some (.ref f13))) (l13 : K.lookup f13 = some ⟨oc13, od13, .func (PySem.W.fnOf "_law_built" "_law_built" (defArgs s__law_built) (defBody s__law_built) (defScope s__law_built) .none kV13 dc13 pm13 an13 cd13 ct13), sl13⟩) (c13 : PySem.W.codeIn K cd13 "_law_built" = true) (k13 : PySem.W.keepIn K (.ref f13) = true)
    (a14 : PySem.W.nsIn K mainGlobals "_law_tree" = some (some (.ref f14))) (l14 : K.lookup f14 = some ⟨oc14, od14, .func (PySem.W.fnOf "_law_tree" "_law_tree" (defArgs s__law_tree) (defBody s__law_tree) (defScope s__law_tree) .none kV14 dc14 pm14 an14 cd14 ct14), sl14⟩) (c14 : PySem.W.codeIn K cd14 "_law_tree" = true) (k14 : PySem.W.keepIn K (.ref f14) = true)
    (a15 : PySem.W.nsIn K mainGlobals "_law_little" = some (some (.ref f15))) (l15 : K.lookup f15 = some ⟨oc15, od15, .func (PySem.W.fnOf "_law_little" "_law_little" (defArgs s__law_little) (defBody s__law_little) (defScope s__law_little) .none kV15 dc15 pm15 an15 cd15 ct15), sl15⟩) (c15 : PySem.W.codeIn K cd15 "_law_little" = true) (k15 : PySem.W.keepIn K (.ref f15) = true)
    (a16 : PySem.W.nsIn K mainGlobals "_law_laws" = some (some (.ref f16))) (l16 : K.lookup f16 = some ⟨oc16, od16, .func (PySem.W.fnOf "_law_laws" "_law_laws" (defArgs s__law_laws) (defBody s__law_laws) (defScope s__law_laws) .none kV16 dc16 pm16 an16 cd16 ct16), sl16⟩) (c16 : PySem.W.codeIn K cd16 "_law_laws" = true) (k16 : PySem.W.keepIn K (.ref f16) = true)
    (a17 : PySem.W.nsIn K mainGlobals "_law_split" = some (some (.ref f17))) (l17 : K.lookup f17 = some ⟨oc17, od17, .func (PySem.W.fnOf "_law_split" "_law_split" (defArgs s__law_split) (defBody s__law_split) (defScope s__law_split) .none kV17 dc17 pm17 an17 cd17 ct17), sl17⟩) (c17 : PySem.W.codeIn K cd17 "_law_split" = true) (k17 : PySem.W.keepIn K (.ref f17) = true)
    (a18 : PySem.W.nsIn K mainGlobals "_law_put" = some (some (.ref f18))) (l18 : K.lookup f18 = some ⟨oc18, od18, .func (PySem.W.fnOf "_law_put" "_law_put" (defArgs s__law_put) (defBody s__law_put) (defScope s__law_put) .none kV18 dc18 pm18 an18 cd18 ct18), sl18⟩) (c18 : PySem.W.codeIn K cd18 "_law_put" = true) (k18 : PySem.W.keepIn K (.ref f18) = true)
    (a19 : PySem.W.nsIn K mainGlobals "_law_left" = some (some (.ref f19))) (l19 : K.lookup f19 = some ⟨oc19, od19, .func (PySem.W.fnOf "_law_left" "_law_left" (defArgs s__law_left) (defBody s__law_left) (defScope s__law_left) .none kV19 dc19 pm19 an19 cd19 ct19), sl19⟩) (c19 : PySem.W.codeIn K cd19 "_law_left" = true) (k19 : PySem.W.keepIn K (.ref f19) = true)
    (a20 : PySem.W.nsIn K mainGlobals "_law_turned" = some (some (.ref f20))) (l20 : K.lookup f20 = some ⟨oc20, od20, .func (PySem.W.fnOf "_law_turned" "_law_turned" (defArgs s__law_turned) (defBody s__law_turned) (defScope s__law_turned) .none kV20 dc20 pm20 an20 cd20 ct20), sl20⟩) (c20 : PySem.W.codeIn K cd20 "_law_turned" = true) (k20 : PySem.W.keepIn K (.ref f20) = true)
    (a21 : PySem.W.nsIn K mainGlobals "_law_back" = some (some (.ref f21))) (l21 : K.lookup f21 = some ⟨oc21, od21, .func (PySem.W.fnOf "_law_back" "_law_back" (defArgs s__law_back) (defBody s__law_back) (defScope s__law_back) .none kV21 dc21 pm21 an21 cd21 ct21), sl21⟩) (c21 : PySem.W.codeIn K cd21 "_law_back" = true) (k21 : PySem.W.keepIn K (.ref f21) = true)
    (a22 : PySem.W.nsIn K mainGlobals "_law_turnings" = some (some (.ref f22))) (l22 : K.lookup f22 = some ⟨oc22, od22, .func (PySem.W.fnOf "_law_turnings" "_law_turnings" (defArgs s__law_turnings) (defBody s__law_turnings) (defScope s__law_turnings) .none kV22 dc22 pm22 an22 cd22 ct22), sl22⟩) (c22 : PySem.W.codeIn K cd22 "_law_turnings" = true) (k22 : PySem.W.keepIn K (.ref f22) = true)
    (a23 : PySem.W.nsIn K mainGlobals "_law_laws_turned" = some (some (.ref f23))) (l23 : K.lookup f23 = some ⟨oc23, od23, .func (PySem.W.fnOf "_law_laws_turned" "_law_laws_turned" (defArgs s__law_laws_turned) (defBody s__law_laws_turned) (defScope s__law_laws_turned) .none kV23 dc23 pm23 an23 cd23 ct23), sl23⟩) (c23 : PySem.W.codeIn K cd23 "_law_laws_turned" = true) (k23 : PySem.W.keepIn K (.ref f23) = true)
    (a24 : PySem.W.nsIn K mainGlobals "law" = some (some (.ref f24))) (l24 : K.lookup f24 = some ⟨oc24, od24, .func (PySem.W.fnOf "law" "law" (defArgs s_law) (defBody s_law) (defScope s_law) .none kV24 dc24 pm24 an24 cd24 ct24), sl24⟩) (c24 : PySem.W.codeIn K cd24 "law" = true) (k24 : PySem.W.keepIn K (.ref f24) = true)
    (z0 : PySem.W.nsIn K mainGlobals "len" = some none)
    (z1 : PySem.W.nsIn K mainGlobals "int" = some none)
    (z2 : PySem.W.nsIn K mainGlobals "abs" = some none)
    (z3 : PySem.W.nsIn K mainGlobals "tuple" = some none)
    (z4 : PySem.W.nsIn K mainGlobals "list" = some none)
    (z5 : PySem.W.nsIn K mainGlobals "range" = some none)
    (z6 : PySem.W.nsIn K mainGlobals "sorted" = some none)
    (z7 : PySem.W.nsIn K mainGlobals "repr" = some none)
    (z8 : PySem.W.nsIn K mainGlobals "enumerate" = some none)
    (z9 : PySem.W.nsIn K mainGlobals "zip" = some none)
    (z10 : PySem.W.nsIn K mainGlobals "max" = some none)
    (z11 : PySem.W.nsIn K mainGlobals "min" = some none)
    (z12 : PySem.W.nsIn K mainGlobals "sum" = some none)
    (z13 : PySem.W.nsIn K mainGlobals "any" = some none)
    (z14 : PySem.W.nsIn K mainGlobals "all" = some none)
    (z15 : PySem.W.nsIn K mainGlobals "isinstance" = some none)
    (z16 : PySem.W.nsIn K mainGlobals "dict" = some none)
    : ∃ fd : FuncData, (∀ (s : Shared) (v : Value), BindsTo s fd ⟨[v], []⟩ [("script", v)]) ∧ ∀ base : Heap, K.In base → base.Ns mainGlobals mg → Runs l.prog w K mg base callerA fa fd ["script"] (S_law K) := by
  have e := hfa.symm.trans (PySem.W.mg_of X G a24)
  cases e
  have F0 := fun_mk (st := s_end_at) l0 c0 k0
  have b0 := F0.binds (ps := ["tree", "place"]) fun _ _ _ _ _ _ us hl => match us, hl with | [_, _], _ => rfl
  have F1 := fun_mk (st := s_sides_of) l1 c1 k1
  have b1 := F1.binds (ps := ["tree"]) fun _ _ _ _ _ _ us hl => match us, hl with | [_], _ => rfl
  have F2 := fun_mk (st := s_count_of) l2 c2 k2
  have b2 := F2.binds (ps := ["p", "tree"]) fun _ _ _ _ _ _ us hl => match us, hl with | [_, _], _ => rfl
  have F3 := fun_mk (st := s_turnings) l3 c3 k3
  have b3 := F3.binds (ps := ["k"]) fun _ _ _ _ _ _ us hl => match us, hl with | [_], _ => rfl
  have F4 := fun_mk (st := s_turned_from) l4 c4 k4
  have b4 := F4.binds (ps := ["parts", "turning"]) fun _ _ _ _ _ _ us hl => match us, hl with | [_, _], _ => rfl
  have F5 := fun_mk (st := s_turned_term) l5 c5 k5
  have b5 := F5.binds (ps := ["term", "turning"]) fun _ _ _ _ _ _ us hl => match us, hl with | [_, _], _ => rfl
  have F6 := fun_mk (st := s_turned_tree) l6 c6 k6
  have b6 := F6.binds (ps := ["tree", "turning"]) fun _ _ _ _ _ _ us hl => match us, hl with | [_, _], _ => rfl
  have F7 := fun_mk (st := s_turned_laws) l7 c7 k7
  have b7 := F7.binds (ps := ["laws", "turning"]) fun _ _ _ _ _ _ us hl => match us, hl with | [_, _], _ => rfl
  have F8 := fun_mk (st := s_turning_back) l8 c8 k8
  have b8 := F8.binds (ps := ["turning"]) fun _ _ _ _ _ _ us hl => match us, hl with | [_], _ => rfl
  have F9 := fun_mk (st := s_turning_behind) l9 c9 k9
  have b9 := F9.binds (ps := ["one", "other"]) fun _ _ _ _ _ _ us hl => match us, hl with | [_, _], _ => rfl
  have F10 := fun_mk (st := s__law_source) l10 c10 k10
  have b10 := F10.binds (ps := ["script"]) fun _ _ _ _ _ _ us hl => match us, hl with | [_], _ => rfl
  have F11 := fun_mk (st := s__law_pick) l11 c11 k11
  have b11 := F11.binds (ps := ["source", "many"]) fun _ _ _ _ _ _ us hl => match us, hl with | [_, _], _ => rfl
  have F12 := fun_mk (st := s__law_of) l12 c12 k12
  have b12 := F12.binds (ps := ["source", "some"]) fun _ _ _ _ _ _ us hl => match us, hl with | [_, _], _ => rfl
  have F13 := fun_mk (st := s__law_built) l13 c13 k13
  have b13 := F13.binds (ps := ["source", "some", "leaves"]) fun _ _ _ _ _ _ us hl => match us, hl with | [_, _, _], _ => rfl
  have F14 := fun_mk (st := s__law_tree) l14 c14 k14
  have b14 := F14.binds (ps := ["source", "k", "most"]) fun _ _ _ _ _ _ us hl => match us, hl with | [_, _, _], _ => rfl
  have F15 := fun_mk (st := s__law_little) l15 c15 k15
  have b15 := F15.binds (ps := ["source", "k", "most"]) fun _ _ _ _ _ _ us hl => match us, hl with | [_, _, _], _ => rfl
  have F16 := fun_mk (st := s__law_laws) l16 c16 k16
  have b16 := F16.binds (ps := ["source", "k", "many", "most"]) fun _ _ _ _ _ _ us hl => match us, hl with | [_, _, _, _], _ => rfl
  have F17 := fun_mk (st := s__law_split) l17 c17 k17
  have b17 := F17.binds (ps := ["tree"]) fun _ _ _ _ _ _ us hl => match us, hl with | [_], _ => rfl
  have F18 := fun_mk (st := s__law_put) l18 c18 k18
  have b18 := F18.binds (ps := ["s", "t"]) fun _ _ _ _ _ _ us hl => match us, hl with | [_, _], _ => rfl
  have F19 := fun_mk (st := s__law_left) l19 c19 k19
  have b19 := F19.binds (ps := ["tree", "most"]) fun _ _ _ _ _ _ us hl => match us, hl with | [_, _], _ => rfl
  have F20 := fun_mk (st := s__law_turned) l20 c20 k20
  have b20 := F20.binds (ps := ["tree", "turning"]) fun _ _ _ _ _ _ us hl => match us, hl with | [_, _], _ => rfl
  have F21 := fun_mk (st := s__law_back) l21 c21 k21
  have b21 := F21.binds (ps := ["turning"]) fun _ _ _ _ _ _ us hl => match us, hl with | [_], _ => rfl
  have F22 := fun_mk (st := s__law_turnings) l22 c22 k22
  have b22 := F22.binds (ps := ["k"]) fun _ _ _ _ _ _ us hl => match us, hl with | [_], _ => rfl
  have F23 := fun_mk (st := s__law_laws_turned) l23 c23 k23
  have b23 := F23.binds (ps := ["laws", "turning"]) fun _ _ _ _ _ _ us hl => match us, hl with | [_, _], _ => rfl
  have F24 := fun_mk (st := s_law) l24 c24 k24
  have T : Txt K mg := ⟨⟨f0, _, F0, PySem.W.mg_of X G a0, b0⟩, ⟨f1, _, F1, PySem.W.mg_of X G a1, b1⟩, ⟨f2, _, F2, PySem.W.mg_of X G a2, b2⟩, ⟨f3, _, F3, PySem.W.mg_of X G a3, b3⟩, ⟨f4, _, F4, PySem.W.mg_of X G a4, b4⟩, ⟨f5, _, F5, PySem.W.mg_of X G a5, b5⟩, ⟨f6, _, F6, PySem.W.mg_of X G a6, b6⟩, ⟨f7, _, F7, PySem.W.mg_of X G a7, b7⟩, ⟨f8, _, F8, PySem.W.mg_of X G a8, b8⟩, ⟨f9, _, F9, PySem.W.mg_of X G a9, b9⟩, ⟨f10, _, F10, PySem.W.mg_of X G a10, b10⟩, ⟨f11, _, F11, PySem.W.mg_of X G a11, b11⟩, ⟨f12, _, F12, PySem.W.mg_of X G a12, b12⟩, ⟨f13, _, F13, PySem.W.mg_of X G a13, b13⟩, ⟨f14, _, F14, PySem.W.mg_of X G a14, b14⟩, ⟨f15, _, F15, PySem.W.mg_of X G a15, b15⟩, ⟨f16, _, F16, PySem.W.mg_of X G a16, b16⟩, ⟨f17, _, F17, PySem.W.mg_of X G a17, b17⟩, ⟨f18, _, F18, PySem.W.mg_of X G a18, b18⟩, ⟨f19, _, F19, PySem.W.mg_of X G a19, b19⟩, ⟨f20, _, F20, PySem.W.mg_of X G a20, b20⟩, ⟨f21, _, F21, PySem.W.mg_of X G a21, b21⟩, ⟨f22, _, F22, PySem.W.mg_of X G a22, b22⟩, ⟨f23, _, F23, PySem.W.mg_of X G a23, b23⟩⟩
  have B : Blt mg := ⟨PySem.W.mg_none_of X G z0, PySem.W.mg_none_of X G z1, PySem.W.mg_none_of X G z2, PySem.W.mg_none_of X G z3, PySem.W.mg_none_of X G z4, PySem.W.mg_none_of X G z5, PySem.W.mg_none_of X G z6, PySem.W.mg_none_of X G z7, PySem.W.mg_none_of X G z8, PySem.W.mg_none_of X G z9, PySem.W.mg_none_of X G z10, PySem.W.mg_none_of X G z11, PySem.W.mg_none_of X G z12, PySem.W.mg_none_of X G z13, PySem.W.mg_none_of X G z14, PySem.W.mg_none_of X G z15, PySem.W.mg_none_of X G z16⟩
  refine ⟨PySem.W.fnOf "law" "law" (defArgs s_law) (defBody s_law) (defScope s_law) .none kV24 dc24 pm24 an24 cd24 ct24, fun s v => .of_eq rfl, fun base _ _ => ?_⟩
  exact run_law T B F24
end K53
open PySem PySem.W PyProof.Rows
set_option maxRecDepth 100000 in
set_option maxHeartbeats 0 in
theorem PySem.Challenge.cw_ruledtrees_k53_whole_turned_trees_and_co_holds : PySem.Challenge.rw_ruledtrees_k53_whole_turned_trees_and_co.Holds := by
  w_on; o_law; k_head; (case hw => w_witness2)
  k_fill
  refine Rt.walk_g (l := PySem.Challenge.rw_ruledtrees_k53_whole_turned_trees_and_co) (n := 63) (k := 65) (x := "script") (sp := fun K => Rd.S_law K) rfl (by decide) rfl (fun w h Y => PySem.W.kIn_of Y) ?F (fun K H a ns hl hS => ⟨a, ns, rfl, hS, Nat.le_trans hl (by decide), fun _ => rfl⟩)
  case F =>
    intro w mg fa h KX G hmg
    refine' K53.all_mk KX G hmg ?a0 ?l0 ?c0 ?k0 ?a1 ?l1 ?c1 ?k1 ?a2 ?l2 ?c2 ?k2 ?a3 ?l3 ?c3 ?k3 ?a4 ?l4 ?c4 ?k4 ?a5 ?l5 ?c5 ?k5 ?a6 ?l6 ?c6 ?k6 ?a7 ?l7 ?c7 ?k7 ?a8 ?l8 ?c8 ?k8 ?a9 ?l9 ?c9 ?k9 ?a10 ?l10 ?c10 ?k10 ?a11 ?l11 ?c11 ?k11 ?a12 ?l12 ?c12 ?k12 ?a13 ?l13 ?c13 ?k13 ?a14 ?l14 ?c14 ?k14 ?a15 ?l15 ?c15 ?k15 ?a16 ?l16 ?c16 ?k16 ?a17 ?l17 ?c17 ?k17 ?a18 ?l18 ?c18 ?k18 ?a19 ?l19 ?c19 ?k19 ?a20 ?l20 ?c20 ?k20 ?a21 ?l21 ?c21 ?k21 ?a22 ?l22 ?c22 ?k22 ?a23 ?l23 ?c23 ?k23 ?a24 ?l24 ?c24 ?k24 ?z0 ?z1 ?z2 ?z3 ?z4 ?z5 ?z6 ?z7 ?z8 ?z9 ?z10 ?z11 ?z12 ?z13 ?z14 ?z15 ?z16
    (case a0 => k_is); (case l0 => k_is); (case c0 => k_is); (case k0 => k_is)
    (case a1 => k_is); (case l1 => k_is); (case c1 => k_is); (case k1 => k_is)
    (case a2 => k_is); (case l2 => k_is); (case c2 => k_is); (case k2 => k_is)
    (case a3 => k_is); (case l3 => k_is); (case c3 => k_is); (case k3 => k_is)
    (case a4 => k_is); (case l4 => k_is); (case c4 => k_is); (case k4 => k_is)
    (case a5 => k_is); (case l5 => k_is); (case c5 => k_is); (case k5 => k_is)
    (case a6 => k_is); (case l6 => k_is); (case c6 => k_is); (case k6 => k_is)
    (case a7 => k_is); (case l7 => k_is); (case c7 => k_is); (case k7 => k_is)
    (case a8 => k_is); (case l8 => k_is); (case c8 => k_is); (case k8 => k_is)
    (case a9 => k_is); (case l9 => k_is); (case c9 => k_is); (case k9 => k_is)
    (case a10 => k_is); (case l10 => k_is); (case c10 => k_is); (case k10 => k_is)
    (case a11 => k_is); (case l11 => k_is); (case c11 => k_is); (case k11 => k_is)
    (case a12 => k_is); (case l12 => k_is); (case c12 => k_is); (case k12 => k_is)
    (case a13 => k_is); (case l13 => k_is); (case c13 => k_is); (case k13 => k_is)
    (case a14 => k_is); (case l14 => k_is); (case c14 => k_is); (case k14 => k_is)
    (case a15 => k_is); (case l15 => k_is); (case c15 => k_is); (case k15 => k_is)
    (case a16 => k_is); (case l16 => k_is); (case c16 => k_is); (case k16 => k_is)
    (case a17 => k_is); (case l17 => k_is); (case c17 => k_is); (case k17 => k_is)
    (case a18 => k_is); (case l18 => k_is); (case c18 => k_is); (case k18 => k_is)
    (case a19 => k_is); (case l19 => k_is); (case c19 => k_is); (case k19 => k_is)
    (case a20 => k_is); (case l20 => k_is); (case c20 => k_is); (case k20 => k_is)
    (case a21 => k_is); (case l21 => k_is); (case c21 => k_is); (case k21 => k_is)
    (case a22 => k_is); (case l22 => k_is); (case c22 => k_is); (case k22 => k_is)
    (case a23 => k_is); (case l23 => k_is); (case c23 => k_is); (case k23 => k_is)
    (case a24 => k_is); (case l24 => k_is); (case c24 => k_is); (case k24 => k_is)
    (case z0 => k_is)
    (case z1 => k_is)
    (case z2 => k_is)
    (case z3 => k_is)
    (case z4 => k_is)
    (case z5 => k_is)
    (case z6 => k_is)
    (case z7 => k_is)
    (case z8 => k_is)
    (case z9 => k_is)
    (case z10 => k_is)
    (case z11 => k_is)
    (case z12 => k_is)
    (case z13 => k_is)
    (case z14 => k_is)
    (case z15 => k_is)
    (case z16 => k_is)
#print axioms PySem.Challenge.cw_ruledtrees_k53_whole_turned_trees_and_co_holds
