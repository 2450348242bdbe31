import PyProof.Rows.All
import Wide.All
import OpenK.AllK
import Wide.FinOn
import HandS.ForMost
import HandS.Exc
import HandS.ExcOwn
import HandS.WordsExc
import HandS.CallSlots
import HandS.TupAny
import HandS.IsInst
import HandS.Style
import HandS.StrMore
import HandS.Defaults
import HandS.Wide
import HandS.More
import HandS.HeadWalk
import HandS.Comp
import HandS.Iter
import HandS.Ends
import HandS.HeadHook4
import HandS.Head2
import HandS.HeadEnd
import PySem.Challenge.RW_newinputs_k01_whole_names_at_all_places
set_option Elab.async false
set_option linter.all false
set_option maxRecDepth 100000
set_option maxHeartbeats 0
/-! L3A: data, stores, how they lie in the abstract heap. -/
namespace L3
open PySem PySem.Spec PyProof.Rows L2

/-- data: tuples as values; lists, dicts, instances by their index in the store; defs of the text by number -/
inductive D where
  | non | bl (b : Bool) | int (i : Int) | str (x : Str) | tup (ds : List D) | ref (i : Nat) | fn (i : Nat) | exn (fs : List (Str × D)) | kl (ds : List D)
instance : Inhabited D := ⟨.non⟩
/-- an object of the store -/
inductive O where
  | lst (ds : List D) | ins (c : Nat) (fs : List (Str × D)) | dct (kvs : List (Key × D))
abbrev Store := List O
abbrev Env := List (Option D)
/-- an expression's value: a datum, or a new list that nobody holds yet -/
inductive XV where
  | d (v : D) | fl (ds : List D)
inductive Out (α : Type) where
  | ok (a : α) (S : Store) | exc (c : Nat) (fs : List (Str × D)) (S : Store) | stuck
inductive Fl where
  | next (e : Env) (S : Store) | ret (d : D) (S : Store) | brk (e : Env) (S : Store) | cont (e : Env) (S : Store)
  | exc (c : Nat) (fs : List (Str × D)) (e : Env) (S : Store) | stuck
def Out.bind {α β : Type} (o : Out α) (k : α → Store → Out β) : Out β := match o with
  | .ok a S => k a S
  | .exc c fs S => .exc c fs S
  | .stuck => .stuck
theorem Out.bind_assoc {α β γ : Type} (o : Out α) (k : α → Store → Out β) (l : β → Store → Out γ) : (o.bind k).bind l = o.bind fun a S => (k a S).bind l := by
  cases o <;> rfl

/-! ### how data lie in the heap -/
/-- where the defs and classes of the text stand -/
structure Tab where
  fa : Nat → Addr
  ca : Nat → Addr
variable (T : Tab) (K : PySem.W.Frag)
abbrev Mu := List Addr
/-- a list that nobody changes: the law's script -/
def SqF (H : Hp) (a : Addr) (vs : List V) : Prop := (∃ o, H a = some (.frz o (.lst vs))) ∨
  ∃ (ob : Obj) (us : Array Value) (m : Nat), K.lookup a = some ob ∧ ob.cls = .type "list" ∧ ob.dict = none ∧
    ob.data = .seq us m ∧ us.size ≤ sizeLine ∧ Vals vs us.toList
mutual
inductive DV (μ : Mu) (H : Hp) : V → D → Prop
  | non : DV μ H .non .non
  | bl (b : Bool) : DV μ H (.bl b) (.bl b)
  | int (i : Int) : DV μ H (.int i) (.int i)
  | str (x : Str) : DV μ H (.str x) (.str x)
  | tup {a : Addr} {vs : List V} {ds : List D} : SqT K H a vs → DVs μ H vs ds → DV μ H (.ref a) (.tup ds)
  | ref {a : Addr} {i : Nat} : μ[i]? = some a → DV μ H (.ref a) (.ref i)
  | fn {i : Nat} : DV μ H (.ref (T.fa i)) (.fn i)
  | kl {a : Addr} {vs : List V} {ds : List D} : SqF K H a vs → DVs μ H vs ds → DV μ H (.ref a) (.kl ds)
inductive DVs (μ : Mu) (H : Hp) : List V → List D → Prop
  | nil : DVs μ H [] []
  | cons {v : V} {vs : List V} {d : D} {ds : List D} : DV μ H v d → DVs μ H vs ds → DVs μ H (v :: vs) (d :: ds)
end
/-- named data -/
def FV (μ : Mu) (H : Hp) : List (Str × V) → List (Str × D) → Prop
  | [], [] => True
  | (x, v) :: r, (y, d) :: r' => x = y ∧ DV T K μ H v d ∧ FV μ H r r'
  | _, _ => False
def KVD (μ : Mu) (H : Hp) : List (Key × V) → List (Key × D) → Prop
  | [], [] => True
  | (x, v) :: r, (y, d) :: r' => x = y ∧ DV T K μ H v d ∧ KVD μ H r r'
  | _, _ => False
def OV (μ : Mu) (H : Hp) (a : Addr) : O → Prop
  | .lst ds => ∃ vs, H a = some (.lst vs) ∧ DVs T K μ H vs ds
  | .ins c fs => ∃ dx vfs, H a = some (.ins (T.ca c) dx vfs) ∧ FV T K μ H vfs fs
  | .dct kvs => ∃ vks, H a = some (.dK vks) ∧ KVD T K μ H vks kvs
structure Rep (μ : Mu) (S : Store) (H : Hp) : Prop where
  len : μ.length = S.length
  nd : μ.Nodup
  ob : ∀ (i : Nat) (a : Addr) (o : O), μ[i]? = some a → S[i]? = some o → OV T K μ H a o
/-- what stays from one state to a later one -/
structure Tr (μ : Mu) (H : Hp) (μ' : Mu) (H' : Hp) : Prop where
  pre : ∀ (i : Nat) (a : Addr), μ[i]? = some a → μ'[i]? = some a
  old : ∀ (a : Addr) (o : HO), H a = some o → a ∉ μ → H' a = some o
  new : ∀ a : Addr, a ∈ μ' → a ∈ μ ∨ H a = none
  dom : ∀ a : Addr, H' a = none → H a = none
/-- what data lean on -/
structure Stay (μ : Mu) (H : Hp) (μ' : Mu) (H' : Hp) : Prop where
  pre : ∀ (i : Nat) (a : Addr), μ[i]? = some a → μ'[i]? = some a
  tup : ∀ (a : Addr) (vs : List V), SqT K H a vs → SqT K H' a vs
  frz : ∀ (a : Addr) (vs : List V), SqF K H a vs → SqF K H' a vs

variable {T K} {μ μ' μ2 : Mu} {S S' : Store} {H H' H2 : Hp}
theorem Tr.refl : Tr μ H μ H := ⟨fun _ _ h => h, fun _ _ h _ => h, fun _ h => .inl h, fun _ h => h⟩
theorem Tr.trans (a : Tr μ H μ' H') (b : Tr μ' H' μ2 H2) : Tr μ H μ2 H2 where
  pre i x h := b.pre i x (a.pre i x h)
  old x o h n := b.old x o (a.old x o h n) fun m => (a.new x m).elim n fun z => by rw [h] at z; cases z
  new x m := (b.new x m).elim (fun m1 => a.new x m1) fun z => .inr (a.dom x z)
  dom x z := a.dom x (b.dom x z)
mutual
theorem DV.stay (st : Stay K μ H μ' H') : ∀ {v : V} {d : D}, DV T K μ H v d → DV T K μ' H' v d
  | _, _, .non => .non
  | _, _, .bl b => .bl b
  | _, _, .int i => .int i
  | _, _, .str x => .str x
  | _, _, .tup h hs => .tup (st.tup _ _ h) (DVs.stay st hs)
  | _, _, .ref h => .ref (st.pre _ _ h)
  | _, _, .fn => .fn
  | _, _, .kl h hs => .kl (st.frz _ _ h) (DVs.stay st hs)
theorem DVs.stay (st : Stay K μ H μ' H') : ∀ {vs : List V} {ds : List D}, DVs T K μ H vs ds → DVs T K μ' H' vs ds
  | _, _, .nil => .nil
  | _, _, .cons h hs => .cons (DV.stay st h) (DVs.stay st hs)
end
theorem FV.stay (st : Stay K μ H μ' H') : ∀ {vs : List (Str × V)} {ds : List (Str × D)}, FV T K μ H vs ds → FV T K μ' H' vs ds
  | [], [], _ => trivial
  | (_, _) :: _, (_, _) :: _, h => ⟨h.1, h.2.1.stay st, FV.stay st h.2.2⟩
  | [], _ :: _, h => h.elim
  | _ :: _, [], h => h.elim
theorem KVD.stay (st : Stay K μ H μ' H') : ∀ {vs : List (Key × V)} {ds : List (Key × D)}, KVD T K μ H vs ds → KVD T K μ' H' vs ds
  | [], [], _ => trivial
  | (_, _) :: _, (_, _) :: _, h => ⟨h.1, h.2.1.stay st, KVD.stay st h.2.2⟩
  | [], _ :: _, h => h.elim
  | _ :: _, [], h => h.elim
theorem DVs.length : ∀ {vs : List V} {ds : List D}, DVs T K μ H vs ds → vs.length = ds.length
  | _, _, .nil => rfl
  | _, _, .cons _ hs => by rw [List.length_cons, List.length_cons, DVs.length hs]
theorem DVs.get : ∀ {vs : List V} {ds : List D} {i : Nat} {d : D}, DVs T K μ H vs ds → ds[i]? = some d → ∃ v, vs[i]? = some v ∧ DV T K μ H v d
  | _, _, _, _, .nil, e => by simp at e
  | _, _, 0, _, .cons h _, e => by simp at e; subst e; exact ⟨_, rfl, h⟩
  | _, _, i + 1, d, .cons _ hs, e => by
    obtain ⟨v, h1, h2⟩ := DVs.get (i := i) (d := d) hs (by simpa using e)
    exact ⟨v, by simpa using h1, h2⟩
theorem DVs.append : ∀ {vs ws : List V} {ds es : List D}, DVs T K μ H vs ds → DVs T K μ H ws es → DVs T K μ H (vs ++ ws) (ds ++ es)
  | _, _, _, _, .nil, s => s
  | _, _, _, _, .cons r t, s => .cons r (DVs.append t s)
theorem DVs.take : ∀ {vs : List V} {ds : List D} (n : Nat), DVs T K μ H vs ds → DVs T K μ H (vs.take n) (ds.take n)
  | _, _, 0, _ => .nil
  | _, _, _ + 1, .nil => .nil
  | _, _, n + 1, .cons r t => .cons r (DVs.take n t)
theorem DVs.drop : ∀ {vs : List V} {ds : List D} (n : Nat), DVs T K μ H vs ds → DVs T K μ H (vs.drop n) (ds.drop n)
  | _, _, 0, r => r
  | _, _, _ + 1, .nil => .nil
  | _, _, n + 1, .cons _ t => DVs.drop n t
theorem DVs.set {v : V} {d : D} (r : DV T K μ H v d) : ∀ {vs : List V} {ds : List D} (i : Nat), DVs T K μ H vs ds → DVs T K μ H (vs.set i v) (ds.set i d)
  | _, _, _, .nil => .nil
  | _, _, 0, .cons _ t => .cons r t
  | _, _, i + 1, .cons q t => .cons q (DVs.set r i t)
theorem DVs.dropLast {vs : List V} {ds : List D} (h : DVs T K μ H vs ds) : DVs T K μ H vs.dropLast ds.dropLast := by
  rw [List.dropLast_eq_take, List.dropLast_eq_take, h.length]; exact h.take _
theorem DVs.eraseIdx : ∀ {vs : List V} {ds : List D} (i : Nat), DVs T K μ H vs ds → DVs T K μ H (vs.eraseIdx i) (ds.eraseIdx i)
  | _, _, _, .nil => .nil
  | _, _, 0, .cons _ t => t
  | _, _, i + 1, .cons r t => .cons r (DVs.eraseIdx i t)
theorem DVs.insertIdx {v : V} {d : D} (r : DV T K μ H v d) : ∀ {vs : List V} {ds : List D} (i : Nat), DVs T K μ H vs ds → DVs T K μ H (vs.insertIdx i v) (ds.insertIdx i d)
  | _, _, 0, t => by simpa using .cons r t
  | _, _, i + 1, .nil => by simpa using .nil
  | _, _, i + 1, .cons q t => by simpa [List.insertIdx_succ_cons] using .cons q (DVs.insertIdx r i t)
theorem DVs.reverse {vs : List V} {ds : List D} (h : DVs T K μ H vs ds) : DVs T K μ H vs.reverse ds.reverse := by
  induction ds generalizing vs with
  | nil => cases h; exact .nil
  | cons d ds ih => cases h with | cons r t => rw [List.reverse_cons, List.reverse_cons]; exact (ih t).append (.cons r .nil)
theorem DVs.rep {vs : List V} {ds : List D} (h : DVs T K μ H vs ds) : ∀ k : Nat, DVs T K μ H (List.replicate k vs).flatten (List.replicate k ds).flatten
  | 0 => .nil
  | k + 1 => by
    rw [List.replicate_succ, List.replicate_succ, List.flatten_cons, List.flatten_cons]
    exact h.append (DVs.rep h k)
theorem DVs.ints : ∀ {vs : List V} {ns : List Int}, DVs T K μ H vs (ns.map D.int) → vs = ns.map V.int
  | _, [], .nil => rfl
  | _, n :: ns, .cons h t => by cases h; rw [List.map_cons, DVs.ints t]
theorem DVs.bls : ∀ {vs : List V} {ns : List Bool}, DVs T K μ H vs (ns.map D.bl) → vs = ns.map V.bl
  | _, [], .nil => rfl
  | _, n :: ns, .cons h t => by cases h; rw [List.map_cons, DVs.bls t]
theorem DVs.strs : ∀ {vs : List V} {ns : List Str}, DVs T K μ H vs (ns.map D.str) → vs = ns.map V.str
  | _, [], .nil => rfl
  | _, n :: ns, .cons h t => by cases h; rw [List.map_cons, DVs.strs t]
theorem DVs.of_ints : ∀ {ns : List Int}, DVs T K μ H (ns.map V.int) (ns.map D.int)
  | [] => .nil
  | n :: ns => .cons (.int n) (DVs.of_ints (ns := ns))
theorem DVs.of_strs : ∀ {ns : List Str}, DVs T K μ H (ns.map V.str) (ns.map D.str)
  | [] => .nil
  | n :: ns => .cons (.str n) (DVs.of_strs (ns := ns))

theorem mem_of_mu {i : Nat} {a : Addr} (h : μ[i]? = some a) : a ∈ μ := List.mem_of_getElem? h
theorem Rep.at (R : Rep T K μ S H) {i : Nat} {o : O} (h : S[i]? = some o) : ∃ a, μ[i]? = some a ∧ OV T K μ H a o := by
  have hi : i < S.length := (List.getElem?_eq_some_iff.mp h).1
  have hm : i < μ.length := by rw [R.len]; exact hi
  exact ⟨_, List.getElem?_eq_getElem hm, R.ob i _ o (List.getElem?_eq_getElem hm) h⟩
theorem Rep.at2 (R : Rep T K μ S H) {i : Nat} {a : Addr} (h : μ[i]? = some a) : ∃ o, S[i]? = some o ∧ OV T K μ H a o := by
  have hi : i < μ.length := (List.getElem?_eq_some_iff.mp h).1
  have hm : i < S.length := by rw [← R.len]; exact hi
  exact ⟨_, List.getElem?_eq_getElem hm, R.ob i _ _ h (List.getElem?_eq_getElem hm)⟩
/-- what stands in the store is none of these -/
def stoB : HO → Bool
  | .lst _ => true
  | .ins _ _ _ => true
  | .dK _ => true
  | _ => false
theorem OV.sto {a : Addr} {o : O} (h : OV T K μ H a o) : ∃ u, H a = some u ∧ stoB u = true := by
  cases o with
  | lst ds => obtain ⟨vs, e, _⟩ := h; exact ⟨_, e, rfl⟩
  | ins c fs => obtain ⟨dx, vfs, e, _⟩ := h; exact ⟨_, e, rfl⟩
  | dct kvs => obtain ⟨vks, e, _⟩ := h; exact ⟨_, e, rfl⟩
theorem Rep.out (R : Rep T K μ S H) {a : Addr} {u : HO} (h : H a = some u) (hn : stoB u = false) : a ∉ μ := fun m => by
  obtain ⟨i, hi, e⟩ := List.mem_iff_getElem.mp m
  obtain ⟨o, _, ov⟩ := R.at2 (List.getElem?_eq_getElem hi)
  rw [e] at ov
  obtain ⟨u', e', s⟩ := ov.sto
  rw [h] at e'; cases e'
  rw [hn] at s; cases s
theorem Rep.outN (R : Rep T K μ S H) {a : Addr} (h : H a = none) : a ∉ μ := fun m => by
  obtain ⟨i, hi, e⟩ := List.mem_iff_getElem.mp m
  obtain ⟨o, _, ov⟩ := R.at2 (List.getElem?_eq_getElem hi)
  rw [e] at ov
  obtain ⟨u', e', s⟩ := ov.sto
  rw [h] at e'; cases e'
theorem sqT_keep {a : Addr} {vs : List V} (k : ∀ u, H a = some u → stoB u = false → H' a = some u) (h : SqT K H a vs) : SqT K H' a vs := by
  rcases h with (h | ⟨o, h⟩) | h
  · exact .inl (.inl (k _ h rfl))
  · exact .inl (.inr ⟨o, k _ h rfl⟩)
  · exact .inr h
theorem sqF_keep {a : Addr} {vs : List V} (k : ∀ u, H a = some u → stoB u = false → H' a = some u) (h : SqF K H a vs) : SqF K H' a vs := by
  rcases h with ⟨o, h⟩ | h
  · exact .inl ⟨o, k _ h rfl⟩
  · exact .inr h
theorem SqF.l {a : Addr} {vs : List V} (h : SqF K H a vs) : SqL K H a vs := by
  rcases h with ⟨o, h⟩ | h
  · exact .inl (.inr ⟨o, h⟩)
  · exact .inr h
theorem Tr.stay (R : Rep T K μ S H) (t : Tr μ H μ' H') : Stay K μ H μ' H' :=
  ⟨t.pre, fun a vs h => sqT_keep (fun u e n => t.old a u e (R.out e n)) h, fun a vs h => sqF_keep (fun u e n => t.old a u e (R.out e n)) h⟩
theorem Tr.dv (t : Tr μ H μ' H') (R : Rep T K μ S H) {v : V} {d : D} (h : DV T K μ H v d) : DV T K μ' H' v d := h.stay (t.stay R)
theorem Tr.dvs (t : Tr μ H μ' H') (R : Rep T K μ S H) {v : List V} {d : List D} (h : DVs T K μ H v d) : DVs T K μ' H' v d := h.stay (t.stay R)
theorem OV.stay (st : Stay K μ H μ' H') {a : Addr} {o : O} (e : H' a = H a) (h : OV T K μ H a o) : OV T K μ' H' a o := by
  cases o with
  | lst ds => obtain ⟨vs, q, d⟩ := h; exact ⟨vs, e.trans q, d.stay st⟩
  | ins c fs => obtain ⟨dx, vfs, q, d⟩ := h; exact ⟨dx, vfs, e.trans q, d.stay st⟩
  | dct kvs => obtain ⟨vks, q, d⟩ := h; exact ⟨vks, e.trans q, d.stay st⟩
/-! ### steps of the heap -/
theorem Tr.laid {p : Addr} {o : HO} (h : H p = none) : Tr μ H μ (upd H p o) where
  pre _ _ h := h
  old a u e _ := by rw [upd_ne (ne_of_none e h)]; exact e
  new _ m := .inl m
  dom a z := by
    by_cases e : a = p
    · rw [e]; exact h
    · rw [upd_ne e] at z; exact z
theorem Rep.laid (R : Rep T K μ S H) {p : Addr} {o : HO} (h : H p = none) : Rep T K μ S (upd H p o) where
  len := R.len
  nd := R.nd
  ob i a ob ha ho := (R.ob i a ob ha ho).stay ((Tr.laid h).stay R) (upd_ne fun e => R.outN h (e ▸ mem_of_mu ha))
theorem Stay.push {p : Addr} : Stay K μ H (μ ++ [p]) H := ⟨fun i a h => by
  rw [List.getElem?_append_left ((List.getElem?_eq_some_iff.mp h).1)]; exact h, fun _ _ h => h, fun _ _ h => h⟩
/-- an object that nobody held comes into the store -/
theorem Rep.push (R : Rep T K μ S H) {p : Addr} {o : O} (hp : p ∉ μ) (ho : OV T K μ H p o) : Rep T K (μ ++ [p]) (S ++ [o]) H where
  len := by rw [List.length_append, List.length_append, R.len]; rfl
  nd := by
    rw [List.nodup_append]
    refine ⟨R.nd, by simp, fun a ha b hb => ?_⟩
    rw [List.mem_singleton.mp hb]
    exact fun e => hp (e ▸ ha)
  ob i a ob ha hb := by
    by_cases hi : i < μ.length
    · rw [List.getElem?_append_left hi] at ha
      rw [List.getElem?_append_left (by rw [← R.len]; exact hi)] at hb
      exact (R.ob i a ob ha hb).stay Stay.push rfl
    · have e : i = μ.length := by
        have := (List.getElem?_eq_some_iff.mp ha).1
        rw [List.length_append] at this
        simp at this
        omega
      subst e
      rw [List.getElem?_append_right (Nat.le_refl _)] at ha
      rw [R.len, List.getElem?_append_right (Nat.le_refl _)] at hb
      simp at ha hb
      subst ha hb
      exact ho.stay Stay.push rfl
theorem Tr.push (t : Tr μ H μ' H') {p : Addr} (h0 : H p = none) : Tr μ H (μ' ++ [p]) H' where
  pre i a h := by
    have h1 := t.pre i a h
    rw [List.getElem?_append_left ((List.getElem?_eq_some_iff.mp h1).1)]; exact h1
  old := t.old
  new a m := by
    rcases List.mem_append.mp m with m | m
    · exact t.new a m
    · rw [List.mem_singleton.mp m]; exact .inr h0
  dom := t.dom
theorem mu_push {p : Addr} (R : Rep T K μ S H) : (μ ++ [p])[S.length]? = some p := by
  rw [← R.len, List.getElem?_append_right (Nat.le_refl _)]; simp
theorem Tr.write {p : Addr} {o : HO} (h : p ∈ μ) : Tr μ H μ (upd H p o) where
  pre _ _ h := h
  old a u e n := by
    have na : a ≠ p := fun z => n (by rw [z]; exact h)
    rw [upd_ne na]; exact e
  new _ m := .inl m
  dom a z := by
    by_cases e : a = p
    · rw [e, upd_same] at z; cases z
    · rw [upd_ne e] at z; exact z
theorem Rep.inj (R : Rep T K μ S H) {i j : Nat} {a : Addr} (hi : μ[i]? = some a) (hj : μ[j]? = some a) : i = j := by
  have h1 := (List.getElem?_eq_some_iff.mp hi).1
  exact (List.getElem?_inj h1 R.nd).mp (hi.trans hj.symm)
/-- an object of the store is written -/
theorem Rep.write (R : Rep T K μ S H) {i : Nat} {p : Addr} {u : HO} {o : O} (hp : μ[i]? = some p) (ho : Stay K μ H μ (upd H p u) → OV T K μ (upd H p u) p o) : Rep T K μ (S.set i o) (upd H p u) where
  len := by rw [List.length_set]; exact R.len
  nd := R.nd
  ob j a ob ha hb := by
    have st := (Tr.write (H := H) (o := u) (mem_of_mu hp)).stay R
    by_cases e : i = j
    · subst e
      rw [hp] at ha; cases ha
      have hl : i < S.length := by rw [← R.len]; exact (List.getElem?_eq_some_iff.mp hp).1
      rw [List.getElem?_set_self hl] at hb
      cases hb
      exact ho st
    · rw [List.getElem?_set_ne e] at hb
      exact (R.ob j a ob ha hb).stay st (upd_ne fun z => e (R.inj hp (z ▸ ha)))

/-! ### slots -/
/-- the names' values; an exception that is being handled stands in one of them (cur: its address, its dict's) -/
def EnvR (T : Tab) (K : PySem.W.Frag) (cur : Option (Addr × Addr)) (μ : Mu) (H : Hp) (σ : L2.St) (env : Env) : Prop :=
  env.length = σ.length ∧ ∀ (i : Nat) (d : D), env[i]? = some (some d) →
    (∃ v, σ[i]? = some (some v) ∧ DV T K μ H v d) ∨ (∃ fs a dx vfs, d = .exn fs ∧ cur = some (a, dx) ∧ σ[i]? = some (some (.ref a)) ∧ H dx = some (.xd vfs) ∧ FV T K μ H vfs fs)
theorem EnvR.mono {cur : Option (Addr × Addr)} {σ : L2.St} {env : Env} (R : Rep T K μ S H) (t : Tr μ H μ' H') (h : EnvR T K cur μ H σ env) : EnvR T K cur μ' H' σ env :=
  ⟨h.1, fun i d e => (h.2 i d e).elim (fun ⟨v, a, b⟩ => .inl ⟨v, a, t.dv R b⟩) fun ⟨fs, a, dx, vfs, e1, e2, e3, e4, e5⟩ => .inr ⟨fs, a, dx, vfs, e1, e2, e3, t.old _ _ e4 (R.out e4 rfl), e5.stay (t.stay R)⟩⟩
theorem EnvR.set {cur : Option (Addr × Addr)} {σ : L2.St} {env : Env} {v : V} {d : D} (h : EnvR T K cur μ H σ env) (hd : DV T K μ H v d) (j : Nat) : EnvR T K cur μ H (σ.set j (some v)) (env.set j (some d)) := by
  refine ⟨by rw [List.length_set, List.length_set]; exact h.1, fun i e he => ?_⟩
  by_cases q : j = i
  · subst q
    have hl : j < env.length := by
      have := (List.getElem?_eq_some_iff.mp he).1
      rwa [List.length_set] at this
    rw [List.getElem?_set_self hl] at he
    cases he
    exact .inl ⟨v, List.getElem?_set_self (by rw [← h.1]; exact hl), hd⟩
  · rw [List.getElem?_set_ne q] at he
    rcases h.2 i e he with ⟨w, a, b⟩ | ⟨fs, a, dx, vfs, e1, e2, e3, e4⟩
    · exact .inl ⟨w, by rw [List.getElem?_set_ne q]; exact a, b⟩
    · exact .inr ⟨fs, a, dx, vfs, e1, e2, by rw [List.getElem?_set_ne q]; exact e3, e4⟩
theorem EnvR.unset {cur : Option (Addr × Addr)} {σ : L2.St} {env : Env} (h : EnvR T K cur μ H σ env) (j : Nat) : EnvR T K cur μ H (σ.set j none) (env.set j none) := by
  refine ⟨by rw [List.length_set, List.length_set]; exact h.1, fun i e he => ?_⟩
  by_cases q : j = i
  · subst q
    have hl : j < env.length := by
      have := (List.getElem?_eq_some_iff.mp he).1
      rwa [List.length_set] at this
    rw [List.getElem?_set_self hl] at he
    cases he
  · rw [List.getElem?_set_ne q] at he
    rcases h.2 i e he with ⟨w, a, b⟩ | ⟨fs, a, dx, vfs, e1, e2, e3, e4⟩
    · exact .inl ⟨w, by rw [List.getElem?_set_ne q]; exact a, b⟩
    · exact .inr ⟨fs, a, dx, vfs, e1, e2, by rw [List.getElem?_set_ne q]; exact e3, e4⟩

/-! ### what is wanted -/
/-- an exception: its class by number, its fields -/
def EV (T : Tab) (K : PySem.W.Frag) (μ : Mu) (H : Hp) (c : Nat) (fs : List (Str × D)) (cls : Value) (d : Option Addr) : Prop :=
  cls = .ref (T.ca c) ∧ (fs = [] ∨ ∃ dx vfs, d = some dx ∧ H dx = some (.xd vfs) ∧ FV T K μ H vfs fs)
/-- how a result lies: at the store μ and the heap H, the heap ahead of it being H0 -/
structure Rl (β α : Type) where
  r : Mu → Hp → Hp → β → α → Prop
  base : ∀ {μ : Mu} {H0 H1 H : Hp} {v : β} {x : α}, (∀ a, H1 a = none → H0 a = none) → r μ H1 H v x → r μ H0 H v x
def RX (T : Tab) (K : PySem.W.Frag) : Rl V XV where
  r μ H0 H v x := match x with
    | .d d => DV T K μ H v d
    | .fl ds => ∃ p vs, v = .ref p ∧ H p = some (.lst vs) ∧ DVs T K μ H vs ds ∧ p ∉ μ ∧ H0 p = none
  base {μ H0 H1 H v x} h r := match x, r with
    | .d _, r => r
    | .fl _, ⟨p, vs, a, b, c, d, e⟩ => ⟨p, vs, a, b, c, d, h _ e⟩
def RD (T : Tab) (K : PySem.W.Frag) : Rl V D where
  r μ _ H v d := DV T K μ H v d
  base _ r := r
def RA (T : Tab) (K : PySem.W.Frag) : Rl (List V) (List D) where
  r μ _ H v d := DVs T K μ H v d
  base _ r := r
def RB : Rl Bool Bool where
  r _ _ _ v d := v = d
  base _ r := r
section
variable {α β γ δ : Type}
def PG (T : Tab) (K : PySem.W.Frag) (W : WX) (R : Rl β α) (σ : L2.St) (μ : Mu) (H : Hp) (Q : β → Hp → Prop) : Out α → Prop
  | .ok x S' => ∀ v H' μ', Rep T K μ' S' H' → R.r μ' H H' v x → Tr μ H μ' H' → Q v H'
  | .exc c fs S' => ∀ cls d H' μ', Rep T K μ' S' H' → EV T K μ' H' c fs cls d → Tr μ H μ' H' → W cls d σ H'
  | .stuck => False
variable {W : WX} {R : Rl β α} {R2 : Rl δ γ} {σ : L2.St} {Q : β → Hp → Prop} {Q2 : δ → Hp → Prop}
theorem PG.rebase (t : Tr μ H μ' H') {o : Out α} (h : PG T K W R σ μ H Q o) : PG T K W R σ μ' H' Q o := by
  cases o with
  | ok x S' => exact fun v H2 μ2 a b c => h v H2 μ2 a (R.base (fun p z => t.dom p z) b) (t.trans c)
  | exc c fs S' => exact fun cls d H2 μ2 a b c => h cls d H2 μ2 a b (t.trans c)
  | stuck => exact h
/-- one after the other -/
theorem PG.bind {o : Out α} {k : α → Store → Out γ} (h : PG T K W R2 σ μ H Q2 (o.bind k)) :
    PG T K W R σ μ H (fun v H1 => ∃ μ1 S1 x, Rep T K μ1 S1 H1 ∧ R.r μ1 H H1 v x ∧ Tr μ H μ1 H1 ∧ PG T K W R2 σ μ H Q2 (k x S1)) o := by
  cases o with
  | ok x S1 => exact fun v H1 μ1 a b c => ⟨μ1, S1, x, a, b, c, h⟩
  | exc c fs S1 => exact h
  | stuck => exact h
theorem PG.imp {Q' : β → Hp → Prop} {o : Out α} (h : PG T K W R σ μ H Q o) (q : ∀ v H', Q v H' → Q' v H') : PG T K W R σ μ H Q' o := by
  cases o with
  | ok x S' => exact fun v H2 μ2 a b c => q _ _ (h v H2 μ2 a b c)
  | exc c fs S' => exact h
  | stuck => exact h
end
/-- what is wanted of a statement -/
def PF (T : Tab) (K : PySem.W.Frag) (cur : Option (Addr × Addr)) (W : WX) (Dn : Ends) (μ : Mu) (H : Hp) : Fl → Prop
  | .next e S' => ∀ σ' H' μ', Rep T K μ' S' H' → EnvR T K cur μ' H' σ' e → Tr μ H μ' H' → Dn.nx σ' H'
  | .ret d S' => ∀ v H' μ', Rep T K μ' S' H' → DV T K μ' H' v d → Tr μ H μ' H' → Dn.rt v H'
  | .brk e S' => ∀ σ' H' μ', Rep T K μ' S' H' → EnvR T K cur μ' H' σ' e → Tr μ H μ' H' → Dn.bk σ' H'
  | .cont e S' => ∀ σ' H' μ', Rep T K μ' S' H' → EnvR T K cur μ' H' σ' e → Tr μ H μ' H' → Dn.ct σ' H'
  | .exc c fs e S' => ∀ cls d σ' H' μ', Rep T K μ' S' H' → EnvR T K cur μ' H' σ' e → EV T K μ' H' c fs cls d → Tr μ H μ' H' → W cls d σ' H'
  | .stuck => False
theorem PF.rebase {cur : Option (Addr × Addr)} {W : WX} {Dn : Ends} (t : Tr μ H μ' H') {f : Fl} (h : PF T K cur W Dn μ H f) : PF T K cur W Dn μ' H' f := by
  cases f with
  | next e S' => exact fun σ' H2 μ2 a b c => h σ' H2 μ2 a b (t.trans c)
  | ret e S' => exact fun σ' H2 μ2 a b c => h σ' H2 μ2 a b (t.trans c)
  | brk e S' => exact fun σ' H2 μ2 a b c => h σ' H2 μ2 a b (t.trans c)
  | cont e S' => exact fun σ' H2 μ2 a b c => h σ' H2 μ2 a b (t.trans c)
  | exc c fs e S' => exact fun cls d σ' H2 μ2 a b e c => h cls d σ' H2 μ2 a b e (t.trans c)
  | stuck => exact h
end L3


/-! L3B: what expressions and statements of the text mean over data and stores. -/
namespace L3
open PySem PySem.Spec PyProof.Rows L2

abbrev DX := Env → Store → Out XV
abbrev DD := Env → Store → Out D
abbrev DA := Env → Store → Out (List D)
abbrev DT := Env → Store → Out Bool
abbrev DS := Env → Store → Fl

/-- what a global name stands for -/
inductive GV where
  | fn (i : Nat) | cls (c : Nat) | con (d : D)
/-- a program's table: global names, built-in names that are free, methods and makers of classes, what calls mean, fuel for while loops -/
structure Cfg where
  gl : List (Str × GV)
  bl : List Str
  mth : Nat → Str → Option Nat
  ini : Nat → Option Nat
  fld : Nat → Str → Bool
  calls : Nat → List D → Store → Out D
  inis : Nat → List D → Store → Out D
  arity : Nat → Nat
  dfl : Nat → List D
  fuel : Nat
/-- the arguments with the defaults that fill up -/
def fillD (C : Cfg) (i : Nat) (ds : List D) : List D := ds ++ (C.dfl i).drop (ds.length + (C.dfl i).length - C.arity i)
def arityOk (C : Cfg) (i n : Nat) : Bool := decide (n ≤ C.arity i ∧ C.arity i ≤ n + (C.dfl i).length)
structure Sc where
  C : Cfg
  sc : Scope
  N : List Str
  calm : Bool
  st : Str → Bool

def lok (n : Nat) : Bool := decide (n ≤ sizeLine)
def sit : XV → Store → Out D
  | .d v, S => .ok v S
  | .fl ds, S => .ok (.ref S.length) (S ++ [.lst ds])
def mD (f : DX) : DD := fun e S => (f e S).bind sit
def mArgs : List DX → DA
  | [] => fun _ S => .ok [] S
  | f :: r => fun e S => (mD f e S).bind fun d S1 => (mArgs r e S1).bind fun ds S2 => .ok (d :: ds) S2
/-- the items of a list or tuple -/
def its : XV → Store → Option (List D)
  | .fl ds, _ => some ds
  | .d (.tup ds), _ => some ds
  | .d (.kl ds), _ => some ds
  | .d (.ref r), S => match S[r]? with
    | some (.lst ds) => some ds
    | _ => none
  | _, _ => none
/-- .. of a list alone -/
def itsL : XV → Store → Option (List D)
  | .d (.tup _), _ => none
  | x, S => its x S
/-- .. of one that is not the law's script -/
def itsW : XV → Store → Option (List D)
  | .fl ds, _ => some ds
  | .d (.ref r), S => match S[r]? with
    | some (.lst ds) => some ds
    | _ => none
  | _, _ => none
def okv {α : Type} (o : Option XV) (S : Store) : Out XV := match o with
  | some x => .ok x S
  | none => .stuck

/-! ### operators -/
def mulOk (i j : Int) : Bool := decide (i.natAbs.log2 + j.natAbs.log2 < 1000000)
def opBin (op : Operator) (x y : XV) (S : Store) : Option XV := match op with
  | .Add => (match x, y with
    | .d (.int i), .d (.int j) => some (.d (.int (i + j)))
    | .d (.str i), .d (.str j) => if lok (i.length + j.length) then some (.d (.str (i ++ j))) else none
    | .d (.tup i), .d (.tup j) => if lok (i.length + j.length) then some (.d (.tup (i ++ j))) else none
    | x, y => (match itsW x S, itsW y S with
      | some i, some j => if lok (i.length + j.length) then some (.fl (i ++ j)) else none
      | _, _ => none))
  | .Sub => (match x, y with
    | .d (.int i), .d (.int j) => some (.d (.int (i - j)))
    | _, _ => none)
  | .Mult => (match x, y with
    | .d (.int i), .d (.int j) => if mulOk i j then some (.d (.int (i * j))) else none
    | x, .d (.int k) => (match itsW x S with
      | some i => if decide (-(2 ^ 63) ≤ k ∧ k < 2 ^ 63) && lok (i.length * k.toNat) then some (.fl (List.replicate k.toNat i).flatten) else none
      | none => none)
    | _, _ => none)
  | .FloorDiv => (match x, y with
    | .d (.int i), .d (.int j) => if decide (0 < j ∧ j.natAbs.log2 < 9000) then some (.d (.int (i / j))) else none
    | _, _ => none)
  | .Mod => (match x, y with
    | .d (.int i), .d (.int j) => if decide (0 < j) then some (.d (.int (i % j))) else none
    | _, _ => none)
  | .Pow => (match x, y with
    | .d (.int i), .d (.int j) => if decide (0 ≤ j ∧ j ≤ 1000000 ∧ i.natAbs < 2 ^ 64) then some (.d (.int (i ^ j.toNat))) else none
    | _, _ => none)
  | _ => none

/-! ### comparisons -/
mutual
/-- data as the library's plain data; lists by the store, so deep -/
def toP (S : Store) : Nat → D → Option PyData
  | 0, _ => none
  | n + 1, d => match d with
    | .non => some .none
    | .bl b => some (.bool b)
    | .int i => some (.int i)
    | .str x => some (.str x)
    | .tup ds => (toPs S n ds).map .tuple
    | .ref r => (match S[r]? with
      | some (.lst ds) => (toPs S n ds).map .list
      | _ => none)
    | _ => none
def toPs (S : Store) : Nat → List D → Option (List PyData)
  | _, [] => some []
  | 0, _ :: _ => none
  | n + 1, d :: ds => match toP S n d, toPs S n ds with
    | some p, some ps => some (p :: ps)
    | _, _ => none
end
def toPX (S : Store) : XV → Option PyData
  | .d d => toP S 5000 d
  | .fl ds => (toPs S 5000 ds).map .list
def deepEq (x y : XV) (S : Store) : Option Bool := match toPX S x, toPX S y with
  | some a, some b => if a.canLay0 && b.canLay0 && decide (min a.depth b.depth ≤ 64) then some (PyData.eqv a b) else none
  | _, _ => none
def cmpEq (x y : XV) (S : Store) : Option Bool := match x, y with
  | .d (.int i), .d (.int j) => some (decide (i = j))
  | .d (.str i), .d (.str j) => some (decide (i = j))
  | .d (.bl i), .d (.bl j) => some (decide (i = j))
  | .d .non, .d .non => some true
  | .d .non, .d (.str _) => some false
  | .d (.str _), .d .non => some false
  | .d .non, .d (.int _) => some false
  | .d (.int _), .d .non => some false
  | .d (.str _), .d (.int _) => some false
  | .d (.int _), .d (.str _) => some false
  | x, y => (match itsL x S, itsL y S with
    | some i, some j => if i.length != j.length then some false else if i.isEmpty then some true else deepEq x y S
    | _, _ => deepEq x y S)
/-- plain data of which == asks nothing more -/
def flatD : D → Bool
  | .non => true
  | .bl _ => true
  | .int _ => true
  | .str _ => true
  | _ => false
def eqD : D → D → Bool
  | .non, .non => true
  | .bl a, .bl b => a == b
  | .bl a, .int b => (if a then 1 else 0) == b
  | .int a, .bl b => a == (if b then 1 else 0)
  | .int a, .int b => a == b
  | .str a, .str b => a == b
  | _, _ => false
def cmpIn (x y : XV) (S : Store) : Option Bool := match x, y with
  | .d (.str w), .d (.str z) => (match w.cps.toList with
    | [c] => some (decide (c ∈ z.cps.toList))
    | _ => none)
  | .d d, y => (match its y S with
    | some ds => if flatD d && ds.all flatD then some (ds.any fun e => eqD e d) else none
    | none => none)
  | _, _ => none
def cmpOp (op : CmpOp) (x y : XV) (S : Store) : Option Bool := match op with
  | .Eq => cmpEq x y S
  | .NotEq => (cmpEq x y S).map (!·)
  | .Lt => (match x, y with
    | .d (.int i), .d (.int j) => some (decide (i < j))
    | _, _ => none)
  | .LtE => (match x, y with
    | .d (.int i), .d (.int j) => some (decide (i ≤ j))
    | _, _ => none)
  | .Gt => (match x, y with
    | .d (.int i), .d (.int j) => some (decide (j < i))
    | _, _ => none)
  | .GtE => (match x, y with
    | .d (.int i), .d (.int j) => some (decide (j ≤ i))
    | _, _ => none)
  | .In => cmpIn x y S
  | .NotIn => (cmpIn x y S).map (!·)
  | .Is => (match x, y with
    | .d (.bl i), .d (.bl j) => some (decide (i = j))
    | _, _ => none)
  | .IsNot => (match x, y with
    | .d (.bl i), .d (.bl j) => some (!decide (i = j))
    | _, _ => none)

/-! ### subscripts -/
def opIx (x y : XV) (S : Store) : Option XV := match x, y with
  | .d (.str z), .d (.int i) => if lok z.length then (atI z.cps.toList i).map (fun c => .d (.str ⟨#[c]⟩)) else none
  | x, .d (.int i) => (match its x S with
    | some ds => (atI ds i).map .d
    | none => none)
  | _, _ => none
def cutD (ds : List D) (lo hi : Option Int) : List D := (ds.drop (HT.sIx ds.length 0 lo)).take (HT.sIx ds.length ds.length hi - HT.sIx ds.length 0 lo)
def opSl (x : XV) (lo hi : Option Int) (S : Store) : Option XV := match x with
  | .d (.str z) => if lok z.length then some (.d (.str (cutS z lo hi))) else none
  | .d (.tup ds) => some (.d (.tup (cutD ds lo hi)))
  | x => (its x S).map fun ds => .fl (cutD ds lo hi)

/-! ### built-in functions of one value -/
inductive B1 where
  | len | all | any | int | abs | tuple | list
def b1name (x : Str) : Option B1 :=
  if x = ("len" : Str) then some .len else if x = ("all" : Str) then some .all else if x = ("any" : Str) then some .any else if x = ("int" : Str) then some .int
  else if x = ("abs" : Str) then some .abs else if x = ("tuple" : Str) then some .tuple else if x = ("list" : Str) then some .list else none
def bools : List D → Option (List Bool)
  | [] => some []
  | .bl b :: r => (bools r).map (b :: ·)
  | _ :: _ => none
def txts : List D → Option (List Str)
  | [] => some []
  | .str b :: r => (txts r).map (b :: ·)
  | _ :: _ => none
def opB1 (b : B1) (x : XV) (S : Store) : Option XV := match b with
  | .len => (match x with
    | .d (.str z) => if lok z.length then some (.d (.int z.length)) else none
    | x => (its x S).map fun ds => .d (.int ds.length))
  | .all => (match itsL x S with
    | some ds => (bools ds).map fun bs => .d (.bl (bs.all id))
    | none => none)
  | .any => (match itsL x S with
    | some ds => (bools ds).map fun bs => .d (.bl (bs.any id))
    | none => none)
  | .int => (match x with
    | .d (.int i) => some (.d (.int i))
    | .d (.bl b) => some (.d (.int (if b then 1 else 0)))
    | _ => none)
  | .abs => (match x with
    | .d (.int n) => some (.d (.int (if n < 0 then -n else n)))
    | _ => none)
  | .tuple => (its x S).map fun ds => .d (.tup ds)
  | .list => (its x S).map .fl
/-- the built-in types that isinstance asks for -/
inductive Ty where
  | int | bool | str | tuple | list | dict
def tyname (x : Str) : Option Ty :=
  if x = ("int" : Str) then some .int else if x = ("bool" : Str) then some .bool else if x = ("str" : Str) then some .str else if x = ("tuple" : Str) then some .tuple
  else if x = ("list" : Str) then some .list else if x = ("dict" : Str) then some .dict else none
def Ty.nm : Ty → String
  | .int => "int" | .bool => "bool" | .str => "str" | .tuple => "tuple" | .list => "list" | .dict => "dict"
def tyOfD (d : D) (S : Store) : Option String := match d with
  | .non => some "NoneType"
  | .bl _ => some "bool"
  | .int _ => some "int"
  | .str _ => some "str"
  | .tup _ => some "tuple"
  | .ref r => (match S[r]? with
    | some (.lst _) => some "list"
    | some (.dct _) => some "dict"
    | _ => none)
  | _ => none
def isN (n : String) (t : Ty) : Bool := match t with
  | .int => n == "int" || n == "bool"
  | .bool => n == "bool"
  | .str => n == "str"
  | .tuple => n == "tuple"
  | .list => n == "list"
  | .dict => n == "dict"
def isT (t : Ty) (d : D) (S : Store) : Option Bool := (tyOfD d S).map fun n => isN n t

/-! ### methods of lists and texts -/
inductive M1 where
  | append | extend | pop | popAt | insert | isalnum | isalpha | islower | isupper | isdigit | join
def m1name (x : Str) (n : Nat) : Option M1 :=
  if x = ("append" : Str) ∧ n = 1 then some .append else if x = ("extend" : Str) ∧ n = 1 then some .extend else if x = ("pop" : Str) ∧ n = 0 then some .pop
  else if x = ("pop" : Str) ∧ n = 1 then some .popAt else if x = ("insert" : Str) ∧ n = 2 then some .insert else if x = ("isalnum" : Str) ∧ n = 0 then some .isalnum
  else if x = ("isalpha" : Str) ∧ n = 0 then some .isalpha else if x = ("islower" : Str) ∧ n = 0 then some .islower else if x = ("isupper" : Str) ∧ n = 0 then some .isupper
  else if x = ("isdigit" : Str) ∧ n = 0 then some .isdigit else if x = ("join" : Str) ∧ n = 1 then some .join else none
/-- the receiver is a list of the store: its items -/
def lstOf (d : D) (S : Store) : Option (Nat × List D) := match d with
  | .ref r => (match S[r]? with
    | some (.lst ds) => some (r, ds)
    | _ => none)
  | _ => none
def opL0 (m : M1) (x : D) (S : Store) : Out XV := match m, x with
  | .pop, x => (match lstOf x S with
    | some (r, ds) => (match ds[ds.length - 1]? with
      | some d => .ok (.d d) (S.set r (.lst ds.dropLast))
      | none => .stuck)
    | none => .stuck)
  | .isalnum, .str z => .ok (.d (.bl (Txt.isalnum z))) S
  | .isalpha, .str z => .ok (.d (.bl (Txt.isalpha z))) S
  | .islower, .str z => .ok (.d (.bl (Txt.islower z))) S
  | .isupper, .str z => .ok (.d (.bl (Txt.isupper z))) S
  | .isdigit, .str z => .ok (.d (.bl (Txt.isdigit z))) S
  | _, _ => .stuck
/-- the items that extend takes -/
def itsE (y : XV) (S : Store) : Option (List D) := match y with
  | .d (.tup ds) => some ds
  | y => itsW y S
/-- one argument: for extend and join it may be a new list -/
def opL1 (m : M1) (x : D) (y : XV) (S : Store) : Out XV := match m with
  | .append => (sit y S).bind fun d S1 => (match lstOf x S1 with
    | some (r, ds) => if decide (ds.length < sizeLine) then .ok (.d .non) (S1.set r (.lst (ds ++ [d]))) else .stuck
    | none => .stuck)
  | .extend => (match lstOf x S, itsE y S with
    | some (r, ds), some es => if lok (ds.length + es.length) then .ok (.d .non) (S.set r (.lst (ds ++ es))) else .stuck
    | _, _ => .stuck)
  | .popAt => (match lstOf x S, y with
    | some (r, ds), .d (.int i) => if decide (-(2 ^ 63) ≤ i ∧ i < 2 ^ 63) then (match ixN ds.length i with
      | some k => (match ds[k]? with
        | some d => .ok (.d d) (S.set r (.lst (ds.eraseIdx k)))
        | none => .stuck)
      | none => .stuck) else .stuck
    | _, _ => .stuck)
  | .join => (match x, its y S with
    | .str a, some ds => (match txts ds with
      | some ys => if decide ((ys.map (·.length)).sum + ys.length * a.length ≤ 16777216) then .ok (.d (.str (Txt.join a ys))) S else .stuck
      | none => .stuck)
    | _, _ => .stuck)
  | _ => .stuck
def opL2 (m : M1) (x y z : D) (S : Store) : Out XV := match m with
  | .insert => (match lstOf x S, y with
    | some (r, ds), .int i => if decide (ds.length < sizeLine ∧ 0 ≤ i ∧ i < 2 ^ 63) then .ok (.d .non) (S.set r (.lst (ds.take i.toNat ++ [z] ++ ds.drop i.toNat))) else .stuck
    | _, _ => .stuck)
  | _ => .stuck

/-! ### the meanings put together -/
def stuckX : DX := fun _ _ => .stuck
def mC (d : D) : DX := fun _ S => .ok (.d d) S
def mVar (i : Nat) : DX := fun e S => match e[i]? with
  | some (some (.exn _)) => .stuck
  | some (some d) => .ok (.d d) S
  | _ => .stuck
def mBin (op : Operator) (f g : DX) : DX := fun e S => (f e S).bind fun x S1 => (g e S1).bind fun y S2 => okv (α := Unit) (opBin op x y S2) S2
def mNeg (f : DX) : DX := fun e S => (f e S).bind fun x S1 => match x with
  | .d (.int i) => .ok (.d (.int (-i))) S1
  | _ => .stuck
def blv (o : Option Bool) (S : Store) : Out XV := match o with
  | some b => .ok (.d (.bl b)) S
  | none => .stuck
def mCmp (op : CmpOp) (f g : DX) : DX := fun e S => (f e S).bind fun x S1 => (g e S1).bind fun y S2 => blv (cmpOp op x y S2) S2
def mCmp2 (op op' : CmpOp) (f g h : DX) : DX := fun e S => (f e S).bind fun x S1 => (g e S1).bind fun y S2 => match cmpOp op x y S2 with
  | some true => (h e S2).bind fun z S3 => blv (cmpOp op' y z S3) S3
  | some false => .ok (.d (.bl false)) S2
  | none => .stuck
def nonX (x : XV) : Bool := match x with
  | .d .non => true
  | _ => false
def mIsN (neg : Bool) (f : DX) : DX := fun e S => (f e S).bind fun x S1 => .ok (.d (.bl (xor neg (nonX x)))) S1
def toB (x : XV) (S1 : Store) : Out Bool := match x with
  | .d (.bl b) => .ok b S1
  | _ => .stuck
def tOf (f : DX) : DT := fun e S => (f e S).bind toB
def tNot (t : DT) : DT := fun e S => (t e S).bind fun b S1 => .ok (!b) S1
def tAnd (t u : DT) : DT := fun e S => (t e S).bind fun b S1 => if b then u e S1 else .ok false S1
def tOr (t u : DT) : DT := fun e S => (t e S).bind fun b S1 => if b then .ok true S1 else u e S1
def ofT (t : DT) : DX := fun e S => (t e S).bind fun b S1 => .ok (.d (.bl b)) S1
def mAndV (f g : DX) : DX := fun e S => (f e S).bind fun x S1 => match x with
  | .d (.bl true) => g e S1
  | .d (.bl false) => .ok (.d (.bl false)) S1
  | _ => .stuck
def mOrV (f g : DX) : DX := fun e S => (f e S).bind fun x S1 => match x with
  | .d (.bl true) => .ok (.d (.bl true)) S1
  | .d (.bl false) => g e S1
  | _ => .stuck
def mIf (t : DT) (f g : DX) : DX := fun e S => (t e S).bind fun b S1 => if b then f e S1 else g e S1
def mTup (fs : List DX) : DX := fun e S => (mArgs fs e S).bind fun ds S1 => if lok ds.length then .ok (.d (.tup ds)) S1 else .stuck
def mLst (fs : List DX) : DX := fun e S => (mArgs fs e S).bind fun ds S1 => if lok ds.length then .ok (.fl ds) S1 else .stuck
def mIx (f g : DX) : DX := fun e S => (f e S).bind fun x S1 => (g e S1).bind fun y S2 => okv (α := Unit) (opIx x y S2) S2
abbrev DO := Env → Store → Out (Option Int)
def oNone : DO := fun _ S => .ok none S
def oSome (f : DX) : DO := fun e S => (f e S).bind fun x S1 => match x with
  | .d (.int i) => .ok (some i) S1
  | _ => .stuck
def mSl (f : DX) (lo hi : DO) : DX := fun e S => (f e S).bind fun x S1 => (lo e S1).bind fun l S2 => (hi e S2).bind fun h S3 => okv (α := Unit) (opSl x l h S3) S3
def mB1 (b : B1) (f : DX) : DX := fun e S => (f e S).bind fun x S1 => okv (α := Unit) (opB1 b x S1) S1
def mIsi (t : Ty) (f : DX) : DX := fun e S => (mD f e S).bind fun d S1 => blv (isT t d S1) S1
def fldOf (d : D) (S : Store) : Option (Nat × Nat × List (Str × D)) := match d with
  | .ref r => (match S[r]? with
    | some (.ins c fs) => some (r, c, fs)
    | _ => none)
  | _ => none
/-- an attribute of an instance -/
def mFld (C : Cfg) (f : DX) (x : Str) : DX := fun e S => (f e S).bind fun v S1 => match v with
  | .d d => (match fldOf d S1 with
    | some (_, c, fs) => (match C.fld c x, fs.lookup x with
      | true, some w => .ok (.d w) S1
      | _, _ => .stuck)
    | none => .stuck)
  | _ => .stuck
/-- .. of the exception that is handled -/
def mExn (i : Nat) (x : Str) : DX := fun e S => match e[i]? with
  | some (some (.exn fs)) => (match fs.lookup x with
    | some w => .ok (.d w) S
    | none => .stuck)
  | _ => .stuck
def xv (o : Out D) : Out XV := match o with
  | .ok d S => .ok (.d d) S
  | .exc c fs S => .exc c fs S
  | .stuck => .stuck
def mCall (C : Cfg) (i : Nat) (fs : List DX) : DX := if arityOk C i fs.length then fun e S => (mArgs fs e S).bind fun ds S1 => xv (C.calls i (fillD C i ds) S1) else stuckX
/-- a new instance, its __init__ -/
def mMake (C : Cfg) (c : Nat) (fs : List DX) : DX := match C.ini c with
  | some i => if arityOk C i (fs.length + 1) then fun e S => (mArgs fs e S).bind fun ds S1 => (C.inis i (fillD C i (.ref S1.length :: ds)) (S1 ++ [.ins c []])).bind fun v S2 => (match v with
    | .non => .ok (.d (.ref S1.length)) S2
    | _ => .stuck) else stuckX
  | none => stuckX
def isStrD : D → Bool
  | .str _ => true
  | _ => false
/-- the receiver fits the method -/
def recOk (m : M1) (d : D) (S : Store) : Bool := match m with
  | .append => (lstOf d S).isSome
  | .extend => (lstOf d S).isSome
  | .pop => (lstOf d S).isSome
  | .popAt => (lstOf d S).isSome
  | .insert => (lstOf d S).isSome
  | _ => isStrD d
def mArg1 (k : M1) (d : D) (fs : List DX) : DX := fun e S1 => match fs with
  | [] => opL0 k d S1
  | [g] => (g e S1).bind fun y S2 => opL1 k d y S2
  | [g, h] => (mD g e S1).bind fun y S2 => (mD h e S2).bind fun z S3 => opL2 k d y z S3
  | _ => .stuck
/-- o.m(..): of an instance, or of a list or a text -/
def mMeth (C : Cfg) (m : Str) (f : DX) (fs : List DX) : DX := fun e S => match mD f e S with
  | .ok d S1 => (match fldOf d S1 with
    | some (_, c, gs) => (match gs.lookup m, C.mth c m with
      | none, some i => if arityOk C i (fs.length + 1) then (mArgs fs e S1).bind fun ds S2 => xv (C.calls i (fillD C i (d :: ds)) S2) else .stuck
      | _, _ => .stuck)
    | none => (match m1name m fs.length with
      | some k => if recOk k d S1 then mArg1 k d fs e S1 else .stuck
      | none => .stuck))
  | _ => .stuck
/-- what a loop walks: items, or a list of the store by its place -/
inductive It1 where
  | items (ds : List D) | live (r : Nat)
abbrev DI := Env → Store → Out It1
/-- the i-th item, if there is one -/
def nextOf (w : It1) (S : Store) (i : Nat) : Option (Option D) := match w with
  | .items ds => some ds[i]?
  | .live r => (match S[r]? with
    | some (.lst ds) => some ds[i]?
    | _ => none)
def turns (fuel : Nat) (w : It1) : Nat := match w with
  | .items ds => ds.length + 1
  | .live _ => fuel
def iOf (f : DX) : DI := fun e S => (f e S).bind fun x S1 => match x with
  | .fl ds => .ok (.items ds) S1
  | .d (.tup ds) => .ok (.items ds) S1
  | .d (.kl ds) => .ok (.items ds) S1
  | .d (.str z) => .ok (.items (z.cps.toList.map fun c => D.str ⟨#[c]⟩)) S1
  | .d (.ref r) => (match S1[r]? with
    | some (.lst _) => .ok (.live r) S1
    | _ => .stuck)
  | _ => .stuck
def rngOk (i : Int) : Bool := Nat.ble i.natAbs 4611686018427387903
theorem rngOk_iff {i : Int} (h : rngOk i = true) : -(2 ^ 62) ≤ i ∧ i < 2 ^ 62 := by
  have := Nat.le_of_ble_eq_true h
  omega
theorem rngOk_of {i : Int} (h : -(2 ^ 62) < i ∧ i < 2 ^ 62) : rngOk i = true := Nat.ble_eq_true_of_le (by omega)
def upto (lo : Int) (n : Nat) : List D := (List.range n).map fun (k : Nat) => D.int (lo + (k : Int))
def iRng1 (f : DX) : DI := fun e S => (f e S).bind fun x S1 => match x with
  | .d (.int j) => if rngOk j then .ok (.items (upto 0 j.toNat)) S1 else .stuck
  | _ => .stuck
def rng2 (x y : XV) (S2 : Store) : Out It1 := match x, y with
  | .d (.int i), .d (.int j) => if rngOk i && rngOk j then .ok (.items (upto i (j - i).toNat)) S2 else .stuck
  | _, _ => .stuck
def iRng2 (f g : DX) : DI := fun e S => (f e S).bind fun x S1 => (g e S1).bind fun y S2 => rng2 x y S2
/-- a target: a store's slots, attributes -/
abbrev DG := D → Env → Store → Fl
def gStuck : DG := fun _ _ _ => .stuck
def gVar (i : Nat) : DG := fun d e S => .next (e.set i (some d)) S
def gAll : List DG → List D → Env → Store → Fl
  | [], [], e, S => .next e S
  | g :: gs, d :: ds, e, S => (match g d e S with
    | .next e1 S1 => gAll gs ds e1 S1
    | _ => .stuck)
  | _, _, _, _ => .stuck
def gTup (gs : List DG) : DG := fun d e S => match d with
  | .tup ds => if ds.length = gs.length then gAll gs ds e S else .stuck
  | _ => .stuck
/-- the attribute x of the instance at r gets d -/
def putFD (f : Str) (v : D) : List (Str × D) → List (Str × D)
  | [] => [(f, v)]
  | (g, w) :: r => if g = f then (f, v) :: r else (g, w) :: putFD f v r
def gFld (C : Cfg) (f : DX) (x : Str) : DG := fun d e S => match f e S with
  | .ok (.d o) S1 => (match fldOf o S1 with
    | some (r, c, fs) => if C.fld c x && decide (fs.length < 1000) then .next e (S1.set r (.ins c (putFD x d fs))) else .stuck
    | none => .stuck)
  | _ => .stuck
def gSub (f g : DX) : DG := fun d e S => match f e S with
  | .ok (.d o) S1 => (match g e S1 with
    | .ok (.d (.int i)) S2 => (match lstOf o S2 with
      | some (r, ds) => (match ixN ds.length i with
        | some k => .next e (S2.set r (.lst (ds.set k d)))
        | none => .stuck)
      | none => .stuck)
    | _ => .stuck)
  | _ => .stuck

def wipeE (e : Env) : List Nat → Env
  | [] => e
  | v :: vs => (wipeE e vs).set v none
/-- [elt for tg in .. if t]: the block's names are the slots own -/
def lcRun (own : List Nat) (g : DG) (t : DT) (f : DX) (e0 : Env) (w : It1) : Nat → Nat → Store → List D → Out XV
  | 0, _, _, _ => .stuck
  | n + 1, i, S, acc => (match nextOf w S i with
    | none => .stuck
    | some none => .ok (.fl acc) S
    | some (some d) => (match g d (wipeE e0 own) S with
      | .next e1 S1 => (match t e1 S1 with
        | .ok true S2 => (match mD f e1 S2 with
          | .ok v S3 => if decide (acc.length < sizeLine) then lcRun own g t f e0 w n (i + 1) S3 (acc ++ [v]) else .stuck
          | _ => .stuck)
        | .ok false S2 => lcRun own g t f e0 w n (i + 1) S2 acc
        | _ => .stuck)
      | _ => .stuck))
def mLc (fuel : Nat) (own : List Nat) (i : DI) (g : DG) (t : DT) (f : DX) : DX := fun e S => (i e S).bind fun w S1 => lcRun own g t f e w (turns fuel w) 0 S1 []
def tYes : DT := fun _ S => .ok true S

/-! ### statements -/
def sStuck : DS := fun _ _ => .stuck
def sNext : DS := fun e S => .next e S
def sSeq (f g : DS) : DS := fun e S => match f e S with
  | .next e1 S1 => g e1 S1
  | o => o
def flD (o : Out D) (e : Env) (k : D → Store → Fl) : Fl := match o with
  | .ok d S => k d S
  | .exc c fs S => .exc c fs e S
  | .stuck => .stuck
def flX (o : Out XV) (e : Env) (k : XV → Store → Fl) : Fl := match o with
  | .ok d S => k d S
  | .exc c fs S => .exc c fs e S
  | .stuck => .stuck
def sExpr (f : DX) : DS := fun e S => flX (f e S) e fun _ S1 => .next e S1
def sRet (f : DX) : DS := fun e S => flD (mD f e S) e fun d S1 => .ret d S1
def gRun (g : DG) (d : D) (e : Env) (S : Store) : Fl := match g d e S with
  | .next e1 S1 => .next e1 S1
  | _ => .stuck
def sAsg (f : DX) (g : DG) : DS := fun e S => flD (mD f e S) e fun d S1 => gRun g d e S1
/-- a, b = x, y: both sides side by side -/
def sPar (fs : List DX) (is : List Nat) : DS := fun e S => match mArgs fs e S with
  | .ok ds S1 => gRun (fun d => match d with
    | .tup ds => gAll (is.map gVar) ds
    | _ => gStuck .non) (.tup ds) e S1
  | .exc c x S1 => .exc c x e S1
  | .stuck => .stuck
def sIf (t : DT) (f g : DS) : DS := fun e S => match t e S with
  | .ok true S1 => f e S1
  | .ok false S1 => g e S1
  | .exc c fs S1 => .exc c fs e S1
  | .stuck => .stuck
def opAug : Operator → Option (Int → Int → Int)
  | .Add => some fun x y => x + y
  | .Sub => some fun x y => x - y
  | _ => none
def augI (fo : Int → Int → Int) (a : D) (y : XV) : Option D := match a, y with
  | .int x, .d (.int y) => some (.int (fo x y))
  | _, _ => none
def augV1 (fo : Int → Int → Int) (i : Nat) (a : D) (e : Env) (y : XV) (S1 : Store) : Fl := match augI fo a y with
  | some z => .next (e.set i (some z)) S1
  | none => .stuck
def sAugV (op : Operator) (i : Nat) (f : DX) : DS := match opAug op with
  | none => sStuck
  | some fo => fun e S => match e[i]? with
    | some (some (.exn _)) => .stuck
    | some (some a) => flX (f e S) e fun y S1 => augV1 fo i a e y S1
    | _ => .stuck
def augF1 (fo : Int → Int → Int) (d : D) (c : Nat) (x : Str) (a : D) (e : Env) (y : XV) (S2 : Store) : Fl := match augI fo a y, fldOf d S2 with
  | some z, some (r2, c2, fs2) => if decide (c2 = c ∧ fs2.length < 1000) then .next e (S2.set r2 (.ins c2 (putFD x z fs2))) else .stuck
  | _, _ => .stuck
def augF2 (C : Cfg) (fo : Int → Int → Int) (x : Str) (f : DX) (e : Env) (w : XV) (S1 : Store) : Fl := match w with
  | .d d => (match fldOf d S1 with
    | some (_, c, fs) => (match C.fld c x, fs.lookup x with
      | true, some a => flX (f e S1) e fun y S2 => augF1 fo d c x a e y S2
      | _, _ => .stuck)
    | none => .stuck)
  | _ => .stuck
def sAugF (C : Cfg) (op : Operator) (o : DX) (x : Str) (f : DX) : DS := match opAug op with
  | none => sStuck
  | some fo => fun e S => flX (o e S) e fun w S1 => augF2 C fo x f e w S1
def forRun (g : DG) (b : DS) (w : It1) : Nat → Nat → DS
  | 0, _, _, _ => .stuck
  | n + 1, i, e, S => (match nextOf w S i with
    | none => .stuck
    | some none => .next e S
    | some (some d) => (match g d e S with
      | .next e1 S1 => (match b e1 S1 with
        | .next e2 S2 => forRun g b w n (i + 1) e2 S2
        | .cont e2 S2 => forRun g b w n (i + 1) e2 S2
        | .brk e2 S2 => .next e2 S2
        | o => o)
      | _ => .stuck))
def sFor (fuel : Nat) (i : DI) (g : DG) (b : DS) : DS := fun e S => match i e S with
  | .ok w S1 => forRun g b w (turns fuel w) 0 e S1
  | .exc c fs S1 => .exc c fs e S1
  | .stuck => .stuck
def sWhile (t : DT) (b : DS) : Nat → DS
  | 0, _, _ => .stuck
  | n + 1, e, S => (match t e S with
    | .ok true S1 => (match b e S1 with
      | .next e2 S2 => sWhile t b n e2 S2
      | .cont e2 S2 => sWhile t b n e2 S2
      | .brk e2 S2 => .next e2 S2
      | o => o)
    | .ok false S1 => .next e S1
    | .exc c fs S1 => .exc c fs e S1
    | .stuck => .stuck)

/-! ### from the text -/
def denC : Const → DX
  | .none => mC .non
  | .bool b => mC (.bl b)
  | .int i => mC (.int i)
  | .str x => mC (.str x)
  | _ => stuckX
/-- the slot of a name -/
def slot (s : Sc) (x : Str) : Option Nat := if x == ("__debug__" : Str) || x == ("__classdict__" : Str) then none else match s.sc.names.lookup x with
  | some .local => (if s.N[s.N.idxOf x]? = some x then some (s.N.idxOf x) else none)
  | some .cell => (if s.N[s.N.idxOf x]? = some x then some (s.N.idxOf x) else none)
  | some .free => (if s.N[s.N.idxOf x]? = some x then some (s.N.idxOf x) else none)
  | _ => none
/-- .. of a name that may be stored -/
def slotL (s : Sc) (x : Str) : Option Nat := match s.sc.names.lookup x with
  | some .local => slot s x
  | some .cell => if s.st x then slot s x else none
  | _ => none
def isGl (s : Sc) (x : Str) : Bool := match s.sc.names.lookup x with
  | some .globalImplicit => !(x == ("__debug__" : Str))
  | _ => false
def denN (x : Str) (s : Sc) : DX := match slot s x with
  | some i => mVar i
  | none => if isGl s x then (match s.C.gl.lookup x with
    | some (.con d) => mC d
    | some (.fn i) => mC (.fn i)
    | _ => stuckX) else stuckX
def noStar : Expr → Bool
  | .Starred _ _ => false
  | _ => true
def noStars (es : List Expr) : Bool := es.all noStar
def isBase : Expr → Bool
  | .Call _ _ _ _ => false
  | _ => true
def plainIx : Expr → Bool
  | .Slice _ _ _ _ => false
  | _ => true
/-- as a value, as a test, as what a loop walks -/
structure Dn where
  x : DX
  t : DT
  i : DI
  lo : DO := oNone
  hi : DO := oNone
  b : DX := stuckX
def dn (f : DX) : Dn := { x := f, t := tOf f, i := iOf f }
def dnT (f : DX) (t : DT) : Dn := { x := f, t := t, i := iOf f }
def dnI (i : DI) : Dn := { x := stuckX, t := tOf stuckX, i := i }
def dnO (lo hi : DO) : Dn := { x := stuckX, t := tOf stuckX, i := iOf stuckX, lo := lo, hi := hi }
def dnB (d : Dn) (f : DX) : Dn := { d with b := f }
def dnStuck : Dn := dn stuckX
mutual
def tgt : Expr → Sc → DG
  | .Name x _, s => (match slotL s x with
    | some i => gVar i
    | none => gStuck)
  | .Tuple es _ _, s => if s.calm && noStars es then gTup (tgts es s) else gStuck
  | _, _ => gStuck
def tgts : List Expr → Sc → List DG
  | [], _ => []
  | e :: r, s => tgt e s :: tgts r s
end
/-! the slots that a target stores -/
mutual
def tslots : Expr → Sc → List Nat
  | .Name x _, s => (slotL s x).toList
  | .Tuple es _ _, s => tslotsL es s
  | _, _ => []
def tslotsL : List Expr → Sc → List Nat
  | [], _ => []
  | e :: r, s => tslots e s ++ tslotsL r s
end
/-- where a comprehension's block stands -/
def inBlk (s : Sc) (scope : Scope) : Sc := { s with sc := relS scope s.sc, st := fun x => scope.names.lookup x == some .cell }
def noSet : Expr → Bool
  | .Set _ _ _ => false
  | _ => true
/-- the slots that a comprehension's block owns -/
def ownOf (N : List Str) (scope : Scope) : List (Str × Nat) := (scope.names.filter fun y => N.contains y.1 && (match y.2 with
  | .local => true
  | .cell => true
  | _ => false)).map fun y => (y.1, N.idxOf y.1)
def isBl (s : Sc) (x : Str) : Bool := isGl s x && (s.C.gl.lookup x).isNone && s.C.bl.contains x
def andX : List Dn → DX
  | [] => stuckX
  | [a] => a.x
  | a :: r => mAndV a.x (andX r)
def orX : List Dn → DX
  | [] => stuckX
  | [a] => a.x
  | a :: r => mOrV a.x (orX r)
def andT : List Dn → DT
  | [] => fun _ _ => .stuck
  | [a] => a.t
  | a :: r => tAnd a.t (andT r)
def orT : List Dn → DT
  | [] => fun _ _ => .stuck
  | [a] => a.t
  | a :: r => tOr a.t (orT r)
def isListComp : Expr → Bool
  | .ListComp _ _ _ _ => true
  | .SetComp _ _ _ _ => true
  | .DictComp _ _ _ _ _ => true
  | _ => false
end L3


/-! L3C: operators, comparisons, subscripts, built-in functions and methods keep their meaning. -/
namespace L3
open PySem PySem.Spec PyProof.Rows L2

section
variable {T : Tab} {K : PySem.W.Frag} {μ μ' : Mu} {S S' : Store} {H H' : Hp}
/-- how a value lies, whenever it came -/
def RW (T : Tab) (K : PySem.W.Frag) (μ : Mu) (H : Hp) (v : V) : XV → Prop
  | .d d => DV T K μ H v d
  | .fl ds => ∃ p vs, v = .ref p ∧ H p = some (.lst vs) ∧ DVs T K μ H vs ds ∧ p ∉ μ
theorem RX.w {H0 : Hp} {v : V} {x : XV} (h : (RX T K).r μ H0 H v x) : RW T K μ H v x := by
  cases x with
  | d d => exact h
  | fl ds => obtain ⟨p, vs, a, b, c, d, _⟩ := h; exact ⟨p, vs, a, b, c, d⟩
theorem RW.tr (R : Rep T K μ S H) (t : Tr μ H μ' H') {v : V} {x : XV} (h : RW T K μ H v x) : RW T K μ' H' v x := by
  cases x with
  | d d => exact t.dv R h
  | fl ds =>
    obtain ⟨p, vs, a, b, c, d⟩ := h
    exact ⟨p, vs, a, t.old p _ b d, t.dvs R c, fun m => (t.new p m).elim d fun z => by rw [b] at z; cases z⟩
theorem its_ok {v : V} {x : XV} {ds : List D} (R : Rep T K μ S H) (h : RW T K μ H v x) (e : its x S = some ds) : ∃ p vs, v = .ref p ∧ (SqL K H p vs ∨ SqT K H p vs) ∧ DVs T K μ H vs ds := by
  unfold its at e
  split at e
  · cases e; obtain ⟨p, vs, a, b, c, _⟩ := h; exact ⟨p, vs, a, .inl (.of b), c⟩
  · cases e; cases h with | tup a b => exact ⟨_, _, rfl, .inr a, b⟩
  · cases e; cases h with | kl a b => exact ⟨_, _, rfl, .inl a.l, b⟩
  · split at e
    · rename_i q; cases e; cases h with | ref a => obtain ⟨vs, b, c⟩ := R.ob _ _ _ a q; exact ⟨_, vs, rfl, .inl (.of b), c⟩
    · cases e
  · cases e
theorem itsL_ok {v : V} {x : XV} {ds : List D} (R : Rep T K μ S H) (h : RW T K μ H v x) (e : itsL x S = some ds) : ∃ p vs, v = .ref p ∧ SqL K H p vs ∧ DVs T K μ H vs ds := by
  unfold itsL at e
  split at e
  · cases e
  · rename_i hn
    unfold its at e
    split at e
    · cases e; obtain ⟨p, vs, a, b, c, _⟩ := h; exact ⟨p, vs, a, .of b, c⟩
    · exact absurd rfl (hn _)
    · cases e; cases h with | kl a b => exact ⟨_, _, rfl, a.l, b⟩
    · split at e
      · rename_i q; cases e; cases h with | ref a => obtain ⟨vs, b, c⟩ := R.ob _ _ _ a q; exact ⟨_, vs, rfl, .of b, c⟩
      · cases e
    · cases e
theorem itsW_ok {v : V} {x : XV} {ds : List D} (R : Rep T K μ S H) (h : RW T K μ H v x) (e : itsW x S = some ds) : ∃ p vs, v = .ref p ∧ H p = some (.lst vs) ∧ DVs T K μ H vs ds := by
  unfold itsW at e
  split at e
  · cases e; obtain ⟨p, vs, a, b, c, _⟩ := h; exact ⟨p, vs, a, b, c⟩
  · split at e
    · rename_i q; cases e; cases h with | ref a => obtain ⟨vs, b, c⟩ := R.ob _ _ _ a q; exact ⟨_, vs, rfl, b, c⟩
    · cases e
  · cases e
theorem lok_le {n : Nat} (h : lok n = true) : n ≤ sizeLine := of_decide_eq_true h
/-- a new list, a new tuple -/
theorem new_fl (R : Rep T K μ S H) {vs : List V} {ds : List D} (h : DVs T K μ H vs ds) {p : Addr} (hp : H p = none) {Q : VK}
    (q : ∀ v H', Rep T K μ S H' → (RX T K).r μ H H' v (.fl ds) → Tr μ H μ H' → Q v H') : Q (.ref p) (upd H p (.lst vs)) :=
  q _ _ (R.laid hp) ⟨p, vs, rfl, upd_same, (Tr.laid hp).dvs R h, R.outN hp, hp⟩ (Tr.laid hp)
theorem new_tup (R : Rep T K μ S H) {vs : List V} {ds : List D} (h : DVs T K μ H vs ds) {p : Addr} (hp : H p = none) {Q : VK}
    (q : ∀ v H', Rep T K μ S H' → (RX T K).r μ H H' v (.d (.tup ds)) → Tr μ H μ H' → Q v H') : Q (.ref p) (upd H p (.tup vs)) :=
  q _ _ (R.laid hp) (.tup (.of upd_same) ((Tr.laid hp).dvs R h)) (Tr.laid hp)
end

/-- an operation on two values that leaves the store as it was -/
def rOp (T : Tab) (K : PySem.W.Frag) (k : XV → XV → Store → Option XV) : R2 := fun x y H Q => ∃ μ S a b z, Rep T K μ S H ∧ RW T K μ H x a ∧ RW T K μ H y b ∧ k a b S = some z ∧
  ∀ v H', Rep T K μ S H' → (RX T K).r μ H H' v z → Tr μ H μ H' → Q v H'
def rOpB (T : Tab) (K : PySem.W.Frag) (k : XV → XV → Store → Option Bool) : R2 := fun x y H Q => ∃ μ S a b z, Rep T K μ S H ∧ RW T K μ H x a ∧ RW T K μ H y b ∧ k a b S = some z ∧ Q (.bl z) H
section
variable {T : Tab} {X : Cx}
theorem bin_ok : ∀ op, OpR X (binaryOp op) (rOp T X.K (opBin op)) := by
  intro op pins s σ H x y v u Q I rx ry h
  obtain ⟨μ, S, a, b, z, R, ra, rb, hz, q⟩ := h
  cases op with
  | Add =>
    simp only [opBin] at hz
    split at hz
    · cases hz; cases ra; cases rb
      exact op_add pins s σ H _ _ v u Q I rx ry ⟨_, _, rfl, rfl, q _ _ R (.int _) .refl⟩
    · split at hz
      · rename_i hl; cases hz; cases ra; cases rb
        exact op_add_str pins s σ H _ _ v u Q I rx ry ⟨_, _, rfl, rfl, lok_le hl, q _ _ R (.str _) .refl⟩
      · cases hz
    · split at hz
      · rename_i hl; cases hz
        cases ra with | tup a1 a2 => cases rb with | tup b1 b2 =>
        have hll := lok_le hl
        rw [← a2.length, ← b2.length] at hll
        refine op_catA pins s σ H _ _ v u Q I rx ry ⟨_, _, _, _, rfl, rfl, a1, b1, hll, fun e => ?_, fun _ e => ?_, fun _ _ p hp => ?_⟩
        · subst e; cases a2
          exact q _ _ R (.tup b1 b2) .refl
        · subst e; cases b2
          rw [List.append_nil] at q
          exact q _ _ R (.tup a1 a2) .refl
        · exact new_tup R (a2.append b2) hp q
      · cases hz
    · split at hz
      · rename_i e1 e2
        split at hz
        · rename_i hl; cases hz
          obtain ⟨p, vs, rfl, h1, d1⟩ := itsW_ok R ra e1
          obtain ⟨p2, vs2, rfl, h2, d2⟩ := itsW_ok R rb e2
          have hll := lok_le hl
          rw [← d1.length, ← d2.length] at hll
          exact op_cat pins s σ H _ _ v u Q I rx ry ⟨_, _, _, _, rfl, rfl, h1, h2, hll, fun p hp => new_fl R (d1.append d2) hp q⟩
        · cases hz
      · cases hz
  | Sub =>
    simp only [opBin] at hz
    split at hz
    · cases hz; cases ra; cases rb
      exact op_sub pins s σ H _ _ v u Q I rx ry ⟨_, _, rfl, rfl, q _ _ R (.int _) .refl⟩
    · cases hz
  | Mult =>
    simp only [opBin] at hz
    split at hz
    · split at hz
      · rename_i i j hm; cases hz; cases ra; cases rb
        have hm : i.natAbs.log2 + j.natAbs.log2 < 1000000 := of_decide_eq_true hm
        exact op_mulW pins s σ H _ _ v u Q I rx ry ⟨_, _, rfl, rfl, hm, q _ _ R (.int _) .refl⟩
      · cases hz
    · split at hz
      · rename_i e1
        split at hz
        · rename_i hm; cases hz; cases rb
          obtain ⟨p, vs, rfl, h1, d1⟩ := itsW_ok R ra e1
          obtain ⟨hb, hl⟩ := Bool.and_eq_true_iff.mp hm
          have hb := of_decide_eq_true hb
          have hll := lok_le hl
          rw [← d1.length] at hll
          exact op_rep pins s σ H _ _ v u Q I rx ry ⟨_, _, _, rfl, rfl, h1, hb.1, hb.2, hll, fun p hp => new_fl R (d1.rep _) hp q⟩
        · cases hz
      · cases hz
    · cases hz
  | FloorDiv =>
    simp only [opBin] at hz
    split at hz
    · split at hz
      · rename_i i j hm; cases hz; cases ra; cases rb
        have hm : 0 < j ∧ j.natAbs.log2 < 9000 := of_decide_eq_true hm
        exact op_fdivW pins s σ H _ _ v u Q I rx ry ⟨_, _, rfl, rfl, hm, q _ _ R (.int _) .refl⟩
      · cases hz
    · cases hz
  | Mod =>
    simp only [opBin] at hz
    split at hz
    · split at hz
      · rename_i i j hm; cases hz; cases ra; cases rb
        have hj := of_decide_eq_true hm
        refine op_modN pins s σ H _ _ v u Q I rx ry ⟨_, _, rfl, rfl, by omega, ?_⟩
        show Q (V.int (i.fmod j)) H
        rw [Int.fmod_eq_emod_of_nonneg _ (Int.le_of_lt hj)]
        exact q _ _ R (.int _) .refl
      · cases hz
    · cases hz
  | Pow =>
    simp only [opBin] at hz
    split at hz
    · split at hz
      · rename_i i j hm; cases hz; cases ra; cases rb
        have hm : 0 ≤ j ∧ j ≤ 1000000 ∧ i.natAbs < 2 ^ 64 := of_decide_eq_true hm
        exact op_pow pins s σ H _ _ v u Q I rx ry ⟨_, _, rfl, rfl, hm, q _ _ R (.int _) .refl⟩
      · cases hz
    · cases hz
  | _ => cases hz
end

/-! ### plain data -/
section
variable {T : Tab} {K : PySem.W.Frag} {μ : Mu} {S : Store} {H : Hp}
mutual
theorem toP_ok (R : Rep T K μ S H) : ∀ (n : Nat) {d : D} {v : V} {p : PyData}, DV T K μ H v d → toP S n d = some p → Dp K H v p
  | 0, _, _, _, _, e => by cases e
  | n + 1, d, v, p, h, e => by
    cases h with
    | non => cases e; exact .non
    | bl b => cases e; exact .bl b
    | int i => cases e; exact .int i
    | str x => cases e; exact .str x
    | @tup a vs ds h1 h2 =>
      have e : (toPs S n ds).map PyData.tuple = some p := e
      cases q : toPs S n ds with
      | none => rw [q] at e; cases e
      | some ps => rw [q] at e; cases e; exact .tup h1 (toPs_ok R n h2 q)
    | @ref a i h1 =>
      have e : (match S[i]? with
        | some (.lst ds) => (toPs S n ds).map PyData.list
        | _ => none) = some p := e
      split at e
      · rename_i ds q1
        obtain ⟨vs, b, c⟩ := R.ob _ _ _ h1 q1
        cases q : toPs S n ds with
        | none => rw [q] at e; cases e
        | some ps => rw [q] at e; cases e; exact .lst (.of b) (toPs_ok R n c q)
      · cases e
    | fn => cases e
    | kl _ _ => cases e
theorem toPs_ok (R : Rep T K μ S H) : ∀ (n : Nat) {ds : List D} {vs : List V} {ps : List PyData}, DVs T K μ H vs ds → toPs S n ds = some ps → DpAll K H vs ps
  | n, [], _, _, .nil, e => by
    have e : some [] = some _ := (by cases n <;> exact e)
    cases e; exact .nil
  | 0, _ :: _, _, _, _, e => by cases e
  | n + 1, d :: ds, _, ps, .cons h1 h2, e => by
    have e : (match toP S n d, toPs S n ds with
      | some p, some ps => some (p :: ps)
      | _, _ => none) = some ps := e
    split at e
    · rename_i q1 q2; cases e; exact .cons (toP_ok R n h1 q1) (toPs_ok R n h2 q2)
    · cases e
end
theorem toPX_ok (R : Rep T K μ S H) {x : XV} {v : V} {p : PyData} (h : RW T K μ H v x) (e : toPX S x = some p) : Dp K H v p := by
  cases x with
  | d d => exact toP_ok R _ h e
  | fl ds =>
    obtain ⟨a, vs, rfl, h1, h2, _⟩ := h
    have e : (toPs S 5000 ds).map PyData.list = some p := e
    cases q : toPs S 5000 ds with
    | none => rw [q] at e; cases e
    | some ps => rw [q] at e; cases e; exact .lst (.of h1) (toPs_ok R _ h2 q)
theorem flat_ok {d : D} {v : V} (h : DV T K μ H v d) (f : flatD d = true) : flatV v = true := by
  cases h <;> first | rfl | exact f
theorem eqV_ok {d e : D} {v w : V} (h : DV T K μ H v d) (h' : DV T K μ H w e) (f : flatD d = true) (g : flatD e = true) : eqV v w = eqD d e := by
  cases h <;> cases h' <;> first | rfl | (exact absurd f (by simp [flatD])) | (exact absurd g (by simp [flatD]))
theorem inV_ok {d : D} {v : V} (h : DV T K μ H v d) (f : flatD d = true) : ∀ {ds : List D} {vs : List V}, DVs T K μ H vs ds → ds.all flatD = true → (vs.all flatV = true ∧ inV v vs = ds.any fun e => eqD e d)
  | [], _, .nil, _ => ⟨rfl, rfl⟩
  | e :: ds, _, .cons h1 h2, g => by
    rw [List.all_cons, Bool.and_eq_true] at g
    obtain ⟨i1, i2⟩ := inV_ok h f h2 g.2
    refine ⟨by rw [List.all_cons, flat_ok h1 g.1, i1]; rfl, ?_⟩
    rw [List.any_cons, ← i2, ← eqV_ok h1 h g.1 f]; rfl
end

section
variable {T : Tab} {X : Cx}
theorem deep_ok (hu : X.A.units + 64 < cLine) {pins : List (Addr × Obj)} {s : Shared} {σ : L2.St} {H : Hp} {x y : V} {v u : Value} {μ : Mu} {S : Store} {a b : XV} {z : Bool} {Q : Value → Shared → Prop} (I : Inv X pins σ H s) (rx : RelV x v) (ry : RelV y u)
    (R : Rep T X.K μ S H) (ra : RW T X.K μ H x a) (rb : RW T X.K μ H y b) (hz : deepEq a b S = some z) (q : Q (.bool z) s) : wpAny (model X.prog X.w) X.A (compareOp .Eq v u) Q X.xe s := by
  unfold deepEq at hz
  split at hz
  · rename_i da db e1 e2
    split at hz
    · rename_i hc
      obtain ⟨hc, h3⟩ := Bool.and_eq_true_iff.mp hc
      obtain ⟨h1, h2⟩ := Bool.and_eq_true_iff.mp hc
      have h3 := of_decide_eq_true h3
      obtain ⟨as, r1⟩ := Dp.reads I da x v (toPX_ok R ra e1) rx
      obtain ⟨bs, r2⟩ := Dp.reads I db y u (toPX_ok R rb e2) ry
      cases hz
      exact SeqAt.compareEq_reads r1 r2 h1 h2 (by omega) q
    · cases hz
  · cases hz
theorem eqlist_ok (hu : X.A.units + 64 < cLine) {pins : List (Addr × Obj)} {s : Shared} {σ : L2.St} {H : Hp} {p p2 : Addr} {vs ws : List V} {z : Bool} {Q : Value → Shared → Prop} (I : Inv X pins σ H s)
    (h1 : SqL X.K H p vs) (h2 : SqL X.K H p2 ws) (hz : (vs.length ≠ ws.length ∧ z = false) ∨ (vs = [] ∧ ws = [] ∧ z = true)) (q : Q (.bool z) s) : wpAny (model X.prog X.w) X.A (compareOp .Eq (.ref p) (.ref p2)) Q X.xe s := by
  obtain ⟨its, rv, pl, _⟩ := I.list h1
  obtain ⟨its2, rv2, pl2, _⟩ := I.list h2
  have l1 := rv.length
  have l2 := rv2.length
  rcases hz with ⟨hn, rfl⟩ | ⟨rfl, rfl, rfl⟩
  · exact SeqAt.eq_list_lengthsAt pl.isList pl2.isList (by simp only [List.size_toArray, bne_iff_ne, ne_eq]; omega) (by omega) q
  · cases rv; cases rv2
    refine SeqAt.eq_listAt (e := fun _ => true) pl.isList pl2.isList rfl (by omega) (fun i hi => by simp at hi) ?_
    simpa using q
theorem eq_ok (hu : X.A.units + 64 < cLine) {pins : List (Addr × Obj)} {s : Shared} {σ : L2.St} {H : Hp} {x y : V} {v u : Value} {μ : Mu} {S : Store} {a b : XV} {z : Bool} {Q : VK} (I : Inv X pins σ H s) (rx : RelV x v) (ry : RelV y u)
    (R : Rep T X.K μ S H) (ra : RW T X.K μ H x a) (rb : RW T X.K μ H y b) (hz : cmpEq a b S = some z) (q : Q (.bl z) H) : wpAny (model X.prog X.w) X.A (compareOp .Eq v u) (EP X pins σ Q) X.xe s := by
  have fin : EP X pins σ Q (.bool z) s := ⟨.bl z, H, I, rfl, q⟩
  unfold cmpEq at hz
  split at hz
  iterate 10
    · cases hz; cases ra; cases rb
      first
        | exact op_eq pins s σ H _ _ v u Q I rx ry ⟨rfl, by simpa using q⟩
  · split at hz
    · rename_i e1 e2
      obtain ⟨p, vs, rfl, h1, d1⟩ := itsL_ok R ra e1
      obtain ⟨p2, ws, rfl, h2, d2⟩ := itsL_ok R rb e2
      cases rx; cases ry
      split at hz
      · rename_i hl; cases hz
        refine eqlist_ok hu I h1 h2 (.inl ⟨?_, rfl⟩) fin
        rw [d1.length, d2.length]
        simpa using hl
      · rename_i hl
        split at hz
        · rename_i he; cases hz
          have el : vs.length = ws.length := by rw [d1.length, d2.length]; simpa using hl
          have e0 : vs = [] := List.eq_nil_of_length_eq_zero (by rw [d1.length, List.isEmpty_iff.mp he]; rfl)
          exact eqlist_ok hu I h1 h2 (.inr ⟨e0, List.eq_nil_of_length_eq_zero (by rw [← el, e0]; rfl), rfl⟩) fin
        · exact deep_ok hu I (x := .ref p) (y := .ref p2) rfl rfl R ra rb hz fin
    · exact deep_ok hu I rx ry R ra rb hz fin
theorem ne_ok (hu : X.A.units + 64 < cLine) {pins : List (Addr × Obj)} {s : Shared} {σ : L2.St} {H : Hp} {x y : V} {v u : Value} {μ : Mu} {S : Store} {a b : XV} {z : Bool} {Q : VK} (I : Inv X pins σ H s) (rx : RelV x v) (ry : RelV y u)
    (R : Rep T X.K μ S H) (ra : RW T X.K μ H x a) (rb : RW T X.K μ H y b) (hz : cmpEq a b S = some z) (q : Q (.bl (!z)) H) : wpAny (model X.prog X.w) X.A (compareOp .NotEq v u) (EP X pins σ Q) X.xe s := by
  have fin : EP X pins σ Q (.bool (!z)) s := ⟨.bl (!z), H, I, rfl, q⟩
  have deep : deepEq a b S = some z → wpAny (model X.prog X.w) X.A (compareOp .NotEq v u) (EP X pins σ Q) X.xe s := fun hz => by
    unfold deepEq at hz
    split at hz
    · rename_i da db e1 e2
      split at hz
      · rename_i hc
        obtain ⟨hc, h3⟩ := Bool.and_eq_true_iff.mp hc
        obtain ⟨h1, h2⟩ := Bool.and_eq_true_iff.mp hc
        have h3 := of_decide_eq_true h3
        obtain ⟨as, r1⟩ := Dp.reads I da x v (toPX_ok R ra e1) rx
        obtain ⟨bs, r2⟩ := Dp.reads I db y u (toPX_ok R rb e2) ry
        cases hz
        exact SeqAt.compareNe_reads r1 r2 h1 h2 (by omega) fin
      · cases hz
    · cases hz
  unfold cmpEq at hz
  split at hz
  iterate 10
    · cases hz; cases ra; cases rb
      exact op_ne pins s σ H _ _ v u Q I rx ry ⟨rfl, by simpa using q⟩
  · split at hz
    · rename_i e1 e2
      obtain ⟨p, vs, rfl, h1, d1⟩ := itsL_ok R ra e1
      obtain ⟨p2, ws, rfl, h2, d2⟩ := itsL_ok R rb e2
      cases rx; cases ry
      obtain ⟨its, rv, pl, _⟩ := I.list h1
      obtain ⟨its2, rv2, pl2, _⟩ := I.list h2
      have l1 := rv.length
      have l2 := rv2.length
      have k1 := d1.length
      have k2 := d2.length
      split at hz
      · rename_i hl; cases hz
        have hl := bne_iff_ne.mp hl
        exact SeqAt.RcNeAt.lists_lengths pl.isList pl2.isList (by simp only [List.size_toArray, bne_iff_ne, ne_eq]; omega) (by omega) _ _ _ _ fin
      · rename_i hl
        split at hz
        · rename_i he; cases hz
          have hl := Decidable.not_not.mp fun h => hl (bne_iff_ne.mpr h)
          rw [List.isEmpty_iff.mp he] at k1 hl
          have e1 : its = [] := List.eq_nil_of_length_eq_zero (by rw [← l1, k1]; rfl)
          have e2 : its2 = [] := List.eq_nil_of_length_eq_zero (by rw [← l2, k2, ← hl]; rfl)
          subst e1 e2
          refine SeqAt.RcNeAt.lists (e := fun _ => true) pl.isList pl2.isList rfl (by omega) (fun i hi => by simp at hi) _ _ _ _ ?_
          simpa using fin
        · exact deep hz
    · exact deep hz
theorem in_ok {pins : List (Addr × Obj)} {s : Shared} {σ : L2.St} {H : Hp} {x y : V} {v u : Value} {μ : Mu} {S : Store} {a b : XV} {z : Bool} {Q : VK} (I : Inv X pins σ H s) (rx : RelV x v) (ry : RelV y u)
    (R : Rep T X.K μ S H) (ra : RW T X.K μ H x a) (rb : RW T X.K μ H y b) (hz : cmpIn a b S = some z) : (Q (.bl z) H → wpAny (model X.prog X.w) X.A (compareOp .In v u) (EP X pins σ Q) X.xe s) ∧
      (Q (.bl (!z)) H → wpAny (model X.prog X.w) X.A (compareOp .NotIn v u) (EP X pins σ Q) X.xe s) := by
  unfold cmpIn at hz
  split at hz
  · split at hz
    · rename_i w0 z0 _ c hc
      cases hz; cases ra; cases rb
      have e : w0 = ⟨#[c]⟩ := by
        obtain ⟨l⟩ := w0
        obtain ⟨l⟩ := l
        have hc : l = [c] := hc
        rw [hc]
      subst e
      exact ⟨fun q => op_in_sign pins s σ H _ _ v u Q I rx ry ⟨_, _, rfl, rfl, q⟩, fun q => op_notIn_sign pins s σ H _ _ v u Q I rx ry ⟨_, _, rfl, rfl, q⟩⟩
    · cases hz
  · split at hz
    · rename_i e1
      split at hz
      · rename_i hf
        obtain ⟨f1, f2⟩ := Bool.and_eq_true_iff.mp hf
        obtain ⟨p, vs, rfl, h1, d1⟩ := its_ok R rb e1
        obtain ⟨i1, i2⟩ := inV_ok ra f1 d1 f2
        cases hz
        refine ⟨fun q => op_in_seq pins s σ H _ _ v u Q I rx ry ⟨p, vs, rfl, h1, flat_ok ra f1, i1, ?_⟩, fun q => op_notIn_seq pins s σ H _ _ v u Q I rx ry ⟨p, vs, rfl, h1, flat_ok ra f1, i1, ?_⟩⟩
        · simp only [Bool.false_eq_true, if_false, i2]; exact q
        · simp only [if_true, i2]; exact q
      · cases hz
    · cases hz
  · cases hz
theorem cmp_ok (hu : X.A.units + 64 < cLine) : ∀ op, OpR X (compareOp op) (rOpB T X.K (cmpOp op)) := by
  intro op pins s σ H x y v u Q I rx ry h
  obtain ⟨μ, S, a, b, z, R, ra, rb, hz, q⟩ := h
  cases op with
  | Eq => exact eq_ok hu I rx ry R ra rb hz q
  | NotEq =>
    simp only [cmpOp, Option.map_eq_some_iff] at hz
    obtain ⟨z', hz, rfl⟩ := hz
    exact ne_ok hu I rx ry R ra rb hz q
  | Lt =>
    simp only [cmpOp] at hz
    split at hz
    · cases hz; cases ra; cases rb; exact op_lt pins s σ H _ _ v u Q I rx ry ⟨_, _, rfl, rfl, q⟩
    · cases hz
  | LtE =>
    simp only [cmpOp] at hz
    split at hz
    · cases hz; cases ra; cases rb; exact op_le pins s σ H _ _ v u Q I rx ry ⟨_, _, rfl, rfl, q⟩
    · cases hz
  | Gt =>
    simp only [cmpOp] at hz
    split at hz
    · cases hz; cases ra; cases rb; exact op_gt pins s σ H _ _ v u Q I rx ry ⟨_, _, rfl, rfl, q⟩
    · cases hz
  | GtE =>
    simp only [cmpOp] at hz
    split at hz
    · cases hz; cases ra; cases rb; exact op_ge pins s σ H _ _ v u Q I rx ry ⟨_, _, rfl, rfl, q⟩
    · cases hz
  | In => exact (in_ok I rx ry R ra rb hz).1 q
  | NotIn =>
    simp only [cmpOp, Option.map_eq_some_iff] at hz
    obtain ⟨z', hz, rfl⟩ := hz
    exact (in_ok I rx ry R ra rb hz).2 q
  | Is =>
    simp only [cmpOp] at hz
    split at hz
    · cases hz; cases ra; cases rb; exact op_isBl pins s σ H _ _ v u Q I rx ry ⟨_, _, rfl, rfl, q⟩
    · cases hz
  | IsNot =>
    simp only [cmpOp] at hz
    split at hz
    · cases hz; cases ra; cases rb; exact op_notBl pins s σ H _ _ v u Q I rx ry ⟨_, _, rfl, rfl, q⟩
    · cases hz
end

/-! ### subscripts -/
section
variable {T : Tab} {X : Cx}
theorem atI_dv {K : PySem.W.Frag} {μ : Mu} {H : Hp} {vs : List V} {ds : List D} {i : Int} {d : D} (h : DVs T K μ H vs ds) (e : atI ds i = some d) : ∃ v, atI vs i = some v ∧ DV T K μ H v d := by
  unfold atI at e ⊢
  rw [h.length]
  cases q : ixN ds.length i with
  | none => rw [q] at e; cases e
  | some j => rw [q] at e; exact h.get e
theorem ix_ok : IxR X (rOp T X.K opIx) := by
  intro value slice pins s σ H x y v u Q I rx ry h hs
  obtain ⟨μ, S, a, b, z, R, ra, rb, hz, q⟩ := h
  unfold opIx at hz
  split at hz
  · split at hz
    · rename_i hl
      simp only [Option.map_eq_some_iff] at hz
      obtain ⟨c, e, rfl⟩ := hz
      cases ra; cases rb
      exact ix_str value slice pins s σ H _ _ v u Q I rx ry ⟨_, _, _, rfl, rfl, lok_le hl, e, q _ _ R (.str _) .refl⟩ hs
    · cases hz
  · split at hz
    · rename_i ds e1
      simp only [Option.map_eq_some_iff] at hz
      obtain ⟨d, e, rfl⟩ := hz
      cases rb
      obtain ⟨p, vs, rfl, h1, d1⟩ := its_ok R ra e1
      obtain ⟨w, e2, dw⟩ := atI_dv d1 e
      rcases h1 with h1 | h1
      · exact ix_list value slice pins s σ H _ _ v u Q I rx ry ⟨_, _, _, _, rfl, rfl, h1, e2, q _ _ R dw .refl⟩ hs
      · exact ix_tup value slice pins s σ H _ _ v u Q I rx ry ⟨_, _, _, _, rfl, rfl, h1, e2, q _ _ R dw .refl⟩ hs
    · cases hz
  · cases hz
theorem cut_dv {K : PySem.W.Frag} {μ : Mu} {H : Hp} {vs : List V} {ds : List D} (h : DVs T K μ H vs ds) (lo hi : Option Int) : DVs T K μ H (cutV vs lo hi) (cutD ds lo hi) := by
  unfold cutV cutD
  rw [h.length]
  exact (h.drop _).take _
theorem cut_whole (vs : List V) (lo hi : Option Int) (h : HT.sIx vs.length 0 lo = 0 ∧ HT.sIx vs.length vs.length hi = vs.length) : cutV vs lo hi = vs := by
  unfold cutV
  rw [h.1, h.2, List.drop_zero, Nat.sub_zero, List.take_length]
def rSl (T : Tab) (K : PySem.W.Frag) : V → Option Int → Option Int → Hp → VK → Prop := fun x lo hi H Q => ∃ μ S a z, Rep T K μ S H ∧ RW T K μ H x a ∧ opSl a lo hi S = some z ∧
  ∀ v H', Rep T K μ S H' → (RX T K).r μ H H' v z → Tr μ H μ H' → Q v H'
theorem sl_ok : SlR X (rSl T X.K) := by
  intro pins s σ H x v vl vu lo hi sl Q I rx hs pl pu h
  obtain ⟨μ, S, a, z, R, ra, hz, q⟩ := h
  unfold opSl at hz
  split at hz
  · split at hz
    · rename_i hl; cases hz; cases ra
      exact sl_str pins s σ H _ v vl vu lo hi sl Q I rx hs pl pu ⟨_, rfl, lok_le hl, q _ _ R (.str _) .refl⟩
    · cases hz
  · cases hz
    cases ra with | tup a1 a2 =>
    refine sl_tupA pins s σ H _ v vl vu lo hi sl Q I rx hs pl pu ⟨_, _, rfl, a1, fun hw => ?_, fun _ p hp => new_tup R (cut_dv a2 lo hi) hp q⟩
    have c := cut_dv a2 lo hi
    rw [cut_whole _ _ _ hw] at c
    exact q _ _ R (.tup a1 c) .refl
  · rename_i hn1 hn
    simp only [Option.map_eq_some_iff] at hz
    obtain ⟨ds, e, rfl⟩ := hz
    have e' : itsL a S = some ds := by
      unfold itsL
      split
      · exact absurd rfl (hn _)
      · exact e
    obtain ⟨p, vs, rfl, h1, d1⟩ := itsL_ok R ra e'
    exact sl_list pins s σ H _ v vl vu lo hi sl Q I rx hs pl pu ⟨_, _, rfl, h1, fun p hp => new_fl R (cut_dv d1 lo hi) hp q⟩
end
end L3


/-! L3D: built-in functions and methods; expressions keep their meaning, one construct at a time. -/
namespace L3
open PySem PySem.Spec PyProof.Rows L2

/-! ### built-in functions of one value -/
def rB1 (T : Tab) (K : PySem.W.Frag) (b : B1) : List V → Hp → VK → Prop := fun xs H Q => ∃ x μ S a z, xs = [x] ∧ Rep T K μ S H ∧ RW T K μ H x a ∧ opB1 b a S = some z ∧
  ∀ v H', Rep T K μ S H' → (RX T K).r μ H H' v z → Tr μ H μ H' → Q v H'
theorem bools_ok {T : Tab} {K : PySem.W.Frag} {μ : Mu} {H : Hp} : ∀ {ds : List D} {bs : List Bool} {vs : List V}, bools ds = some bs → DVs T K μ H vs ds → vs = bs.map V.bl
  | [], _, _, e, .nil => by cases e; rfl
  | .bl b :: r, bs, _, e, .cons h t => by
    simp only [bools, Option.map_eq_some_iff] at e
    obtain ⟨bs', e, rfl⟩ := e
    cases h
    rw [bools_ok e t]; rfl
theorem txts_ok {T : Tab} {K : PySem.W.Frag} {μ : Mu} {H : Hp} : ∀ {ds : List D} {bs : List Str} {vs : List V}, txts ds = some bs → DVs T K μ H vs ds → vs = bs.map V.str
  | [], _, _, e, .nil => by cases e; rfl
  | .str b :: r, bs, _, e, .cons h t => by
    simp only [txts, Option.map_eq_some_iff] at e
    obtain ⟨bs', e, rfl⟩ := e
    cases h
    rw [txts_ok e t]; rfl
section
variable {T : Tab} {X : Cx}
theorem b_len : CallR X (.builtin "len") (rB1 T X.K .len) := by
  intro pins s σ H xs us Q I r h
  obtain ⟨x, μ, S, a, z, rfl, R, ra, hz, q⟩ := h
  simp only [opB1] at hz
  split at hz
  · split at hz
    · rename_i hl; cases hz; cases ra
      exact call_len pins s σ H _ us Q I r ⟨_, _, rfl, ⟨lok_le hl, rfl⟩, q _ _ R (.int _) .refl⟩
    · cases hz
  · simp only [Option.map_eq_some_iff] at hz
    obtain ⟨ds, e, rfl⟩ := hz
    obtain ⟨p, vs, rfl, h1, d1⟩ := its_ok R ra e
    refine call_len pins s σ H _ us Q I r ⟨_, vs.length, rfl, ?_, ?_⟩
    · rcases h1 with h1 | h1
      · exact .inl ⟨_, h1, rfl⟩
      · exact .inr ⟨_, h1, rfl⟩
    · rw [d1.length]; exact q _ _ R (.int _) .refl
theorem b_all (hc : X.calm = true) : CallR X (.builtin "all") (rB1 T X.K .all) := by
  intro pins s σ H xs us Q I r h
  obtain ⟨x, μ, S, a, z, rfl, R, ra, hz, q⟩ := h
  simp only [opB1] at hz
  split at hz
  · rename_i ds e
    simp only [Option.map_eq_some_iff] at hz
    obtain ⟨bs, e2, rfl⟩ := hz
    obtain ⟨p, vs, rfl, h1, d1⟩ := itsL_ok R ra e
    rw [bools_ok e2 d1] at h1
    exact cr_all hc pins s σ H _ us Q I r ⟨p, bs, rfl, h1, q _ _ R (.bl _) .refl⟩
  · cases hz
theorem b_any (hc : X.calm = true) : CallR X (.builtin "any") (rB1 T X.K .any) := by
  intro pins s σ H xs us Q I r h
  obtain ⟨x, μ, S, a, z, rfl, R, ra, hz, q⟩ := h
  simp only [opB1] at hz
  split at hz
  · rename_i ds e
    simp only [Option.map_eq_some_iff] at hz
    obtain ⟨bs, e2, rfl⟩ := hz
    obtain ⟨p, vs, rfl, h1, d1⟩ := itsL_ok R ra e
    rw [bools_ok e2 d1] at h1
    exact cr_any hc pins s σ H _ us Q I r ⟨p, bs, rfl, h1, q _ _ R (.bl _) .refl⟩
  · cases hz
theorem b_int : CallR X (.type "int") (rB1 T X.K .int) := by
  intro pins s σ H xs us Q I r h
  obtain ⟨x, μ, S, a, z, rfl, R, ra, hz, q⟩ := h
  simp only [opB1] at hz
  split at hz
  · cases hz; cases ra
    exact call_int1 pins s σ H _ us Q I r (.inl ⟨_, rfl, q _ _ R (.int _) .refl⟩)
  · cases hz; cases ra
    exact call_int1 pins s σ H _ us Q I r (.inr ⟨_, rfl, q _ _ R (.int _) .refl⟩)
  · cases hz
theorem b_abs : CallR X (.builtin "abs") (rB1 T X.K .abs) := by
  intro pins s σ H xs us Q I r h
  obtain ⟨x, μ, S, a, z, rfl, R, ra, hz, q⟩ := h
  simp only [opB1] at hz
  split at hz
  · cases hz; cases ra
    exact call_abs pins s σ H _ us Q I r ⟨_, rfl, q _ _ R (.int _) .refl⟩
  · cases hz
theorem b_tuple : CallR X (.type "tuple") (rB1 T X.K .tuple) := by
  intro pins s σ H xs us Q I r h
  obtain ⟨x, μ, S, a, z, rfl, R, ra, hz, q⟩ := h
  simp only [opB1, Option.map_eq_some_iff] at hz
  obtain ⟨ds, e, rfl⟩ := hz
  obtain ⟨p, vs, rfl, h1, d1⟩ := its_ok R ra e
  refine call_tuple_of pins s σ H _ us Q I r ⟨p, vs, rfl, ?_⟩
  rcases h1 with h1 | h1
  · exact .inl ⟨h1, fun l hl => new_tup R d1 hl q⟩
  · exact .inr ⟨h1, q _ _ R (.tup h1 d1) .refl⟩
theorem b_list : CallR X (.type "list") (rB1 T X.K .list) := by
  intro pins s σ H xs us Q I r h
  obtain ⟨x, μ, S, a, z, rfl, R, ra, hz, q⟩ := h
  simp only [opB1, Option.map_eq_some_iff] at hz
  obtain ⟨ds, e, rfl⟩ := hz
  obtain ⟨p, vs, rfl, h1, d1⟩ := its_ok R ra e
  exact call_list_of pins s σ H _ us Q I r ⟨p, vs, rfl, h1, fun l hl => new_fl R d1 hl q⟩
end

/-! ### isinstance -/
theorem kit_all : ∀ n ∈ ["NoneType", "bool", "int", "str", "tuple", "list", "dict"], ∀ t ∈ [Ty.int, .bool, .str, .tuple, .list, .dict], kitB n t.nm = some (isN n t) := by decide +kernel
theorem ty_mem (t : Ty) : t ∈ [Ty.int, .bool, .str, .tuple, .list, .dict] := by cases t <;> simp
section
variable {T : Tab} {X : Cx}
theorem tyX_ok {K : PySem.W.Frag} {μ : Mu} {S : Store} {H : Hp} {d : D} {v : V} {n : String} (R : Rep T K μ S H) (h : DV T K μ H v d) (e : tyOfD d S = some n) : TyX K H v (.type n) ∧ n ∈ ["NoneType", "bool", "int", "str", "tuple", "list", "dict"] := by
  unfold tyOfD at e
  cases h with
  | non => cases e; exact ⟨.base .non, by simp⟩
  | bl b => cases e; exact ⟨.base (.bl _), by simp⟩
  | int i => cases e; exact ⟨.base (.int _), by simp⟩
  | str x => cases e; exact ⟨.base (.str _), by simp⟩
  | tup h1 _ =>
    cases e
    refine ⟨?_, by simp⟩
    rcases h1 with (h1 | ⟨o, h1⟩) | ⟨o, its, n, hk, hc, _⟩
    · exact .base (.tup h1)
    · exact .fTuple h1
    · exact .kTuple hk hc
  | ref h1 =>
    simp only at e
    split at e
    · rename_i q; cases e; obtain ⟨vs, b, _⟩ := R.ob _ _ _ h1 q; exact ⟨.base (.lst b), by simp⟩
    · rename_i q; cases e; obtain ⟨vs, b, _⟩ := R.ob _ _ _ h1 q; exact ⟨.base (.dK b), by simp⟩
    · cases e
  | fn => cases e
  | kl _ _ => cases e
def rIs (T : Tab) (K : PySem.W.Frag) (t : Ty) : List V → Hp → VK → Prop := fun xs H Q => ∃ x μ S d z, xs = [x, .ty t.nm] ∧ Rep T K μ S H ∧ DV T K μ H x d ∧ isT t d S = some z ∧ Q (.bl z) H
theorem b_isi (t : Ty) : CallR X (.builtin "isinstance") (rIs T X.K t) := by
  intro pins s σ H xs us Q I r h
  obtain ⟨x, μ, S, d, z, rfl, R, ra, hz, q⟩ := h
  unfold isT at hz
  rw [Option.map_eq_some_iff] at hz
  obtain ⟨n, e, rfl⟩ := hz
  obtain ⟨ty, hm⟩ := tyX_ok R ra e
  exact call_isi pins s σ H _ us Q I r ⟨x, _, _, _, _, rfl, .ty _, ty, kit_ty (kit_all n hm t (ty_mem t)), q⟩
end

/-! ### a new list comes into the store -/
section
variable {T : Tab} {K : PySem.W.Frag} {μ μ0 : Mu} {S : Store} {H H0 : Hp}
theorem sit_ok {v : V} {x : XV} (R : Rep T K μ S H) (t : Tr μ0 H0 μ H) (h : (RX T K).r μ H0 H v x) : ∃ d S' μ', sit x S = .ok d S' ∧ Rep T K μ' S' H ∧ DV T K μ' H v d ∧ Tr μ0 H0 μ' H ∧ Stay K μ H μ' H := by
  cases x with
  | d d => exact ⟨d, S, μ, rfl, R, h, t, ⟨fun _ _ h => h, fun _ _ h => h, fun _ _ h => h⟩⟩
  | fl ds =>
    obtain ⟨p, vs, rfl, hp, hd, hn, h0⟩ := h
    exact ⟨_, _, μ ++ [p], rfl, R.push hn ⟨vs, hp, hd⟩, .ref (mu_push R), t.push h0, Stay.push⟩
theorem lst_at {d : D} {v : V} {r : Nat} {ds : List D} (R : Rep T K μ S H) (h : DV T K μ H v d) (e : lstOf d S = some (r, ds)) : ∃ p vs, d = .ref r ∧ v = .ref p ∧ μ[r]? = some p ∧ H p = some (.lst vs) ∧ DVs T K μ H vs ds := by
  unfold lstOf at e
  split at e
  · split at e
    · rename_i q; cases e
      cases h with | ref h1 =>
      obtain ⟨vs, b, c⟩ := R.ob _ _ _ h1 q
      exact ⟨_, vs, rfl, rfl, h1, b, c⟩
    · cases e
  · cases e
/-- a list of the store is rewritten -/
theorem lst_wr (R : Rep T K μ S H) {r : Nat} {p : Addr} {ws : List V} {es : List D} (hr : μ[r]? = some p) (h : DVs T K μ H ws es) :
    Rep T K μ (S.set r (.lst es)) (upd H p (.lst ws)) ∧ Tr μ H μ (upd H p (.lst ws)) :=
  ⟨R.write hr fun st => ⟨ws, upd_same, h.stay st⟩, Tr.write (mem_of_mu hr)⟩
end

/-! ### methods of lists and texts -/
def rL0 (T : Tab) (K : PySem.W.Frag) (m : M1) : V → List V → Hp → VK → Prop := fun x vs H Q => ∃ μ0 H0 μ S d W σ, vs = [] ∧ Rep T K μ S H ∧ Tr μ0 H0 μ H ∧ DV T K μ H x d ∧ PG T K W (RX T K) σ μ0 H0 Q (opL0 m d S)
def rL1 (T : Tab) (K : PySem.W.Frag) (m : M1) : V → List V → Hp → VK → Prop := fun x vs H Q => ∃ μ0 H0 μ S d w y W σ, vs = [w] ∧ Rep T K μ S H ∧ Tr μ0 H0 μ H ∧ DV T K μ H x d ∧ (RX T K).r μ H0 H w y ∧ PG T K W (RX T K) σ μ0 H0 Q (opL1 m d y S)
def rL2 (T : Tab) (K : PySem.W.Frag) (m : M1) : V → List V → Hp → VK → Prop := fun x vs H Q => ∃ μ0 H0 μ S d w y w' y' W σ, vs = [w, w'] ∧ Rep T K μ S H ∧ Tr μ0 H0 μ H ∧ DV T K μ H x d ∧ DV T K μ H w y ∧ DV T K μ H w' y' ∧ PG T K W (RX T K) σ μ0 H0 Q (opL2 m d y y' S)
section
variable {T : Tab} {X : Cx}
theorem m_pop : MtR X "list.pop" (rL0 T X.K .pop) := by
  intro pins s σ H x vs v us Q I rx rv h
  obtain ⟨μ0, H0, μ, S, d, W, σ0, rfl, R, t, hd, h⟩ := h
  simp only [opL0] at h
  split at h
  · rename_i r ds e
    split at h
    · rename_i d1 e1
      obtain ⟨p, ws, rfl, rfl, hr, hp, dw⟩ := lst_at R hd e
      obtain ⟨w1, g1, k1⟩ := dw.get e1
      obtain ⟨R', t'⟩ := lst_wr R hr dw.dropLast
      rw [← dw.length] at g1
      exact mt_pop pins s σ H _ _ v us Q I rx rv ⟨_, _, _, rfl, rfl, hp, g1, h _ _ _ R' (t'.dv R k1) (t.trans t')⟩
    · exact h.elim
  · exact h.elim
theorem m_alnum : MtR X "str.isalnum" (rL0 T X.K .isalnum) := by
  intro pins s σ H x vs v us Q I rx rv h
  obtain ⟨μ0, H0, μ, S, d, W, σ0, rfl, R, t, hd, h⟩ := h
  cases hd <;> first | exact h.elim | exact mt_isalnum pins s σ H _ _ v us Q I rx rv ⟨_, rfl, rfl, trivial, h _ _ _ R (.bl _) t⟩
theorem m_alpha : MtR X "str.isalpha" (rL0 T X.K .isalpha) := by
  intro pins s σ H x vs v us Q I rx rv h
  obtain ⟨μ0, H0, μ, S, d, W, σ0, rfl, R, t, hd, h⟩ := h
  cases hd <;> first | exact h.elim | exact mt_isalpha pins s σ H _ _ v us Q I rx rv ⟨_, rfl, rfl, trivial, h _ _ _ R (.bl _) t⟩
theorem m_lower : MtR X "str.islower" (rL0 T X.K .islower) := by
  intro pins s σ H x vs v us Q I rx rv h
  obtain ⟨μ0, H0, μ, S, d, W, σ0, rfl, R, t, hd, h⟩ := h
  cases hd <;> first | exact h.elim | exact mt_islower pins s σ H _ _ v us Q I rx rv ⟨_, rfl, rfl, trivial, h _ _ _ R (.bl _) t⟩
theorem m_upper : MtR X "str.isupper" (rL0 T X.K .isupper) := by
  intro pins s σ H x vs v us Q I rx rv h
  obtain ⟨μ0, H0, μ, S, d, W, σ0, rfl, R, t, hd, h⟩ := h
  cases hd <;> first | exact h.elim | exact mt_isupper pins s σ H _ _ v us Q I rx rv ⟨_, rfl, rfl, trivial, h _ _ _ R (.bl _) t⟩
theorem m_digit : MtR X "str.isdigit" (rL0 T X.K .isdigit) := by
  intro pins s σ H x vs v us Q I rx rv h
  obtain ⟨μ0, H0, μ, S, d, W, σ0, rfl, R, t, hd, h⟩ := h
  cases hd <;> first | exact h.elim | exact mt_isdigit pins s σ H _ _ v us Q I rx rv ⟨_, rfl, rfl, trivial, h _ _ _ R (.bl _) t⟩
theorem m_append : MtR X "list.append" (rL1 T X.K .append) := by
  intro pins s σ H x vs v us Q I rx rv h
  obtain ⟨μ0, H0, μ, S, d, w, y, W, σ0, rfl, R, t, hd, hy, h⟩ := h
  obtain ⟨dy, S1, μ1, e1, R1, dv1, t1, st1⟩ := sit_ok R t hy
  simp only [opL1, e1, Out.bind] at h
  split at h
  · rename_i r ds e
    split at h
    · rename_i hl
      obtain ⟨p, ws, rfl, rfl, hr, hp, dw⟩ := lst_at R1 (hd.stay st1) e
      obtain ⟨R', t'⟩ := lst_wr R1 hr (dw.append (.cons dv1 .nil))
      have hl := of_decide_eq_true hl
      rw [← dw.length] at hl
      exact mt_append pins s σ H _ _ v us Q I rx rv ⟨_, _, _, rfl, rfl, hp, hl, h _ _ _ R' .non (t1.trans t')⟩
    · exact h.elim
  · exact h.elim
theorem ext_tup (l : Addr) (items : Array Value) (n : Nat) (b : Addr) (od : Option Addr) (osl : Array (Option Value)) (us : Array Value) (n2 : Nat) (hs0 : ¬(!items.isEmpty && Builtin.List.listTooLong (items.size + us.size)) = true) (hs1 : items.size ≤ sizeLine) (hs2 : items.size + us.size ≤ sizeLine + 1) :
    Meets (Builtin.«list.extend» ⟨[.ref l, .ref b], []⟩) (fun _ R s => s.heap.get? l = some { cls := .type "list", dict := none, data := .seq items n, slots := #[] } ∧ s.heap.get? b = some { cls := .type "tuple", dict := od, data := .seq us n2, slots := osl } ∧ R (.ok (.ret Value.none)) { s with heap := s.heap.update l (Obj.mapSeq fun x => x ++ us), toks := s.toks }) :=
  .of_wp fun prog w A R s h => by
    obtain ⟨hp, g, d, tk, os⟩ := s
    obtain ⟨hl, hb, h⟩ := h
    have f1 := AutoSeq1.idx_int
    have f2 := AutoSeq1.sub_tuple_tuple
    have f3 := AutoSeq1.sub_list_list
    have f4 := AutoSeq1.sub_tuple_list
    have f5 := AutoSeq1.sub_list_tuple
    have hz' : (items ++ us).size ≤ sizeLine + 1 := by rw [Array.size_append]; exact hs2
    wp_walk using (wpAny_updateSeq hl rfl (hz := hs1) (_hz' := hz')), AutoSeq1.wpAny_loadPart' hl, AutoSeq1.wpAny_loadPart' hb
    exact ⟨_, rfl, h⟩
theorem ext_tupM : MtM X "list.extend" (fun x vs H Q => ∃ (l b : Addr) (xs zs : List V), x = .ref l ∧ vs = [.ref b] ∧ H l = some (.lst xs) ∧ SqT X.K H b zs ∧ xs.length + zs.length ≤ sizeLine ∧ Q .non (upd H l (.lst (xs ++ zs)))) := by
  intro pins s σ H x vs v us Q I rx rv h
  obtain ⟨l, b, xs, zs, rfl, rfl, hH, hB, hz, q⟩ := h
  cases rx
  obtain ⟨u, rfl, ru⟩ := rv.one
  cases ru
  obtain ⟨z, its, n, r, hl, e⟩ := I.lstM hH
  obtain ⟨its2, r2, ⟨o2, e2, c2, n2, d2⟩, z2⟩ := I.tuple hB
  have hl2 := r2.length
  obtain ⟨oc, od, dt, osl⟩ := o2
  cases c2
  cases d2
  have hsz : its.toArray.size + its2.toArray.size ≤ sizeLine := by rw [List.size_toArray, List.size_toArray]; omega
  have hlong : ¬ (!its.toArray.isEmpty && Builtin.List.listTooLong (its.toArray.size + its2.toArray.size)) = true := by
    rw [notLongL hsz, Bool.and_false]
    exact Bool.false_ne_true
  refine call_meets F.slot_list_extend ⟨_, e, rfl⟩ F.entry_list_extend (F.args_list_extend_2 _ _)
    (ext_tup l its.toArray n b od osl its2.toArray n2 hlong (by rw [List.size_toArray]; omega) (by omega)) ⟨e, e2, ?_⟩
  exact ⟨.non, _, I.lset (its' := its ++ its2) hH e (by simp) (r.append r2) (by rw [List.length_append]; exact hz), rfl, q⟩
theorem m_extend : MtR X "list.extend" (rL1 T X.K .extend) := by
  intro pins s σ H x vs v us Q I rx rv h
  obtain ⟨μ0, H0, μ, S, d, w, y, W, σ0, rfl, R, t, hd, hy, h⟩ := h
  simp only [opL1] at h
  split at h
  · rename_i r ds es e e2
    split at h
    · rename_i hl
      obtain ⟨p, ws, rfl, rfl, hr, hp, dw⟩ := lst_at R hd e
      have hl := lok_le hl
      unfold itsE at e2
      split at e2
      · cases e2
        cases hy with | tup h1 dw2 =>
        obtain ⟨R', t'⟩ := lst_wr R hr (dw.append dw2)
        rw [← dw.length, ← dw2.length] at hl
        exact ext_tupM pins s σ H _ _ v us Q I rx rv ⟨_, _, _, _, rfl, rfl, hp, h1, hl, h _ _ _ R' .non (t.trans t')⟩
      · obtain ⟨p2, ws2, rfl, hp2, dw2⟩ := itsW_ok R (RX.w hy) e2
        obtain ⟨R', t'⟩ := lst_wr R hr (dw.append dw2)
        rw [← dw.length, ← dw2.length] at hl
        exact mt_extend pins s σ H _ _ v us Q I rx rv ⟨_, _, _, _, rfl, rfl, hp, hp2, hl, h _ _ _ R' .non (t.trans t')⟩
    · exact h.elim
  · exact h.elim
theorem m_popAt : MtR X "list.pop" (rL1 T X.K .popAt) := by
  intro pins s σ H x vs v us Q I rx rv h
  obtain ⟨μ0, H0, μ, S, d, w, y, W, σ0, rfl, R, t, hd, hy, h⟩ := h
  simp only [opL1] at h
  split at h
  · rename_i r ds i e
    split at h
    · rename_i hl
      split at h
      · rename_i k ek
        split at h
        · rename_i d1 e1
          obtain ⟨p, ws, rfl, rfl, hr, hp, dw⟩ := lst_at R hd e
          cases hy
          obtain ⟨w1, g1, k1⟩ := dw.get e1
          obtain ⟨R', t'⟩ := lst_wr R hr (dw.eraseIdx k)
          have hl := of_decide_eq_true hl
          have hk := (ixN_seq ek).1
          rw [← dw.length] at hk
          exact mt_popAt pins s σ H _ _ v us Q I rx rv ⟨_, _, _, _, _, rfl, rfl, hp, hl.1, hl.2, hk, g1, h _ _ _ R' (t'.dv R k1) (t.trans t')⟩
        · exact h.elim
      · exact h.elim
    · exact h.elim
  · exact h.elim
theorem m_join : MtR X "str.join" (rL1 T X.K .join) := by
  intro pins s σ H x vs v us Q I rx rv h
  obtain ⟨μ0, H0, μ, S, d, w, y, W, σ0, rfl, R, t, hd, hy, h⟩ := h
  simp only [opL1] at h
  split at h
  · rename_i a ds e
    split at h
    · rename_i ys e2
      split at h
      · rename_i hl
        cases hd
        obtain ⟨p, ws, rfl, h1, d1⟩ := its_ok R (RX.w hy) e
        rw [txts_ok e2 d1] at h1
        exact mt_join pins s σ H _ _ v us Q I rx rv ⟨_, _, ys, rfl, rfl, h1, of_decide_eq_true hl, h _ _ _ R (.str _) t⟩
      · exact h.elim
    · exact h.elim
  · exact h.elim
theorem m_insert : MtR X "list.insert" (rL2 T X.K .insert) := by
  intro pins s σ H x vs v us Q I rx rv h
  obtain ⟨μ0, H0, μ, S, d, w, y, w', y', W, σ0, rfl, R, t, hd, hy, hy', h⟩ := h
  simp only [opL2] at h
  split at h
  · rename_i r ds i e
    split at h
    · rename_i hl
      obtain ⟨p, ws, rfl, rfl, hr, hp, dw⟩ := lst_at R hd e
      cases hy
      have hl := of_decide_eq_true hl
      obtain ⟨R', t'⟩ := lst_wr R hr (((dw.take i.toNat).append (.cons hy' .nil)).append (dw.drop i.toNat))
      rw [← dw.length] at hl
      exact mt_insert pins s σ H _ _ v us Q I rx rv ⟨_, _, _, _, rfl, rfl, hp, hl.1, hl.2.1, hl.2.2, h _ _ _ R' .non (t.trans t')⟩
    · exact h.elim
  · exact h.elim
end
end L3


/-! L3E: where one stands; expressions keep their meaning, one construct at a time. -/
namespace L3
open PySem PySem.Spec PyProof.Rows L2

/-- what a def promises: it does what f says -/
def spF (T : Tab) (K : PySem.W.Frag) (n : Nat) (f : List D → Store → Out D) : Sp := fun vs H Q E => ∃ μ S ds, Rep T K μ S H ∧ DVs T K μ H vs ds ∧ ds.length = n ∧ PG T K (fun cls d _ H => E cls d H) (RD T K) [] μ H Q (f ds S)
/-- the i-th def may be called, at the level k, and does what f says -/
def CallOk (T : Tab) (C : Cfg) (X : Cx) (k : Nat) (f : Nat → List D → Store → Out D) (i : Nat) : Prop := ∃ fd ps, FnOk X.prog X.w X.K X.mg X.base (L2.CX X.prog X.w) k (T.fa i) fd ps (spF T X.K (C.arity i) (f i)) ∧ ps.length = C.arity i ∧
  PySem.W.keepIn X.K (.ref (T.fa i)) = true ∧ ∀ n, n ≤ C.arity i → C.arity i ≤ n + (C.dfl i).length → ∃ dvs ds, Vals dvs ds ∧ Binds X.K fd ps ds ∧ ∀ μ H, DVs T X.K μ H dvs ((C.dfl i).drop (n + (C.dfl i).length - C.arity i))
/-- the program's facts -/
structure Facts (T : Tab) (C : Cfg) (X : Cx) : Prop where
  con : ∀ x d, C.gl.lookup x = some (.con d) → ∃ u v, X.mg x = some u ∧ RelV v u ∧ ∀ μ H, DV T X.K μ H v d
  fn : ∀ x i, C.gl.lookup x = some (.fn i) → X.mg x = some (.ref (T.fa i))
  cls : ∀ x c, C.gl.lookup x = some (.cls c) → X.mg x = some (.ref (T.ca c))
  bl : ∀ x, C.bl.contains x = true → X.mg x = none
  fld : ∀ c f, C.fld c f = true → Cls X.K (T.ca c) ∧ NoAttr X.K (T.ca c) f
  mth : ∀ c m i, C.mth c m = some i → Cls X.K (T.ca c) ∧ Meth X.K (T.ca c) m (T.fa i)
  ini : ∀ c i, C.ini c = some i → Mk X.K (T.ca c) (T.fa i)
/-- the defs that may be called -/
def Callable (C : Cfg) (i : Nat) : Prop := (∃ x, C.gl.lookup x = some (.fn i)) ∨ (∃ c m, C.mth c m = some i)
structure CtxE (T : Tab) (s : Sc) (cur : Option (Addr × Addr)) (W : WX) (X : Cx) : Prop where
  N : X.N = s.N
  nd : s.N.Nodup
  sc : X.env.scope = s.sc
  calm : s.calm = true → X.calm = true
  units : X.A.units + 64 < cLine
  fx : Facts T s.C X
  st : ∀ x, s.st x = true → X.fn x = true
  tk : s.calm = true → Takes X W
  call : s.calm = true → ∃ k, Room k X.A ∧ ∀ i, Callable s.C i → CallOk T s.C X k s.C.calls i
  make : s.calm = true → ∃ j, Room (j + 1) X.A ∧ ∀ c i, s.C.ini c = some i → CallOk T s.C X j s.C.inis i

section
variable {α β γ δ : Type} {T : Tab} {K : PySem.W.Frag} {cur : Option (Addr × Addr)} {W : WX} {R : Rl β α} {R2 : Rl δ γ} {σ : L2.St} {H : Hp} {Q : β → Hp → Prop} {Q2 : δ → Hp → Prop}
def tG (T : Tab) (K : PySem.W.Frag) (cur : Option (Addr × Addr)) (W : WX) (R : Rl β α) (f : Env → Store → Out α) : L2.St → Hp → (β → Hp → Prop) → Prop := fun σ H Q =>
  ∃ env S μ, Rep T K μ S H ∧ EnvR T K cur μ H σ env ∧ PG T K W R σ μ H Q (f env S)
theorem tG.bind {f : Env → Store → Out α} {k : Env → α → Store → Out γ} (h : tG T K cur W R2 (fun e S => (f e S).bind (k e)) σ H Q2) :
    tG T K cur W R f σ H (fun v H1 => ∃ env μ μ1 S1 x, EnvR T K cur μ1 H1 σ env ∧ Rep T K μ1 S1 H1 ∧ R.r μ1 H H1 v x ∧ Tr μ H μ1 H1 ∧ PG T K W R2 σ μ H Q2 (k env x S1)) := by
  obtain ⟨env, S, μ, r, e, p⟩ := h
  exact ⟨env, S, μ, r, e, (PG.bind (R := R) p).imp fun v H1 ⟨μ1, S1, x, a, b, c, d⟩ => ⟨env, μ, μ1, S1, x, e.mono r c, a, b, c, d⟩⟩
theorem tG.imp {f : Env → Store → Out α} {Q' : β → Hp → Prop} (h : tG T K cur W R f σ H Q) (q : ∀ v H', Q v H' → Q' v H') : tG T K cur W R f σ H Q' := by
  obtain ⟨env, S, μ, r, e, p⟩ := h
  exact ⟨env, S, μ, r, e, p.imp q⟩
theorem tG.none {f : Env → Store → Out α} (hf : ∀ e S, f e S = .stuck) : ¬ tG T K cur W R f σ H Q := by
  rintro ⟨env, S, μ, r, e, p⟩
  rw [hf] at p
  exact p
theorem PG.bind2 {μ μ1 : Mu} {H1 : Hp} {o : Out α} {k : α → Store → Out γ} (t1 : Tr μ H μ1 H1) (h : PG T K W R2 σ μ H Q2 (o.bind k)) :
    PG T K W R σ μ1 H1 (fun v H2 => ∃ μ2 S2 x, Rep T K μ2 S2 H2 ∧ R.r μ2 H1 H2 v x ∧ Tr μ1 H1 μ2 H2 ∧ PG T K W R2 σ μ H Q2 (k x S2)) o := by
  cases o with
  | ok x S1 => exact fun v H1 μ1 a b c => ⟨μ1, S1, x, a, b, c, h⟩
  | exc c fs S1 => exact fun cls d H2 μ2 a b c => h cls d H2 μ2 a b (t1.trans c)
  | stuck => exact h
theorem RX.keep {μ μ1 μ2 : Mu} {S1 : Store} {H0 H1 H2 : Hp} {v : V} {x : XV} (r : Rep T K μ1 S1 H1) (t : Tr μ1 H1 μ2 H2) (h : (RX T K).r μ1 H0 H1 v x) : (RX T K).r μ2 H0 H2 v x := by
  cases x with
  | d d => exact t.dv r h
  | fl ds =>
    obtain ⟨p, vs, a, b, c, d, e⟩ := h
    have hp : p ∉ μ2 := fun m => (t.new p m).elim d fun z => by rw [b] at z; cases z
    exact ⟨p, vs, a, t.old p _ b d, t.dvs r c, hp, e⟩
/-- two expressions, one behind the other -/
theorem tG.two {f g : DX} {k : XV → XV → Store → Out γ} (h : tG T K cur W R2 (fun e S => (f e S).bind fun x S1 => (g e S1).bind fun y S2 => k x y S2) σ H Q2) :
    tG T K cur W (RX T K) f σ H (fun v H1 => tG T K cur W (RX T K) g σ H1 (fun w H2 => ∃ env μ μ2 S2 x y, EnvR T K cur μ2 H2 σ env ∧ Rep T K μ2 S2 H2 ∧ (RX T K).r μ2 H H2 v x ∧ (RX T K).r μ2 H H2 w y ∧ Tr μ H μ2 H2 ∧ PG T K W R2 σ μ H Q2 (k x y S2))) := by
  refine (tG.bind (R := RX T K) (k := fun e x S1 => (g e S1).bind fun y S2 => k x y S2) h).imp fun v H1 ⟨env, μ, μ1, S1, x, e1, r1, rx, t1, p⟩ => ?_
  refine ⟨env, S1, μ1, r1, e1, (PG.bind2 (R := RX T K) t1 p).imp fun w H2 ⟨μ2, S2, y, r2, ry, t2, p2⟩ => ?_⟩
  exact ⟨env, μ, μ2, S2, x, y, e1.mono r1 t2, r2, RX.keep (μ := μ) r1 t2 rx, (RX T K).base (fun a z => t1.dom a z) ry, t1.trans t2, p2⟩
end

/-! ### one construct at a time -/
section
variable {X : Cx} {e : Expr} {t t' : TE} {u u' : TT} {a a' : TA}
theorem _root_.L2.PE.imp (h : PE X e t) (q : ∀ σ H Q, t' σ H Q → t σ H Q) : PE X e t' := ⟨fun pins s σ H Q I w => h.run pins s σ H Q I (q σ H Q w)⟩
theorem _root_.L2.PT.imp (h : PT X e u) (q : ∀ σ H Q, u' σ H Q → u σ H Q) : PT X e u' := ⟨fun pins s σ H Q I w => h.run pins s σ H Q I (q σ H Q w)⟩
theorem _root_.L2.PW.imp (h : PW X e u) (q : ∀ σ H Q, u' σ H Q → u σ H Q) : PW X e u' := ⟨fun wh pins s σ H Q I w => h.run wh pins s σ H Q I (q σ H Q w)⟩
theorem _root_.L2.PA.imp {es : List Expr} (h : PA X es a) (q : ∀ σ H Q, a' σ H Q → a σ H Q) : PA X es a' := ⟨fun pos pins s σ H Q I w => h.run pos pins s σ H Q I (q σ H Q w)⟩
theorem _root_.L2.PE.or (h : PE X e t) (h' : PE X e t') : PE X e (fun σ H Q => t σ H Q ∨ t' σ H Q) := ⟨fun pins s σ H Q I w => w.elim (h.run pins s σ H Q I) (h'.run pins s σ H Q I)⟩
theorem _root_.L2.PE.ex {ι : Sort _} {t : ι → TE} (h : ∀ i, PE X e (t i)) : PE X e (fun σ H Q => ∃ i, t i σ H Q) := ⟨fun pins s σ H Q I ⟨i, w⟩ => (h i).run pins s σ H Q I w⟩
theorem _root_.L2.PE.if {P : Prop} (h : P → PE X e t) : PE X e (fun σ H Q => P ∧ t σ H Q) := ⟨fun pins s σ H Q I ⟨i, w⟩ => (h i).run pins s σ H Q I w⟩
theorem _root_.L2.PE.no (h : ∀ σ H Q, ¬ t σ H Q) : PE X e t := ⟨fun pins s σ H Q I w => (h σ H Q w).elim⟩
theorem _root_.L2.PT.no (h : ∀ σ H Q, ¬ u σ H Q) : PT X e u := ⟨fun pins s σ H Q I w => (h σ H Q w).elim⟩
theorem _root_.L2.PW.no (h : ∀ σ H Q, ¬ u σ H Q) : PW X e u := ⟨fun wh pins s σ H Q I w => (h σ H Q w).elim⟩
end
section
variable {T : Tab} {s : Sc} {cur : Option (Addr × Addr)} {W : WX} {X : Cx} {pos : Pos} {a b c : Expr} {f g h : DX} {d : Dn}
abbrev tX (T : Tab) (cur : Option (Addr × Addr)) (W : WX) (X : Cx) (f : DX) : TE := tG T X.K cur W (RX T X.K) f
abbrev tB (T : Tab) (cur : Option (Addr × Addr)) (W : WX) (X : Cx) (f : DT) : TT := tG T X.K cur W RB f
abbrev tDd (T : Tab) (cur : Option (Addr × Addr)) (W : WX) (X : Cx) (f : DD) : TE := tG T X.K cur W (RD T X.K) f
abbrev tAs (T : Tab) (cur : Option (Addr × Addr)) (W : WX) (X : Cx) (f : DA) : TA := tG T X.K cur W (RA T X.K) f
theorem e_stuck : PE X a (tX T cur W X stuckX) := .no fun _ _ _ => tG.none fun _ _ => rfl
theorem t_stuck {t : DT} (ht : ∀ e S, t e S = .stuck) : PT X a (tB T cur W X t) := .no fun _ _ _ => tG.none ht
theorem tC_of {d : D} {v : V} (hv : ∀ μ H, DV T X.K μ H v d) : ∀ σ H Q, tX T cur W X (mC d) σ H Q → L2.tC v σ H Q := fun σ H Q ⟨env, S, μ, r, e, p⟩ => p v H μ r (hv μ H) .refl
theorem e_const {k : Const} {n : Nat} : PE X (.Constant k n pos) (tX T cur W X (denC k)) := by
  cases k with
  | none => exact pe_non.imp (tC_of fun _ _ => .non)
  | bool b => exact pe_bl.imp (tC_of fun _ _ => .bl b)
  | int i => exact pe_int.imp (tC_of fun _ _ => .int i)
  | str x => exact pe_str.imp (tC_of fun _ _ => .str x)
  | _ => exact e_stuck
theorem slot_ok (c : CtxE T s cur W X) {x : Str} {i : Nat} (h : slot s x = some i) : X.N[i]? = some x ∧ Vis X.env.scope x ∧ (x == ("__debug__" : Str)) = false ∧ (x == ("__classdict__" : Str)) = false := by
  unfold slot at h
  split at h
  · cases h
  · rename_i hd
    have hd : (x == ("__debug__" : Str)) = false ∧ (x == ("__classdict__" : Str)) = false := by
      simp only [Bool.or_eq_true, not_or, Bool.not_eq_true] at hd
      exact hd
    rw [c.N, c.sc]
    split at h
    · rename_i q; split at h
      · rename_i z; cases h; exact ⟨z, .inl q, hd⟩
      · cases h
    · rename_i q; split at h
      · rename_i z; cases h; exact ⟨z, .inr (.inl q), hd⟩
      · cases h
    · rename_i q; split at h
      · rename_i z; cases h; exact ⟨z, .inr (.inr q), hd⟩
      · cases h
    · cases h
theorem isGl_ok (c : CtxE T s cur W X) {x : Str} (h : isGl s x = true) : Gl X x ∧ (x == ("__debug__" : Str)) = false := by
  unfold isGl at h
  split at h
  · rename_i q
    refine ⟨?_, by simpa using h⟩
    show X.env.scope.names.lookup x = some .globalImplicit
    rw [c.sc]; exact q
  · cases h
theorem e_var {x : Str} {i : Nat} (c : CtxE T s cur W X) (hs : slot s x = some i) : PE X (.Name x pos) (tX T cur W X (mVar i)) := by
  obtain ⟨h1, h2, h3, h4⟩ := slot_ok c hs
  refine (pe_var h1 h2 h3 h4).imp fun σ H Q ⟨env, S, μ, r, e, p⟩ => ?_
  unfold mVar at p
  split at p
  · exact p.elim
  · rename_i d hn q
    rcases e.2 i d q with ⟨v, a1, a2⟩ | ⟨fs, a0, dx, vfs, z, _⟩
    · exact ⟨v, a1, p v H μ r a2 .refl⟩
    · exact absurd z (hn fs)
  · exact p.elim
theorem e_name {x : Str} (c : CtxE T s cur W X) : PE X (.Name x pos) (tX T cur W X (denN x s)) := by
  unfold denN
  split
  · rename_i i hs; exact e_var c hs
  · split
    · rename_i hg
      obtain ⟨g1, g2⟩ := isGl_ok c hg
      split
      · rename_i d hl
        obtain ⟨u, v, m, rv, dv⟩ := c.fx.con _ _ hl
        exact (pe_glob g1 m rv g2).imp (tC_of dv)
      · rename_i i hl
        exact (pe_glob (v := .ref (T.fa i)) g1 (c.fx.fn _ _ hl) rfl g2).imp (tC_of fun _ _ => .fn)
      · exact e_stuck
    · exact e_stuck
theorem e_bin {op : Operator} (ha : PE X a (tX T cur W X f)) (hb : PE X b (tX T cur W X g)) : PE X (.BinOp a op b pos) (tX T cur W X (mBin op f g)) := by
  refine (pe_op (bin_ok (T := T) op) ha hb).imp fun σ H Q w => (tG.two w).imp fun v H1 w1 => w1.imp fun v2 H2 ⟨env, μ, μ2, S2, x, y, e2, r2, rx, ry, t2, p⟩ => ?_
  cases q : opBin op x y S2 with
  | none => rw [q] at p; exact p.elim
  | some z => rw [q] at p; exact ⟨μ2, S2, x, y, z, r2, RX.w rx, RX.w ry, q, fun v' H' r' z' t' => p v' H' μ2 r' ((RX T X.K).base (fun a n => t2.dom a n) z') (t2.trans t')⟩
theorem e_cmp {op : CmpOp} (c : CtxE T s cur W X) (hm : behindInMarks op b = false) (ha : PE X a (tX T cur W X f)) (hb : PE X b (tX T cur W X g)) : PE X (.Compare a [op] [b] pos) (tX T cur W X (mCmp op f g)) := by
  refine (pe_cmpR (cmp_ok (T := T) c.units op) ha hb hm).imp fun σ H Q w => (tG.two w).imp fun v H1 w1 => w1.imp fun v2 H2 ⟨env, μ, μ2, S2, x, y, e2, r2, rx, ry, t2, p⟩ => ?_
  cases q : cmpOp op x y S2 with
  | none => rw [q] at p; exact p.elim
  | some z => rw [q] at p; exact ⟨μ2, S2, x, y, z, r2, RX.w rx, RX.w ry, q, p _ _ μ2 r2 (.bl z) t2⟩
theorem t_cmp {op : CmpOp} (c : CtxE T s cur W X) (hm : behindInMarks op b = false) (ha : PE X a (tX T cur W X f)) (hb : PE X b (tX T cur W X g)) : PT X (.Compare a [op] [b] pos) (tB T cur W X (tOf (mCmp op f g))) := by
  refine (pt_cmpR (cmp_ok (T := T) c.units op) ha hb hm).imp fun σ H Q w => ?_
  have w' : tG T X.K cur W RB (fun e S => (f e S).bind fun x S1 => (g e S1).bind fun y S2 => (blv (cmpOp op x y S2) S2).bind toB) σ H Q := by
    obtain ⟨env, S, μ, r, e, p⟩ := w
    refine ⟨env, S, μ, r, e, ?_⟩
    simpa only [tOf, mCmp, Out.bind_assoc] using p
  refine (tG.two w').imp fun v H1 w1 => w1.imp fun v2 H2 ⟨env, μ, μ2, S2, x, y, e2, r2, rx, ry, t2, p⟩ => ?_
  cases q : cmpOp op x y S2 with
  | none => rw [q] at p; exact p.elim
  | some z => rw [q] at p; exact ⟨μ2, S2, x, y, z, r2, RX.w rx, RX.w ry, q, z, rfl, p _ _ μ2 r2 rfl t2⟩
end
end L3


/-! L3F: more constructs: chains, truth, displays, subscripts, attributes. -/
namespace L3
open PySem PySem.Spec PyProof.Rows L2
section
variable {T : Tab} {s : Sc} {cur : Option (Addr × Addr)} {W : WX} {X : Cx} {pos : Pos} {a b c : Expr} {f g h : DX} {d : Dn}

/-! ### chains, None -/
def k2 (op op' : CmpOp) (h : DX) (e : Env) (x y : XV) (S2 : Store) : Out XV := match cmpOp op x y S2 with
  | some true => (h e S2).bind fun z S3 => blv (cmpOp op' y z S3) S3
  | some false => .ok (.d (.bl false)) S2
  | none => .stuck
theorem chain_go {op op' : CmpOp} {β α : Type} {R : Rl β α} {fin : XV → Store → Out α} {Q : β → Hp → Prop} {σ : L2.St} {H : Hp}
    (w : tG T X.K cur W R (fun e S => (f e S).bind fun x S1 => (g e S1).bind fun y S2 => (k2 op op' h e x y S2).bind fin) σ H Q) (Q' : VK)
    (hq : ∀ μ0 H0 μ S H1 z, Rep T X.K μ S H1 → Tr μ0 H0 μ H1 → PG T X.K W R σ μ0 H0 Q (fin (.d (.bl z)) S) → Q' (.bl z) H1) :
    tChain (rOpB T X.K (cmpOp op)) (rOpB T X.K (cmpOp op')) (tX T cur W X f) (tX T cur W X g) (tX T cur W X h) σ H Q' := by
  refine (tG.bind (R := RX T X.K) (k := fun e x S1 => (g e S1).bind fun y S2 => (k2 op op' h e x y S2).bind fin) w).imp fun v H1 ⟨env, μ, μ1, S1, x, e1, r1, rx, t1, p⟩ => ?_
  refine ⟨env, S1, μ1, r1, e1, (PG.bind2 (R := RX T X.K) t1 p).imp fun v2 H2 ⟨μ2, S2, y, r2, ry, t2, p2⟩ => ?_⟩
  unfold k2 at p2
  split at p2
  · rename_i q
    refine ⟨μ2, S2, x, y, true, r2, (RX.w rx).tr r1 t2, RX.w ry, q, true, rfl, ?_⟩
    rw [if_pos rfl]
    rw [Out.bind_assoc] at p2
    refine ⟨env, S2, μ2, r2, e1.mono r1 t2, (PG.bind2 (R := RX T X.K) (t1.trans t2) p2).imp fun v3 H3 ⟨μ3, S3, z, r3, rz, t3, p3⟩ => ?_⟩
    cases q3 : cmpOp op' y z S3 with
    | none => rw [q3] at p3; exact p3.elim
    | some k => rw [q3] at p3; exact ⟨μ3, S3, y, z, k, r3, (RX.w ry).tr r2 t3, RX.w rz, q3, hq _ _ _ _ _ _ r3 ((t1.trans t2).trans t3) p3⟩
  · rename_i q
    refine ⟨μ2, S2, x, y, false, r2, (RX.w rx).tr r1 t2, RX.w ry, q, false, rfl, ?_⟩
    rw [if_neg Bool.false_ne_true]
    exact hq _ _ _ _ _ _ r2 (t1.trans t2) p2
  · exact p2.elim
theorem e_cmp2 {op op' : CmpOp} (cx : CtxE T s cur W X) (hm : lastMarks [op, op'] [b, c] = false) (ha : PE X a (tX T cur W X f)) (hb : PE X b (tX T cur W X g)) (hc : PE X c (tX T cur W X h)) :
    PE X (.Compare a [op, op'] [b, c] pos) (tX T cur W X (mCmp2 op op' f g h)) := by
  refine (pe_chain (cmp_ok (T := T) cx.units op) (cmp_ok (T := T) cx.units op') ha hb hc hm).imp fun σ H Q w => ?_
  refine chain_go (fin := fun x S => .ok x S) (R := RX T X.K) (Q := Q) ?_ Q fun μ0 H0 μ S H1 z r t p => p _ _ _ r (.bl z) t
  obtain ⟨env, S, μ, r, e, p⟩ := w
  refine ⟨env, S, μ, r, e, ?_⟩
  have e1 : ∀ x y S2, (k2 op op' h env x y S2).bind (fun x S => .ok x S) = k2 op op' h env x y S2 := fun x y S2 => by
    cases k2 op op' h env x y S2 <;> rfl
  simp only [e1]
  exact p
theorem t_cmp2 {op op' : CmpOp} (cx : CtxE T s cur W X) (hm : lastMarks [op, op'] [b, c] = false) (ha : PE X a (tX T cur W X f)) (hb : PE X b (tX T cur W X g)) (hc : PE X c (tX T cur W X h)) :
    PT X (.Compare a [op, op'] [b, c] pos) (tB T cur W X (tOf (mCmp2 op op' f g h))) := by
  refine (pt_chain (cmp_ok (T := T) cx.units op) (cmp_ok (T := T) cx.units op') ha hb hc hm).imp fun σ H Q w => ?_
  refine chain_go (fin := toB) (R := RB) (Q := Q) ?_ _ fun μ0 H0 μ S H1 z r t p => ⟨z, rfl, p _ _ _ r rfl t⟩
  obtain ⟨env, S, μ, r, e, p⟩ := w
  refine ⟨env, S, μ, r, e, ?_⟩
  have q : tOf (mCmp2 op op' f g h) env S = (f env S).bind fun x S1 => (g env S1).bind fun y S2 => (k2 op op' h env x y S2).bind toB := by
    show ((f env S).bind fun x S1 => (g env S1).bind fun y S2 => k2 op op' h env x y S2).bind toB = _
    rw [Out.bind_assoc]
    congr 1; funext x S1
    rw [Out.bind_assoc]
  rw [q] at p
  exact p
theorem non_ok {K : PySem.W.Frag} {μ : Mu} {H : Hp} {v : V} {x : XV} (h : RW T K μ H v x) : decide (v = .non) = nonX x := by
  cases x with
  | d d => cases h <;> simp [nonX]
  | fl ds => obtain ⟨p, vs, rfl, _⟩ := h; simp [nonX]
theorem e_isN {n : Nat} {p2 : Pos} (ha : PE X a (tX T cur W X f)) : PE X (.Compare a [.Is] [.Constant .none n p2] pos) (tX T cur W X (mIsN false f)) := by
  refine (pe_cmp (pc_isN ha) rfl).imp fun σ H Q w => (tG.bind (R := RX T X.K) (k := fun _ x S1 => .ok (XV.d (.bl (xor false (nonX x)))) S1) w).imp fun v H1 ⟨env, μ, μ1, S1, x, e1, r1, rx, t1, p⟩ => ?_
  rw [non_ok (RX.w rx)]
  have p2 := p (.bl (xor false (nonX x))) H1 μ1 r1 (.bl _) t1
  rwa [Bool.false_xor] at p2
theorem e_notN {n : Nat} {p2 : Pos} (ha : PE X a (tX T cur W X f)) : PE X (.Compare a [.IsNot] [.Constant .none n p2] pos) (tX T cur W X (mIsN true f)) := by
  refine (pe_cmp (pc_notN ha) rfl).imp fun σ H Q w => (tG.bind (R := RX T X.K) (k := fun _ x S1 => .ok (XV.d (.bl (xor true (nonX x)))) S1) w).imp fun v H1 ⟨env, μ, μ1, S1, x, e1, r1, rx, t1, p⟩ => ?_
  rw [non_ok (RX.w rx)]
  have p2 := p (.bl (xor true (nonX x))) H1 μ1 r1 (.bl _) t1
  rwa [Bool.true_xor] at p2
theorem t_isN {n : Nat} {p2 : Pos} (ha : PE X a (tX T cur W X f)) : PT X (.Compare a [.Is] [.Constant .none n p2] pos) (tB T cur W X (tOf (mIsN false f))) := by
  refine (pt_cmp (pc_isN ha) rfl).imp fun σ H Q w => ?_
  obtain ⟨env, S, μ, r, e, p⟩ := w
  have p : PG T X.K W RB σ μ H Q (((f env S).bind fun x S1 => .ok (XV.d (.bl (xor false (nonX x)))) S1).bind toB) := p
  rw [Out.bind_assoc] at p
  refine ⟨env, S, μ, r, e, (PG.bind (R := RX T X.K) p).imp fun v H1 ⟨μ1, S1, x, r1, rx, t1, p1⟩ => ⟨_, rfl, ?_⟩⟩
  rw [non_ok (RX.w rx)]
  have p2 := p1 (xor false (nonX x)) H1 μ1 r1 rfl t1
  rwa [Bool.false_xor] at p2
theorem t_notN {n : Nat} {p2 : Pos} (ha : PE X a (tX T cur W X f)) : PT X (.Compare a [.IsNot] [.Constant .none n p2] pos) (tB T cur W X (tOf (mIsN true f))) := by
  refine (pt_cmp (pc_notN ha) rfl).imp fun σ H Q w => ?_
  obtain ⟨env, S, μ, r, e, p⟩ := w
  have p : PG T X.K W RB σ μ H Q (((f env S).bind fun x S1 => .ok (XV.d (.bl (xor true (nonX x)))) S1).bind toB) := p
  rw [Out.bind_assoc] at p
  refine ⟨env, S, μ, r, e, (PG.bind (R := RX T X.K) p).imp fun v H1 ⟨μ1, S1, x, r1, rx, t1, p1⟩ => ⟨_, rfl, ?_⟩⟩
  rw [non_ok (RX.w rx)]
  have p2 := p1 (xor true (nonX x)) H1 μ1 r1 rfl t1
  rwa [Bool.true_xor] at p2

/-! ### truth -/
def plainTest : Expr → Bool
  | .UnaryOp .Not _ _ => false
  | .BoolOp _ _ _ => false
  | .IfExp _ _ _ _ => false
  | .Compare _ _ _ _ => false
  | _ => true
theorem plainTest_ok {e : Expr} (h : plainTest e = true) (env : PySem.Env) : ∀ whole, isTrue e env whole = (do let v ← whole; standAt e.pos; holding [v] (truthy v)) := by
  intro whole
  cases e <;> first | rfl | cases h | (rename_i op _ _; cases op <;> first | rfl | cases h)
theorem toB_ok {K : PySem.W.Frag} {μ μ0 : Mu} {S : Store} {H H0 : Hp} {v : V} {x : XV} {σ : L2.St} {Q : Bool → Hp → Prop} (r : Rep T K μ S H) (t : Tr μ0 H0 μ H) (h : RW T K μ H v x) (p : PG T K W RB σ μ0 H0 Q (toB x S)) : ∃ c, v = .bl c ∧ Q c H := by
  unfold toB at p
  split at p
  · cases h; exact ⟨_, rfl, p _ _ _ r rfl t⟩
  · exact p.elim
theorem t_val (hp : plainTest a = true) (ha : PE X a (tX T cur W X f)) : PT X a (tB T cur W X (tOf f)) :=
  (pt_val ha (plainTest_ok hp X.env)).imp fun σ H Q w => (tG.bind (R := RX T X.K) (k := fun _ => toB) w).imp fun v H1 ⟨env, μ, μ1, S1, x, e1, r1, rx, t1, p⟩ => toB_ok r1 t1 (RX.w rx) p
theorem e_neg (ha : PE X a (tX T cur W X f)) : PE X (.UnaryOp .USub a pos) (tX T cur W X (mNeg f)) := by
  refine (pe_un un_neg ha).imp fun σ H Q w => ?_
  obtain ⟨env, S, μ, r, e, p⟩ := w
  refine ⟨env, S, μ, r, e, (PG.bind (R := RX T X.K) p).imp fun v H1 ⟨μ1, S1, x, r1, rx, t1, p1⟩ => ?_⟩
  split at p1
  · cases rx; exact ⟨_, rfl, p1 _ _ _ r1 (.int _) t1⟩
  · exact p1.elim
theorem e_not (ha : PE X a (tX T cur W X f)) : PE X (.UnaryOp .Not a pos) (tX T cur W X (ofT (tNot (tOf f)))) := by
  refine (pe_not ha).imp fun σ H Q w => ?_
  obtain ⟨env, S, μ, r, e, p⟩ := w
  have p : PG T X.K W (RX T X.K) σ μ H Q ((((f env S).bind toB).bind fun b S1 => .ok (!b) S1).bind fun b S1 => .ok (.d (.bl b)) S1) := p
  rw [Out.bind_assoc, Out.bind_assoc] at p
  refine ⟨env, S, μ, r, e, (PG.bind (R := RX T X.K) p).imp fun v H1 ⟨μ1, S1, x, r1, rx, t1, p1⟩ => ?_⟩
  unfold toB at p1
  split at p1
  · cases rx; exact ⟨_, rfl, p1 _ _ _ r1 (.bl _) t1⟩
  · exact p1.elim
theorem t_not {t : DT} (ha : PT X a (tB T cur W X t)) : PT X (.UnaryOp .Not a pos) (tB T cur W X (tNot t)) := by
  refine (pt_not ha).imp fun σ H Q w => ?_
  obtain ⟨env, S, μ, r, e, p⟩ := w
  refine ⟨env, S, μ, r, e, (PG.bind (R := RB) p).imp fun v H1 ⟨μ1, S1, x, r1, rx, t1, p1⟩ => ?_⟩
  cases rx
  exact p1 _ _ _ r1 rfl t1
theorem e_if {t : DT} (ht : PT X c (tB T cur W X t)) (ha : PE X a (tX T cur W X f)) (hb : PE X b (tX T cur W X g)) : PE X (.IfExp c a b pos) (tX T cur W X (mIf t f g)) := by
  refine (pe_ifExp ht ha hb).imp fun σ H Q w => ?_
  obtain ⟨env, S, μ, r, e, p⟩ := w
  refine ⟨env, S, μ, r, e, (PG.bind (R := RB) p).imp fun v H1 ⟨μ1, S1, x, r1, rx, t1, p1⟩ => ?_⟩
  have ev : v = x := rx
  subst ev
  cases v with
  | true => exact ⟨env, S1, μ1, r1, e.mono r t1, p1.rebase t1⟩
  | false => exact ⟨env, S1, μ1, r1, e.mono r t1, p1.rebase t1⟩
/-- what is known of each of some expressions -/
structure SndE (T : Tab) (cur : Option (Addr × Addr)) (W : WX) (X : Cx) (e : Expr) (d : Dn) : Prop where
  x : PE X e (tX T cur W X d.x)
  t : PT X e (tB T cur W X d.t)
def SndL (T : Tab) (cur : Option (Addr × Addr)) (W : WX) (X : Cx) : List Expr → List Dn → Prop
  | [], [] => True
  | e :: es, d :: ds => SndE T cur W X e d ∧ SndL T cur W X es ds
  | _, _ => False
theorem e_and : ∀ {es : List Expr} {ds : List Dn}, SndL T cur W X es ds → PE X (.BoolOp .And es pos) (tX T cur W X (andX ds))
  | [], [], _ => e_stuck
  | [e], [d], h => pe_one h.1.x
  | e :: e2 :: es, d :: d2 :: ds, h => by
    refine (pe_and h.1.x (e_and (es := e2 :: es) (ds := d2 :: ds) h.2)).imp fun σ H Q w => ?_
    obtain ⟨env, S, μ, r, e, p⟩ := w
    refine ⟨env, S, μ, r, e, (PG.bind (R := RX T X.K) p).imp fun v H1 ⟨μ1, S1, x, r1, rx, t1, p1⟩ => ?_⟩
    split at p1
    · cases rx; exact ⟨true, rfl, env, S1, μ1, r1, e.mono r t1, p1.rebase t1⟩
    · cases rx; exact ⟨false, rfl, p1 _ _ _ r1 (.bl _) t1⟩
    · exact p1.elim
  | [_], [], h => h.elim
  | [_], _ :: _ :: _, h => h.2.elim
  | _ :: _ :: _, [_], h => h.2.elim
theorem e_or : ∀ {es : List Expr} {ds : List Dn}, SndL T cur W X es ds → PE X (.BoolOp .Or es pos) (tX T cur W X (orX ds))
  | [], [], _ => e_stuck
  | [e], [d], h => pe_one h.1.x
  | e :: e2 :: es, d :: d2 :: ds, h => by
    refine (pe_or h.1.x (e_or (es := e2 :: es) (ds := d2 :: ds) h.2)).imp fun σ H Q w => ?_
    obtain ⟨env, S, μ, r, e, p⟩ := w
    refine ⟨env, S, μ, r, e, (PG.bind (R := RX T X.K) p).imp fun v H1 ⟨μ1, S1, x, r1, rx, t1, p1⟩ => ?_⟩
    split at p1
    · cases rx; exact ⟨true, rfl, p1 _ _ _ r1 (.bl _) t1⟩
    · cases rx; exact ⟨false, rfl, env, S1, μ1, r1, e.mono r t1, p1.rebase t1⟩
    · exact p1.elim
  | [_], [], h => h.elim
  | [_], _ :: _ :: _, h => h.2.elim
  | _ :: _ :: _, [_], h => h.2.elim
theorem w_and : ∀ {es : List Expr} {ds : List Dn}, SndL T cur W X es ds → PW X (.BoolOp .And es pos) (tB T cur W X (andT ds))
  | [], [], _ => .no fun _ _ _ => tG.none fun _ _ => rfl
  | [e], [d], h => pw_and1 h.1.t
  | e :: e2 :: es, d :: d2 :: ds, h => by
    refine (pw_and h.1.t (w_and (es := e2 :: es) (ds := d2 :: ds) h.2)).imp fun σ H Q w => ?_
    obtain ⟨env, S, μ, r, e, p⟩ := w
    refine ⟨env, S, μ, r, e, (PG.bind (R := RB) p).imp fun v H1 ⟨μ1, S1, x, r1, rx, t1, p1⟩ => ?_⟩
    have ev : v = x := rx
    subst ev
    cases v with
    | true => exact ⟨env, S1, μ1, r1, e.mono r t1, p1.rebase t1⟩
    | false => exact p1 _ _ _ r1 rfl t1
  | [_], [], h => h.elim
  | [_], _ :: _ :: _, h => h.2.elim
  | _ :: _ :: _, [_], h => h.2.elim
theorem w_or : ∀ {es : List Expr} {ds : List Dn}, SndL T cur W X es ds → PW X (.BoolOp .Or es pos) (tB T cur W X (orT ds))
  | [], [], _ => .no fun _ _ _ => tG.none fun _ _ => rfl
  | [e], [d], h => pw_or1 h.1.t
  | e :: e2 :: es, d :: d2 :: ds, h => by
    refine (pw_or h.1.t (w_or (es := e2 :: es) (ds := d2 :: ds) h.2)).imp fun σ H Q w => ?_
    obtain ⟨env, S, μ, r, e, p⟩ := w
    refine ⟨env, S, μ, r, e, (PG.bind (R := RB) p).imp fun v H1 ⟨μ1, S1, x, r1, rx, t1, p1⟩ => ?_⟩
    have ev : v = x := rx
    subst ev
    cases v with
    | true => exact p1 _ _ _ r1 rfl t1
    | false => exact ⟨env, S1, μ1, r1, e.mono r t1, p1.rebase t1⟩
  | [_], [], h => h.elim
  | [_], _ :: _ :: _, h => h.2.elim
  | _ :: _ :: _, [_], h => h.2.elim

/-! ### arguments, displays -/
theorem e_sit (ha : PE X a (tX T cur W X f)) : PE X a (tDd T cur W X (mD f)) := by
  refine ha.imp fun σ H Q w => (tG.bind (R := RX T X.K) (k := fun _ => sit) w).imp fun v H1 ⟨env, μ, μ1, S1, x, e1, r1, rx, t1, p⟩ => ?_
  obtain ⟨d, S', μ', q, r', dv, t', _⟩ := sit_ok r1 t1 rx
  rw [q] at p
  exact p _ _ _ r' dv t'
theorem star_ok {e : Expr} {es : List Expr} (h : noStar e = true) (env : PySem.Env) : starEach (e :: es) env = (false, eval e env) :: starEach es env := by
  cases e <;> first | rfl | cases h
theorem stars_ok : ∀ {es : List Expr} (h : noStars es = true) (env : PySem.Env), ∀ x ∈ starEach es env, x.1 = false
  | [], _, _ => fun x hx => by cases hx
  | e :: es, h, env => fun x hx => by
    obtain ⟨h1, h2⟩ := Bool.and_eq_true_iff.mp (show (noStar e && noStars es) = true from h)
    rw [star_ok h1] at hx
    rcases List.mem_cons.mp hx with rfl | hx
    · rfl
    · exact stars_ok h2 env x hx
theorem back_any {es : List Expr} (h : noStars es = true) (env : PySem.Env) (p : Pos) : (backTo p (starEach es env)).any (·.1) = false := by
  rw [List.any_eq_false]
  intro x hx
  obtain ⟨y, hy, rfl⟩ := List.mem_map.mp hx
  have := stars_ok h env y hy
  simp [this]
theorem back_all {es : List Expr} (h : noStars es = true) (env : PySem.Env) (p : Pos) : (backTo p (starEach es env)).all (fun x => !x.1) = true := by
  rw [List.all_eq_true]
  intro x hx
  obtain ⟨y, hy, rfl⟩ := List.mem_map.mp hx
  have := stars_ok h env y hy
  simp [this]
theorem a_args : ∀ {es : List Expr} {ds : List Dn}, noStars es = true → SndL T cur W X es ds → PA X es (tAs T cur W X (mArgs (ds.map Dn.x)))
  | [], [], _, _ => pa_nil.imp fun σ H Q ⟨env, S, μ, r, e, p⟩ => p _ _ _ r .nil .refl
  | e :: es, d :: ds, hn, h => by
    obtain ⟨h1, h2⟩ := Bool.and_eq_true_iff.mp (show (noStar e && noStars es) = true from hn)
    refine (pa_cons (e_sit h.1.x) (a_args h2 h.2) (star_ok h1 _)).imp fun σ H Q w => ?_
    refine (tG.bind (R := RD T X.K) (k := fun e d S1 => (mArgs (ds.map Dn.x) e S1).bind fun ds S2 => .ok (d :: ds) S2) w).imp fun v H1 ⟨env, μ, μ1, S1, x, e1, r1, rx, t1, p⟩ => ?_
    refine ⟨env, S1, μ1, r1, e1, (PG.bind2 (R := RA T X.K) t1 p).imp fun vs H2 ⟨μ2, S2, xs, r2, rxs, t2, p2⟩ => ?_⟩
    exact p2 _ _ _ r2 (.cons (t2.dv r1 rx) rxs) (t1.trans t2)
  | _ :: _, [], _, h => h.elim
  | [], _ :: _, _, h => h.elim
theorem e_tup {es : List Expr} {ds : List Dn} {n : Nat} (hn : noStars es = true) (h : SndL T cur W X es ds) : PE X (.Tuple es n pos) (tX T cur W X (mTup (ds.map Dn.x))) := by
  refine (pe_tup (a_args hn h)).imp fun σ H Q w => ?_
  refine (tG.bind (R := RA T X.K) (k := fun _ ds S1 => if lok ds.length then .ok (XV.d (.tup ds)) S1 else .stuck) w).imp fun vs H1 ⟨env, μ, μ1, S1, xs, e1, r1, rx, t1, p⟩ => ?_
  split at p
  · rename_i hl
    refine ⟨by rw [DVs.length rx]; exact lok_le hl, fun q hq => new_tup r1 rx hq fun v H' r' z t' => p v H' μ1 r' z (t1.trans t')⟩
  · exact p.elim
theorem e_lst {es : List Expr} {ds : List Dn} (hn : noStars es = true) (h : SndL T cur W X es ds) : PE X (.List es pos) (tX T cur W X (mLst (ds.map Dn.x))) := by
  refine (pe_lst (a_args hn h)).imp fun σ H Q w => ?_
  refine (tG.bind (R := RA T X.K) (k := fun _ ds S1 => if lok ds.length then .ok (XV.fl ds) S1 else .stuck) w).imp fun vs H1 ⟨env, μ, μ1, S1, xs, e1, r1, rx, t1, p⟩ => ?_
  split at p
  · rename_i hl
    refine ⟨by rw [DVs.length rx]; exact lok_le hl, fun q hq => new_fl r1 rx hq fun v H' r' z t' => p v H' μ1 r' ((RX T X.K).base (fun a n => t1.dom a n) z) (t1.trans t')⟩
  · exact p.elim

/-! ### subscripts, attributes -/
theorem plainIx_ok {e : Expr} (h : plainIx e = true) : PlainIx e := by
  intro o i
  cases e <;> first | rfl | cases h
theorem e_ix (hi : plainIx b = true) (ha : PE X a (tX T cur W X f)) (hb : PE X b (tX T cur W X g)) : PE X (.Subscript a b pos) (tX T cur W X (mIx f g)) := by
  refine (pe_ix (ix_ok (T := T)) ha hb (plainIx_ok hi)).imp fun σ H Q w => (tG.two w).imp fun v H1 w1 => w1.imp fun v2 H2 ⟨env, μ, μ2, S2, x, y, e2, r2, rx, ry, t2, p⟩ => ?_
  cases q : opIx x y S2 with
  | none => rw [q] at p; exact p.elim
  | some z => rw [q] at p; exact ⟨μ2, S2, x, y, z, r2, RX.w rx, RX.w ry, q, fun v' H' r' z' t' => p v' H' μ2 r' ((RX T X.K).base (fun a n => t2.dom a n) z') (t2.trans t')⟩
def RO : Rl (Option Int) (Option Int) where
  r _ _ _ v d := v = d
  base _ r := r
abbrev tO (T : Tab) (cur : Option (Addr × Addr)) (W : WX) (X : Cx) (f : DO) : TO := tG T X.K cur W RO f
theorem _root_.L2.PO.imp {X : Cx} {e : Option Expr} {t t' : TO} (h : PO X e t) (q : ∀ σ H Q, t' σ H Q → t σ H Q) : PO X e t' := ⟨fun pins s σ H Q I w => h.run pins s σ H Q I (q σ H Q w)⟩
theorem o_none : PO X none (tO T cur W X oNone) := po_none.imp fun σ H Q ⟨env, S, μ, r, e, p⟩ => p _ _ _ r rfl .refl
theorem o_some (ha : PE X a (tX T cur W X f)) : PO X (some a) (tO T cur W X (oSome f)) := by
  refine (po_some ha).imp fun σ H Q w => ?_
  obtain ⟨env, S, μ, r, e, p⟩ := w
  refine ⟨env, S, μ, r, e, (PG.bind (R := RX T X.K) p).imp fun v H1 ⟨μ1, S1, x, r1, rx, t1, p1⟩ => ?_⟩
  split at p1
  · cases rx; exact ⟨_, rfl, p1 _ _ _ r1 rfl t1⟩
  · exact p1.elim
theorem e_sl {lo hi : Option Expr} {p2 : Pos} {l u : DO} (ha : PE X a (tX T cur W X f)) (hl : PO X lo (tO T cur W X l)) (hu : PO X hi (tO T cur W X u)) : PE X (.Subscript a (.Slice lo hi none p2) pos) (tX T cur W X (mSl f l u)) := by
  refine (pe_slice (sl_ok (T := T)) ha hl hu).imp fun σ H Q w => ?_
  refine (tG.bind (R := RX T X.K) (k := fun e x S1 => (l e S1).bind fun l S2 => (u e S2).bind fun h S3 => okv (α := Unit) (opSl x l h S3) S3) w).imp fun v H1 ⟨env, μ, μ1, S1, x, e1, r1, rx, t1, p⟩ => ?_
  refine ⟨env, S1, μ1, r1, e1, (PG.bind2 (R := RO) t1 p).imp fun v2 H2 ⟨μ2, S2, y, r2, ry, t2, p2⟩ => ?_⟩
  refine ⟨env, S2, μ2, r2, e1.mono r1 t2, (PG.bind2 (R := RO) (t1.trans t2) p2).imp fun v3 H3 ⟨μ3, S3, z, r3, rz, t3, p3⟩ => ?_⟩
  cases ry; cases rz
  cases q : opSl x v2 v3 S3 with
  | none => rw [q] at p3; exact p3.elim
  | some z => rw [q] at p3; exact ⟨μ3, S3, x, z, r3, (RX.w rx).tr r1 (t2.trans t3), q, fun v' H' r' z' t' => p3 v' H' μ3 r' ((RX T X.K).base (fun a n => t1.dom a (t2.dom a (t3.dom a n))) z') (((t1.trans t2).trans t3).trans t')⟩
theorem base_ok {o : Expr} (h : isBase o = true) (x : Str) (env : PySem.Env) : attributeBase o x env (eval o env) = eval o env := by
  cases o <;> first | rfl | cases h
theorem FV.get {K : PySem.W.Frag} {μ : Mu} {H : Hp} {x : Str} : ∀ {vs : List (Str × V)} {ds : List (Str × D)}, FV T K μ H vs ds → (∀ w, ds.lookup x = some w → ∃ v, vs.lookup x = some v ∧ DV T K μ H v w) ∧ (ds.lookup x = none → vs.lookup x = none)
  | [], [], _ => ⟨fun w e => (by cases e), fun _ => rfl⟩
  | (y, v) :: vs, (z, d) :: ds, h => by
    obtain ⟨rfl, hd, h⟩ := h
    simp only [List.lookup_cons]
    cases x == y with
    | true => exact ⟨fun w e => (by cases e; exact ⟨v, rfl, hd⟩), fun e => (by cases e)⟩
    | false => exact FV.get h
  | [], _ :: _, h => h.elim
  | _ :: _, [], h => h.elim
theorem fld_at {K : PySem.W.Frag} {μ : Mu} {S : Store} {H : Hp} {d : D} {v : V} {r c : Nat} {fs : List (Str × D)} (R : Rep T K μ S H) (h : DV T K μ H v d) (e : fldOf d S = some (r, c, fs)) :
    ∃ p dx vfs, d = .ref r ∧ v = .ref p ∧ μ[r]? = some p ∧ H p = some (.ins (T.ca c) dx vfs) ∧ FV T K μ H vfs fs := by
  unfold fldOf at e
  split at e
  · split at e
    · rename_i q; cases e
      cases h with | ref h1 =>
      obtain ⟨dx, vfs, b, c⟩ := R.ob _ _ _ h1 q
      exact ⟨_, dx, vfs, rfl, rfl, h1, b, c⟩
    · cases e
  · cases e
theorem e_fld {x : Str} (cx : CtxE T s cur W X) (hb : isBase a = true) (ha : PE X a (tX T cur W X f)) : PE X (.Attribute a x pos) (tX T cur W X (mFld s.C f x)) := by
  refine (pe_fld ha (base_ok hb x _)).imp fun σ H Q w => ?_
  obtain ⟨env, S, μ, r, e, p⟩ := w
  refine ⟨env, S, μ, r, e, (PG.bind (R := RX T X.K) p).imp fun v H1 ⟨μ1, S1, y, r1, rx, t1, p1⟩ => ?_⟩
  split at p1
  · split at p1
    · rename_i e1
      split at p1
      · rename_i e2 e3
        obtain ⟨q, dx, vfs, rfl, rfl, hr, hp, fv⟩ := fld_at r1 rx e1
        obtain ⟨v', l, dv⟩ := (FV.get fv).1 _ e3
        obtain ⟨c1, c2⟩ := cx.fx.fld _ _ e2
        exact ⟨q, _, dx, vfs, v', rfl, hp, c1, c2, l, p1 _ _ _ r1 dv t1⟩
      · exact p1.elim
    · exact p1.elim
  · exact p1.elim
end
end L3


/-! L3G: calls of defs, of classes, of methods, of built-in functions. -/
namespace L3
open PySem PySem.Spec PyProof.Rows L2
section
variable {T : Tab} {s : Sc} {cur : Option (Addr × Addr)} {W : WX} {X : Cx} {pos : Pos} {a b c : Expr} {f g h : DX} {d : Dn} {es : List Expr} {ds : List Dn}
theorem SndL.len : ∀ {es : List Expr} {ds : List Dn}, SndL T cur W X es ds → es.length = ds.length
  | [], [], _ => rfl
  | _ :: es, _ :: ds, h => by rw [List.length_cons, List.length_cons, SndL.len h.2]
  | [], _ :: _, h => h.elim
  | _ :: _, [], h => h.elim
theorem mArgs_len : ∀ {fs : List DX} {e : Env} {S S' : Store} {xs : List D}, mArgs fs e S = .ok xs S' → xs.length = fs.length
  | [], _, _, _, _, q => by cases q; rfl
  | f :: fs, e, S, S', xs, q => by
    unfold mArgs at q
    cases q1 : mD f e S with
    | ok v S1 =>
      rw [q1] at q
      simp only [Out.bind] at q
      cases q2 : mArgs fs e S1 with
      | ok vs S2 => rw [q2] at q; cases q; rw [List.length_cons, List.length_cons, mArgs_len q2]
      | exc _ _ _ => rw [q2] at q; cases q
      | stuck => rw [q2] at q; cases q
    | exc _ _ _ => rw [q1] at q; cases q
    | stuck => rw [q1] at q; cases q
theorem fillD_len {C : Cfg} {i : Nat} {xs : List D} (h : arityOk C i xs.length = true) : (fillD C i xs).length = C.arity i := by
  have h := of_decide_eq_true h
  unfold fillD
  rw [List.length_append, List.length_drop]
  omega
/-- the arguments' number is known -/
theorem PG.nArgs {K : PySem.W.Frag} {σ : L2.St} {μ : Mu} {H : Hp} {Q : List V → Hp → Prop} {n : Nat} {o : Out (List D)} (ho : ∀ xs S', o = .ok xs S' → xs.length = n) (p : PG T K W (RA T K) σ μ H (fun us H1 => us.length = n → Q us H1) o) : PG T K W (RA T K) σ μ H Q o := by
  cases o with
  | ok xs S1 => exact fun v H' μ' r dv t => p v H' μ' r dv t (by rw [DVs.length dv, ho _ _ rfl])
  | exc c fs S => exact p
  | stuck => exact p
theorem PG.xv {K : PySem.W.Frag} {σ : L2.St} {μ μ1 : Mu} {H H1 : Hp} {Q : VK} {o : Out D} (t : Tr μ H μ1 H1) (p : PG T K W (RX T K) σ μ H Q (xv o)) : PG T K (fun cls d _ H => WE W σ cls d H) (RD T K) [] μ1 H1 Q o := by
  cases o with
  | ok d S => exact fun v H' μ' r dv t' => p v H' μ' r dv (t.trans t')
  | exc c fs S => exact fun cls d H' μ' r e t' => p cls d H' μ' r e (t.trans t')
  | stuck => exact p

/-! ### defs -/
theorem call0_of {CX : CXT} {k : Nat} {f : Addr} {fd : FuncData} {ps : List Str} {sp : Sp} {dvs : List V} {vs : List Value} {E : L2.St → XK} {x : Str} {p : Pos} (F : FnOk X.prog X.w X.K X.mg X.base CX k f fd ps sp) (hr : Room k X.A) (hg : Gl X x) (hm : X.mg x = some (.ref f))
    (hk : PySem.W.keepIn X.K (.ref f) = true) (hb : Binds X.K fd ps vs) (hd : Vals dvs vs) (hx : ∀ σ, PassesAt CX X σ (E σ)) (hdb : (x == ("__debug__" : Str)) = false) : PE X (.Call (.Name x p) [] [] pos) (tCallSD sp dvs E tNil) :=
  ⟨fun pins s σ H Q I q => wpAny_Call_Name_kw (ld_glob I hg hm (PySem.W.callWith_K0 I.kIn hk (run_fnSD (us := []) (vs := []) F hr hb hd (hx σ) I .nil q)) hdb)⟩
theorem e_call {x : Str} {p : Pos} {i : Nat} (cx : CtxE T s cur W X) (hc : s.calm = true) (hg : isGl s x = true) (hl : s.C.gl.lookup x = some (.fn i)) (hn : noStars es = true) (h : SndL T cur W X es ds) :
    PE X (.Call (.Name x p) es [] pos) (tX T cur W X (mCall s.C i (ds.map Dn.x))) := by
  unfold mCall
  split
  · rename_i ha
    rw [List.length_map, ← h.len] at ha
    obtain ⟨g1, g2⟩ := isGl_ok cx hg
    obtain ⟨k, hr, hk⟩ := cx.call hc
    obtain ⟨fd, ps, F, hps, kp, hbd⟩ := hk i (.inl ⟨x, hl⟩)
    have ha2 := of_decide_eq_true ha
    obtain ⟨dvs, vs, hv, hb, hdv⟩ := hbd es.length ha2.1 ha2.2
    have hx : ∀ σ, PassesAt (L2.CX X.prog X.w) X σ (WE W σ) := passAt (cx.tk hc)
    have key : ∀ σ H Q, tX T cur W X (fun e S => (mArgs (ds.map Dn.x) e S).bind fun xs S1 => L3.xv (s.C.calls i (fillD s.C i xs) S1)) σ H Q →
        tAs T cur W X (mArgs (ds.map Dn.x)) σ H fun us H1 => us.length = es.length → spF T X.K (s.C.arity i) (s.C.calls i) (us ++ dvs) H1 Q (WE W σ) := fun σ H Q w =>
      (tG.bind (R := RA T X.K) (k := fun _ xs S1 => L3.xv (s.C.calls i (fillD s.C i xs) S1)) w).imp fun us H1 ⟨env, μ, μ1, S1, xs, e1, r1, rx, t1, p1⟩ hlen => by
        have hxl : xs.length = es.length := by rw [← hlen]; exact (DVs.length rx).symm
        have hd := hdv μ1 H1
        rw [← hxl] at hd
        exact ⟨μ1, S1, _, r1, DVs.append rx hd, fillD_len (by rw [hxl]; exact ha), PG.xv t1 p1⟩
    cases es with
    | nil =>
      refine (call0_of F hr g1 (cx.fx.fn _ _ hl) kp hb hv hx g2).imp fun σ H Q w => ?_
      obtain ⟨env, S, μ, r, e, p⟩ := key σ H Q w
      cases ds with
      | nil => exact p [] H μ r .nil .refl rfl
      | cons _ _ => exact h.elim
    | cons e es =>
      obtain ⟨h1, h2⟩ := Bool.and_eq_true_iff.mp (show (noStar e && noStars es) = true from hn)
      refine (pe_callSD F hr g1 (cx.fx.fn _ _ hl) kp hb hv hx (a_args hn h) g2 (star_ok h1 _) (back_any h2 _ _)).imp fun σ H Q w => ?_
      obtain ⟨env, S, μ, r, e', p⟩ := key σ H Q w
      exact ⟨env, S, μ, r, e', PG.nArgs (fun xs S' q => by rw [mArgs_len q, List.length_map, ← h.len]) p⟩
  · exact e_stuck
end
end L3


/-! L3H: new instances, methods, built-in functions. -/
namespace L3
open PySem PySem.Spec PyProof.Rows L2
section
variable {T : Tab} {s : Sc} {cur : Option (Addr × Addr)} {W : WX} {X : Cx} {pos : Pos} {a b c : Expr} {f g h : DX} {d : Dn} {es : List Expr} {ds : List Dn}

/-! ### a new instance -/
/-- C(..), what is raised wished for at the slots -/
def tMk (C : Addr) (sp : Sp) (dvs : List V) (E : L2.St → XK) (t : TA) : TE := fun σ H Q => t σ H fun vs H1 => ∀ x dx, H1 x = none → H1 dx = none → dx ≠ x →
  sp (.ref x :: (vs ++ dvs)) (upd (upd H1 dx (.own x)) x (.ins C dx [])) (fun v H2 => v = .non ∧ Q (.ref x) H2) (E σ)
theorem mk_run {k : Nat} {C f : Addr} {fd : FuncData} {ps : List Str} {sp : Sp} {dvs : List V} {xs : List Value} {CX : CXT} {E : XK} {pins : List (Addr × Obj)} {σ : L2.St} {H : Hp} {s : Shared} {Q : VK} {us : List Value} {vs : List V}
    (M : Mk X.K C f) (F : FnOk X.prog X.w X.K X.mg X.base CX k f fd ps sp) (hr : Room (k + 1) X.A) (hb : Binds X.K fd ps xs) (hd : Vals dvs xs) (hx : PassesAt CX X σ E) (I : Inv X pins σ H s) (r : Vals vs us)
    (h : ∀ x dx, H x = none → H dx = none → dx ≠ x → sp (.ref x :: (vs ++ dvs)) (upd (upd H dx (.own x)) x (.ins C dx [])) (fun v H2 => v = .non ∧ Q (.ref x) H2) E) :
    wpAny (model X.prog X.w) X.A (call (.ref C) us) (EP X pins σ Q) X.xe s := by
  let n := s.heap.objs.size
  have hq := h (n + 1) n (I.hok.fresh (Nat.le_succ _)) (I.hok.fresh (Nat.le_refl _)) (Nat.ne_of_lt (Nat.lt_succ_self _))
  have J := Inv.made (C := C) I
  have rr : Vals (V.ref (n + 1) :: (vs ++ dvs)) (Value.ref (n + 1) :: (us ++ xs)) := .cons rfl (r.append hd)
  have hl : (Value.ref (n + 1) :: us ++ xs).length = ps.length := (rr.length.symm.trans (F.len _ _ _ _ hq))
  have go := F.run (X.A.under (.builtin "type.__call__" ⟨.ref C :: us, []⟩)) X.stack _ _ ⟨Value.ref (n + 1) :: us, []⟩ (Value.ref (n + 1) :: (us ++ xs)) _ _ E (hr.make C us []) (J.env0.make C us []) (hb _ (Value.ref (n + 1) :: us) J.kIn hl) rr hq
  refine wpAny_call (make_map (f := f) I.kIn M.makes M.init (beq_iff_eq.mp M.fn) (codeAny_mono go fun o s' ho => ?_))
  match o, ho with
  | .error e, ho => exact hx pins _ _ e s' J ho
  | .ok (.ret u), ho =>
    obtain ⟨v, H', J', rv, ev, q3⟩ := J.after ho
    subst ev
    exact ⟨rv, ⟨V.ref (n + 1), H', J', rfl, q3⟩⟩
  | .ok .next, ho => exact False.elim ho
  | .ok .brk, ho => exact False.elim ho
  | .ok .cont, ho => exact False.elim ho
theorem mk0_of {k : Nat} {C f : Addr} {fd : FuncData} {ps : List Str} {sp : Sp} {dvs : List V} {xs : List Value} {CX : CXT} {E : L2.St → XK} {x : Str} {p : Pos} (M : Mk X.K C f) (F : FnOk X.prog X.w X.K X.mg X.base CX k f fd ps sp) (hr : Room (k + 1) X.A) (hg : Gl X x) (hm : X.mg x = some (.ref C))
    (hb : Binds X.K fd ps xs) (hd : Vals dvs xs) (hx : ∀ σ, PassesAt CX X σ (E σ)) (hdb : (x == ("__debug__" : Str)) = false) : PE X (.Call (.Name x p) [] [] pos) (tMk C sp dvs E tNil) :=
  ⟨fun pins s σ H Q I q => wpAny_Call_Name_kw (ld_glob I hg hm (PySem.W.callWith_K0 I.kIn M.kp (mk_run (us := []) (vs := []) M F hr hb hd (hx σ) I .nil q)) hdb)⟩
theorem mk_of {k : Nat} {C f : Addr} {fd : FuncData} {ps : List Str} {sp : Sp} {dvs : List V} {xs : List Value} {CX : CXT} {E : L2.St → XK} {x : Str} {p : Pos} {e : Expr} {t : TA} (M : Mk X.K C f) (F : FnOk X.prog X.w X.K X.mg X.base CX k f fd ps sp) (hr : Room (k + 1) X.A) (hg : Gl X x)
    (hm : X.mg x = some (.ref C)) (hb : Binds X.K fd ps xs) (hd : Vals dvs xs) (hx : ∀ σ, PassesAt CX X σ (E σ)) (hdb : (x == ("__debug__" : Str)) = false) (ha : PA X (e :: es) t) (hn : noStars (e :: es) = true) : PE X (.Call (.Name x p) (e :: es) [] pos) (tMk C sp dvs E t) := by
  obtain ⟨h1, h2⟩ := Bool.and_eq_true_iff.mp (show (noStar e && noStars es) = true from hn)
  exact ⟨fun pins s σ H Q I q => wpAny_Call_Name_kw (ld_glob I hg hm (PySem.W.callWith_K (h₀ := X.base) I.ok.mod.kin M.kp (thn (ha.run pos pins s σ H _ I q) fun us s1 ⟨vs, H1, I1, r, w⟩ => ⟨I1.kIn, mk_run M F hr hb hd (hx σ) I1 r w⟩) (star_ok h1 _) (back_any h2 _ _)) hdb)⟩
/-- the store with a new instance -/
theorem made_ok {K : PySem.W.Frag} {μ : Mu} {S : Store} {H : Hp} {c : Nat} {x dx : Addr} (R : Rep T K μ S H) (hx : H x = none) (hd : H dx = none) (hne : dx ≠ x) :
    Rep T K (μ ++ [x]) (S ++ [.ins c []]) (upd (upd H dx (.own x)) x (.ins (T.ca c) dx [])) ∧ Tr μ H (μ ++ [x]) (upd (upd H dx (.own x)) x (.ins (T.ca c) dx [])) := by
  have hx1 : (upd H dx (.own x)) x = none := by rw [upd_ne hne.symm]; exact hx
  have R2 := (R.laid (o := .own x) hd).laid (o := .ins (T.ca c) dx []) hx1
  have t2 := (Tr.laid (μ := μ) (o := HO.own x) hd).trans (Tr.laid (o := .ins (T.ca c) dx []) hx1)
  exact ⟨R2.push (R.outN hx) ⟨dx, [], upd_same, trivial⟩, t2.push hx⟩
theorem e_make {x : Str} {p : Pos} {k : Nat} (cx : CtxE T s cur W X) (hc : s.calm = true) (hg : isGl s x = true) (hl : s.C.gl.lookup x = some (.cls k)) (hn : noStars es = true) (h : SndL T cur W X es ds) :
    PE X (.Call (.Name x p) es [] pos) (tX T cur W X (mMake s.C k (ds.map Dn.x))) := by
  unfold mMake
  split
  · rename_i i hi
    split
    · rename_i ha
      rw [List.length_map, ← h.len] at ha
      obtain ⟨g1, g2⟩ := isGl_ok cx hg
      obtain ⟨j, hr, hk⟩ := cx.make hc
      obtain ⟨fd, ps, F, hps, kp, hbd⟩ := hk k i hi
      have ha2 := of_decide_eq_true ha
      obtain ⟨dvs, vs, hv, hb, hdv⟩ := hbd (es.length + 1) ha2.1 ha2.2
      have hx : ∀ σ, PassesAt (L2.CX X.prog X.w) X σ (WE W σ) := passAt (cx.tk hc)
      have key : ∀ σ H Q, tX T cur W X (fun e S => (mArgs (ds.map Dn.x) e S).bind fun xs S1 => (s.C.inis i (fillD s.C i (.ref S1.length :: xs)) (S1 ++ [.ins k []])).bind fun v S2 => (match v with
            | .non => .ok (XV.d (.ref S1.length)) S2
            | _ => .stuck)) σ H Q →
          tAs T cur W X (mArgs (ds.map Dn.x)) σ H fun us H1 => us.length = es.length → ∀ x dx, H1 x = none → H1 dx = none → dx ≠ x →
            spF T X.K (s.C.arity i) (s.C.inis i) (.ref x :: (us ++ dvs)) (upd (upd H1 dx (.own x)) x (.ins (T.ca k) dx [])) (fun v H2 => v = .non ∧ Q (.ref x) H2) (WE W σ) := fun σ H Q w =>
        (tG.bind (R := RA T X.K) (k := fun _ xs S1 => (s.C.inis i (fillD s.C i (.ref S1.length :: xs)) (S1 ++ [.ins k []])).bind fun v S2 => (match v with
            | .non => .ok (XV.d (.ref S1.length)) S2
            | _ => .stuck)) w).imp fun us H1 ⟨env, μ, μ1, S1, xs, e1, r1, rx, t1, p1⟩ hlen x dx nx ndx hne => by
          have hxl : xs.length = es.length := by rw [← hlen]; exact (DVs.length rx).symm
          obtain ⟨R2, t2⟩ := made_ok (c := k) r1 nx ndx hne
          have hd := hdv (μ1 ++ [x]) (upd (upd H1 dx (.own x)) x (.ins (T.ca k) dx []))
          rw [← hxl] at hd
          have dr : DV T X.K (μ1 ++ [x]) (upd (upd H1 dx (.own x)) x (.ins (T.ca k) dx [])) (.ref x) (.ref S1.length) := .ref (mu_push r1)
          refine ⟨_, _, fillD s.C i (.ref S1.length :: xs), R2, .cons dr (DVs.append (t2.dvs r1 rx) hd), fillD_len (by rw [List.length_cons, hxl]; exact ha), ?_⟩
          cases q : s.C.inis i (fillD s.C i (.ref S1.length :: xs)) (S1 ++ [.ins k []]) with
          | ok v S2 =>
            rw [q] at p1
            intro v' H' μ' r' dv t'
            cases dv with
            | non => exact ⟨rfl, p1 _ _ _ r' (.ref (t'.pre _ _ (mu_push r1))) ((t1.trans t2).trans t')⟩
            | _ => exact p1.elim
          | exc cc fs S2 =>
            rw [q] at p1
            exact fun cls d H' μ' r' e t' => p1 cls d H' μ' r' e ((t1.trans t2).trans t')
          | stuck => rw [q] at p1; exact p1
      cases es with
      | nil =>
        refine (mk0_of (cx.fx.ini _ _ hi) F hr g1 (cx.fx.cls _ _ hl) hb hv hx g2).imp fun σ H Q w => ?_
        obtain ⟨env, S, μ, r, e, p⟩ := key σ H Q w
        cases ds with
        | nil => exact p [] H μ r .nil .refl rfl
        | cons _ _ => exact h.elim
      | cons e es =>
        refine (mk_of (cx.fx.ini _ _ hi) F hr g1 (cx.fx.cls _ _ hl) hb hv hx g2 (a_args hn h) hn).imp fun σ H Q w => ?_
        obtain ⟨env, S, μ, r, e', p⟩ := key σ H Q w
        exact ⟨env, S, μ, r, e', PG.nArgs (fun xs S' q => by rw [mArgs_len q, List.length_map, ← h.len]) p⟩
    · exact e_stuck
  · exact e_stuck

/-! ### methods -/
theorem kw_nil (p : Pos) (env : PySem.Env) : backToKw p (keywordEach [] env) = [] := rfl
theorem meth_eval {o : Expr} {m : Str} {apos : Pos} {env : PySem.Env} (hb : isBase o = true) (hl : (apos.endLine == pos.line) = true) (hn : noStars es = true) (hf : es.length < 29) :
    eval (.Call (.Attribute o m apos) es [] pos) env = (do
      let ov ← eval o env
      standAt apos.atName
      let (f, first) ← holding [ov] (getMethod ov m (plainOf o env))
      callWith pos f first (backTo pos (starEach es env)) (backToKw pos (keywordEach [] env))) := by
  have e1 : eval (.Call (.Attribute o m apos) es [] pos) env = (do
      let ov ← attributeBase o m env (eval o env)
      standAt apos.atName
      methodCall o m apos pos env ov (es.length + 0) (backTo pos (starEach es env)) (backToKw pos (keywordEach [] env))) := by rfl
  have hform : methodCallForm (es.length + 0) (backTo pos (starEach es env)) (backToKw pos (keywordEach [] env)) = true := by
    unfold methodCallForm
    rw [back_all hn, kw_nil]
    simp
    omega
  rw [e1, base_ok hb]
  congr 1; funext ov
  congr 1; funext _
  rw [mcall_line hform hl]
def tMeS (C : Addr) (m : Str) (sp : Sp) (dvs : List V) (E : L2.St → XK) (ta : TE) (t : TA) : TE := fun σ H Q => ta σ H fun x H1 => ∃ a dx fs, x = .ref a ∧ H1 a = some (.ins C dx fs) ∧ fs.lookup m = none ∧ t σ H1 fun vs H2 => sp (x :: (vs ++ dvs)) H2 Q (E σ)
theorem me_of {k : Nat} {C f : Addr} {fd : FuncData} {ps : List Str} {sp : Sp} {dvs : List V} {xs : List Value} {CX : CXT} {E : L2.St → XK} {m : Str} {o : Expr} {apos : Pos} {ta : TE} {t : TA} {e : Expr} (hb0 : isBase o = true) (hl : (apos.endLine == pos.line) = true) (hn : noStars (e :: es) = true) (hf : (e :: es).length < 29)
    (he : PE X o ta) (c : Cls X.K C) (hm : Meth X.K C m f) (F : FnOk X.prog X.w X.K X.mg X.base CX k f fd ps sp) (hr : Room k X.A) (hb : Binds X.K fd ps xs) (hd : Vals dvs xs) (hx : ∀ σ, PassesAt CX X σ (E σ)) (ha : PA X (e :: es) t) :
    PE X (.Call (.Attribute o m apos) (e :: es) [] pos) (tMeS C m sp dvs E ta t) := by
  refine ⟨fun pins s σ H Q I w => ?_⟩
  refine PySem.W.methodCall_KW (pl := plainOf o X.env) (thn (he.run pins s σ H _ I w) fun u s1 ⟨x, H1, I1, rx, a, dx, fs, ex, ea, l, q⟩ => ?_) (meth_eval hb0 hl hn hf)
  subst ex
  cases rx
  refine getmeth_ok I1 ea c hm l ?_
  obtain ⟨h1, h2⟩ := Bool.and_eq_true_iff.mp (show (noStar e && noStars es) = true from hn)
  refine PySem.W.callWith_K (first := [.ref a]) (h₀ := X.base) I.ok.mod.kin hm.kp (thn (ha.run pos pins s1 σ H1 _ I1 q) fun us s2 ⟨vs, H2, I2, r, q2⟩ => ⟨I2.kIn, ?_⟩) (star_ok h1 _) (back_any h2 _ _)
  exact run_fnSD (us := .ref a :: us) (vs := .ref a :: vs) F hr hb hd (hx σ) I2 (.cons rfl r) q2
theorem me0_of {k : Nat} {C f : Addr} {fd : FuncData} {ps : List Str} {sp : Sp} {dvs : List V} {xs : List Value} {CX : CXT} {E : L2.St → XK} {m : Str} {o : Expr} {apos : Pos} {ta : TE} (hb0 : isBase o = true) (hl : (apos.endLine == pos.line) = true)
    (he : PE X o ta) (c : Cls X.K C) (hm : Meth X.K C m f) (F : FnOk X.prog X.w X.K X.mg X.base CX k f fd ps sp) (hr : Room k X.A) (hb : Binds X.K fd ps xs) (hd : Vals dvs xs) (hx : ∀ σ, PassesAt CX X σ (E σ)) :
    PE X (.Call (.Attribute o m apos) [] [] pos) (tMeS C m sp dvs E ta tNil) := by
  refine ⟨fun pins s σ H Q I w => ?_⟩
  refine PySem.W.methodCall_KW (pl := plainOf o X.env) (thn (he.run pins s σ H _ I w) fun u s1 ⟨x, H1, I1, rx, a, dx, fs, ex, ea, l, q⟩ => ?_) (meth_eval hb0 hl rfl (by decide))
  subst ex
  cases rx
  refine getmeth_ok I1 ea c hm l ?_
  exact PySem.W.callWith_K0 (first := [.ref a]) I1.kIn hm.kp (run_fnSD (us := [.ref a]) (vs := [.ref a]) F hr hb hd (hx σ) I1 (.cons rfl .nil) q)
theorem FV.none {K : PySem.W.Frag} {μ : Mu} {H : Hp} {x : Str} {vs : List (Str × V)} {ds : List (Str × D)} (h : FV T K μ H vs ds) (e : ds.lookup x = none) : vs.lookup x = none := (FV.get h).2 e
/-- a method of an instance of the class c -/
theorem e_methI {o : Expr} {m : Str} {apos : Pos} {k i : Nat} (cx : CtxE T s cur W X) (hc : s.calm = true) (hi : s.C.mth k m = some i) (ha : arityOk s.C i (es.length + 1) = true) (hb0 : isBase o = true) (hl : (apos.endLine == pos.line) = true) (hn : noStars es = true) (hf : es.length < 29)
    (ho : PE X o (tX T cur W X f)) (h : SndL T cur W X es ds) :
    PE X (.Call (.Attribute o m apos) es [] pos) (fun σ H Q => ∃ env S μ d S1 r gs, Rep T X.K μ S H ∧ EnvR T X.K cur μ H σ env ∧ mD f env S = .ok d S1 ∧ fldOf d S1 = some (r, k, gs) ∧ gs.lookup m = none ∧
      PG T X.K W (RX T X.K) σ μ H Q ((mArgs (ds.map Dn.x) env S1).bind fun xs S2 => L3.xv (s.C.calls i (fillD s.C i (d :: xs)) S2))) := by
  obtain ⟨j, hr, hk⟩ := cx.call hc
  obtain ⟨fd, ps, F, hps, kp, hbd⟩ := hk i (.inr ⟨k, m, hi⟩)
  obtain ⟨c1, c2⟩ := cx.fx.mth _ _ _ hi
  have ha2 := of_decide_eq_true ha
  obtain ⟨dvs, vs, hv, hb, hdv⟩ := hbd (es.length + 1) ha2.1 ha2.2
  have hx : ∀ σ, PassesAt (L2.CX X.prog X.w) X σ (WE W σ) := passAt (cx.tk hc)
  have key : ∀ σ H Q, (∃ env S μ d S1 r gs, Rep T X.K μ S H ∧ EnvR T X.K cur μ H σ env ∧ mD f env S = .ok d S1 ∧ fldOf d S1 = some (r, k, gs) ∧ gs.lookup m = none ∧
      PG T X.K W (RX T X.K) σ μ H Q ((mArgs (ds.map Dn.x) env S1).bind fun xs S2 => L3.xv (s.C.calls i (fillD s.C i (d :: xs)) S2))) →
      tDd T cur W X (mD f) σ H fun x H1 => ∃ a dx fs, x = .ref a ∧ H1 a = some (.ins (T.ca k) dx fs) ∧ fs.lookup m = none ∧
        tAs T cur W X (mArgs (ds.map Dn.x)) σ H1 fun us H2 => us.length = es.length → spF T X.K (s.C.arity i) (s.C.calls i) (x :: (us ++ dvs)) H2 Q (WE W σ) := by
    rintro σ H Q ⟨env, S, μ, d, S1, r, gs, R, er, e1, e2, e3, p⟩
    refine ⟨env, S, μ, R, er, ?_⟩
    rw [e1]
    intro v H1 μ1 r1 dv t1
    obtain ⟨q, dx, vfs, rfl, rfl, hq, hp, fv⟩ := fld_at r1 dv e2
    refine ⟨q, dx, vfs, rfl, hp, FV.none fv e3, env, S1, μ1, r1, er.mono R t1, (PG.bind2 (R := RA T X.K) t1 p).imp fun us H2 ⟨μ2, S2, xs, r2, rx, t2, p2⟩ hlen => ?_⟩
    have hxl : xs.length = es.length := by rw [← hlen]; exact (DVs.length rx).symm
    have hd := hdv μ2 H2
    rw [← hxl] at hd
    exact ⟨μ2, S2, fillD s.C i (.ref r :: xs), r2, .cons (t2.dv r1 dv) (DVs.append rx hd), fillD_len (by rw [List.length_cons, hxl]; exact ha), PG.xv (t1.trans t2) p2⟩
  cases es with
  | nil =>
    refine (me0_of hb0 hl (e_sit ho) c1 c2 F hr hb hv hx).imp fun σ H Q w => ?_
    obtain ⟨env, S, μ, r, e, p⟩ := key σ H Q w
    refine ⟨env, S, μ, r, e, p.imp fun x H1 ⟨a, dx, fs, h1, h2, h3, env1, S1, μ1, r1, e1, p1⟩ => ⟨a, dx, fs, h1, h2, h3, ?_⟩⟩
    cases ds with
    | nil => exact p1 [] H1 μ1 r1 .nil .refl rfl
    | cons _ _ => exact h.elim
  | cons e es =>
    refine (me_of hb0 hl hn hf (e_sit ho) c1 c2 F hr hb hv hx (a_args hn h)).imp fun σ H Q w => ?_
    obtain ⟨env, S, μ, r, e', p⟩ := key σ H Q w
    refine ⟨env, S, μ, r, e', p.imp fun x H1 ⟨a, dx, fs, h1, h2, h3, env1, S1, μ1, r1, e1, p1⟩ => ⟨a, dx, fs, h1, h2, h3, env1, S1, μ1, r1, e1, ?_⟩⟩
    exact PG.nArgs (fun xs S' q => by rw [mArgs_len q, List.length_map, ← h.len]) p1
end
end L3


/-! L3I: methods of lists and texts; built-in functions. -/
namespace L3
open PySem PySem.Spec PyProof.Rows L2
section
variable {T : Tab} {s : Sc} {cur : Option (Addr × Addr)} {W : WX} {X : Cx} {pos p1 p2 : Pos} {a b c : Expr} {f g h : DX} {d : Dn} {es : List Expr} {ds : List Dn}
def tyM : M1 → String
  | .append => "list" | .extend => "list" | .pop => "list" | .popAt => "list" | .insert => "list"
  | _ => "str"
theorem some_lst {d : D} {S : Store} (h : (lstOf d S).isSome = true) : ∃ r ds, lstOf d S = some (r, ds) := by
  obtain ⟨⟨r, ds⟩, e⟩ := Option.isSome_iff_exists.mp h
  exact ⟨r, ds, e⟩
theorem rec_lst {K : PySem.W.Frag} {μ : Mu} {S : Store} {H : Hp} {v : V} {d : D} (R : Rep T K μ S H) (h : DV T K μ H v d) (e : (lstOf d S).isSome = true) : tyV K "list" v H := by
  obtain ⟨r, ds, e⟩ := some_lst e
  obtain ⟨p, vs, rfl, rfl, hr, hp, dw⟩ := lst_at R h e
  exact .inl ⟨rfl, vs, .inl (.inl hp)⟩
theorem rec_str {K : PySem.W.Frag} {μ : Mu} {H : Hp} {v : V} {d : D} (h : DV T K μ H v d) (e : isStrD d = true) : tyV K "str" v H := by
  cases h <;> first | rfl | cases e
theorem rec_ty {K : PySem.W.Frag} {μ : Mu} {S : Store} {H : Hp} {v : V} {d : D} {mk : M1} (R : Rep T K μ S H) (h : DV T K μ H v d) (e : recOk mk d S = true) : tyV K (tyM mk) v H := by
  cases mk <;> first | exact rec_lst R h e | exact rec_str h e
/-- what is left of a method's call, the receiver known -/
def bmTE (T : Tab) (cur : Option (Addr × Addr)) (W : WX) (X : Cx) (f : DX) (fs : List DX) (mk : M1) : TE := fun σ H Q => ∃ env S μ d S1, Rep T X.K μ S H ∧ EnvR T X.K cur μ H σ env ∧ mD f env S = .ok d S1 ∧ recOk mk d S1 = true ∧
  PG T X.K W (RX T X.K) σ μ H Q (mArg1 mk d fs env S1)
variable {o e e2 : Expr} {m : Str} {apos : Pos} {mk : M1} {id : String}
theorem bm0 (pa : PlainAttrs (tyM mk)) (slot : Slot (tyM mk) m id) (hty : typeOf (.builtin id) = pure (.type "method_descriptor")) (hm : MtR X id (rL0 T X.K mk)) (hb0 : isBase o = true) (hl : (apos.endLine == pos.line) = true) (ho : PE X o (tX T cur W X f)) :
    PE X (.Call (.Attribute o m apos) [] [] pos) (bmTE T cur W X f [] mk) := by
  refine (pe_bm0 pa slot hty hm (e_sit ho) (base_ok hb0 m _) hl).imp fun σ H Q ⟨env, S, μ, d, S1, R, er, e1, e2, p⟩ => ?_
  refine ⟨env, S, μ, R, er, ?_⟩
  rw [e1]
  intro v H1 μ1 r1 dv t1
  exact ⟨rec_ty r1 dv e2, μ, H, μ1, S1, d, W, σ, rfl, r1, t1, dv, p⟩
theorem bm1 (pa : PlainAttrs (tyM mk)) (slot : Slot (tyM mk) m id) (hty : typeOf (.builtin id) = pure (.type "method_descriptor")) (hm : MtR X id (rL1 T X.K mk)) (hb0 : isBase o = true) (hl : (apos.endLine == pos.line) = true) (ho : PE X o (tX T cur W X f)) (hn : noStars [e] = true) (hg : PE X e (tX T cur W X g)) :
    PE X (.Call (.Attribute o m apos) [e] [] pos) (bmTE T cur W X f [g] mk) := by
  have h1 : noStar e = true := by simpa [noStars] using hn
  refine (pe_bm pa slot hty hm (e_sit ho) (pa_cons hg pa_nil (star_ok h1 _)) (base_ok hb0 m _) (by rw [back_all hn]; rfl) hl (star_ok h1 _) rfl).imp fun σ H Q ⟨env, S, μ, d, S1, R, er, e1, e2, p⟩ => ?_
  refine ⟨env, S, μ, R, er, ?_⟩
  rw [e1]
  intro v H1 μ1 r1 dv t1
  have p : PG T X.K W (RX T X.K) σ μ H Q ((g env S1).bind fun y S2 => opL1 mk d y S2) := p
  refine ⟨rec_ty r1 dv e2, env, S1, μ1, r1, er.mono R t1, (PG.bind2 (R := RX T X.K) t1 p).imp fun w H2 ⟨μ2, S2, y, r2, ry, t2, p2⟩ => ?_⟩
  exact ⟨μ, H, μ2, S2, d, w, y, W, σ, rfl, r2, t1.trans t2, t2.dv r1 dv, (RX T X.K).base (fun a z => t1.dom a z) ry, p2⟩
theorem bm2 (pa : PlainAttrs (tyM mk)) (slot : Slot (tyM mk) m id) (hty : typeOf (.builtin id) = pure (.type "method_descriptor")) (hm : MtR X id (rL2 T X.K mk)) (hb0 : isBase o = true) (hl : (apos.endLine == pos.line) = true) (ho : PE X o (tX T cur W X f)) (hn : noStars [e, e2] = true) (hg : PE X e (tX T cur W X g)) (hh : PE X e2 (tX T cur W X h)) :
    PE X (.Call (.Attribute o m apos) [e, e2] [] pos) (bmTE T cur W X f [g, h] mk) := by
  have hn' : noStar e = true ∧ noStar e2 = true := by simpa [noStars] using hn
  obtain ⟨h1, h2⟩ := hn'
  have hb : (backTo pos (starEach [e2] X.env)).any (·.1) = false := back_any (es := [e2]) (by simpa [noStars] using h2) _ _
  refine (pe_bm pa slot hty hm (e_sit ho) (pa_cons (e_sit hg) (pa_cons (e_sit hh) pa_nil (star_ok h2 _)) (star_ok h1 _)) (base_ok hb0 m _) (by rw [back_all hn]; rfl) hl (star_ok h1 _) hb).imp fun σ H Q ⟨env, S, μ, d, S1, R, er, e1, e2, p⟩ => ?_
  refine ⟨env, S, μ, R, er, ?_⟩
  rw [e1]
  intro v H1 μ1 r1 dv t1
  have p : PG T X.K W (RX T X.K) σ μ H Q ((mD g env S1).bind fun y S2 => (mD h env S2).bind fun z S3 => opL2 mk d y z S3) := p
  refine ⟨rec_ty r1 dv e2, env, S1, μ1, r1, er.mono R t1, (PG.bind2 (R := RD T X.K) t1 p).imp fun w H2 ⟨μ2, S2, y, r2, ry, t2, p2⟩ => ?_⟩
  refine ⟨env, S2, μ2, r2, (er.mono R t1).mono r1 t2, (PG.bind2 (R := RD T X.K) (t1.trans t2) p2).imp fun w3 H3 ⟨μ3, S3, z, r3, rz, t3, p3⟩ => ?_⟩
  exact ⟨μ, H, μ3, S3, d, w, y, w3, z, W, σ, rfl, r3, (t1.trans t2).trans t3, (t2.trans t3).dv r1 dv, t3.dv r2 ry, rz, p3⟩
theorem SndL.zero (h : SndL T cur W X es ds) (e : es.length = 0) : es = [] ∧ ds = [] := by
  have := h.len
  exact ⟨List.length_eq_zero_iff.mp e, List.length_eq_zero_iff.mp (by omega)⟩
theorem SndL.one (h : SndL T cur W X es ds) (q : es.length = 1) : ∃ e d, es = [e] ∧ ds = [d] ∧ SndE T cur W X e d := by
  match es, ds, h, q with
  | [e], [d], h, _ => exact ⟨e, d, rfl, rfl, h.1⟩
  | [e], [], h, _ => exact h.elim
  | [e], _ :: _ :: _, h, _ => exact h.2.elim
  | [], _, _, q => cases q
  | _ :: _ :: _, _, _, q => simp at q
theorem SndL.two (h : SndL T cur W X es ds) (q : es.length = 2) : ∃ e e' d d', es = [e, e'] ∧ ds = [d, d'] ∧ SndE T cur W X e d ∧ SndE T cur W X e' d' := by
  match es, ds, h, q with
  | [e, e'], [d, d'], h, _ => exact ⟨e, e', d, d', rfl, rfl, h.1, h.2.1⟩
  | [e, e'], [], h, _ => exact h.elim
  | [e, e'], [_], h, _ => exact h.2.elim
  | [e, e'], _ :: _ :: _ :: _, h, _ => exact h.2.2.elim
  | [], _, _, q => cases q
  | [_], _, _, q => cases q
  | _ :: _ :: _ :: _, _, _, q => simp at q
theorem bm_all (hb0 : isBase o = true) (hl : (apos.endLine == pos.line) = true) (hn : noStars es = true) (ho : PE X o (tX T cur W X f)) (h : SndL T cur W X es ds) (hm : m1name m es.length = some mk) :
    PE X (.Call (.Attribute o m apos) es [] pos) (bmTE T cur W X f (ds.map Dn.x) mk) := by
  unfold m1name at hm
  split at hm
  · rename_i q; cases hm; obtain ⟨rfl, q⟩ := q; obtain ⟨e, d, rfl, rfl, hs⟩ := h.one q
    exact bm1 PySem.F.plainAttrs_list PySem.F.slot_list_append PySem.F.type_list_append m_append hb0 hl ho hn hs.x
  split at hm
  · rename_i q; cases hm; obtain ⟨rfl, q⟩ := q; obtain ⟨e, d, rfl, rfl, hs⟩ := h.one q
    exact bm1 PySem.F.plainAttrs_list PySem.F.slot_list_extend PySem.F.type_list_extend m_extend hb0 hl ho hn hs.x
  split at hm
  · rename_i q; cases hm; obtain ⟨rfl, q⟩ := q; obtain ⟨rfl, rfl⟩ := h.zero q
    exact bm0 PySem.F.plainAttrs_list PySem.F.slot_list_pop PySem.F.type_list_pop m_pop hb0 hl ho
  split at hm
  · rename_i q; cases hm; obtain ⟨rfl, q⟩ := q; obtain ⟨e, d, rfl, rfl, hs⟩ := h.one q
    exact bm1 PySem.F.plainAttrs_list PySem.F.slot_list_pop PySem.F.type_list_pop m_popAt hb0 hl ho hn hs.x
  split at hm
  · rename_i q; cases hm; obtain ⟨rfl, q⟩ := q; obtain ⟨e, e', d, d', rfl, rfl, hs, hs'⟩ := h.two q
    exact bm2 PySem.F.plainAttrs_list PySem.F.slot_list_insert PySem.F.type_list_insert m_insert hb0 hl ho hn hs.x hs'.x
  split at hm
  · rename_i q; cases hm; obtain ⟨rfl, q⟩ := q; obtain ⟨rfl, rfl⟩ := h.zero q
    exact bm0 PySem.F.plainAttrs_str PySem.F.slot_str_isalnum PySem.F.type_str_isalnum m_alnum hb0 hl ho
  split at hm
  · rename_i q; cases hm; obtain ⟨rfl, q⟩ := q; obtain ⟨rfl, rfl⟩ := h.zero q
    exact bm0 PySem.F.plainAttrs_str PySem.F.slot_str_isalpha PySem.F.type_str_isalpha m_alpha hb0 hl ho
  split at hm
  · rename_i q; cases hm; obtain ⟨rfl, q⟩ := q; obtain ⟨rfl, rfl⟩ := h.zero q
    exact bm0 PySem.F.plainAttrs_str PySem.F.slot_str_islower PySem.F.type_str_islower m_lower hb0 hl ho
  split at hm
  · rename_i q; cases hm; obtain ⟨rfl, q⟩ := q; obtain ⟨rfl, rfl⟩ := h.zero q
    exact bm0 PySem.F.plainAttrs_str PySem.F.slot_str_isupper PySem.F.type_str_isupper m_upper hb0 hl ho
  split at hm
  · rename_i q; cases hm; obtain ⟨rfl, q⟩ := q; obtain ⟨rfl, rfl⟩ := h.zero q
    exact bm0 PySem.F.plainAttrs_str PySem.F.slot_str_isdigit PySem.F.type_str_isdigit m_digit hb0 hl ho
  split at hm
  · rename_i q; cases hm; obtain ⟨rfl, q⟩ := q; obtain ⟨e, d, rfl, rfl, hs⟩ := h.one q
    exact bm1 PySem.F.plainAttrs_str PySem.F.slot_str_join PySem.F.type_str_join m_join hb0 hl ho hn hs.x
  cases hm
theorem e_meth (cx : CtxE T s cur W X) (hc : s.calm = true) (hb0 : isBase o = true) (hl : (apos.endLine == pos.line) = true) (hn : noStars es = true) (hf : es.length < 29) (ho : PE X o (tX T cur W X f)) (h : SndL T cur W X es ds) :
    PE X (.Call (.Attribute o m apos) es [] pos) (tX T cur W X (mMeth s.C m f (ds.map Dn.x))) := by
  have A := PE.ex fun k => PE.ex fun i => PE.if (P := s.C.mth k m = some i ∧ arityOk s.C i (es.length + 1) = true) fun h2 => e_methI (m := m) (apos := apos) (pos := pos) cx hc h2.1 h2.2 hb0 hl hn hf ho h
  have B := PE.ex fun mk => PE.if (P := m1name m es.length = some mk) fun h2 => bm_all (m := m) (apos := apos) (pos := pos) hb0 hl hn ho h h2
  refine (A.or B).imp fun σ H Q ⟨env, S, μ, R, er, p⟩ => ?_
  unfold mMeth at p
  split at p
  · rename_i d S1 e1
    split at p
    · rename_i r c gs e2
      split at p
      · rename_i i e3 e4
        split at p
        · rename_i ha
          rw [List.length_map, ← h.len] at ha
          exact .inl ⟨c, i, ⟨e4, ha⟩, env, S, μ, d, S1, r, gs, R, er, e1, e2, e3, p⟩
        · exact p.elim
      · exact p.elim
    · split at p
      · rename_i k e3
        rw [List.length_map, ← h.len] at e3
        split at p
        · rename_i e4
          exact .inr ⟨k, e3, env, S, μ, d, S1, R, er, e1, e4, p⟩
        · exact p.elim
      · exact p.elim
  · exact p.elim

/-! ### built-in functions -/
theorem isBl_ok (cx : CtxE T s cur W X) {x : Str} (hg : isGl s x = true) (hb : s.C.bl.contains x = true) : Gl X x ∧ X.mg x = none := ⟨(isGl_ok cx hg).1, cx.fx.bl _ hb⟩
theorem b1_imp {bb : B1} (hg : PE X a (tX T cur W X f)) {r : List V → Hp → VK → Prop} {e : Expr} (hr : ∀ xs H Q, rB1 T X.K bb xs H Q → r xs H Q) (q : PE X e (tCB r (tCons (tX T cur W X f) tNil))) : PE X e (tX T cur W X (mB1 bb f)) := by
  refine q.imp fun σ H Q w => ?_
  obtain ⟨env, S, μ, R, er, p⟩ := w
  refine ⟨env, S, μ, R, er, (PG.bind (R := RX T X.K) p).imp fun v H1 ⟨μ1, S1, x, r1, rx, t1, p1⟩ => ?_⟩
  cases q : opB1 bb x S1 with
  | none => rw [q] at p1; exact p1.elim
  | some z =>
    rw [q] at p1
    exact hr _ _ _ ⟨v, μ1, S1, x, z, rfl, r1, RX.w rx, q, fun v' H' r' z' t' => p1 v' H' μ1 r' ((RX T X.K).base (fun a n => t1.dom a n) z') (t1.trans t')⟩
theorem e_b1 {x : Str} {bb : B1} (cx : CtxE T s cur W X) (hc : s.calm = true) (hg : isGl s x = true) (hb : s.C.bl.contains x = true) (hx : b1name x = some bb) (hs : noStars [a] = true) (ha : PE X a (tX T cur W X f)) :
    PE X (.Call (.Name x p1) [a] [] pos) (tX T cur W X (mB1 bb f)) := by
  have h1 : noStar a = true := by simpa [noStars] using hs
  obtain ⟨g1, g2⟩ := isBl_ok cx hg hb
  have hA : PA X [a] (tCons (tX T cur W X f) tNil) := pa_cons ha pa_nil (star_ok h1 _)
  have st := star_ok (es := []) h1 X.env
  unfold b1name at hx
  split at hx
  · rename_i q; cases hx; subst q
    exact b1_imp ha (fun _ _ _ h => h) (pe_callB b_len g1 g2 boot_len hA (by decide) (by decide) st rfl)
  split at hx
  · rename_i q; cases hx; subst q
    exact b1_imp ha (fun _ _ _ h => h) (pe_callB (b_all (cx.calm hc)) g1 g2 PyProof.Rows.boot_all hA (by decide) (by decide) st rfl)
  split at hx
  · rename_i q; cases hx; subst q
    exact b1_imp ha (fun _ _ _ h => h) (pe_callB (b_any (cx.calm hc)) g1 g2 PyProof.Rows.boot_any hA (by decide) (by decide) st rfl)
  split at hx
  · rename_i q; cases hx; subst q
    exact b1_imp ha (fun _ _ _ h => h) (pe_callTy b_int g1 g2 PyProof.Rows.boot_int hA (by decide) (by decide) st rfl)
  split at hx
  · rename_i q; cases hx; subst q
    exact b1_imp ha (fun _ _ _ h => h) (pe_callB b_abs g1 g2 PyProof.Rows.boot_abs hA (by decide) (by decide) st rfl)
  split at hx
  · rename_i q; cases hx; subst q
    exact b1_imp ha (fun _ _ _ h => h) (pe_callTy b_tuple g1 g2 PyProof.Rows.boot_tuple hA (by decide) (by decide) st rfl)
  split at hx
  · rename_i q; cases hx; subst q
    exact b1_imp ha (fun _ _ _ h => h) (pe_callTy b_list g1 g2 PyProof.Rows.boot_list hA (by decide) (by decide) st rfl)
  cases hx
theorem boot_ty {y : Str} {t : Ty} (h : tyname y = some t) : bootBuiltins y = some (.type t.nm) ∧ y ≠ "__name__" ∧ (y == ("__debug__" : Str)) = false := by
  unfold tyname at h
  split at h
  · rename_i q; cases h; subst q; exact ⟨PyProof.Rows.boot_int, by decide, by decide⟩
  split at h
  · rename_i q; cases h; subst q; exact ⟨PyProof.Rows.boot_bool, by decide, by decide⟩
  split at h
  · rename_i q; cases h; subst q; exact ⟨PyProof.Rows.boot_str, by decide, by decide⟩
  split at h
  · rename_i q; cases h; subst q; exact ⟨PyProof.Rows.boot_tuple, by decide, by decide⟩
  split at h
  · rename_i q; cases h; subst q; exact ⟨PyProof.Rows.boot_list, by decide, by decide⟩
  split at h
  · rename_i q; cases h; subst q; exact ⟨PyProof.Rows.boot_dict, by decide, by decide⟩
  cases h
theorem e_isi {x y : Str} {t : Ty} (cx : CtxE T s cur W X) (hg : isGl s x = true) (hb : s.C.bl.contains x = true) (hx : (x == ("isinstance" : Str)) = true) (hy : isBl s y = true) (ht : tyname y = some t) (hs : noStars [a, .Name y p2] = true) (ha : PE X a (tX T cur W X f)) :
    PE X (.Call (.Name x p1) [a, .Name y p2] [] pos) (tX T cur W X (mIsi t f)) := by
  have h1 : noStar a = true := by
    have := hs
    simp [noStars] at this
    exact this.1
  have hx : x = ("isinstance" : Str) := by simpa using hx
  subst hx
  obtain ⟨g1, g2⟩ := isBl_ok cx hg hb
  unfold isBl at hy
  simp only [Bool.and_eq_true] at hy
  obtain ⟨k1, k2⟩ := isBl_ok cx hy.1.1 hy.2
  obtain ⟨b1, b2, b3⟩ := boot_ty ht
  refine (pe_callB (b_isi (T := T) t) g1 g2 PyProof.Rows.boot_isinstance (pa_cons (e_sit ha) (pa_cons (pe_bltn (v := .ty t.nm) k1 k2 b1 rfl b2 b3) pa_nil) (star_ok h1 _)) (by decide) (by decide) (star_ok h1 _) rfl).imp fun σ H Q w => ?_
  obtain ⟨env, S, μ, R, er, p⟩ := w
  refine ⟨env, S, μ, R, er, (PG.bind (R := RD T X.K) p).imp fun v H1 ⟨μ1, S1, x, r1, rx, t1, p1⟩ => ?_⟩
  cases q : isT t x S1 with
  | none => rw [q] at p1; exact p1.elim
  | some z => rw [q] at p1; exact ⟨v, μ1, S1, x, z, rfl, r1, rx, q, p1 _ _ _ r1 (.bl _) t1⟩
end
end L3


/-! L3J: targets, what loops walk, list comprehensions. -/
namespace L3
open PySem PySem.Spec PyProof.Rows L2

/-! ### slots forgotten -/
theorem wipe_at (σ : L2.St) (i : Nat) : ∀ vs : List Nat, (wipe σ vs)[i]? = if i ∈ vs then σ[i]?.map (fun _ => none) else σ[i]?
  | [] => by simp [wipe]
  | v :: vs => by
    unfold wipe
    by_cases hi : v = i
    · subst hi
      rw [if_pos (List.mem_cons_self)]
      by_cases hv : v < σ.length
      · rw [List.getElem?_set_self (by rw [wipe_length]; exact hv), List.getElem?_eq_getElem hv]; rfl
      · rw [List.getElem?_eq_none (by rw [List.length_set, wipe_length]; omega), List.getElem?_eq_none (by omega)]; rfl
    · rw [List.getElem?_set_ne hi, wipe_at σ i vs]
      have : (i ∈ v :: vs) ↔ i ∈ vs := by
        rw [List.mem_cons]
        exact ⟨fun h => h.elim (fun e => absurd e.symm hi) id, .inr⟩
      simp only [this]
theorem wipe_set {σ : L2.St} {i : Nat} {v : V} {vs : List Nat} (h : i ∈ vs) : wipe (σ.set i (some v)) vs = wipe σ vs := by
  refine List.ext_getElem? fun j => ?_
  rw [wipe_at, wipe_at]
  by_cases hj : j ∈ vs
  · rw [if_pos hj, if_pos hj]
    by_cases e : i = j
    · subst e
      by_cases hv : i < σ.length
      · rw [List.getElem?_set_self hv, List.getElem?_eq_getElem hv]; rfl
      · rw [List.getElem?_eq_none (by rw [List.length_set]; omega), List.getElem?_eq_none (by omega)]
    · rw [List.getElem?_set_ne e]
  · rw [if_neg hj, if_neg hj, List.getElem?_set_ne fun (e : i = j) => hj (e ▸ h)]
theorem wipe_wipe (σ : L2.St) (vs : List Nat) : wipe (wipe σ vs) vs = wipe σ vs := by
  refine List.ext_getElem? fun j => ?_
  rw [wipe_at, wipe_at]
  by_cases hj : j ∈ vs
  · rw [if_pos hj, if_pos hj, Option.map_map]; rfl
  · rw [if_neg hj]
theorem EnvR.wipe {T : Tab} {K : PySem.W.Frag} {μ : Mu} {H : Hp} {cur : Option (Addr × Addr)} {σ : L2.St} {env : Env} (h : EnvR T K cur μ H σ env) : ∀ vs : List Nat, EnvR T K cur μ H (L2.wipe σ vs) (wipeE env vs)
  | [] => h
  | v :: vs => (EnvR.wipe h vs).unset v

/-! ### targets -/
def gPost (T : Tab) (K : PySem.W.Frag) (cur : Option (Addr × Addr)) (sl : List Nat) (σ : L2.St) (μ : Mu) (H : Hp) (Q : L2.St → Hp → Prop) : Fl → Prop
  | .next e S' => ∀ σ' H' μ', Rep T K μ' S' H' → EnvR T K cur μ' H' σ' e → Tr μ H μ' H' → (∀ vs : List Nat, (∀ i ∈ sl, i ∈ vs) → L2.wipe σ' vs = L2.wipe σ vs) → Q σ' H'
  | _ => False
def tGt (T : Tab) (cur : Option (Addr × Addr)) (X : Cx) (sl : List Nat) (g : DG) : TG := fun v σ H Q => ∃ env S μ d, Rep T X.K μ S H ∧ EnvR T X.K cur μ H σ env ∧ DV T X.K μ H v d ∧ gPost T X.K cur sl σ μ H Q (g d env S)
def tGts (T : Tab) (cur : Option (Addr × Addr)) (X : Cx) (sl : List Nat) (gs : List DG) : TGs := fun vs σ H Q => ∃ env S μ ds, Rep T X.K μ S H ∧ EnvR T X.K cur μ H σ env ∧ DVs T X.K μ H vs ds ∧ gPost T X.K cur sl σ μ H Q (gAll gs ds env S)
theorem _root_.L2.PG.imp {X : Cx} {e : Expr} {t t' : TG} (h : L2.PG X e t) (q : ∀ v σ H Q, t' v σ H Q → t v σ H Q) : L2.PG X e t' := ⟨fun pins s σ H v u Q I r w => h.run pins s σ H v u Q I r (q v σ H Q w)⟩
theorem _root_.L2.PGs.imp {X : Cx} {e : List Expr} {t t' : TGs} (h : L2.PGs X e t) (q : ∀ v σ H Q, t' v σ H Q → t v σ H Q) : L2.PGs X e t' := ⟨fun pins s σ H v u Q I r w => h.run pins s σ H v u Q I r (q v σ H Q w)⟩
section
variable {T : Tab} {s : Sc} {cur : Option (Addr × Addr)} {W : WX} {X : Cx} {pos p1 p2 : Pos} {a b c e : Expr} {f g h : DX} {d : Dn} {es : List Expr} {ds : List Dn}
theorem g_stuck {sl : List Nat} : L2.PG X e (tGt T cur X sl gStuck) := ⟨fun pins s σ H v u Q I r ⟨_, _, _, _, _, _, _, p⟩ => p.elim⟩
theorem slotL_ok (cx : CtxE T s cur W X) {x : Str} {i : Nat} (h : slotL s x = some i) : X.N[i]? = some x ∧ Loc X.env.scope x ∧ (X.fn x = true ∨ X.env.scope.names.lookup x = some .local) := by
  unfold slotL at h
  split at h
  · rename_i q
    obtain ⟨h1, h2, h3, h4⟩ := slot_ok cx h
    rw [cx.sc]
    exact ⟨h1, .inl q, .inr q⟩
  · rename_i q
    split at h
    · rename_i q2
      obtain ⟨h1, h2, h3, h4⟩ := slot_ok cx h
      rw [cx.sc]
      exact ⟨h1, .inr q, .inl (cx.st _ q2)⟩
    · cases h
  · cases h
theorem g_var (cx : CtxE T s cur W X) {x : Str} {i : Nat} (h : slotL s x = some i) : L2.PG X (.Name x pos) (tGt T cur X [i] (gVar i)) := by
  obtain ⟨h1, h2, h3⟩ := slotL_ok cx h
  refine (pg_name (by rw [cx.N]; exact cx.nd) h1 h2 h3).imp fun v σ H Q ⟨env, S, μ, d, R, er, dv, p⟩ => ?_
  exact p _ H μ R (er.set dv i) .refl fun vs hv => wipe_set (hv i List.mem_cons_self)
theorem asg_cons (hn : noStar e = true) (env : PySem.Env) : assignEach (e :: es) env = (false, assign e env) :: assignEach es env := by
  cases e <;> first | rfl | cases hn
theorem asg_len : ∀ {es : List Expr}, noStars es = true → ∀ env : PySem.Env, (assignEach es env).length = es.length ∧ (assignEach es env).findIdx? (·.1) = none
  | [], _, _ => ⟨rfl, rfl⟩
  | e :: es, h, env => by
    obtain ⟨h1, h2⟩ := Bool.and_eq_true_iff.mp (show (noStar e && noStars es) = true from h)
    obtain ⟨q1, q2⟩ := asg_len h2 env
    rw [asg_cons h1, List.length_cons, List.length_cons, q1, List.findIdx?_cons, q2]
    exact ⟨rfl, rfl⟩
theorem g_tup {sl : List Nat} {gs : List DG} {k : Nat} (hc : X.calm = true) (hn : noStars es = true) (hl : gs.length = es.length) (h : L2.PGs X es (tGts T cur X sl gs)) : L2.PG X (.Tuple es k pos) (tGt T cur X sl (gTup gs)) := by
  obtain ⟨q1, q2⟩ := asg_len hn X.env
  refine (pg_tup hc h q1 q2).imp fun v σ H Q ⟨env, S, μ, d, R, er, dv, p⟩ => ?_
  unfold L3.gTup at p
  split at p
  · split at p
    · rename_i q
      cases dv with | tup h1 h2 =>
      exact ⟨_, _, rfl, h1, by rw [DVs.length h2, q, hl], env, S, μ, _, R, er, h2, p⟩
    · exact p.elim
  · exact p.elim
theorem gs_cons {sl sl' : List Nat} {g : DG} {gs : List DG} (hn : noStar e = true) (h1 : L2.PG X e (tGt T cur X sl g)) (h2 : L2.PGs X es (tGts T cur X sl' gs)) : L2.PGs X (e :: es) (tGts T cur X (sl ++ sl') (g :: gs)) := by
  refine (pgs_cons h1 h2 (by rw [asg_cons hn]; rfl)).imp fun vs σ H Q ⟨env, S, μ, ds, R, er, dv, p⟩ => ?_
  cases dv with
  | nil => exact p.elim
  | @cons v vs d ds d1 dr =>
    refine ⟨v, vs, rfl, env, S, μ, d, R, er, d1, ?_⟩
    unfold gAll at p
    cases q : g d env S with
    | next e1 S1 =>
      rw [q] at p
      intro σ1 H1 μ1 r1 er1 t1 k1
      refine ⟨e1, S1, μ1, ds, r1, er1, t1.dvs R dr, ?_⟩
      have p : gPost T X.K cur (sl ++ sl') σ μ H Q (gAll gs ds e1 S1) := p
      cases q2 : gAll gs ds e1 S1 with
      | next e2 S2 =>
        rw [q2] at p
        intro σ2 H2 μ2 r2 er2 t2 k2
        exact p σ2 H2 μ2 r2 er2 (t1.trans t2) fun vs hv => (k2 vs fun i hi => hv i (List.mem_append_right _ hi)).trans (k1 vs fun i hi => hv i (List.mem_append_left _ hi))
      | _ => rw [q2] at p; exact p.elim
    | _ => rw [q] at p; exact p.elim
theorem gs_nil : L2.PGs X [] (tGts T cur X [] []) := pgs_nil.imp fun vs σ H Q ⟨env, S, μ, ds, R, er, dv, p⟩ => by
  cases dv with
  | nil => exact ⟨rfl, p σ H μ R er .refl fun _ _ => rfl⟩
  | cons _ _ => exact p.elim
theorem tgts_len : ∀ (es : List Expr) (s : Sc), (tgts es s).length = es.length
  | [], _ => rfl
  | e :: es, s => by show (tgt e s :: tgts es s).length = _; rw [List.length_cons, List.length_cons, tgts_len es s]
mutual
theorem g_tgt (cx : CtxE T s cur W X) : ∀ e : Expr, L2.PG X e (tGt T cur X (tslots e s) (tgt e s))
  | .Name x p => by
    show L2.PG X (.Name x p) (tGt T cur X (slotL s x).toList (match slotL s x with | some i => gVar i | none => gStuck))
    cases q : slotL s x with
    | none => exact g_stuck
    | some i => exact g_var cx q
  | .Tuple es k p => by
    show L2.PG X (.Tuple es k p) (tGt T cur X (tslotsL es s) (if s.calm && noStars es then L3.gTup (tgts es s) else gStuck))
    split
    · rename_i q
      obtain ⟨q1, q2⟩ := Bool.and_eq_true_iff.mp q
      exact g_tup (cx.calm q1) q2 (tgts_len es s) (g_tgts cx es q2)
    · exact g_stuck
  | .BoolOp .. => g_stuck | .NamedExpr .. => g_stuck | .BinOp .. => g_stuck | .UnaryOp .. => g_stuck | .Lambda .. => g_stuck | .IfExp .. => g_stuck | .Dict .. => g_stuck | .Set .. => g_stuck
  | .ListComp .. => g_stuck | .SetComp .. => g_stuck | .DictComp .. => g_stuck | .GeneratorExp .. => g_stuck | .Await .. => g_stuck | .Yield .. => g_stuck | .YieldFrom .. => g_stuck | .Compare .. => g_stuck
  | .Call .. => g_stuck | .FormattedValue .. => g_stuck | .JoinedStr .. => g_stuck | .Constant .. => g_stuck | .Attribute .. => g_stuck | .Subscript .. => g_stuck | .Starred .. => g_stuck | .List .. => g_stuck | .Slice .. => g_stuck
theorem g_tgts (cx : CtxE T s cur W X) : ∀ es : List Expr, noStars es = true → L2.PGs X es (tGts T cur X (tslotsL es s) (tgts es s))
  | [], _ => gs_nil
  | e :: es, h => gs_cons (Bool.and_eq_true_iff.mp (show (noStar e && noStars es) = true from h)).1 (g_tgt cx e) (g_tgts cx es (Bool.and_eq_true_iff.mp (show (noStar e && noStars es) = true from h)).2)
end
end
end L3


/-! L3K: what loops walk; list comprehensions. -/
namespace L3
open PySem PySem.Spec PyProof.Rows L2

/-! ### an object outside of the store is rewritten -/
section
variable {T : Tab} {K : PySem.W.Frag} {μ μ' : Mu} {S : Store} {H H' : Hp} {p : Addr} {o u : HO}
theorem Tr.keepOut (t : Tr μ H μ' H') (h : H p = some o) (hn : p ∉ μ) : H' p = some o ∧ p ∉ μ' :=
  ⟨t.old p o h hn, fun m => (t.new p m).elim hn fun z => by rw [h] at z; cases z⟩
theorem Stay.own (h : H p = some o) (ho : stoB o = true) : Stay K μ H μ (upd H p u) :=
  have k : ∀ a w, H a = some w → stoB w = false → upd H p u a = some w := fun a w e n => by
    by_cases z : a = p
    · subst z; rw [h] at e; cases e; rw [ho] at n; cases n
    · rw [upd_ne z]; exact e
  ⟨fun _ _ h => h, fun a vs q => sqT_keep (k a) q, fun a vs q => sqF_keep (k a) q⟩
theorem Rep.own (R : Rep T K μ S H) (h : H p = some o) (ho : stoB o = true) (hn : p ∉ μ) : Rep T K μ S (upd H p u) where
  len := R.len
  nd := R.nd
  ob i a ob ha hb := (R.ob i a ob ha hb).stay (Stay.own h ho) (upd_ne fun e => hn (e ▸ mem_of_mu ha))
theorem Tr.own (t : Tr μ H μ' H') (h : H p = none) : Tr μ H μ' (upd H' p u) where
  pre := t.pre
  old a o e n := by rw [upd_ne (ne_of_none e h)]; exact t.old a o e n
  new := t.new
  dom a z := by
    by_cases e : a = p
    · rw [e]; exact h
    · rw [upd_ne e] at z; exact t.dom a z
end

/-! ### what a loop walks -/
def ItOk (T : Tab) (K : PySem.W.Frag) (w : It1) (J : It) (μ : Mu) (H : Hp) : Prop := ∀ (μ' : Mu) (S' : Store) (H' : Hp), Rep T K μ' S' H' → Tr μ H μ' H' → ∀ i : Nat,
  (∀ d, nextOf w S' i = some (some d) → J.go i H' ∧ ∀ x H'', J.yld i H' x H'' → H'' = H' ∧ DV T K μ' H' x d) ∧ (nextOf w S' i = some none → J.stop i H')
def RI (T : Tab) (K : PySem.W.Frag) : Rl It It1 where
  r μ _ H J w := ItOk T K w J μ H
  base _ r := r
abbrev tIt (T : Tab) (cur : Option (Addr × Addr)) (W : WX) (X : Cx) (i : DI) : TI := tG T X.K cur W (RI T X.K) i
theorem _root_.L2.PI.imp {X : Cx} {tg e : Expr} {t t' : TI} (h : PI X tg e t) (q : ∀ σ H R, t' σ H R → t σ H R) : PI X tg e t' := ⟨fun pins s σ H R I w => h.run pins s σ H R I (q σ H R w)⟩
theorem _root_.L2.PI.or {X : Cx} {tg e : Expr} {t t' : TI} (h : PI X tg e t) (h' : PI X tg e t') : PI X tg e (fun σ H R => t σ H R ∨ t' σ H R) := ⟨fun pins s σ H R I w => w.elim (h.run pins s σ H R I) (h'.run pins s σ H R I)⟩
theorem _root_.L2.PI.no {X : Cx} {tg e : Expr} {t : TI} (h : ∀ σ H R, ¬ t σ H R) : PI X tg e t := ⟨fun pins s σ H R I w => (h σ H R w).elim⟩
section
variable {T : Tab} {s : Sc} {cur : Option (Addr × Addr)} {W : WX} {X : Cx} {pos p1 p2 : Pos} {a b c e tg : Expr} {f g h : DX} {d : Dn} {es : List Expr} {ds : List Dn}
theorem it_lst {K : PySem.W.Frag} {μ : Mu} {S : Store} {H : Hp} {q : Addr} {w : It1} (hl : ∀ (μ' : Mu) (S' : Store) (H' : Hp), Rep T K μ' S' H' → Tr μ H μ' H' → ∀ i : Nat, ∀ o, nextOf w S' i = some o → ∃ vs ds, SqL K H' q vs ∧ DVs T K μ' H' vs ds ∧ o = ds[i]?) : ItOk T K w (Itl K q) μ H := by
  intro μ' S' H' r' t' i
  refine ⟨fun d hd => ?_, fun hn => ?_⟩
  · obtain ⟨vs, ds, h1, h2, h3⟩ := hl μ' S' H' r' t' i _ hd
    obtain ⟨v, g1, g2⟩ := h2.get h3.symm
    exact ⟨⟨vs, v, h1, g1⟩, fun x H'' ⟨e, y⟩ => ⟨e, by have := y vs h1; rw [g1] at this; cases this; exact g2⟩⟩
  · obtain ⟨vs, ds, h1, h2, h3⟩ := hl μ' S' H' r' t' i _ hn
    exact ⟨vs, h1, by rw [DVs.length h2]; exact List.getElem?_eq_none_iff.mp h3.symm⟩
theorem it_tup {K : PySem.W.Frag} {μ : Mu} {S : Store} {H : Hp} {q : Addr} {vs : List V} {ds : List D} (R : Rep T K μ S H) (h : SqT K H q vs) (hd : DVs T K μ H vs ds) : ItOk T K (.items ds) (Itt K q) μ H := by
  intro μ' S' H' r' t' i
  have h' := (t'.stay R).tup _ _ h
  have hd' := t'.dvs R hd
  refine ⟨fun d hd => ?_, fun hn => ?_⟩
  · cases hd1 : ds[i]? with
    | none => simp only [nextOf, hd1] at hd; cases hd
    | some d2 =>
      have hd : some ds[i]? = some (some d) := hd
      rw [hd1] at hd; cases hd
      obtain ⟨v, g1, g2⟩ := hd'.get hd1
      exact ⟨⟨vs, v, h', g1⟩, fun x H'' ⟨e, y⟩ => ⟨e, by have := y vs h'; rw [g1] at this; cases this; exact g2⟩⟩
  · have hn : some ds[i]? = some none := hn
    exact ⟨vs, h', by rw [DVs.length hd']; exact List.getElem?_eq_none_iff.mp (Option.some.inj hn)⟩
theorem it_str {K : PySem.W.Frag} {μ : Mu} {H : Hp} (z : Str) : ItOk T K (.items (z.cps.toList.map fun c => D.str ⟨#[c]⟩)) (Its z) μ H := by
  intro μ' S' H' r' t' i
  refine ⟨fun d hd => ?_, fun hn => ?_⟩
  · have hd : some (z.cps.toList.map fun c => D.str ⟨#[c]⟩)[i]? = some (some d) := hd
    rw [List.getElem?_map] at hd
    have hd := Option.some.inj hd
    rw [Option.map_eq_some_iff] at hd
    obtain ⟨c, h1, rfl⟩ := hd
    rw [Array.getElem?_toList] at h1
    refine ⟨(Array.getElem?_eq_some_iff.mp h1).1, fun x H'' ⟨e, c', h2, h3⟩ => ⟨e, ?_⟩⟩
    rw [h1] at h2; cases h2; rw [h3]; exact .str _
  · have hn : some (z.cps.toList.map fun c => D.str ⟨#[c]⟩)[i]? = some none := hn
    have := List.getElem?_eq_none_iff.mp (Option.some.inj hn)
    show z.cps.size ≤ i
    simpa using this
theorem it_rng {K : PySem.W.Frag} {μ : Mu} {H : Hp} (lo : Int) (n : Nat) : ItOk T K (.items (upto lo n)) (Itr lo n) μ H := by
  intro μ' S' H' r' t' i
  refine ⟨fun d hd => ?_, fun hn => ?_⟩
  · have hd : some (upto lo n)[i]? = some (some d) := hd
    have hd := Option.some.inj hd
    unfold upto at hd
    rw [List.getElem?_map, Option.map_eq_some_iff] at hd
    obtain ⟨k, h1, rfl⟩ := hd
    obtain ⟨h2, h3⟩ := List.getElem?_eq_some_iff.mp h1
    rw [List.getElem_range] at h3
    subst h3
    exact ⟨by show i < n; simpa using h2, fun x H'' ⟨e, y⟩ => ⟨e, by rw [y]; exact .int _⟩⟩
  · have hn : some (upto lo n)[i]? = some none := hn
    have := List.getElem?_eq_none_iff.mp (Option.some.inj hn)
    show n ≤ i
    simpa [upto] using this
/-- items, a list's, a tuple's, a text's -/
theorem i_of (he : PE X e (tX T cur W X f)) : PI X tg e (tIt T cur W X (iOf f)) := by
  refine (PI.or (pi_list he) (PI.or (pi_tup he) (pi_str he))).imp fun σ H R ⟨env, S, μ, R0, er, p⟩ => ?_
  unfold iOf at p
  cases q : f env S with
  | stuck => rw [q] at p; exact p.elim
  | exc c fs S1 => rw [q] at p; exact .inl ⟨env, S, μ, R0, er, by rw [q]; exact p⟩
  | ok x S1 =>
    rw [q] at p
    simp only [Out.bind] at p
    split at p
    · rename_i ds
      refine .inl ⟨env, S, μ, R0, er, ?_⟩
      rw [q]
      intro v H1 μ1 r1 rx t1
      obtain ⟨q1, vs, rfl, h1, h2, h3, h4⟩ := rx
      refine ⟨q1, rfl, ⟨vs, .inl (.inl h1)⟩, p _ _ μ1 r1 ?_ t1⟩
      refine it_lst (S := S1) fun μ' S' H' r' t' i o ho => ⟨vs, ds, .inl (.inl (t'.keepOut h1 h3).1), t'.dvs r1 h2, ?_⟩
      exact (Option.some.inj ho).symm
    · rename_i ds
      refine .inr (.inl ⟨env, S, μ, R0, er, ?_⟩)
      rw [q]
      intro v H1 μ1 r1 rx t1
      cases rx with | tup h1 h2 =>
      exact ⟨_, rfl, ⟨_, h1⟩, p _ _ μ1 r1 (it_tup r1 h1 h2) t1⟩
    · rename_i ds
      refine .inl ⟨env, S, μ, R0, er, ?_⟩
      rw [q]
      intro v H1 μ1 r1 rx t1
      cases rx with | @kl a vs ds' h1 h2 =>
      refine ⟨_, rfl, ⟨_, h1.l⟩, p _ _ μ1 r1 ?_ t1⟩
      refine it_lst (S := S1) fun μ' S' H' r' t' i o ho => ⟨vs, ds, ((t'.stay r1).frz _ _ h1).l, t'.dvs r1 h2, ?_⟩
      exact (Option.some.inj ho).symm
    · rename_i z
      refine .inr (.inr ⟨env, S, μ, R0, er, ?_⟩)
      rw [q]
      intro v H1 μ1 r1 rx t1
      cases rx
      exact ⟨_, rfl, p _ _ μ1 r1 (it_str z) t1⟩
    · rename_i r
      have go : ∀ (ds : List D), S1[r]? = some (.lst ds) → PG T X.K W (RI T X.K) σ μ H R (.ok (.live r) S1) → iList X.K (tX T cur W X f) σ H R := by
        intro ds ho p
        refine ⟨env, S, μ, R0, er, ?_⟩
        rw [q]
        intro v H1 μ1 r1 rx t1
        cases rx with | @ref a i h1 =>
        have at_ : ∀ (μ' : Mu) (S' : Store) (H' : Hp), Rep T X.K μ' S' H' → μ'[r]? = some a → ∀ i : Nat, ∀ o, nextOf (.live r) S' i = some o → ∃ vs ds, SqL X.K H' a vs ∧ DVs T X.K μ' H' vs ds ∧ o = ds[i]? := by
          intro μ' S' H' r' hm i o ho
          unfold nextOf at ho
          simp only at ho
          split at ho
          · rename_i ds' q'
            obtain ⟨vs, k1, k2⟩ := r'.ob _ _ _ hm q'
            exact ⟨vs, ds', .inl (.inl k1), k2, (Option.some.inj ho).symm⟩
          · cases ho
        refine ⟨a, rfl, ?_, p _ _ μ1 r1 (it_lst (S := S1) fun μ' S' H' r' t' i o ho => at_ μ' S' H' r' (t'.pre _ _ h1) i o ho) t1⟩
        obtain ⟨vs, ds', k1, _⟩ := at_ μ1 S1 H1 r1 h1 0 (ds[0]?) (by
          unfold nextOf; simp only [ho])
        exact ⟨vs, k1⟩
      split at p
      · rename_i ds ho; exact .inl (go ds ho p)
      · exact p.elim
    · exact p.elim
theorem i_rng1 (g1 : Gl X "range") (g2 : X.mg "range" = none) (hs : noStar a = true) (ha : PE X a (tX T cur W X f)) : PI X tg (.Call (.Name "range" p1) [a] [] pos) (tIt T cur W X (L3.iRng1 f)) := by
  refine (pi_range1 g1 g2 (pa_cons ha pa_nil (star_ok hs _)) (star_ok hs _)).imp fun σ H R ⟨env, S, μ, R0, er, p⟩ => ?_
  refine ⟨env, S, μ, R0, er, (PG.bind (R := RX T X.K) p).imp fun v H1 ⟨μ1, S1, x, r1, rx, t1, p1⟩ => ?_⟩
  split at p1
  · split at p1
    · rename_i j hj
      cases rx
      have hj := rngOk_iff hj
      exact ⟨j, rfl, hj.1, hj.2, p1 _ _ _ r1 (it_rng 0 _) t1⟩
    · exact p1.elim
  · exact p1.elim
theorem i_rng2 (g1 : Gl X "range") (g2 : X.mg "range" = none) (hs : noStar a = true) (hs2 : noStar b = true) (ha : PE X a (tX T cur W X f)) (hb : PE X b (tX T cur W X g)) : PI X tg (.Call (.Name "range" p1) [a, b] [] pos) (tIt T cur W X (L3.iRng2 f g)) := by
  have st2 : starEach [b] X.env = [(false, eval b X.env)] := star_ok hs2 _
  have st1 : starEach [a, b] X.env = [(false, eval a X.env), (false, eval b X.env)] := by rw [star_ok hs, st2]
  refine (pi_range2 g1 g2 (pa_cons ha (pa_cons hb pa_nil st2) (star_ok hs _)) st1 st2).imp fun σ H R w => ?_
  refine (tG.two (k := rng2) w).imp fun v H1 w1 => w1.imp fun v2 H2 ⟨env, μ, μ2, S2, x, y, e2, r2, rx, ry, t2, p⟩ => ?_
  unfold rng2 at p
  split at p
  · split at p
    · rename_i i j hj
      cases rx; cases ry
      obtain ⟨h1, h2⟩ := Bool.and_eq_true_iff.mp hj
      have h1 := rngOk_iff h1
      have h2 := rngOk_iff h2
      exact ⟨i, j, rfl, ⟨h1.1, h1.2, h2.1, h2.2⟩, p _ _ _ r2 (it_rng i _) t2⟩
    · exact p.elim
  · exact p.elim

/-! ### list comprehensions -/
def WF : WX := fun _ _ _ _ => False
theorem lc_imp {own : List Nat} {i : DI} {g : DG} {t : DT} {sl : List Nat} {fuel : Nat} {σ : L2.St} {H : Hp} {Q : VK} (hsl : ∀ i ∈ sl, i ∈ own) (w : tX T cur W X (mLc fuel own i g t f) σ H Q) :
    tLc (tIt T cur W X i) (tGt T cur X sl g) (tB T cur WF X t) (tDd T cur WF X (mD f)) own σ H Q := by
  refine (tG.bind (R := RI T X.K) (k := fun e w S1 => lcRun own g t f e w (turns fuel w) 0 S1 []) w).imp fun J H1 ⟨env, μ, μ1, S1, w, e1, r1, hI, t1, p⟩ D hD => ?_
  refine ⟨fun i m H2 => ∃ μ2 S2 vs ds, Rep T X.K μ2 S2 H2 ∧ Tr μ1 H1 μ2 H2 ∧ H2 D = some (.lst vs) ∧ D ∉ μ2 ∧ DVs T X.K μ2 H2 vs ds ∧ PG T X.K W (RX T X.K) σ μ H Q (lcRun own g t f env w m i S2 ds),
    ⟨turns fuel w, μ1, S1, [], [], r1.laid hD, Tr.laid hD, upd_same, r1.outN hD, .nil, p⟩, ?_⟩
  rintro i m H2 ⟨μ2, S2, vs, ds, r2, t2, hD2, hn, dv, p⟩
  cases m with
  | zero => exact p.elim
  | succ m =>
    unfold lcRun at p
    obtain ⟨q1, q2⟩ := hI μ2 S2 H2 r2 t2 i
    split at p
    · exact p.elim
    · rename_i hx
      exact .inl ⟨q2 hx, p (.ref D) H2 μ2 r2 ⟨D, vs, rfl, hD2, dv, hn, t1.dom D hD⟩ (t1.trans t2)⟩
    · rename_i d hx
      obtain ⟨go, yl⟩ := q1 d hx
      refine .inr ⟨go, fun H3 => ∃ μ2 S2 vs ds, Rep T X.K μ2 S2 H3 ∧ Tr μ1 H1 μ2 H3 ∧ H3 D = some (.lst vs) ∧ D ∉ μ2 ∧ DVs T X.K μ2 H3 vs ds ∧ PG T X.K W (RX T X.K) σ μ H Q (lcRun own g t f env w m (i + 1) S2 ds), fun H' h => ⟨m, Nat.lt_succ_self m, h⟩, fun x H' y => ?_⟩
      obtain ⟨rfl, dx⟩ := yl x H' y
      refine ⟨wipeE env own, S2, μ2, d, r2, (e1.mono r1 t2).wipe _, dx, ?_⟩
      cases qg : g d (wipeE env own) S2 with
      | next e3 S3 =>
        rw [qg] at p
        intro σ3 H3 μ3 r3 er3 t3 k3
        refine ⟨(k3 _ hsl).trans (wipe_wipe σ _), e3, S3, μ3, r3, er3, ?_⟩
        have p : PG T X.K W (RX T X.K) σ μ H Q (match t e3 S3 with
          | .ok true S2 => (match mD f e3 S2 with
            | .ok v S3 => if decide (ds.length < sizeLine) then lcRun own g t f env w m (i + 1) S3 (ds ++ [v]) else .stuck
            | _ => .stuck)
          | .ok false S2 => lcRun own g t f env w m (i + 1) S2 ds
          | _ => .stuck) := p
        cases qt : t e3 S3 with
        | ok b S4 =>
          rw [qt] at p
          intro b' H4 μ4 r4 eb t4
          have eb : b' = b := eb
          subst eb
          have t24 := t3.trans t4
          obtain ⟨hD4, hn4⟩ := t24.keepOut hD2 hn
          cases b' with
          | false =>
            rw [if_neg Bool.false_ne_true]
            exact ⟨μ4, S4, vs, ds, r4, t2.trans t24, hD4, hn4, t24.dvs r2 dv, p⟩
          | true =>
            rw [if_pos rfl]
            refine ⟨e3, S4, μ4, r4, er3.mono r3 t4, ?_⟩
            have p : PG T X.K W (RX T X.K) σ μ H Q (match mD f e3 S4 with
              | .ok v S3 => if decide (ds.length < sizeLine) then lcRun own g t f env w m (i + 1) S3 (ds ++ [v]) else .stuck
              | _ => .stuck) := p
            cases qf : mD f e3 S4 with
            | ok v S5 =>
              rw [qf] at p
              have p : PG T X.K W (RX T X.K) σ μ H Q (if decide (ds.length < sizeLine) then lcRun own g t f env w m (i + 1) S5 (ds ++ [v]) else .stuck) := p
              intro y5 H5 μ5 r5 dy t5
              split at p
              · rename_i hl
                have hl := of_decide_eq_true hl
                have t25 := t24.trans t5
                obtain ⟨hD5, hn5⟩ := t25.keepOut hD2 hn
                have dv5 := (t25.dvs r2 dv).append (.cons dy .nil)
                refine ⟨vs, hD5, by rw [DVs.length dv]; exact hl, μ5, S5, vs ++ [y5], ds ++ [v], r5.own hD5 rfl hn5, (t2.trans t25).own hD, upd_same, hn5, dv5.stay (Stay.own hD5 rfl), p⟩
              · exact p.elim
            | _ => rw [qf] at p; exact p.elim
        | _ => rw [qt] at p; exact p.elim
      | _ => rw [qg] at p; exact p.elim
theorem e_lc {elt iter : Expr} {ifs : List Expr} {scope : Scope} {own : List (Str × Nat)} {i : DI} {g : DG} {t : DT} {sl : List Nat} {fuel : Nat} (cx : CtxE T s cur W X) (hc : s.calm = true) (hi : PI X tg iter (tIt T cur W X i)) (ok : BlkOk X.N X.env.scope scope own) (hsl : ∀ i ∈ sl, i ∈ own.map (·.2))
    (hg : ∀ (s : Shared) (H : Hp) (C : Addr) (cl : List (Str × Addr)) (fp : List Addr), L2.PG (X.blk s H scope (compEnvC scope cl C X.env) fp) tg (tGt T cur X sl g))
    (ht : ∀ (s : Shared) (H : Hp) (C : Addr) (cl : List (Str × Addr)) (fp : List Addr), PTs (X.blk s H scope (compEnvC scope cl C X.env) fp) ifs (tB T cur WF X t))
    (he : ∀ (s : Shared) (H : Hp) (C : Addr) (cl : List (Str × Addr)) (fp : List Addr), PE (X.blk s H scope (compEnvC scope cl C X.env) fp) elt (tDd T cur WF X (mD f))) (hs : ∀ x, foldedSetIterable iter X.env x = pure x) :
    PE X (.ListComp elt [⟨tg, iter, ifs, 0⟩] scope pos) (tX T cur W X (mLc fuel (own.map (·.2)) i g t f)) :=
  (pe_lc (cx.calm hc) (by rw [cx.N]; exact cx.nd) hi ok hg ht he hs).imp fun σ H Q w => lc_imp hsl w
end
end L3


/-! L3M: the reader: what each expression of the text means. -/
namespace L3
open PySem PySem.Spec PyProof.Rows L2

def denCmp (ops : List CmpOp) (bs : List Expr) (a : Dn) (ds : List Dn) : Dn := match ops, bs, ds with
  | [.Is], [.Constant .none _ _], _ => dn (mIsN false a.x)
  | [.IsNot], [.Constant .none _ _], _ => dn (mIsN true a.x)
  | [op], [b], [d] => if behindInMarks op b then dnStuck else dn (mCmp op a.x d.x)
  | [op, op'], [b, c], [d, e] => if lastMarks [op, op'] [b, c] then dnStuck else dn (mCmp2 op op' a.x d.x e.x)
  | _, _, _ => dnStuck
def denBool (op : BoolOp) (ds : List Dn) : Dn := match op with
  | .And => dnT (andX ds) (andT ds)
  | .Or => dnT (orX ds) (orT ds)
def denUn (op : UnaryOp) (a : Dn) : Dn := match op with
  | .Not => dnT (ofT (tNot (tOf a.x))) (tNot a.t)
  | .USub => dn (mNeg a.x)
  | _ => dnStuck
def denSub (i : Expr) (a d : Dn) : Dn := match i with
  | .Slice _ _ none _ => dn (mSl a.x d.lo d.hi)
  | i => if plainIx i then dn (mIx a.x d.x) else dnStuck
/-- a call by a global name -/
def denCallN (x : Str) (args : List Expr) (s : Sc) (ds : List Dn) : Dn := if isGl s x && noStars args then (match s.C.gl.lookup x with
    | some (.fn i) => if s.calm then dn (mCall s.C i (ds.map Dn.x)) else dnStuck
    | some (.cls c) => if s.calm then dn (mMake s.C c (ds.map Dn.x)) else dnStuck
    | some (.con _) => dnStuck
    | none => if s.C.bl.contains x then (if x = ("range" : Str) then (match args, ds with
        | [_], [f] => dnI (L3.iRng1 f.x)
        | [_, _], [f, g] => dnI (L3.iRng2 f.x g.x)
        | _, _ => dnStuck) else match args, ds with
      | [_], [f] => (match b1name x with
        | some b => if s.calm then dn (mB1 b f.x) else dnStuck
        | none => dnStuck)
      | [_, .Name y _], [f, _] => if x == ("isinstance" : Str) && isBl s y then (match tyname y with
        | some t => dn (mIsi t f.x)
        | none => dnStuck) else dnStuck
      | _, _ => dnStuck) else dnStuck) else dnStuck
def denCallM (o : Expr) (m : Str) (apos pos : Pos) (args : List Expr) (s : Sc) (b : DX) (ds : List Dn) : Dn :=
  if s.calm && isBase o && noStars args && (apos.endLine == pos.line) && decide (args.length < 29) then dn (mMeth s.C m b (ds.map Dn.x)) else dnStuck
def lcTest (ifs : List Expr) (ds : List Dn) : DT := match ifs, ds with
  | [], _ => tYes
  | [_], [c] => c.t
  | _, _ => fun _ _ => .stuck
/-- a comprehension's clause: its iterable outside, inside; its tests -/
structure GD where
  o : Dn
  n : Dn
  ifs : List Dn
def denLc (gens : List Comprehension) (scope : Scope) (s : Sc) (de : Dn) (gs : List GD) : Dn := match gens, gs with
  | [⟨tg, iter, ifs, 0⟩], [g] =>
    if s.calm && noSet iter && blkC s.N s.sc scope (ownOf s.N scope) && (tslots tg (inBlk s scope)).all (fun i => ((ownOf s.N scope).map (·.2)).contains i) then
      dn (mLc s.C.fuel ((ownOf s.N scope).map (·.2)) g.o.i (tgt tg (inBlk s scope)) (lcTest ifs g.ifs) de.x) else dnStuck
  | _, _ => dnStuck
def denCall (f : Expr) (args : List Expr) (kws : List Keyword) (pos : Pos) (s : Sc) (d : Dn) (ds : List Dn) : Dn := match f, kws with
  | .Name x _, [] => denCallN x args s ds
  | .Attribute o m apos, [] => denCallM o m apos pos args s d.b ds
  | _, _ => dnStuck
mutual
def den : Expr → Sc → Dn
  | .Constant c _ _, _ => dn (denC c)
  | .Name x _, s => dn (denN x s)
  | .BoolOp op vs _, s => denBool op (denL vs s)
  | .BinOp a op b _, s => dn (mBin op (den a s).x (den b s).x)
  | .UnaryOp op a _, s => denUn op (den a s)
  | .IfExp t a b _, s => dnT (mIf (den t s).t (den a s).x (den b s).x) (fun _ _ => .stuck)
  | .Compare a ops bs _, s => denCmp ops bs (den a s) (denL bs s)
  | .Tuple es _ _, s => if noStars es then dn (mTup ((denL es s).map Dn.x)) else dnStuck
  | .List es _, s => if noStars es then dn (mLst ((denL es s).map Dn.x)) else dnStuck
  | .Subscript e i _, s => denSub i (den e s) (den i s)
  | .Slice lo hi _ _, s => dnO (denO lo s) (denO hi s)
  | .Attribute e f _, s => dnB (if isBase e then dn (mFld s.C (den e s).x f) else dnStuck) (den e s).x
  | .Call f args kws pos, s => denCall f args kws pos s (den f s) (denL args s)
  | .ListComp elt gens scope _, s => denLc gens scope s (den elt (inBlk s scope)) (denG gens s (inBlk s scope))
  | _, _ => dnStuck
def denL : List Expr → Sc → List Dn
  | [], _ => []
  | e :: r, s => den e s :: denL r s
def denO : Option Expr → Sc → DO
  | none, _ => oNone
  | some e, s => oSome (den e s).x
def denG : List Comprehension → Sc → Sc → List GD
  | [], _, _ => []
  | ⟨_, iter, ifs, _⟩ :: r, s, s' => ⟨den iter s, den iter s', denL ifs s'⟩ :: denG r s s'
end
end L3


/-! L3N: the reader is right, expressions. -/
namespace L3
open PySem PySem.Spec PyProof.Rows L2

structure SndI (T : Tab) (cur : Option (Addr × Addr)) (W : WX) (X : Cx) (e : Expr) (d : Dn) : Prop where
  x : PE X e (tX T cur W X d.x)
  t : PT X e (tB T cur W X d.t)
  i : ∀ tg, PI X tg e (tIt T cur W X d.i)
  o : ∀ lo hi st p, e = .Slice lo hi st p → PO X lo (tO T cur W X d.lo) ∧ PO X hi (tO T cur W X d.hi)
  b : ∀ o m p, e = .Attribute o m p → PE X o (tX T cur W X d.b)
def notSl : Expr → Bool
  | .Slice _ _ _ _ => false
  | .Attribute _ _ _ => false
  | _ => true
section
variable {T : Tab} {s : Sc} {cur : Option (Addr × Addr)} {W : WX} {X : Cx} {pos p1 p2 : Pos} {a b c e tg : Expr} {f g h : DX} {d da db dc : Dn} {es : List Expr} {ds : List Dn}
theorem SndI.snd1 (h : SndI T cur W X e d) : SndE T cur W X e d := ⟨h.x, h.t⟩
theorem i_stuck {i : DI} (hi : ∀ e S, i e S = .stuck) : PI X tg e (tIt T cur W X i) := .no fun _ _ _ => tG.none hi
theorem i_stuckX : PI X tg e (tIt T cur W X (iOf stuckX)) := i_stuck fun _ _ => rfl
theorem t_stuckX : PT X e (tB T cur W X (tOf stuckX)) := t_stuck fun _ _ => rfl
/-- value and test known -/
theorem mkT {t : DT} (hn : notSl e = true) (hx : PE X e (tX T cur W X f)) (ht : PT X e (tB T cur W X t)) : SndI T cur W X e (dnT f t) where
  x := hx
  t := ht
  i tg := i_of hx
  o lo hi st p q := by subst q; cases hn
  b o m p q := by subst q; cases hn
theorem mkX (hn : notSl e = true) (hp : plainTest e = true) (hx : PE X e (tX T cur W X f)) : SndI T cur W X e (dn f) := mkT hn hx (t_val hp hx)
theorem mk0 (hn : notSl e = true) : SndI T cur W X e dnStuck where
  x := e_stuck
  t := t_stuckX
  i tg := i_stuckX
  o lo hi st p q := by subst q; cases hn
  b o m p q := by subst q; cases hn
theorem mkI {i : DI} (hn : notSl e = true) (hi : ∀ tg, PI X tg e (tIt T cur W X i)) : SndI T cur W X e (dnI i) where
  x := e_stuck
  t := t_stuckX
  i := hi
  o lo hi st p q := by subst q; cases hn
  b o m p q := by subst q; cases hn
/-! ### one constructor at a time -/
theorem s_cmp {ops : List CmpOp} (cx : CtxE T s cur W X) (ha : SndI T cur W X a da) (h : SndL T cur W X es ds) : SndI T cur W X (.Compare a ops es pos) (denCmp ops es da ds) := by
  unfold denCmp
  split
  · exact mkT rfl (e_isN ha.x) (t_isN ha.x)
  · exact mkT rfl (e_notN ha.x) (t_notN ha.x)
  · rename_i op b d _ _
    split
    · exact mk0 rfl
    · rename_i hm
      have hm : behindInMarks op b = false := by simpa using hm
      exact mkT rfl (e_cmp cx hm ha.x h.1.x) (t_cmp cx hm ha.x h.1.x)
  · rename_i op op' b c d e'
    split
    · exact mk0 rfl
    · rename_i hm
      have hm : lastMarks [op, op'] [b, c] = false := by simpa using hm
      exact mkT rfl (e_cmp2 cx hm ha.x h.1.x h.2.1.x) (t_cmp2 cx hm ha.x h.1.x h.2.1.x)
  · exact mk0 rfl
theorem s_bool {op : BoolOp} (h : SndL T cur W X es ds) : SndI T cur W X (.BoolOp op es pos) (denBool op ds) := by
  cases op with
  | And => exact mkT rfl (e_and h) (w_and h).pt
  | Or => exact mkT rfl (e_or h) (w_or h).pt
theorem s_un {op : UnaryOp} (ha : SndI T cur W X a da) : SndI T cur W X (.UnaryOp op a pos) (denUn op da) := by
  cases op with
  | Not => exact mkT rfl (e_not ha.x) (t_not ha.t)
  | USub => exact mkX rfl rfl (e_neg ha.x)
  | _ => exact mk0 rfl
theorem s_sub (cx : CtxE T s cur W X) (ha : SndI T cur W X a da) (hb : SndI T cur W X b db) : SndI T cur W X (.Subscript a b pos) (denSub b da db) := by
  unfold denSub
  split
  · rename_i lo hi p
    obtain ⟨h1, h2⟩ := hb.o _ _ _ _ rfl
    exact mkX rfl rfl (e_sl ha.x h1 h2)
  · split
    · rename_i hp; exact mkX rfl rfl (e_ix hp ha.x hb.x)
    · exact mk0 rfl
theorem s_slice {lo hi st : Option Expr} {l u : DO} (h1 : PO X lo (tO T cur W X l)) (h2 : PO X hi (tO T cur W X u)) : SndI T cur W X (.Slice lo hi st pos) (dnO l u) where
  x := e_stuck
  t := t_stuckX
  i tg := i_stuckX
  o lo' hi' st' p q := by cases q; exact ⟨h1, h2⟩
  b o m p q := by cases q
theorem s_attr {x : Str} (cx : CtxE T s cur W X) (ha : SndI T cur W X a da) : SndI T cur W X (.Attribute a x pos) (dnB (if isBase a then dn (mFld s.C da.x x) else dnStuck) da.x) := by
  split
  · rename_i hb
    exact ⟨e_fld cx hb ha.x, t_val rfl (e_fld cx hb ha.x), fun tg => i_of (e_fld cx hb ha.x), fun lo hi st p q => (by cases q), fun o m p q => (by cases q; exact ha.x)⟩
  · exact ⟨e_stuck, t_stuckX, fun tg => i_stuckX, fun lo hi st p q => (by cases q), fun o m p q => (by cases q; exact ha.x)⟩
theorem two_noStar (h : noStars [a, b] = true) : noStar a = true ∧ noStar b = true := by simpa [noStars] using h
theorem s_callN {x : Str} (cx : CtxE T s cur W X) (h : SndL T cur W X es ds) : SndI T cur W X (.Call (.Name x p1) es [] pos) (denCallN x es s ds) := by
  unfold denCallN
  split
  · rename_i hh
    obtain ⟨hg, hn⟩ := Bool.and_eq_true_iff.mp hh
    split
    · rename_i i hl
      split
      · rename_i hc; exact mkX rfl rfl (e_call cx hc hg hl hn h)
      · exact mk0 rfl
    · rename_i c hl
      split
      · rename_i hc; exact mkX rfl rfl (e_make cx hc hg hl hn h)
      · exact mk0 rfl
    · exact mk0 rfl
    · rename_i hl
      split
      · rename_i hb
        obtain ⟨g1, g2⟩ := isBl_ok cx hg hb
        split
        · rename_i hx
          subst hx
          split
          · exact mkI rfl fun tg => i_rng1 g1 g2 (by simpa [noStars] using hn) h.1.x
          · obtain ⟨n1, n2⟩ := two_noStar hn
            exact mkI rfl fun tg => i_rng2 g1 g2 n1 n2 h.1.x h.2.1.x
          · exact mk0 rfl
        · split
          · split
            · rename_i bb hbb
              split
              · rename_i hc; exact mkX rfl rfl (e_b1 cx hc hg hb hbb hn h.1.x)
              · exact mk0 rfl
            · exact mk0 rfl
          · split
            · rename_i hh2
              obtain ⟨h1, h2⟩ := Bool.and_eq_true_iff.mp hh2
              split
              · rename_i t ht; exact mkX rfl rfl (e_isi cx hg hb h1 h2 ht hn h.1.x)
              · exact mk0 rfl
            · exact mk0 rfl
          · exact mk0 rfl
      · exact mk0 rfl
  · exact mk0 rfl
theorem s_callM {o : Expr} {m : Str} {apos : Pos} (cx : CtxE T s cur W X) (ho : PE X o (tX T cur W X f)) (h : SndL T cur W X es ds) : SndI T cur W X (.Call (.Attribute o m apos) es [] pos) (denCallM o m apos pos es s f ds) := by
  unfold denCallM
  split
  · rename_i hh
    simp only [Bool.and_eq_true, decide_eq_true_eq] at hh
    obtain ⟨⟨⟨⟨h1, h2⟩, h3⟩, h4⟩, h5⟩ := hh
    exact mkX rfl rfl (e_meth cx h1 h2 h4 h3 h5 ho h)
  · exact mk0 rfl
theorem s_call {fe : Expr} {kws : List Keyword} (cx : CtxE T s cur W X) (hf : SndI T cur W X fe d) (h : SndL T cur W X es ds) : SndI T cur W X (.Call fe es kws pos) (denCall fe es kws pos s d ds) := by
  unfold denCall
  split
  · exact s_callN cx h
  · exact s_callM cx (hf.b _ _ _ rfl) h
  · exact mk0 rfl
/-! ### comprehensions -/
theorem blk_ctx {scope : Scope} (cx : CtxE T s cur W X) (st : Shared) (H : Hp) (C : Addr) (cl : List (Str × Addr)) (fp : List Addr) : CtxE T (inBlk s scope) cur WF (X.blk st H scope (compEnvC scope cl C X.env) fp) where
  N := cx.N
  nd := cx.nd
  sc := by show relS scope X.env.scope = relS scope s.sc; rw [cx.sc]
  calm := cx.calm
  units := cx.units
  fx := ⟨cx.fx.con, cx.fx.fn, cx.fx.cls, cx.fx.bl, cx.fx.fld, cx.fx.mth, cx.fx.ini⟩
  st := fun x h => h
  tk := fun _ => takes0
  call := cx.call
  make := cx.make
end
def GOk (T : Tab) (s s' : Sc) : List Comprehension → List GD → Prop
  | [], [] => True
  | c :: r, g :: gr => (∀ {cur W X}, CtxE T s cur W X → SndI T cur W X c.iter g.o) ∧ (∀ {cur W X}, CtxE T s' cur W X → SndI T cur W X c.iter g.n ∧ SndL T cur W X c.ifs g.ifs) ∧ GOk T s s' r gr
  | _, _ => False
section
variable {T : Tab} {s : Sc} {cur : Option (Addr × Addr)} {W : WX} {X : Cx} {pos p1 p2 : Pos} {a b c e tg elt : Expr} {f g h : DX} {d da db dc de : Dn} {es : List Expr} {ds : List Dn}
theorem noSet_ok {iter : Expr} (h : noSet iter = true) (env : PySem.Env) : ∀ x, foldedSetIterable iter env x = pure x := by
  intro x
  cases iter <;> first | rfl | cases h
theorem lc_tests {ifs : List Expr} {Y : Cx} (h : SndL T cur WF Y ifs ds) : PTs Y ifs (tB T cur WF Y (lcTest ifs ds)) := by
  unfold lcTest
  split
  · exact ⟨fun pins s σ H Q I ⟨env, S, μ, r, e, p⟩ => pts_nil.run pins s σ H Q I (p true H μ r rfl .refl)⟩
  · exact pts_one h.1.t
  · exact ⟨fun pins s σ H Q I w => (tG.none (fun _ _ => rfl) w).elim⟩
theorem s_lc {gens : List Comprehension} {scope : Scope} {gs : List GD} (cx : CtxE T s cur W X) (hg : GOk T s (inBlk s scope) gens gs) (he : ∀ {cur W X}, CtxE T (inBlk s scope) cur W X → SndI T cur W X elt de) :
    SndI T cur W X (.ListComp elt gens scope pos) (denLc gens scope s de gs) := by
  unfold denLc
  split
  · rename_i tg iter ifs g
    split
    · rename_i hh
      simp only [Bool.and_eq_true] at hh
      obtain ⟨⟨⟨h1, h2⟩, h3⟩, h4⟩ := hh
      refine mkX rfl rfl (e_lc (sl := tslots tg (inBlk s scope)) (own := ownOf s.N scope) cx h1 ((hg.1 cx).i tg) ?_ ?_ ?_ ?_ ?_ (noSet_ok h2 _))
      · rw [cx.N, cx.sc]; exact blkOk_by h3
      · intro i hi
        have := List.all_eq_true.mp h4 i hi
        simpa using this
      · intro st H C cl fp; exact g_tgt (blk_ctx cx st H C cl fp) tg
      · intro st H C cl fp; exact lc_tests (hg.2.1 (blk_ctx cx st H C cl fp)).2
      · intro st H C cl fp; exact e_sit (he (blk_ctx cx st H C cl fp)).x
    · exact mk0 rfl
  · exact mk0 rfl
/-! ### all of them -/
mutual
theorem snd : ∀ (e : Expr) {s : Sc} {cur : Option (Addr × Addr)} {W : WX} {X : Cx}, CtxE T s cur W X → SndI T cur W X e (den e s)
  | .Constant c k p, _, _, _, _, cx => mkX rfl rfl e_const
  | .Name x p, _, _, _, _, cx => mkX rfl rfl (e_name cx)
  | .BoolOp op vs p, _, _, _, _, cx => s_bool (sndL vs cx)
  | .BinOp a op b p, _, _, _, _, cx => mkX rfl rfl (e_bin (snd a cx).x (snd b cx).x)
  | .UnaryOp op a p, _, _, _, _, cx => s_un (snd a cx)
  | .IfExp t a b p, _, _, _, _, cx => mkT rfl (e_if (snd t cx).t (snd a cx).x (snd b cx).x) (t_stuck fun _ _ => rfl)
  | .Compare a ops bs p, _, _, _, _, cx => s_cmp cx (snd a cx) (sndL bs cx)
  | .Tuple es k p, s, cur, W, X, cx => by
    show SndI T cur W X _ (if noStars es then dn (mTup ((denL es s).map Dn.x)) else dnStuck)
    split
    · rename_i hn; exact mkX rfl rfl (e_tup hn (sndL es cx))
    · exact mk0 rfl
  | .List es p, s, cur, W, X, cx => by
    show SndI T cur W X _ (if noStars es then dn (mLst ((denL es s).map Dn.x)) else dnStuck)
    split
    · rename_i hn; exact mkX rfl rfl (e_lst hn (sndL es cx))
    · exact mk0 rfl
  | .Subscript e i p, _, _, _, _, cx => s_sub cx (snd e cx) (snd i cx)
  | .Slice lo hi st p, _, _, _, _, cx => s_slice (sndO lo cx) (sndO hi cx)
  | .Attribute e x p, _, _, _, _, cx => s_attr cx (snd e cx)
  | .Call fe es kws p, _, _, _, _, cx => s_call cx (snd fe cx) (sndL es cx)
  | .ListComp elt gens scope p, s, _, _, _, cx => s_lc cx (sndG gens s (inBlk s scope)) fun cx' => snd elt cx'
  | .NamedExpr .., _, _, _, _, _ => mk0 rfl | .Lambda .., _, _, _, _, _ => mk0 rfl | .Dict .., _, _, _, _, _ => mk0 rfl | .Set .., _, _, _, _, _ => mk0 rfl
  | .SetComp .., _, _, _, _, _ => mk0 rfl | .DictComp .., _, _, _, _, _ => mk0 rfl | .GeneratorExp .., _, _, _, _, _ => mk0 rfl | .Await .., _, _, _, _, _ => mk0 rfl | .Yield .., _, _, _, _, _ => mk0 rfl | .YieldFrom .., _, _, _, _, _ => mk0 rfl
  | .FormattedValue .., _, _, _, _, _ => mk0 rfl | .JoinedStr .., _, _, _, _, _ => mk0 rfl | .Starred .., _, _, _, _, _ => mk0 rfl
theorem sndL : ∀ (es : List Expr) {s : Sc} {cur : Option (Addr × Addr)} {W : WX} {X : Cx}, CtxE T s cur W X → SndL T cur W X es (denL es s)
  | [], _, _, _, _, _ => trivial
  | e :: es, _, _, _, _, cx => ⟨(snd e cx).snd1, sndL es cx⟩
theorem sndO : ∀ (e : Option Expr) {s : Sc} {cur : Option (Addr × Addr)} {W : WX} {X : Cx}, CtxE T s cur W X → PO X e (tO T cur W X (denO e s))
  | none, _, _, _, _, _ => o_none
  | some e, _, _, _, _, cx => o_some (snd e cx).x
theorem sndG : ∀ (gs : List Comprehension) (s s' : Sc), GOk T s s' gs (denG gs s s')
  | [], _, _ => trivial
  | ⟨_, iter, ifs, _⟩ :: r, s, s' => ⟨fun cx => snd iter cx, fun cx => ⟨snd iter cx, sndL ifs cx⟩, sndG r s s'⟩
end
end
end L3


/-! L3O: statements, one at a time. -/
namespace L3
open PySem PySem.Spec PyProof.Rows L2

structure CtxS (T : Tab) (s : Sc) (cur : Option (Addr × Addr)) (W : WX) (X : Cx) : Prop extends CtxE T s cur W X where
  hp : PassesOwn (model X.prog X.w) X.A X.env X.xe
def tF (T : Tab) (cur : Option (Addr × Addr)) (W : WX) (X : Cx) (f : DS) : TS := fun En σ H => ∃ env S μ, Rep T X.K μ S H ∧ EnvR T X.K cur μ H σ env ∧ PF T X.K cur W En μ H (f env S)
theorem _root_.L2.PS.imp {X : Cx} {e : Stmt} {t t' : TS} (h : PS X e t) (q : ∀ En σ H, t' En σ H → t En σ H) : PS X e t' := ⟨fun pins s σ H En I w => h.run pins s σ H En I (q En σ H w)⟩
theorem _root_.L2.PSs.imp {X : Cx} {e : List Stmt} {t t' : TS} (h : PSs X e t) (q : ∀ En σ H, t' En σ H → t En σ H) : PSs X e t' := ⟨fun pins s σ H En I w => h.run pins s σ H En I (q En σ H w)⟩
section
variable {T : Tab} {s : Sc} {cur : Option (Addr × Addr)} {W : WX} {X : Cx} {pos p1 p2 : Pos} {a b c e tg elt : Expr} {f g h : DX} {d da db dc de : Dn} {es : List Expr} {ds : List Dn} {st : Stmt} {sts : List Stmt} {F G : DS}
theorem p_stuck (hF : ∀ e S, F e S = .stuck) : PS X st (tF T cur W X F) := ⟨fun pins s σ H En I ⟨env, S, μ, R, er, p⟩ => by rw [hF] at p; exact p.elim⟩
theorem ps_nil : PSs X [] (tF T cur W X sNext) := pss_nil.imp fun En σ H ⟨env, S, μ, R, er, p⟩ => p σ H μ R er .refl
theorem ps_seq (h1 : PS X st (tF T cur W X F)) (h2 : PSs X sts (tF T cur W X G)) : PSs X (st :: sts) (tF T cur W X (sSeq F G)) := by
  refine (pss_cons h1 h2).imp fun En σ H ⟨env, S, μ, R, er, p⟩ => ⟨env, S, μ, R, er, ?_⟩
  unfold sSeq at p
  cases q : F env S with
  | next e1 S1 => rw [q] at p; exact fun σ' H' μ' r e' t => ⟨e1, S1, μ', r, e', p.rebase t⟩
  | ret d S1 => rw [q] at p; exact p
  | brk e1 S1 => rw [q] at p; exact p
  | cont e1 S1 => rw [q] at p; exact p
  | exc c fs e1 S1 => rw [q] at p; exact p
  | stuck => rw [q] at p; exact p
theorem p_pass : PS X (.Pass pos) (tF T cur W X sNext) := ps_pass.imp fun En σ H ⟨env, S, μ, R, er, p⟩ => p σ H μ R er .refl
def sBrk : DS := fun e S => .brk e S
def sCont : DS := fun e S => .cont e S
theorem p_brk : PS X (.Break pos) (tF T cur W X sBrk) := ps_break.imp fun En σ H ⟨env, S, μ, R, er, p⟩ => p σ H μ R er .refl
theorem p_cont : PS X (.Continue pos) (tF T cur W X sCont) := ps_continue.imp fun En σ H ⟨env, S, μ, R, er, p⟩ => p σ H μ R er .refl
theorem p_doc {x : Str} {j : Nat} : PS X (.Expr (.Constant (.str x) j p1) pos) (tF T cur W X sNext) := ps_doc.imp fun En σ H ⟨env, S, μ, R, er, p⟩ => p σ H μ R er .refl
/-- an expression, then a flow -/
theorem flow_x {En : Ends} {σ : L2.St} {H : Hp} {k : Env → XV → Store → Fl} (w : tF T cur W X (fun e S => flX (f e S) e fun x S1 => k e x S1) En σ H) : tX T cur W X f σ H fun v H1 => ∃ env μ μ1 S1 x, EnvR T X.K cur μ1 H1 σ env ∧ Rep T X.K μ1 S1 H1 ∧ (RX T X.K).r μ1 H H1 v x ∧ Tr μ H μ1 H1 ∧ PF T X.K cur W En μ H (k env x S1) := by
  obtain ⟨env, S, μ, R, er, p⟩ := w
  refine ⟨env, S, μ, R, er, ?_⟩
  have p : PF T X.K cur W En μ H (flX (f env S) env fun x S1 => k env x S1) := p
  cases q : f env S with
  | ok x S1 => rw [q] at p; exact fun v H1 μ1 r1 rx t1 => ⟨env, μ, μ1, S1, x, er.mono R t1, r1, rx, t1, p⟩
  | exc c fs S1 => rw [q] at p; exact fun cls d H1 μ1 r1 ev t1 => p cls d σ H1 μ1 r1 (er.mono R t1) ev t1
  | stuck => rw [q] at p; exact p
def noComp : Expr → Bool
  | .ListComp _ _ _ _ => false
  | .SetComp _ _ _ _ => false
  | .DictComp _ _ _ _ _ => false
  | _ => true
theorem sw_none (h : noComp e = true) (t : Option Expr) (l : Nat) (env : PySem.Env) : swapsWith e t l env = pure false := by
  cases e <;> first | rfl | cases h
theorem p_expr (hn : noComp e = true) (he : PE X e (tX T cur W X f)) : PS X (.Expr e pos) (tF T cur W X (sExpr f)) :=
  (ps_expr he (sw_none hn _ _ _)).imp fun En σ H w => (flow_x (k := fun e _ S1 => Fl.next e S1) w).imp fun v H1 ⟨env, μ, μ1, S1, x, e1, r1, rx, t1, p⟩ => p _ _ _ r1 e1 t1
/-- a value taken into the store, then a flow -/
theorem flow_d {En : Ends} {σ : L2.St} {H : Hp} {k : Env → L3.D → Store → Fl} (w : tF T cur W X (fun e S => flD (mD f e S) e fun d S1 => k e d S1) En σ H) :
    tX T cur W X f σ H fun v H1 => ∃ env μ μ1 S1 d, EnvR T X.K cur μ1 H1 σ env ∧ Rep T X.K μ1 S1 H1 ∧ DV T X.K μ1 H1 v d ∧ Tr μ H μ1 H1 ∧ PF T X.K cur W En μ H (k env d S1) := by
  obtain ⟨env, S, μ, R, er, p⟩ := w
  refine ⟨env, S, μ, R, er, ?_⟩
  have p : PF T X.K cur W En μ H (flD ((f env S).bind sit) env fun d S1 => k env d S1) := p
  cases q : f env S with
  | ok x S1 =>
    rw [q] at p
    intro v H1 μ1 r1 rx t1
    obtain ⟨d, S', μ', q', r', dv, t', st'⟩ := sit_ok r1 t1 rx
    simp only [Out.bind, q', flD] at p
    exact ⟨env, μ, μ', S', d, er.mono R t', r', dv, t', p⟩
  | exc c fs S1 => rw [q] at p; exact fun cls d H1 μ1 r1 ev t1 => p cls d σ H1 μ1 r1 (er.mono R t1) ev t1
  | stuck => rw [q] at p; exact p
theorem p_ret (he : PE X e (tX T cur W X f)) : PS X (.Return (some e) pos) (tF T cur W X (sRet f)) :=
  (ps_ret he).imp fun En σ H w => (flow_d (k := fun _ d S1 => Fl.ret d S1) w).imp fun v H1 ⟨env, μ, μ1, S1, d, e1, r1, dv, t1, p⟩ => p _ _ _ r1 dv t1
def sRetN : DS := fun _ S => .ret .non S
theorem p_retN : PS X (.Return none pos) (tF T cur W X sRetN) := ps_retN.imp fun En σ H ⟨env, S, μ, R, er, p⟩ => p .non H μ R .non .refl
theorem p_if {t : DT} {st2 : List Stmt} (hc : PT X c (tB T cur W X t)) (ha : PSs X sts (tF T cur W X F)) (hb : PSs X st2 (tF T cur W X G)) : PS X (.If c sts st2 pos) (tF T cur W X (sIf t F G)) := by
  refine (ps_if hc ha hb).imp fun En σ H ⟨env, S, μ, R, er, p⟩ => ⟨env, S, μ, R, er, ?_⟩
  unfold sIf at p
  cases q : t env S with
  | ok b S1 =>
    rw [q] at p
    intro v H1 μ1 r1 eb t1
    have eb : v = b := eb
    subst eb
    cases v with
    | true => rw [if_pos rfl]; exact ⟨env, S1, μ1, r1, er.mono R t1, PF.rebase (f := F env S1) t1 p⟩
    | false => rw [if_neg Bool.false_ne_true]; exact ⟨env, S1, μ1, r1, er.mono R t1, PF.rebase (f := G env S1) t1 p⟩
  | exc c fs S1 => rw [q] at p; exact fun cls d H1 μ1 r1 ev t1 => p cls d σ H1 μ1 r1 (er.mono R t1) ev t1
  | stuck => rw [q] at p; exact p

/-! ### assignments -/
theorem g_run {En : Ends} {σ : L2.St} {H0 H : Hp} {μ0 μ : Mu} {S : Store} {env : Env} {sl : List Nat} {G : DG} {v : V} {d : L3.D} (R : Rep T X.K μ S H) (er : EnvR T X.K cur μ H σ env) (dv : DV T X.K μ H v d) (t : Tr μ0 H0 μ H) (p : PF T X.K cur W En μ0 H0 (gRun G d env S)) :
    tGt T cur X sl G v σ H En.nx := by
  refine ⟨env, S, μ, d, R, er, dv, ?_⟩
  unfold gRun at p
  cases q : G d env S with
  | next e1 S1 => rw [q] at p; exact fun σ' H' μ' r' er' t' _ => p σ' H' μ' r' er' (t.trans t')
  | _ => rw [q] at p; exact p.elim
theorem asg_x {En : Ends} {σ : L2.St} {H : Hp} {sl : List Nat} {G : DG} (w : tF T cur W X (sAsg f G) En σ H) : tX T cur W X f σ H fun v H1 => tGt T cur X sl G v σ H1 En.nx :=
  (flow_d (k := fun e d S1 => gRun G d e S1) w).imp fun v H1 ⟨env, μ, μ1, S1, d, e1, r1, dv, t1, p⟩ => g_run r1 e1 dv t1 p
theorem p_asg {sl : List Nat} {G : DG} (he : PE X e (tX T cur W X f)) (hg : L2.PG X tg (tGt T cur X sl G)) (hs : swapsWithSole [tg] e pos.line X.env = pure false) (hw : swappedStores [tg] e X.env = pure none) (h1 : (assignEach [tg] X.env).map (·.2) = [assign tg X.env]) :
    PS X (.Assign [tg] e pos) (tF T cur W X (sAsg f G)) := (ps_asg he hg hs hw h1).imp fun En σ H w => asg_x w
theorem var_nx {En : Ends} {σ : L2.St} {H : Hp} {i : Nat} {v : V} (w : tGt T cur X [i] (gVar i) v σ H En.nx) : En.nx (σ.set i (some v)) H := by
  obtain ⟨env, S, μ, d, R, er, dv, p⟩ := w
  exact p _ H μ R (er.set dv i) .refl fun vs hv => wipe_set (hv i List.mem_cons_self)
/-- name = value, no comprehension's value handed over -/
theorem p_set {x : Str} {i : Nat} (cx : CtxE T s cur W X) (hi : slotL s x = some i) (he : PE X e (tX T cur W X f)) (hs : swapsWith e (some (.Name x p1)) pos.line X.env = pure false) : PS X (.Assign [.Name x p1] e pos) (tF T cur W X (sAsg f (gVar i))) := by
  obtain ⟨h1, h2, h3⟩ := slotL_ok cx hi
  exact (ps_set (by rw [cx.N]; exact cx.nd) h1 h2 he hs h3).imp fun En σ H w => (asg_x (sl := [i]) w).imp fun v H1 w1 => var_nx w1
theorem p_setLc {elt iter : Expr} {ifs : List Expr} {scope : Scope} {own : List (Str × Nat)} {x : Str} {j : Nat} {i : DI} {g : DG} {t : DT} {sl : List Nat} {fuel : Nat} (cx : CtxE T s cur W X) (hc : s.calm = true) (hj : slot s x = some j) (hjl : X.env.scope.names.lookup x = some .local)
    (hsw : swapsWith (.ListComp elt [⟨tg, iter, ifs, 0⟩] scope p2) (some (.Name x p1)) pos.line X.env = pure true)
    (hi : PI X tg iter (tIt T cur W X i)) (ok : BlkOk X.N X.env.scope scope own) (hsl : ∀ i ∈ sl, i ∈ own.map (·.2))
    (hg : ∀ (s : Shared) (H : Hp) (C : Addr) (cl : List (Str × Addr)) (fp : List Addr), L2.PG (X.blk s H scope (compEnvC scope cl C X.env) fp) tg (tGt T cur X sl g))
    (ht : ∀ (s : Shared) (H : Hp) (C : Addr) (cl : List (Str × Addr)) (fp : List Addr), PTs (X.blk s H scope (compEnvC scope cl C X.env) fp) ifs (tB T cur WF X t))
    (he : ∀ (s : Shared) (H : Hp) (C : Addr) (cl : List (Str × Addr)) (fp : List Addr), PE (X.blk s H scope (compEnvC scope cl C X.env) fp) elt (tDd T cur WF X (mD f))) (hs : ∀ x, foldedSetIterable iter X.env x = pure x) :
    PS X (.Assign [.Name x p1] (.ListComp elt [⟨tg, iter, ifs, 0⟩] scope p2) pos) (tF T cur W X (sAsg (mLc fuel (own.map (·.2)) i g t f) (gVar j))) := by
  obtain ⟨h1, _, _, _⟩ := slot_ok cx hj
  exact (ps_setLc (cx.calm hc) (by rw [cx.N]; exact cx.nd) h1 hjl hsw hi ok hg ht he hs).imp fun En σ H w => lc_imp hsl ((asg_x (sl := [j]) w).imp fun v H1 w1 => var_nx w1)

/-- a, b = x, y with plain local names -/
theorem p_par2 {x y : Str} {i j : Nat} {px py pt : Pos} {kt k2 : Nat} {pt2 : Pos} (cx : CtxE T s cur W X) (hc : s.calm = true) (hi : slot s x = some i) (hj : slot s y = some j) (hij : i ≠ j) (hx : X.env.scope.names.lookup x = some .local) (hy : X.env.scope.names.lookup y = some .local)
    (hn : noStars [a, b] = true) (h : SndL T cur W X [a, b] ds) (hw : swappedStores [.Tuple [.Name x px, .Name y py] kt pt] (.Tuple [a, b] k2 pt2) X.env = pure (some [x, y])) :
    PS X (.Assign [.Tuple [.Name x px, .Name y py] kt pt] (.Tuple [a, b] k2 pt2) pos) (tF T cur W X (sPar (ds.map Dn.x) [i, j])) := by
  obtain ⟨h1, _⟩ := slot_ok cx hi
  obtain ⟨h2, _⟩ := slot_ok cx hj
  refine (ps_par (cx.calm hc) (by rw [cx.N]; exact cx.nd) h1 h2 hij hx hy (a_args hn h) hw).imp fun En σ H ⟨env, S, μ, R, er, p⟩ => ⟨env, S, μ, R, er, ?_⟩
  unfold sPar at p
  cases q : mArgs (ds.map Dn.x) env S with
  | ok xs S1 =>
    rw [q] at p
    intro vs H1 μ1 r1 dv t1
    have hl := mArgs_len q
    rw [List.length_map, ← h.len] at hl
    match xs, vs, hl, dv, p with
    | [d1, d2], [v1, v2], _, .cons dv1 (.cons dv2 .nil), p =>
      exact ⟨v1, v2, rfl, p _ _ _ r1 (((er.mono R t1).set dv1 i).set dv2 j) t1⟩
  | exc c fs S1 => rw [q] at p; exact fun cls d H1 μ1 r1 ev t1 => p cls d σ H1 μ1 r1 (er.mono R t1) ev t1
  | stuck => rw [q] at p; exact p
theorem p_par3 {x y z : Str} {i j l : Nat} {px py pz pt : Pos} {kt k2 : Nat} {pt2 : Pos} (cx : CtxE T s cur W X) (hc : s.calm = true) (hi : slot s x = some i) (hj : slot s y = some j) (hl : slot s z = some l) (hij : i ≠ j) (hil : i ≠ l) (hjl : j ≠ l)
    (hx : X.env.scope.names.lookup x = some .local) (hy : X.env.scope.names.lookup y = some .local) (hz : X.env.scope.names.lookup z = some .local)
    (hn : noStars [a, b, c] = true) (h : SndL T cur W X [a, b, c] ds) (hw : swappedStores [.Tuple [.Name x px, .Name y py, .Name z pz] kt pt] (.Tuple [a, b, c] k2 pt2) X.env = pure (some [x, y, z])) :
    PS X (.Assign [.Tuple [.Name x px, .Name y py, .Name z pz] kt pt] (.Tuple [a, b, c] k2 pt2) pos) (tF T cur W X (sPar (ds.map Dn.x) [i, j, l])) := by
  obtain ⟨h1, _⟩ := slot_ok cx hi
  obtain ⟨h2, _⟩ := slot_ok cx hj
  obtain ⟨h3, _⟩ := slot_ok cx hl
  refine (ps_par3 (cx.calm hc) (by rw [cx.N]; exact cx.nd) h1 h2 h3 hij hil hjl hx hy hz (a_args hn h) hw).imp fun En σ H ⟨env, S, μ, R, er, p⟩ => ⟨env, S, μ, R, er, ?_⟩
  unfold sPar at p
  cases q : mArgs (ds.map Dn.x) env S with
  | ok xs S1 =>
    rw [q] at p
    intro vs H1 μ1 r1 dv t1
    have hl := mArgs_len q
    rw [List.length_map, ← h.len] at hl
    match xs, vs, hl, dv, p with
    | [d1, d2, d3], [v1, v2, v3], _, .cons dv1 (.cons dv2 (.cons dv3 .nil)), p =>
      exact ⟨v1, v2, v3, rfl, p _ _ _ r1 ((((er.mono R t1).set dv1 i).set dv2 j).set dv3 l) t1⟩
  | exc c fs S1 => rw [q] at p; exact fun cls d H1 μ1 r1 ev t1 => p cls d σ H1 μ1 r1 (er.mono R t1) ev t1
  | stuck => rw [q] at p; exact p

/-! ### targets of statements -/
theorem FV.put {K : PySem.W.Frag} {μ : Mu} {H : Hp} {x : Str} {v : V} {d : L3.D} (h : DV T K μ H v d) : ∀ {vs : List (Str × V)} {ds : List (Str × L3.D)}, FV T K μ H vs ds → FV T K μ H (putF x v vs) (putFD x d ds)
  | [], [], _ => ⟨rfl, h, trivial⟩
  | (y, w) :: vs, (z, e) :: ds, hh => by
    obtain ⟨rfl, hd, hr⟩ := hh
    unfold putF putFD
    split
    · rename_i e; exact ⟨e, h, hr⟩
    · exact ⟨rfl, hd, FV.put h hr⟩
  | [], _ :: _, h => h.elim
  | _ :: _, [], h => h.elim
theorem FV.len {K : PySem.W.Frag} {μ : Mu} {H : Hp} : ∀ {vs : List (Str × V)} {ds : List (Str × L3.D)}, FV T K μ H vs ds → vs.length = ds.length
  | [], [], _ => rfl
  | _ :: _, _ :: _, h => by rw [List.length_cons, List.length_cons, FV.len h.2.2]
  | [], _ :: _, h => h.elim
  | _ :: _, [], h => h.elim
/-- an instance's attribute is written -/
theorem ins_wr {K : PySem.W.Frag} {μ : Mu} {S : Store} {H : Hp} {r : Nat} {p dx : Addr} {x : Str} {c : Nat} {v : V} {d : L3.D} {vfs : List (Str × V)} {fs : List (Str × L3.D)} (R : Rep T K μ S H) (hr : μ[r]? = some p) (hv : DV T K μ H v d) (hf : FV T K μ H vfs fs) :
    Rep T K μ (S.set r (.ins c (putFD x d fs))) (upd H p (.ins (T.ca c) dx (putF x v vfs))) ∧ Tr μ H μ (upd H p (.ins (T.ca c) dx (putF x v vfs))) :=
  ⟨R.write hr fun st => ⟨dx, _, upd_same, FV.put (hv.stay st) (hf.stay st)⟩, Tr.write (mem_of_mu hr)⟩
theorem g_fld {o : Expr} {x : Str} (cx : CtxE T s cur W X) (ho : PE X o (tX T cur W X f)) : L2.PG X (.Attribute o x pos) (tGt T cur X [] (gFld s.C f x)) := by
  refine ⟨fun pins st σ H v u Q I rv ⟨env, S, μ, d, R, er, dv, p⟩ => ?_⟩
  rw [assign_Attribute]
  unfold gFld at p
  cases q : f env S with
  | ok y S1 =>
    rw [q] at p
    cases y with
    | d od =>
      have p2 : gPost T X.K cur [] σ μ H Q (match fldOf od S1 with
        | some (r, c, fs) => if s.C.fld c x && decide (fs.length < 1000) then .next env (S1.set r (.ins c (putFD x d fs))) else .stuck
        | none => .stuck) := p
      cases q2 : fldOf od S1 with
      | none => rw [q2] at p2; exact p2.elim
      | some z =>
        obtain ⟨r, c, fs⟩ := z
        rw [q2] at p2
        simp only at p2
        split at p2
        · rename_i hh
          obtain ⟨h1, h2⟩ := Bool.and_eq_true_iff.mp hh
          obtain ⟨c1, c2⟩ := cx.fx.fld _ _ h1
          have h2 := of_decide_eq_true h2
          refine wpAny_bind (wpAny_holding (thn (ho.run pins st σ H (fun w H1 => ∃ q dx vfs, w = .ref q ∧ H1 q = some (.ins (T.ca c) dx vfs) ∧ vfs.length < 1000 ∧ Q σ (upd H1 q (.ins (T.ca c) dx (putF x v vfs)))) I ⟨env, S, μ, R, er, ?_⟩) fun ov s1 ⟨w, H1, I1, r1, q1, dx, vfs, e1, e2, e3, e4⟩ => ?_))
          · rw [q]
            intro w H1 μ1 r1 rx t1
            obtain ⟨q1, dx, vfs, rfl, rfl, hq, hp, fv⟩ := fld_at r1 rx q2
            obtain ⟨R2, t2⟩ := ins_wr (x := x) (dx := dx) r1 hq (t1.dv R dv) fv
            exact ⟨q1, dx, vfs, rfl, hp, by rw [FV.len fv]; exact h2, p2 _ _ _ R2 ((er.mono R t1).mono r1 t2) (t1.trans t2) fun _ _ => rfl⟩
          · subst e1
            cases r1
            refine wpAny_bind (wpAny_standAt (wpAny_bind (wpAny_holding ?_)))
            exact setattr_ok I1 e2 c1 c2 e3 rv fun s3 I3 => wpAny_release ⟨σ, _, I3, e4⟩
        · exact p2.elim
    | fl ds => exact p.elim
  | exc c fs S1 => rw [q] at p; exact p.elim
  | stuck => rw [q] at p; exact p.elim
theorem assignSub_ok {o i : Expr} (h : plainIx i = true) : ∀ v, assign (.Subscript o i pos) X.env v = (do
      let ov ← holding [v] (eval o X.env)
      let iv ← holding [v, ov] (eval i X.env)
      standAt pos
      holding [v, ov, iv] (setItem ov iv v)
      release [v, ov, iv] []) := by
  intro v
  cases i <;> first | rfl | cases h
theorem g_sub {o i : Expr} (hi : plainIx i = true) (ho : PE X o (tX T cur W X f)) (he : PE X i (tX T cur W X g)) : L2.PG X (.Subscript o i pos) (tGt T cur X [] (L3.gSub f g)) := by
  refine (pg_sub ho he set_list (assignSub_ok hi)).imp fun v σ H Q ⟨env, S, μ, d, R, er, dv, p⟩ => ⟨env, S, μ, R, er, ?_⟩
  unfold L3.gSub at p
  cases q : f env S with
  | ok y S1 =>
    rw [q] at p
    cases y with
    | d od =>
      intro w H1 μ1 r1 rx t1
      refine ⟨env, S1, μ1, r1, er.mono R t1, ?_⟩
      have p2 : gPost T X.K cur [] σ μ H Q (match g env S1 with
        | .ok (.d (.int i)) S2 => (match lstOf od S2 with
          | some (r, ds) => (match ixN ds.length i with
            | some k => .next env (S2.set r (.lst (ds.set k d)))
            | none => .stuck)
          | none => .stuck)
        | _ => .stuck) := p
      cases q2 : g env S1 with
      | ok z S2 =>
        rw [q2] at p2
        intro w2 H2 μ2 r2 rz t2
        split at p2
        · rename_i i S2' e1
          cases e1
          split at p2
          · rename_i r ds e2
            split at p2
            · rename_i k e3
              cases rz
              obtain ⟨q1, vs, rfl, rfl, hr, hp, dw⟩ := lst_at r2 (t2.dv r1 rx) e2
              obtain ⟨R3, t3⟩ := lst_wr r2 hr (dw.set ((t1.trans t2).dv R dv) k)
              have hk := (ixN_seq e3)
              exact ⟨q1, vs, i, k, rfl, rfl, hp, by rw [dw.length]; exact e3, p2 _ _ _ R3 (((er.mono R t1).mono r1 t2).mono r2 t3) ((t1.trans t2).trans t3) fun _ _ => rfl⟩
            · exact p2.elim
          · exact p2.elim
        · exact p2.elim
      | exc c fs S2 => rw [q2] at p2; exact p2.elim
      | stuck => rw [q2] at p2; exact p2.elim
    | fl ds => exact p.elim
  | exc c fs S1 => rw [q] at p; exact p.elim
  | stuck => rw [q] at p; exact p.elim
end
end L3


/-! L3P: loops, augmented assignments. -/
namespace L3
open PySem PySem.Spec PyProof.Rows L2
section
variable {T : Tab} {s : Sc} {cur : Option (Addr × Addr)} {W : WX} {X : Cx} {pos p1 p2 : Pos} {a b c e tg iter : Expr} {f g h : DX} {d da db dc de : Dn} {es : List Expr} {ds : List Dn} {st : Stmt} {sts : List Stmt} {F G : DS}
/-- one turn's end, behind the body: on again, or out -/
def again (k : Env → Store → Fl) (o : Fl) : Fl := match o with
  | .next e2 S2 => k e2 S2
  | .cont e2 S2 => k e2 S2
  | .brk e2 S2 => .next e2 S2
  | o => o
theorem again_ok {En : Ends} {μ μ' : Mu} {H H' : Hp} {k : Env → Store → Fl} {o : Fl} {N : L2.St → Hp → Prop} (t : Tr μ H μ' H') (p : PF T X.K cur W En μ H (again k o))
    (hk : ∀ e2 S2 σ2 H2 μ2, Rep T X.K μ2 S2 H2 → EnvR T X.K cur μ2 H2 σ2 e2 → Tr μ' H' μ2 H2 → PF T X.K cur W En μ H (k e2 S2) → N σ2 H2) : PF T X.K cur W { En with nx := N, ct := N, bk := En.nx } μ' H' o := by
  cases o with
  | next e2 S2 => exact fun σ2 H2 μ2 r e t2 => hk _ _ _ _ _ r e t2 p
  | cont e2 S2 => exact fun σ2 H2 μ2 r e t2 => hk _ _ _ _ _ r e t2 p
  | brk e2 S2 => exact fun σ2 H2 μ2 r e t2 => p _ _ _ r e (t.trans t2)
  | ret d S2 => exact fun v H2 μ2 r e t2 => p _ _ _ r e (t.trans t2)
  | exc c fs e2 S2 => exact fun cls d σ2 H2 μ2 r e ev t2 => p _ _ _ _ _ r e ev (t.trans t2)
  | stuck => exact p
theorem forRun_succ (g : DG) (b : DS) (w : It1) (n i : Nat) (e : Env) (S : Store) : forRun g b w (n + 1) i e S = (match nextOf w S i with
    | none => .stuck
    | some none => .next e S
    | some (some d) => (match g d e S with
      | .next e1 S1 => again (fun e2 S2 => forRun g b w n (i + 1) e2 S2) (b e1 S1)
      | _ => .stuck)) := by
  show (match nextOf w S i with
    | none => Fl.stuck
    | some none => .next e S
    | some (some d) => (match g d e S with
      | .next e1 S1 => (match b e1 S1 with
        | .next e2 S2 => forRun g b w n (i + 1) e2 S2
        | .cont e2 S2 => forRun g b w n (i + 1) e2 S2
        | .brk e2 S2 => .next e2 S2
        | o => o)
      | _ => .stuck)) = _
  cases nextOf w S i with
  | none => rfl
  | some o =>
    cases o with
    | none => rfl
    | some d =>
      dsimp only
      cases g d e S with
      | next e1 S1 => dsimp only; cases b e1 S1 <;> rfl
      | _ => rfl
theorem p_for {fuel : Nat} {i : DI} {gt : DG} {sl : List Nat} (cx : CtxS T s cur W X) (hc : s.calm = true) (hi : PI X tg iter (tIt T cur W X i)) (hg : L2.PG X tg (tGt T cur X sl gt)) (hb : PSs X sts (tF T cur W X F)) (hs : ∀ x, foldedSetIterable iter X.env x = pure x) :
    PS X (.For tg iter sts [] pos) (tF T cur W X (sFor fuel i gt F)) := by
  refine (ps_for cx.hp (cx.calm hc) hi hg hb hs).imp fun En σ H ⟨env, S, μ, R, er, p⟩ => ⟨env, S, μ, R, er, ?_⟩
  unfold sFor at p
  cases q : i env S with
  | exc c fs S1 => rw [q] at p; exact fun cls d H1 μ1 r1 ev t1 => p cls d σ H1 μ1 r1 (er.mono R t1) ev t1
  | stuck => rw [q] at p; exact p
  | ok w S1 =>
    rw [q] at p
    intro J H1 μ1 r1 hI t1
    refine ⟨fun i m σ2 H2 => ∃ env S2 μ2, Rep T X.K μ2 S2 H2 ∧ EnvR T X.K cur μ2 H2 σ2 env ∧ Tr μ1 H1 μ2 H2 ∧ PF T X.K cur W En μ H (forRun gt F w m i env S2), ⟨turns fuel w, env, S1, μ1, r1, er.mono R t1, .refl, p⟩, ?_⟩
    rintro i m σ2 H2 ⟨env, S2, μ2, r2, e2, t2, p⟩
    cases m with
    | zero => exact p.elim
    | succ m =>
      rw [forRun_succ] at p
      obtain ⟨q1, q2⟩ := hI μ2 S2 H2 r2 t2 i
      split at p
      · exact p.elim
      · rename_i hx
        exact .inl ⟨q2 hx, p _ _ _ r2 e2 (t1.trans t2)⟩
      · rename_i d hx
        obtain ⟨go, yl⟩ := q1 d hx
        refine .inr ⟨go, fun σ3 H3 => ∃ env S3 μ3, Rep T X.K μ3 S3 H3 ∧ EnvR T X.K cur μ3 H3 σ3 env ∧ Tr μ1 H1 μ3 H3 ∧ PF T X.K cur W En μ H (forRun gt F w m (i + 1) env S3), fun σ' H' h => ⟨m, Nat.lt_succ_self m, h⟩, fun x H' y => ?_⟩
        obtain ⟨rfl, dx⟩ := yl x H' y
        refine ⟨env, S2, μ2, d, r2, e2, dx, ?_⟩
        cases qg : gt d env S2 with
        | next e3 S3 =>
          rw [qg] at p
          intro σ3 H3 μ3 r3 er3 t3 _
          refine ⟨e3, S3, μ3, r3, er3, again_ok ((t1.trans t2).trans t3) p fun e4 S4 σ4 H4 μ4 r4 er4 t4 p4 => ⟨e4, S4, μ4, r4, er4, (t2.trans t3).trans t4, p4⟩⟩
        | _ => rw [qg] at p; exact p.elim
theorem sWhile_succ (t : DT) (b : DS) (n : Nat) (e : Env) (S : Store) : sWhile t b (n + 1) e S = (match t e S with
    | .ok true S1 => again (fun e2 S2 => sWhile t b n e2 S2) (b e S1)
    | .ok false S1 => .next e S1
    | .exc c fs S1 => .exc c fs e S1
    | .stuck => .stuck) := by
  show (match t e S with
    | .ok true S1 => (match b e S1 with
      | .next e2 S2 => sWhile t b n e2 S2
      | .cont e2 S2 => sWhile t b n e2 S2
      | .brk e2 S2 => .next e2 S2
      | o => o)
    | .ok false S1 => Fl.next e S1
    | .exc c fs S1 => .exc c fs e S1
    | .stuck => .stuck) = _
  cases t e S with
  | ok v S1 =>
    cases v with
    | true => dsimp only; cases b e S1 <;> rfl
    | false => rfl
  | exc c fs S1 => rfl
  | stuck => rfl
theorem p_while {t : DT} (cx : CtxS T s cur W X) (hc : PT X c (tB T cur W X t)) (hb : PSs X sts (tF T cur W X F)) (n : Nat) : PS X (.While c sts [] pos) (tF T cur W X (sWhile t F n)) := by
  refine (ps_while cx.hp hc hb).imp fun En σ H ⟨env, S, μ, R, er, p⟩ => ?_
  refine ⟨fun m σ2 H2 => ∃ env S2 μ2, Rep T X.K μ2 S2 H2 ∧ EnvR T X.K cur μ2 H2 σ2 env ∧ Tr μ H μ2 H2 ∧ PF T X.K cur W En μ H (sWhile t F m env S2), ⟨n, env, S, μ, R, er, .refl, p⟩, ?_⟩
  rintro m σ2 H2 ⟨env, S2, μ2, r2, e2, t2, p⟩
  refine ⟨env, S2, μ2, r2, e2, ?_⟩
  cases m with
  | zero => exact p.elim
  | succ m =>
    rw [sWhile_succ] at p
    cases q : t env S2 with
    | ok b S3 =>
      rw [q] at p
      intro b' H3 μ3 r3 eb t3
      have eb : b' = b := eb
      subst eb
      cases b' with
      | true =>
        rw [if_pos rfl]
        refine ⟨fun σ4 H4 => ∃ env S4 μ4, Rep T X.K μ4 S4 H4 ∧ EnvR T X.K cur μ4 H4 σ4 env ∧ Tr μ H μ4 H4 ∧ PF T X.K cur W En μ H (sWhile t F m env S4), fun σ' H' h => ⟨m, Nat.lt_succ_self m, h⟩, ?_⟩
        exact ⟨env, S3, μ3, r3, e2.mono r2 t3, again_ok (t2.trans t3) p fun e4 S4 σ4 H4 μ4 r4 er4 t4 p4 => ⟨e4, S4, μ4, r4, er4, (t2.trans t3).trans t4, p4⟩⟩
      | false =>
        rw [if_neg Bool.false_ne_true]
        exact p _ _ _ r3 (e2.mono r2 t3) (t2.trans t3)
    | exc c fs S3 => rw [q] at p; exact fun cls d H3 μ3 r3 ev t3 => p cls d σ2 H3 μ3 r3 (e2.mono r2 t3) ev (t2.trans t3)
    | stuck => rw [q] at p; exact p

/-! ### name op= .., o.x op= .. -/
theorem flow_g {En : Ends} {σ : L2.St} {μ0 μ : Mu} {H0 H : Hp} {S : Store} {env : Env} {k : XV → Store → Fl} (R : Rep T X.K μ S H) (er : EnvR T X.K cur μ H σ env) (t : Tr μ0 H0 μ H) (p : PF T X.K cur W En μ0 H0 (flX (f env S) env k)) :
    PG T X.K W (RX T X.K) σ μ H (fun v H1 => ∃ μ1 S1 x, EnvR T X.K cur μ1 H1 σ env ∧ Rep T X.K μ1 S1 H1 ∧ (RX T X.K).r μ1 H H1 v x ∧ Tr μ H μ1 H1 ∧ PF T X.K cur W En μ0 H0 (k x S1)) (f env S) := by
  cases q : f env S with
  | ok x S1 => rw [q] at p; exact fun v H1 μ1 r1 rx t1 => ⟨μ1, S1, x, er.mono R t1, r1, rx, t1, p⟩
  | exc c fs S1 => rw [q] at p; exact fun cls d H1 μ1 r1 ev t1 => p cls d σ H1 μ1 r1 (er.mono R t1) ev (t.trans t1)
  | stuck => rw [q] at p; exact p
theorem aug_int {K : PySem.W.Frag} {μ μ' : Mu} {H H' : Hp} {fo : Int → Int → Int} {a z : L3.D} {y : XV} {v w : V} (h1 : DV T K μ H v a) (h2 : RW T K μ' H' w y) (e : augI fo a y = some z) : ∃ i j, v = .int i ∧ w = .int j ∧ z = .int (fo i j) := by
  unfold augI at e
  split at e
  · cases e; cases h1; cases h2; exact ⟨_, _, rfl, rfl, rfl⟩
  · cases e
theorem ip_of {op : Operator} {fo : Int → Int → Int} (h : opAug op = some fo) : PIp X op (ipI fo) := by
  unfold opAug at h
  split at h
  · cases h; exact ip_add
  · cases h; exact ip_sub
  · cases h
def rOpI (fo : Int → Int → Int) : V → V → Hp → VK → Prop := fun x y H Q => ∃ i j, x = .int i ∧ y = .int j ∧ Q (.int (fo i j)) H
theorem in_of {op : Operator} {fo : Int → Int → Int} (h : opAug op = some fo) : InOp X op (rOpI fo) := by
  unfold opAug at h
  split at h
  · cases h; exact in_add
  · cases h; exact in_sub
  · cases h
theorem p_augV {op : Operator} {x : Str} {i : Nat} (cx : CtxE T s cur W X) (hi : slotL s x = some i) (he : PE X e (tX T cur W X f)) : PS X (.AugAssign (.Name x p1) op e pos) (tF T cur W X (sAugV op i f)) := by
  obtain ⟨h1, h2, h3⟩ := slotL_ok cx hi
  cases ho : opAug op with
  | none => exact p_stuck fun _ _ => by unfold sAugV; rw [ho]; rfl
  | some fo =>
    refine (ps_aug (by rw [cx.N]; exact cx.nd) h1 h2 he (ip_of ho) h3).imp fun En σ H ⟨env, S, μ, R, er, p⟩ => ?_
    unfold sAugV at p
    rw [ho] at p
    simp only at p
    split at p
    · exact p.elim
    · rename_i a hne ha
      rcases er.2 i a ha with ⟨v, v1, v2⟩ | ⟨fs, a0, dx, vfs, z, _⟩
      · refine ⟨v, v1, env, S, μ, R, er, (flow_g R er .refl p).imp fun w H1 ⟨μ1, S1, y, e1, r1, rx, t1, p1⟩ => ?_⟩
        unfold augV1 at p1
        split at p1
        · rename_i z hz
          obtain ⟨i1, j1, rfl, rfl, rfl⟩ := aug_int v2 (RX.w rx) hz
          exact ⟨i1, j1, rfl, rfl, p1 _ _ _ r1 (e1.set (.int _) i) t1⟩
        · exact p1.elim
      · exact absurd z (hne fs)
    · exact p.elim
theorem p_augF {op : Operator} {o : Expr} {x : Str} (cx : CtxE T s cur W X) (ho : PE X o (tX T cur W X g)) (he : PE X e (tX T cur W X f)) : PS X (.AugAssign (.Attribute o x p1) op e pos) (tF T cur W X (sAugF s.C op g x f)) := by
  cases hop : opAug op with
  | none => exact p_stuck fun _ _ => by unfold sAugF; rw [hop]; rfl
  | some fo =>
    refine (ps_fldaug ho he (in_of hop)).imp fun En σ H ⟨env, S, μ, R, er, p⟩ => ?_
    unfold sAugF at p
    rw [hop] at p
    refine ⟨env, S, μ, R, er, (flow_g R er .refl p).imp fun w H1 ⟨μ1, S1, y, e1, r1, rx, t1, p1⟩ => ?_⟩
    unfold augF2 at p1
    split at p1
    · rename_i d0
      split at p1
      · rename_i r c fs hf
        split at p1
        · rename_i a hc ha
          obtain ⟨q1, dx, vfs, e2, e3, hq, hp, fv⟩ := fld_at r1 rx hf
          obtain ⟨va, va1, va2⟩ := (FV.get fv).1 a ha
          obtain ⟨c1, c2⟩ := cx.fx.fld _ _ hc
          refine ⟨q1, _, dx, vfs, va, e3, hp, c1, c2, va1, env, S1, μ1, r1, e1, (flow_g r1 e1 t1 p1).imp fun w2 H2 ⟨μ2, S2, y2, er2, r2, rx2, t2, p2⟩ => ?_⟩
          unfold augF1 at p2
          split at p2
          · rename_i z r2' c2' fs2 hz hf2
            split at p2
            · rename_i hd
              obtain ⟨rfl, hd2⟩ := of_decide_eq_true hd
              obtain ⟨i1, j1, rfl, rfl, rfl⟩ := aug_int va2 (RX.w rx2) hz
              obtain ⟨q2, dx2, vfs2, e4, e5, hq2, hp2, fv2⟩ := fld_at r2 (t2.dv r1 rx) hf2
              have eq : q2 = q1 := by rw [e3] at e5; cases e5; rfl
              subst eq
              obtain ⟨R3, t3⟩ := ins_wr (x := x) (dx := dx2) (c := c2') r2 hq2 (.int (fo i1 j1)) fv2
              exact ⟨i1, j1, rfl, rfl, dx2, vfs2, hp2, by rw [FV.len fv2]; exact hd2, p2 _ _ _ R3 (er2.mono r2 t3) ((t1.trans t2).trans t3)⟩
            · exact p2.elim
          · exact p2.elim
        · exact p1.elim
      · exact p1.elim
    · exact p1.elim

/-! ### xs[i] op= .. -/
def augS1 (fo : Int → Int → Int) (d : L3.D) (k : Int) (a : L3.D) (e : Env) (y : XV) (S3 : Store) : Fl := match augI fo a y, lstOf d S3 with
  | some z, some (r, es) => (match ixN es.length k with
    | some n => .next e (S3.set r (.lst (es.set n z)))
    | none => .stuck)
  | _, _ => .stuck
def augS2 (fo : Int → Int → Int) (f : DX) (e : Env) (d : L3.D) (w : XV) (S2 : Store) : Fl := match w with
  | .d (.int k) => (match lstOf d S2 with
    | some (_, ds) => (match atI ds k with
      | some a => flX (f e S2) e fun y S3 => augS1 fo d k a e y S3
      | none => .stuck)
    | none => .stuck)
  | _ => .stuck
def augS3 (fo : Int → Int → Int) (i f : DX) (e : Env) (w : XV) (S1 : Store) : Fl := match w with
  | .d d => flX (i e S1) e fun k S2 => augS2 fo f e d k S2
  | _ => .stuck
def sAugS (op : Operator) (o i f : DX) : DS := match opAug op with
  | none => sStuck
  | some fo => fun e S => flX (o e S) e fun w S1 => augS3 fo i f e w S1
theorem get_list : PGet X (rIxL X.K) := by
  intro pins s σ H o i ov iv Q I ro ri h
  obtain ⟨p, xs, i, z, rfl, rfl, hq, he, q⟩ := h
  cases ro
  obtain ⟨t, rfl⟩ := ri
  obtain ⟨its, r, pl, hz⟩ := I.list hq
  obtain ⟨j, h1, h2, h3, h4, h5⟩ := atI_get he
  obtain ⟨w, ew, rw'⟩ := r.get h2
  have hl := r.length
  have hn := line63
  have fin : EP X pins σ Q w s := ⟨z, H, I, rw', q⟩
  by_cases h0 : 0 ≤ i
  · have hj : i.toNat = j := Option.some.inj ((seqIndex_of h0 h5).symm.trans h1)
    exact wpAny_getItem_list pl.isList h0 (by omega) (by rw [hj]; simpa using ew) fin
  · have hj : (i + (its.toArray.size : Int)).toNat = j := by
      have h6 := (seqIndex_neg (by omega) h4).symm.trans h1
      rw [List.size_toArray, ← hl]
      exact Option.some.inj h6
    exact wpAny_getItem_list_neg pl.isList (by omega) (by rw [List.size_toArray] <;> omega) (by omega) (by rw [hj]; simpa using ew) fin
theorem augStore_ok {i : Expr} (h : plainIx i = true) : ∀ ov iv new, augStore i ov iv new = (do holding [new, ov, iv] (setItem ov iv new); release [new, ov, iv] []; pure .next) := by
  intro ov iv new
  cases i <;> first | rfl | cases h
theorem p_augS {op : Operator} {o i : Expr} (cx : CtxE T s cur W X) (hi : plainIx i = true) (ho : PE X o (tX T cur W X g)) (hx : PE X i (tX T cur W X h)) (he : PE X e (tX T cur W X f)) : PS X (.AugAssign (.Subscript o i p1) op e pos) (tF T cur W X (sAugS op g h f)) := by
  cases hop : opAug op with
  | none => exact p_stuck fun _ _ => by unfold sAugS; rw [hop]; rfl
  | some fo =>
    refine (ps_augS ho hx get_list he (ip_of hop) set_list (augStore_ok hi)).imp fun En σ H ⟨env, S, μ, R, er, p⟩ => ?_
    unfold sAugS at p
    rw [hop] at p
    refine ⟨env, S, μ, R, er, (flow_g R er .refl p).imp fun w H1 ⟨μ1, S1, y, e1, r1, rx, t1, p1⟩ => ?_⟩
    unfold augS3 at p1
    split at p1
    · rename_i d0
      refine ⟨env, S1, μ1, r1, e1, (flow_g r1 e1 t1 p1).imp fun w2 H2 ⟨μ2, S2, y2, er2, r2, rx2, t2, p2⟩ => ?_⟩
      unfold augS2 at p2
      split at p2
      · rename_i k
        split at p2
        · rename_i r ds hl
          split at p2
          · rename_i a ha
            cases rx2
            obtain ⟨q1, vs, e2, e3, hr, hp, dw⟩ := lst_at r2 (t2.dv r1 rx) hl
            obtain ⟨j, h1, h2, h3, h4, h5⟩ := atI_get ha
            obtain ⟨va, g1, g2⟩ := dw.get h2
            have ga : atI vs k = some va := by
              have hlen := dw.length
              unfold atI at ha ⊢
              rw [hlen]
              cases hk : ixN ds.length k with
              | none => rw [hk] at ha; cases ha
              | some j' =>
                have hj : j' = j := Option.some.inj ((ixN_seq hk).1.symm.trans h1)
                subst hj
                exact g1
            refine ⟨q1, vs, k, va, e3, rfl, .inl (.inl hp), ga, env, S2, μ2, r2, er2, (flow_g r2 er2 (t1.trans t2) p2).imp fun w4 H4 ⟨μ4, S4, y4, er4, r4, rx4, t4, p4⟩ => ?_⟩
            unfold augS1 at p4
            split at p4
            · rename_i z r' es hz hl'
              split at p4
              · rename_i n hn
                obtain ⟨i1, j1, rfl, rfl, rfl⟩ := aug_int (t4.dv r2 g2) (RX.w rx4) hz
                obtain ⟨q4, vs4, e4, e5, hr4, hp4, dw4⟩ := lst_at r4 ((t2.trans t4).dv r1 rx) hl'
                obtain ⟨R5, t5⟩ := lst_wr r4 hr4 (dw4.set (.int (fo i1 j1)) n)
                exact ⟨i1, j1, rfl, rfl, q4, vs4, k, n, e5, rfl, hp4, by rw [dw4.length]; exact hn, p4 _ _ _ R5 (er4.mono r4 t5) (((t1.trans t2).trans t4).trans t5)⟩
              · exact p4.elim
            · exact p4.elim
          · exact p2.elim
        · exact p2.elim
      · exact p2.elim
    · exact p1.elim
end
end L3


/-! L3Q: the reader for statements, and that it is right. -/
namespace L3
open PySem PySem.Spec PyProof.Rows L2

/-! ### targets of statements -/
mutual
def tgtS : Expr → Sc → DG
  | .Name x _, s => (match slotL s x with
    | some i => gVar i
    | none => gStuck)
  | .Tuple es _ _, s => if s.calm && noStars es then gTup (tgtSs es s) else gStuck
  | .Attribute o x _, s => gFld s.C (den o s).x x
  | .Subscript o i _, s => if plainIx i then gSub (den o s).x (den i s).x else gStuck
  | _, _ => gStuck
def tgtSs : List Expr → Sc → List DG
  | [], _ => []
  | e :: r, s => tgtS e s :: tgtSs r s
end
/-! ### a, b = x, y -/
def isStarE : Expr → Bool
  | .Starred _ _ => true
  | _ => false
/-- the names that are stored side by side; none: not known here -/
def swN (sc : Scope) (ts vs : List Expr) : Option (Option (List Str)) :=
  if (!(ts.length == 2 || ts.length == 3) || vs.length != ts.length || false) then some none
  else if vs.any isStarE then some none
  else if ((ts.filterMap fun
      | .Name id pos => if sc.names.lookup id == some .local && pos.line == ((ts.head?.map (·.pos.line)).getD 0) then some id else none
      | _ => none).length != ts.length || (ts.filterMap fun
      | .Name id pos => if sc.names.lookup id == some .local && pos.line == ((ts.head?.map (·.pos.line)).getD 0) then some id else none
      | _ => none).eraseDups.length != (ts.filterMap fun
      | .Name id pos => if sc.names.lookup id == some .local && pos.line == ((ts.head?.map (·.pos.line)).getD 0) then some id else none
      | _ => none).length) then some none
  else if vs.all (foldedForSure 8) then some none
  else if vs.all (constantsAlone 8) then none
  else some (some (ts.filterMap fun
      | .Name id pos => if sc.names.lookup id == some .local && pos.line == ((ts.head?.map (·.pos.line)).getD 0) then some id else none
      | _ => none))
def isFn (sc : Scope) : Bool := match sc.kind with
  | .function => true
  | _ => false
theorem sw_ok {env : PySem.Env} {ts vs : List Expr} {k k2 : Nat} {p p2 : Pos} {r : Option (List Str)} (hk : isFn env.scope = true) (h : swN env.scope ts vs = some r) : swappedStores [.Tuple ts k p] (.Tuple vs k2 p2) env = pure r := by
  have hk' : env.scope.kind = .function := by
    unfold isFn at hk
    split at hk
    · assumption
    · cases hk
  have hb : env.blockKind = .function := by unfold PySem.Env.blockKind; rw [hk']; rfl
  unfold swN at h
  unfold swappedStores
  simp only [hb]
  have e1 : ((.function : ScopeKind) != .function) = false := by rfl
  rw [e1]
  split at h
  · rename_i q; cases h; rw [if_pos q]
  rename_i q
  rw [if_neg q]
  split at h
  · rename_i q2; cases h; exact if_pos q2
  rename_i q2
  refine (if_neg q2).trans ?_
  split at h
  · rename_i q3; cases h; exact if_pos q3
  rename_i q3
  refine (if_neg q3).trans ?_
  split at h
  · rename_i q4; cases h; exact if_pos q4
  rename_i q4
  refine (if_neg q4).trans ?_
  split at h
  · cases h
  rename_i q5
  refine (if_neg q5).trans ?_
  cases h
  rfl

def lcl (sc : Scope) (x : Str) : Bool := match sc.names.lookup x with
  | some .local => true
  | _ => false
theorem lcl_ok {sc : Scope} {x : Str} (h : lcl sc x = true) : sc.names.lookup x = some .local := by
  unfold lcl at h
  split at h
  · assumption
  · cases h
def denPar (ts vs : List Expr) (ns : List Str) (s : Sc) (ds : List Dn) : DS := match ts, vs, ns with
  | [.Name x _, .Name y _], [a, b], [x', y'] => (match slot s x, slot s y with
    | some i, some j => if x == x' && y == y' && decide (i ≠ j) && s.calm && noStars [a, b] && lcl s.sc x && lcl s.sc y then sPar (ds.map Dn.x) [i, j] else sStuck
    | _, _ => sStuck)
  | [.Name x _, .Name y _, .Name z _], [a, b, c], [x', y', z'] => (match slot s x, slot s y, slot s z with
    | some i, some j, some l => if x == x' && y == y' && z == z' && decide (i ≠ j ∧ i ≠ l ∧ j ≠ l) && s.calm && noStars [a, b, c] && lcl s.sc x && lcl s.sc y && lcl s.sc z then sPar (ds.map Dn.x) [i, j, l] else sStuck
    | _, _, _ => sStuck)
  | _, _, _ => sStuck
def isNameE : Expr → Bool
  | .Name _ _ => true
  | _ => false
def isTupE : Expr → Bool
  | .Tuple _ _ _ => true
  | _ => false
def isListE : Expr → Bool
  | .List _ _ => true
  | _ => false
def denTT (ts vs : List Expr) (s : Sc) (g : DS) (ds : List Dn) : DS := if isFn s.sc then (match swN s.sc ts vs with
  | some none => g
  | some (some ns) => denPar ts vs ns s ds
  | none => sStuck) else sStuck
def denAs (tgs : List Expr) (e : Expr) (s : Sc) : DS := match tgs, e with
  | [.Tuple ts k p], .Tuple vs k2 p2 => denTT ts vs s (sAsg (den (.Tuple vs k2 p2) s).x (tgtS (.Tuple ts k p) s)) (denL vs s)
  | [.Name x _], .ListComp elt gens scope p2 => if isFn s.sc && lcl s.sc x then (match slot s x with
    | some i => sAsg (den (.ListComp elt gens scope p2) s).x (gVar i)
    | none => sStuck) else sStuck
  | [tg], e => if noStar tg && (noComp e || !isNameE tg) && !(isTupE tg && isTupE e) && !isListE tg then sAsg (den e s).x (tgtS tg s) else sStuck
  | _, _ => sStuck
def denAug (tg : Expr) (op : Operator) (e : Expr) (s : Sc) : DS := match tg with
  | .Name x _ => (match slotL s x with
    | some i => sAugV op i (den e s).x
    | none => sStuck)
  | .Attribute o x _ => sAugF s.C op (den o s).x x (den e s).x
  | .Subscript o i _ => if plainIx i then sAugS op (den o s).x (den i s).x (den e s).x else sStuck
  | _ => sStuck
def denE (e : Expr) (s : Sc) : DS := match e with
  | .Constant (.str _) _ _ => sNext
  | e => if noComp e then sExpr (den e s).x else sStuck
def denR (e : Option Expr) (s : Sc) : DS := match e with
  | none => sRetN
  | some e => sRet (den e s).x
def noElse (b : List Stmt) (f : DS) : DS := match b with
  | [] => f
  | _ => sStuck
mutual
def denS : Stmt → Sc → DS
  | .Expr e _, s => denE e s
  | .Return e _, s => denR e s
  | .Pass _, _ => sNext
  | .Break _, _ => sBrk
  | .Continue _, _ => sCont
  | .If c a b _, s => sIf (den c s).t (denSs a s) (denSs b s)
  | .While c b o _, s => noElse o (sWhile (den c s).t (denSs b s) s.C.fuel)
  | .For tg it b o _, s => noElse o (if s.calm && noSet it then sFor s.C.fuel (den it s).i (tgtS tg s) (denSs b s) else sStuck)
  | .Assign tgs e _, s => denAs tgs e s
  | .AugAssign tg op e _, s => denAug tg op e s
  | _, _ => sStuck
def denSs : List Stmt → Sc → DS
  | [], _ => sNext
  | st :: r, s => sSeq (denS st s) (denSs r s)
end

/-! ### it is right -/
section
variable {T : Tab} {s : Sc} {cur : Option (Addr × Addr)} {W : WX} {X : Cx} {pos p1 p2 : Pos} {a b c e tg iter elt : Expr} {f g h : DX} {d da db dc de : Dn} {es : List Expr} {ds : List Dn} {st : Stmt} {sts : List Stmt} {F G : DS}
theorem p_no : PS X st (tF T cur W X sStuck) := p_stuck fun _ _ => rfl
theorem tgtSs_len : ∀ (es : List Expr) (s : Sc), (tgtSs es s).length = es.length
  | [], _ => rfl
  | e :: es, s => by show (tgtS e s :: tgtSs es s).length = _; rw [List.length_cons, List.length_cons, tgtSs_len es s]
mutual
theorem g_tgtS (cx : CtxE T s cur W X) : ∀ e : Expr, ∃ sl, L2.PG X e (tGt T cur X sl (tgtS e s))
  | .Name x p => by
    show ∃ sl, L2.PG X (.Name x p) (tGt T cur X sl (match slotL s x with | some i => gVar i | none => gStuck))
    cases q : slotL s x with
    | none => exact ⟨[], g_stuck⟩
    | some i => exact ⟨[i], g_var cx q⟩
  | .Tuple es k p => by
    show ∃ sl, L2.PG X (.Tuple es k p) (tGt T cur X sl (if s.calm && noStars es then L3.gTup (tgtSs es s) else gStuck))
    split
    · rename_i q
      obtain ⟨q1, q2⟩ := Bool.and_eq_true_iff.mp q
      obtain ⟨sl, hs⟩ := g_tgtSs cx es q2
      exact ⟨sl, g_tup (cx.calm q1) q2 (tgtSs_len es s) hs⟩
    · exact ⟨[], g_stuck⟩
  | .Attribute o x p => ⟨[], g_fld cx (snd o cx).x⟩
  | .Subscript o i p => by
    show ∃ sl, L2.PG X (.Subscript o i p) (tGt T cur X sl (if plainIx i then L3.gSub (den o s).x (den i s).x else gStuck))
    split
    · rename_i q; exact ⟨[], g_sub q (snd o cx).x (snd i cx).x⟩
    · exact ⟨[], g_stuck⟩
  | .BoolOp .. => ⟨[], g_stuck⟩ | .NamedExpr .. => ⟨[], g_stuck⟩ | .BinOp .. => ⟨[], g_stuck⟩ | .UnaryOp .. => ⟨[], g_stuck⟩ | .Lambda .. => ⟨[], g_stuck⟩ | .IfExp .. => ⟨[], g_stuck⟩ | .Dict .. => ⟨[], g_stuck⟩ | .Set .. => ⟨[], g_stuck⟩
  | .ListComp .. => ⟨[], g_stuck⟩ | .SetComp .. => ⟨[], g_stuck⟩ | .DictComp .. => ⟨[], g_stuck⟩ | .GeneratorExp .. => ⟨[], g_stuck⟩ | .Await .. => ⟨[], g_stuck⟩ | .Yield .. => ⟨[], g_stuck⟩ | .YieldFrom .. => ⟨[], g_stuck⟩ | .Compare .. => ⟨[], g_stuck⟩
  | .Call .. => ⟨[], g_stuck⟩ | .FormattedValue .. => ⟨[], g_stuck⟩ | .JoinedStr .. => ⟨[], g_stuck⟩ | .Constant .. => ⟨[], g_stuck⟩ | .Starred .. => ⟨[], g_stuck⟩ | .List .. => ⟨[], g_stuck⟩ | .Slice .. => ⟨[], g_stuck⟩
theorem g_tgtSs (cx : CtxE T s cur W X) : ∀ es : List Expr, noStars es = true → ∃ sl, L2.PGs X es (tGts T cur X sl (tgtSs es s))
  | [], _ => ⟨[], gs_nil⟩
  | e :: es, h => by
    obtain ⟨h1, h2⟩ := Bool.and_eq_true_iff.mp (show (noStar e && noStars es) = true from h)
    obtain ⟨sl, hs⟩ := g_tgtS cx e
    obtain ⟨sl', hs'⟩ := g_tgtSs cx es h2
    exact ⟨sl ++ sl', gs_cons h1 hs hs'⟩
end
theorem sw_any (h : (noComp e || !isNameE tg) = true) (l : Nat) (env : PySem.Env) : swapsWithSole [tg] e l env = pure false := by
  show swapsWith e (some tg) l env = pure false
  cases hn : noComp e with
  | true => exact sw_none hn _ _ _
  | false =>
    rw [hn, Bool.false_or] at h
    cases e <;> first | (exact Bool.noConfusion hn) | (cases tg <;> first | rfl | (exact Bool.noConfusion h))
theorem sw_plain (h : (isTupE tg && isTupE e) = false) (h2 : isListE tg = false) (env : PySem.Env) : swappedStores [tg] e env = pure none := by
  cases tg <;> first | rfl | (exact Bool.noConfusion h2) | (cases e <;> first | rfl | (exact Bool.noConfusion h))
theorem p_gen (cx : CtxE T s cur W X) (h1 : noStar tg = true) (hs : ∀ l, swapsWithSole [tg] e l X.env = pure false) (hw : swappedStores [tg] e X.env = pure none) : PS X (.Assign [tg] e pos) (tF T cur W X (sAsg (den e s).x (tgtS tg s))) := by
  obtain ⟨sl, hg⟩ := g_tgtS cx tg
  exact p_asg (snd e cx).x hg (hs _) hw (by rw [asg_cons h1]; rfl)
theorem p_par {ts vs : List Expr} {ns : List Str} {k k2 : Nat} {pt pt2 : Pos} (cx : CtxE T s cur W X) (hw : swappedStores [.Tuple ts k pt] (.Tuple vs k2 pt2) X.env = pure (some ns)) : PS X (.Assign [.Tuple ts k pt] (.Tuple vs k2 pt2) pos) (tF T cur W X (denPar ts vs ns s (denL vs s))) := by
  unfold denPar
  split
  · split
    · rename_i a b x' y' _ _ i j hi hj
      split
      · rename_i hh
        simp only [Bool.and_eq_true, beq_iff_eq, decide_eq_true_eq] at hh
        obtain ⟨⟨⟨⟨⟨⟨e1, e2⟩, h1⟩, h2⟩, h3⟩, h4⟩, h5⟩ := hh
        subst e1; subst e2
        exact p_par2 cx h2 hi hj h1 (by rw [cx.sc]; exact lcl_ok h4) (by rw [cx.sc]; exact lcl_ok h5) h3 (sndL [a, b] cx) hw
      · exact p_no
    · exact p_no
  · split
    · rename_i a b c x' y' z' _ _ _ i j l hi hj hl
      split
      · rename_i hh
        simp only [Bool.and_eq_true, beq_iff_eq, decide_eq_true_eq] at hh
        obtain ⟨⟨⟨⟨⟨⟨⟨⟨e1, e2⟩, e3⟩, h1⟩, h2⟩, h3⟩, h4⟩, h5⟩, h6⟩ := hh
        subst e1; subst e2; subst e3
        exact p_par3 cx h2 hi hj hl h1.1 h1.2.1 h1.2.2 (by rw [cx.sc]; exact lcl_ok h4) (by rw [cx.sc]; exact lcl_ok h5) (by rw [cx.sc]; exact lcl_ok h6) h3 (sndL [a, b, c] cx) hw
      · exact p_no
    · exact p_no
  · exact p_no
theorem isFn_kind {sc : Scope} (hk : isFn sc = true) : sc.kind = .function := by
  unfold isFn at hk
  split at hk
  · assumption
  · cases hk
theorem sw_lc {gens : List Comprehension} {scope : Scope} {x : Str} {l : Nat} {env : PySem.Env} (hk : isFn env.scope = true) (hx : env.scope.names.lookup x = some .local) :
    swapsWith (.ListComp elt gens scope p2) (some (.Name x p1)) l env = pure (p1.line == p2.line && !(scope.names.any fun (n, k) => n == x && (k == .local || k == .cell))) := by
  have hb : env.blockKind = .function := by unfold PySem.Env.blockKind; rw [isFn_kind hk]; rfl
  have ky : env.kindOf x = some .local := hx
  unfold swapsWith
  simp only [hb, ky, Expr.pos]
  rfl
theorem p_lcSet {gens : List Comprehension} {scope : Scope} {x : Str} {i : Nat} (cx : CtxE T s cur W X) (hk : isFn s.sc = true) (hx : lcl s.sc x = true) (hi : slot s x = some i) :
    PS X (.Assign [.Name x p1] (.ListComp elt gens scope p2) pos) (tF T cur W X (sAsg (den (.ListComp elt gens scope p2) s).x (gVar i))) := by
  have hx' : X.env.scope.names.lookup x = some .local := by rw [cx.sc]; exact lcl_ok hx
  have hsw := sw_lc (elt := elt) (gens := gens) (scope := scope) (p1 := p1) (p2 := p2) (l := pos.line) (env := X.env) (by rw [cx.sc]; exact hk) hx'
  have hL : slotL s x = some i := by unfold slotL; rw [lcl_ok hx]; exact hi
  cases hc : (p1.line == p2.line && !(scope.names.any fun (n, k) => n == x && (k == .local || k == .cell))) with
  | false => rw [hc] at hsw; exact p_set cx hL (snd _ cx).x hsw
  | true =>
    rw [hc] at hsw
    show PS X _ (tF T cur W X (sAsg (denLc gens scope s (den elt (inBlk s scope)) (denG gens s (inBlk s scope))).x (gVar i)))
    have hg := sndG (T := T) gens s (inBlk s scope)
    unfold denLc
    split
    · rename_i tg iter ifs g eg
      rw [eg] at hg
      split
      · rename_i hh
        simp only [Bool.and_eq_true] at hh
        obtain ⟨⟨⟨h1, h2⟩, h3⟩, h4⟩ := hh
        refine p_setLc (sl := tslots tg (inBlk s scope)) (own := ownOf s.N scope) cx h1 hi hx' hsw ((hg.1 cx).i tg) ?_ ?_ ?_ ?_ ?_ (noSet_ok h2 _)
        · rw [cx.N, cx.sc]; exact blkOk_by h3
        · intro i hi
          have := List.all_eq_true.mp h4 i hi
          simpa using this
        · intro st H C cl fp; exact g_tgt (blk_ctx cx st H C cl fp) tg
        · intro st H C cl fp; exact lc_tests (hg.2.1 (blk_ctx cx st H C cl fp)).2
        · intro st H C cl fp; exact e_sit (snd elt (blk_ctx cx st H C cl fp)).x
      · exact p_stuck fun _ _ => rfl
    · exact p_stuck fun _ _ => rfl
theorem p_as {tgs : List Expr} (cx : CtxE T s cur W X) : PS X (.Assign tgs e pos) (tF T cur W X (denAs tgs e s)) := by
  unfold denAs
  split
  · rename_i ts k p vs k2 p2
    unfold denTT
    split
    · rename_i hk
      rw [← cx.sc] at hk
      split
      · rename_i hs
        rw [← cx.sc] at hs
        exact p_gen cx rfl (fun l => sw_any rfl l _) (sw_ok hk hs)
      · rename_i ns hs
        rw [← cx.sc] at hs
        exact p_par cx (sw_ok hk hs)
      · exact p_no
    · exact p_no
  · split
    · rename_i hh
      obtain ⟨h1, h2⟩ := Bool.and_eq_true_iff.mp hh
      split
      · rename_i i hi; exact p_lcSet cx h1 h2 hi
      · exact p_no
    · exact p_no
  · split
    · rename_i hh
      simp only [Bool.and_eq_true, Bool.not_eq_true'] at hh
      obtain ⟨⟨⟨h1, h2⟩, h3⟩, h4⟩ := hh
      exact p_gen cx h1 (fun l => sw_any h2 l _) (sw_plain h3 h4 _)
    · exact p_no
  · exact p_no
theorem p_aug {op : Operator} (cx : CtxE T s cur W X) : PS X (.AugAssign tg op e pos) (tF T cur W X (denAug tg op e s)) := by
  unfold denAug
  split
  · split
    · rename_i i hi; exact p_augV cx hi (snd e cx).x
    · exact p_no
  · exact p_augF cx (snd _ cx).x (snd e cx).x
  · split
    · rename_i hi; exact p_augS cx hi (snd _ cx).x (snd _ cx).x (snd e cx).x
    · exact p_no
  · exact p_no
theorem p_e (cx : CtxE T s cur W X) : PS X (.Expr e pos) (tF T cur W X (denE e s)) := by
  unfold denE
  split
  · exact p_doc
  · split
    · rename_i h; exact p_expr h (snd e cx).x
    · exact p_no
theorem p_r {e : Option Expr} (cx : CtxE T s cur W X) : PS X (.Return e pos) (tF T cur W X (denR e s)) := by
  unfold denR
  split
  · exact p_retN
  · exact p_ret (snd _ cx).x
mutual
theorem sndS : ∀ (st : Stmt) {s : Sc} {cur : Option (Addr × Addr)} {W : WX} {X : Cx}, CtxS T s cur W X → PS X st (tF T cur W X (denS st s))
  | .Expr e p, _, _, _, _, cx => p_e cx.toCtxE
  | .Return e p, _, _, _, _, cx => p_r cx.toCtxE
  | .Pass p, _, _, _, _, cx => p_pass
  | .Break p, _, _, _, _, cx => p_brk
  | .Continue p, _, _, _, _, cx => p_cont
  | .If c a b p, _, _, _, _, cx => p_if (snd c cx.toCtxE).t (sndSs a cx) (sndSs b cx)
  | .While c b [] p, s, _, _, _, cx => p_while cx (snd c cx.toCtxE).t (sndSs b cx) s.C.fuel
  | .While c b (_ :: _) p, s, _, _, _, cx => p_no
  | .For tg it b [] p, s, cur, W, X, cx => by
    show PS X _ (tF T cur W X (if s.calm && noSet it then sFor s.C.fuel (den it s).i (tgtS tg s) (denSs b s) else sStuck))
    split
    · rename_i hh
      obtain ⟨h1, h2⟩ := Bool.and_eq_true_iff.mp hh
      obtain ⟨sl, hg⟩ := g_tgtS cx.toCtxE tg
      exact p_for cx h1 ((snd it cx.toCtxE).i tg) hg (sndSs b cx) (noSet_ok h2 _)
    · exact p_no
  | .For tg it b (_ :: _) p, s, _, _, _, cx => p_no
  | .Assign tgs e p, _, _, _, _, cx => p_as cx.toCtxE
  | .AugAssign tg op e p, _, _, _, _, cx => p_aug cx.toCtxE
  | .FunctionDef .., _, _, _, _, _ => p_no | .AsyncFunctionDef .., _, _, _, _, _ => p_no | .ClassDef .., _, _, _, _, _ => p_no | .Delete .., _, _, _, _, _ => p_no | .TypeAlias .., _, _, _, _, _ => p_no | .AnnAssign .., _, _, _, _, _ => p_no
  | .AsyncFor .., _, _, _, _, _ => p_no | .With .., _, _, _, _, _ => p_no | .AsyncWith .., _, _, _, _, _ => p_no | .Match .., _, _, _, _, _ => p_no | .Raise .., _, _, _, _, _ => p_no | .Try .., _, _, _, _, _ => p_no | .TryStar .., _, _, _, _, _ => p_no
  | .Assert .., _, _, _, _, _ => p_no | .Import .., _, _, _, _, _ => p_no | .ImportFrom .., _, _, _, _, _ => p_no | .Global .., _, _, _, _, _ => p_no | .Nonlocal .., _, _, _, _, _ => p_no
theorem sndSs : ∀ (sts : List Stmt) {s : Sc} {cur : Option (Addr × Addr)} {W : WX} {X : Cx}, CtxS T s cur W X → PSs X sts (tF T cur W X (denSs sts s))
  | [], _, _, _, _, _ => ps_nil
  | st :: r, _, _, _, _, cx => ps_seq (sndS st cx) (sndSs r cx)
end
end
end L3


/-! L3R: defs, by levels. -/
namespace L3
open PySem PySem.Spec PyProof.Rows L2

/-- a def: slots, its scope, its body -/
structure FI where
  N : List Str
  scope : Scope
  body : List Stmt
def endD : Fl → Out D
  | .next _ S => .ok .non S
  | .ret d S => .ok d S
  | .exc c fs _ S => .exc c fs S
  | _ => .stuck
def env0 (N : List Str) (ds : List D) : Env := ds.map some ++ List.replicate (N.length - ds.length) none
def scOf (C : Cfg) (fi : FI) : Sc := ⟨C, fi.scope, fi.N, true, fun _ => true⟩
def bodyD (C : Cfg) (fi : FI) (ds : List D) (S : Store) : Out D := endD (denSs fi.body (scOf C fi) (env0 fi.N ds) S)
abbrev CallF := Nat → List D → Store → Out D
def noCall : CallF := fun _ _ _ => .stuck
def withC (C : Cfg) (calls inis : CallF) : Cfg := { C with calls := calls, inis := inis }
def callsN (C : Cfg) (F : Nat → FI) : Nat → CallF
  | 0 => noCall
  | 1 => fun i => bodyD (withC C noCall noCall) (F i)
  | n + 2 => fun i => bodyD (withC C (callsN C F (n + 1)) (callsN C F n)) (F i)
/-- what calls mean at a level -/
def cfgN (C : Cfg) (F : Nat → FI) (n : Nat) : Cfg := withC C (callsN C F n) (callsN C F (n - 1))
theorem callsN_succ (C : Cfg) (F : Nat → FI) (n : Nat) : callsN C F (n + 1) = fun i => bodyD (cfgN C F n) (F i) := by
  cases n <;> rfl

/-- one def is as the table says -/
def FunOk (T : Tab) (C : Cfg) (F : Nat → FI) (K : PySem.W.Frag) (i : Nat) : Prop := ∃ name qual params dvs kws fd ps, FunD K name qual params (F i).body (F i).scope dvs kws (T.fa i) fd ∧ FnScope (F i).N ps (F i).scope ∧ ps.length = C.arity i ∧
  ∀ n, n ≤ C.arity i → C.arity i ≤ n + (C.dfl i).length → ∃ dvs ds, Vals dvs ds ∧ Binds K fd ps ds ∧ ∀ μ H, DVs T K μ H dvs ((C.dfl i).drop (n + (C.dfl i).length - C.arity i))
def Known (C : Cfg) (i : Nat) : Prop := Callable C i ∨ ∃ c, C.ini c = some i
/-- a promise about a def -/
def CallOk0 (T : Tab) (C : Cfg) (P : Program) (w : World) (K : PySem.W.Frag) (mg : Str → Option Value) (base : Heap) (k : Nat) (f : CallF) (i : Nat) : Prop := ∃ fd ps, FnOk P w K mg base (L2.CX P w) k (T.fa i) fd ps (spF T K (C.arity i) (f i)) ∧ ps.length = C.arity i ∧
  PySem.W.keepIn K (.ref (T.fa i)) = true ∧ ∀ n, n ≤ C.arity i → C.arity i ≤ n + (C.dfl i).length → ∃ dvs ds, Vals dvs ds ∧ Binds K fd ps ds ∧ ∀ μ H, DVs T K μ H dvs ((C.dfl i).drop (n + (C.dfl i).length - C.arity i))
/-- the program's facts, of a module's names and what is looked at -/
structure Facts0 (T : Tab) (C : Cfg) (K : PySem.W.Frag) (mg : Str → Option Value) : Prop where
  con : ∀ x d, C.gl.lookup x = some (.con d) → ∃ u v, mg x = some u ∧ RelV v u ∧ ∀ μ H, DV T K μ H v d
  fn : ∀ x i, C.gl.lookup x = some (.fn i) → mg x = some (.ref (T.fa i))
  cls : ∀ x c, C.gl.lookup x = some (.cls c) → mg x = some (.ref (T.ca c))
  bl : ∀ x, C.bl.contains x = true → mg x = none
  fld : ∀ c f, C.fld c f = true → Cls K (T.ca c) ∧ NoAttr K (T.ca c) f
  mth : ∀ c m i, C.mth c m = some i → Cls K (T.ca c) ∧ Meth K (T.ca c) m (T.fa i)
  ini : ∀ c i, C.ini c = some i → Mk K (T.ca c) (T.fa i)
section
variable {T : Tab} {C : Cfg} {F : Nat → FI} {P : Program} {w : World} {K : PySem.W.Frag} {mg : Str → Option Value} {base : Heap}
theorem fnOk_stuck {CX : CXT} {k n : Nat} {f : Addr} {fd : FuncData} {ps : List Str} : FnOk P w K mg base CX k f fd ps (spF T K n fun _ _ => .stuck) :=
  ⟨fun vs H Q E ⟨_, _, _, _, _, _, p⟩ => p.elim, fun A outer s H args us vs Q E _ _ _ _ ⟨_, _, _, _, _, _, p⟩ => p.elim⟩
theorem start_env {N : List Str} {μ : Mu} {H : Hp} {vs : List V} {ds : List D} (h : DVs T K μ H vs ds) : EnvR T K none μ H (L2.start N vs) (env0 N ds) := by
  have hl := DVs.length h
  unfold L2.start env0
  refine ⟨by simp [hl], fun i d e => .inl ?_⟩
  by_cases hi : i < ds.length
  · rw [List.getElem?_append_left (by simpa using hi), List.getElem?_map, Option.map_eq_some_iff] at e
    obtain ⟨d', e1, e2⟩ := e
    cases e2
    obtain ⟨v, g1, g2⟩ := h.get e1
    exact ⟨v, by rw [List.getElem?_append_left (by simpa [hl] using hi), List.getElem?_map, g1]; rfl, g2⟩
  · rw [List.getElem?_append_right (by simpa using hi), List.getElem?_replicate] at e
    split at e <;> cases e
theorem end_pf {E : XK} {Q : VK} {μ : Mu} {H : Hp} {o : Fl} (p : PG T K (fun cls d _ H => E cls d H) (RD T K) [] μ H Q (endD o)) : PF T K none (fun cls d _ H => E cls d H) { nx := fun _ H' => Q .non H', rt := Q } μ H o := by
  cases o with
  | next e S => exact fun σ' H' μ' r er t => p .non H' μ' r .non t
  | ret d S => exact fun v H' μ' r dv t => p v H' μ' r dv t
  | exc c fs e S => exact fun cls d σ' H' μ' r er ev t => p cls d H' μ' r ev t
  | brk e S => exact p.elim
  | cont e S => exact p.elim
  | stuck => exact p.elim
theorem body_fn {n i : Nat} {name qual : Str} {params : Arguments} {dvs : List V} {kws : List (Str × V)} {fd : FuncData} {ps : List Str} (fx : Facts0 T C K mg) (FD : FunD K name qual params (F i).body (F i).scope dvs kws (T.fa i) fd) (S : FnScope (F i).N ps (F i).scope) (hl : ps.length = C.arity i)
    (h1 : ∀ i, Known C i → CallOk0 T C P w K mg base (n + 1) (callsN C F n) i) (h2 : ∀ i, Known C i → CallOk0 T C P w K mg base n (callsN C F (n - 1)) i) :
    FnOk P w K mg base (L2.CX P w) (n + 2) (T.fa i) fd ps (spF T K (C.arity i) (callsN C F (n + 1) i)) := by
  rw [callsN_succ]
  refine FD.ok S (fun vs H Q E ⟨μ, st, ds, R, dv, hd, p⟩ => by rw [DVs.length dv, hd, hl]) fun cdv A outer s H vs Q E hr ⟨μ, st, ds, R, dv, hd, p⟩ => ?_
  refine ⟨tF T none (fun cls d _ H => E cls d H) (cxOf (L2.CX P w) P w K mg base (F i).N qual (F i).scope (T.fa i) cdv A outer s H E) (denSs (F i).body (scOf (cfgN C F n) (F i))), sndSs (F i).body ?_, env0 (F i).N ds, st, μ, R, start_env dv, end_pf p⟩
  exact {
    N := rfl
    nd := S.nd
    sc := rfl
    calm := fun _ => rfl
    units := hr.units
    fx := ⟨fx.con, fx.fn, fx.cls, fx.bl, fx.fld, fx.mth, fx.ini⟩
    st := fun _ _ => rfl
    tk := fun _ => takes_of rfl rfl rfl rfl
    call := fun _ => ⟨n + 1, hr, fun i hi => h1 i (.inl hi)⟩
    make := fun _ => ⟨n, hr, fun c i hi => h2 i (.inr ⟨c, hi⟩)⟩
    hp := passes_of rfl }
theorem body_ok {n i : Nat} (fx : Facts0 T C K mg) (hF : FunOk T C F K i) (h1 : ∀ i, Known C i → CallOk0 T C P w K mg base (n + 1) (callsN C F n) i) (h2 : ∀ i, Known C i → CallOk0 T C P w K mg base n (callsN C F (n - 1)) i) :
    CallOk0 T C P w K mg base (n + 2) (callsN C F (n + 1)) i := by
  obtain ⟨name, qual, params, dvs, kws, fd, ps, FD, S, hl, hb⟩ := hF
  exact ⟨fd, ps, body_fn fx FD S hl h1 h2, hl, FD.kp, hb⟩
theorem calls_ok (fx : Facts0 T C K mg) (hF : ∀ i, Known C i → FunOk T C F K i) : ∀ n : Nat, (∀ i, Known C i → CallOk0 T C P w K mg base (n + 1) (callsN C F n) i) ∧ (∀ i, Known C i → CallOk0 T C P w K mg base n (callsN C F (n - 1)) i)
  | 0 => by
    have z : ∀ k i, Known C i → CallOk0 T C P w K mg base k (callsN C F 0) i := fun k i hi => by
      obtain ⟨name, qual, params, dvs, kws, fd, ps, FD, S, hl, hb⟩ := hF i hi
      exact ⟨fd, ps, fnOk_stuck, hl, FD.kp, hb⟩
    exact ⟨z _, z _⟩
  | n + 1 => by
    obtain ⟨h1, h2⟩ := calls_ok fx hF n
    exact ⟨fun i hi => body_ok fx (hF i hi) h1 h2, h1⟩
end
end L3


/-! L3S: a program's table; what the head tells of it; the law's end. -/
namespace L3
open PySem PySem.Spec PyProof.Rows L2

structure DefE where
  d : He.DefD
  N : List Str
  dfl : List D := []
structure ClsD where
  name : Str
  flds : List Str
  mths : List (Str × Nat)
  ini : Option Nat
structure PT where
  defs : List DefE
  fns : List (Str × Nat)
  clss : List ClsD
  cons : List (Str × D)
  bl : List Str
namespace PT
def ar (t : PT) (i : Nat) : Nat := match t.defs[i]? with
  | some e => e.d.params.args.length
  | none => 0
def C (t : PT) (fuel : Nat) : Cfg where
  gl := t.fns.map (fun p => (p.1, GV.fn p.2)) ++ (t.clss.mapIdx (fun c k => (k.name, GV.cls c)) ++ t.cons.map (fun p => (p.1, GV.con p.2)))
  bl := t.bl
  mth c m := match t.clss[c]? with
    | some k => k.mths.lookup m
    | none => none
  ini c := match t.clss[c]? with
    | some k => k.ini
    | none => none
  fld c x := match t.clss[c]? with
    | some k => k.flds.contains x
    | none => false
  calls := noCall
  inis := noCall
  arity := t.ar
  dfl i := match t.defs[i]? with
    | some e => e.dfl
    | none => []
  fuel := fuel
def F (t : PT) (i : Nat) : FI := match t.defs[i]? with
  | some e => ⟨e.N, e.d.scope, e.d.body⟩
  | none => ⟨[], { kind := .function, names := [], isCoroutine := false, isGenerator := false }, []⟩
def T (t : PT) (K : PySem.W.Frag) : Tab where
  fa i := match t.defs[i]? with
    | some e => He.fAd K e.d.at_
    | none => 0
  ca c := match t.clss[c]? with
    | some k => He.ga K k.name
    | none => 0
end PT

/-! ### constants -/
mutual
def repB (K : PySem.W.Frag) : D → Value → Bool
  | .non, .none => true
  | .bl b, .bool c => b == c
  | .int i, .int j _ => decide (i = j)
  | .str x, .str y _ => decide (x = y)
  | .tup ds, .ref a => (match K.lookup a with
    | some ⟨.type c, _, .seq its _, _⟩ => decide (c = "tuple") && (decide (its.size ≤ sizeLine) && repBs K ds its.toList)
    | _ => false)
  | _, _ => false
def repBs (K : PySem.W.Frag) : List D → List Value → Bool
  | [], [] => true
  | d :: ds, v :: vs => repB K d v && repBs K ds vs
  | _, _ => false
end
mutual
theorem repB_ok {T : Tab} {K : PySem.W.Frag} : ∀ (d : D) (u : Value), repB K d u = true → ∃ v, RelV v u ∧ ∀ μ H, DV T K μ H v d
  | .non, u, h => by
    cases u <;> first | (exact ⟨.non, rfl, fun _ _ => .non⟩) | cases h
  | .bl b, u, h => by
    cases u <;> first | cases h | skip
    rename_i c
    have e : b = c := eq_of_beq (show (b == c) = true from h)
    subst e
    exact ⟨.bl b, rfl, fun _ _ => .bl b⟩
  | .int i, u, h => by
    cases u <;> first | cases h | skip
    rename_i j t
    have e : i = j := of_decide_eq_true h
    subst e
    exact ⟨.int i, ⟨t, rfl⟩, fun _ _ => .int i⟩
  | .str x, u, h => by
    cases u <;> first | cases h | skip
    rename_i y t
    have e : x = y := of_decide_eq_true h
    subst e
    exact ⟨.str x, ⟨t, rfl⟩, fun _ _ => .str x⟩
  | .tup ds, u, h => by
    cases u <;> first | cases h | skip
    rename_i a
    have h : (match K.lookup a with
      | some ⟨.type c, _, .seq its _, _⟩ => decide (c = "tuple") && (decide (its.size ≤ sizeLine) && repBs K ds its.toList)
      | _ => false) = true := h
    split at h
    · rename_i c od its n osl q
      obtain ⟨h1, h2⟩ := Bool.and_eq_true_iff.mp h
      obtain ⟨h3, h4⟩ := Bool.and_eq_true_iff.mp h2
      obtain ⟨vs, r, dv⟩ := repBs_ok (T := T) ds its.toList h4
      have h1 := of_decide_eq_true h1
      subst h1
      exact ⟨.ref a, rfl, fun μ H => .tup (.inr ⟨_, its, n, q, rfl, rfl, of_decide_eq_true h3, r⟩) (dv μ H)⟩
    · cases h
  | .ref _, u, h => by cases u <;> cases h
  | .fn _, u, h => by cases u <;> cases h
  | .exn _, u, h => by cases u <;> cases h
  | .kl _, u, h => by cases u <;> cases h
theorem repBs_ok {T : Tab} {K : PySem.W.Frag} : ∀ (ds : List D) (us : List Value), repBs K ds us = true → ∃ vs, Vals vs us ∧ ∀ μ H, DVs T K μ H vs ds
  | [], [], _ => ⟨[], .nil, fun _ _ => .nil⟩
  | [], _ :: _, h => by cases h
  | _ :: _, [], h => by cases h
  | d :: ds, u :: us, h => by
    obtain ⟨h1, h2⟩ := Bool.and_eq_true_iff.mp (show (repB K d u && repBs K ds us) = true from h)
    obtain ⟨v, r, dv⟩ := repB_ok (T := T) d u h1
    obtain ⟨vs, rs, dvs⟩ := repBs_ok (T := T) ds us h2
    exact ⟨v :: vs, .cons r rs, fun μ H => .cons (dv μ H) (dvs μ H)⟩
end

/-! ### what is looked at -/
namespace PT
def clsB (t : PT) (K : PySem.W.Frag) (k : ClsD) : Bool := (He.Fa.glo k.name).ok K && ((He.Fa.cls k.name).ok K && ((k.flds.all fun f => (He.Fa.noat k.name f).ok K) &&
  ((k.mths.all fun p => (He.Fa.meth k.name p.1).ok K && decide (He.ma K (He.ga K k.name) p.1 = (t.T K).fa p.2)) && (match k.ini with
    | some i => (He.Fa.mkr k.name).ok K && decide (He.ma K (He.ga K k.name) "__init__" = (t.T K).fa i)
    | none => true))))
def chk (t : PT) (K : PySem.W.Frag) : Bool := (t.fns.all fun p => (He.Fa.glo p.1).ok K && decide (He.ga K p.1 = (t.T K).fa p.2)) && ((t.clss.all fun k => t.clsB K k) &&
  ((t.cons.all fun p => match PySem.W.nsIn K mainGlobals p.1 with
    | some (some u) => repB K p.2 u
    | _ => false) && t.bl.all fun x => (He.Fa.free x).ok K))
end PT
theorem lk_app {α : Type} {l r : List (Str × α)} {x : Str} {a : α} (h : (l ++ r).lookup x = some a) : l.lookup x = some a ∨ r.lookup x = some a := by
  induction l with
  | nil => exact .inr h
  | cons p l ih =>
    rw [List.cons_append, List.lookup_cons] at h
    rw [List.lookup_cons]
    cases q : x == p.1 with
    | true => rw [q] at h; exact .inl h
    | false => rw [q] at h; exact ih h
theorem lk_map {α β : Type} {f : α → β} : ∀ {l : List (Str × α)} {x : Str} {b : β}, (l.map fun p => (p.1, f p.2)).lookup x = some b → ∃ a, (x, a) ∈ l ∧ f a = b
  | [], _, _, h => by cases h
  | p :: l, x, b, h => by
    rw [List.map_cons, List.lookup_cons] at h
    cases q : x == p.1 with
    | true =>
      rw [q] at h
      have e : x = p.1 := by simpa using q
      subst e
      exact ⟨p.2, List.mem_cons_self, Option.some.inj h⟩
    | false =>
      rw [q] at h
      obtain ⟨a, h1, h2⟩ := lk_map h
      exact ⟨a, List.mem_cons_of_mem _ h1, h2⟩
theorem lk_mem {α : Type} : ∀ {l : List (Str × α)} {x : Str} {b : α}, l.lookup x = some b → (x, b) ∈ l
  | [], _, _, h => by cases h
  | p :: l, x, b, h => by
    rw [List.lookup_cons] at h
    cases q : x == p.1 with
    | true =>
      rw [q] at h
      have e : x = p.1 := by simpa using q
      subst e
      cases h
      exact List.mem_cons_self
    | false =>
      rw [q] at h
      exact List.mem_cons_of_mem _ (lk_mem h)
theorem lk_idx {α : Type} {nm : α → Str} {f : Nat → GV} : ∀ {l : List α} {x : Str} {g : GV} {f : Nat → GV}, (l.mapIdx fun c k => (nm k, f c)).lookup x = some g → ∃ c k, l[c]? = some k ∧ nm k = x ∧ f c = g
  | [], _, _, _, h => by cases h
  | k :: l, x, g, f, h => by
    rw [List.mapIdx_cons, List.lookup_cons] at h
    cases q : x == nm k with
    | true =>
      rw [q] at h
      have e : x = nm k := by simpa using q
      exact ⟨0, k, rfl, e.symm, Option.some.inj h⟩
    | false =>
      rw [q] at h
      obtain ⟨c, k', h1, h2, h3⟩ := lk_idx (f := fun i => f (i + 1)) h
      exact ⟨c + 1, k', h1, h2, h3⟩
theorem facts0 {fuel : Nat} {t : PT} {K : PySem.W.Frag} {h : Heap} {mg : Str → Option Value} (X : K.In h) (G : h.Ns mainGlobals mg) (c : t.chk K = true) : Facts0 (t.T K) (t.C fuel) K mg := by
  unfold PT.chk at c
  obtain ⟨c1, c⟩ := Bool.and_eq_true_iff.mp c
  obtain ⟨c2, c⟩ := Bool.and_eq_true_iff.mp c
  obtain ⟨c3, c4⟩ := Bool.and_eq_true_iff.mp c
  have hc : ∀ k, k ∈ t.clss → t.clsB K k = true := fun k hk => List.all_eq_true.mp c2 k hk
  have ca : ∀ c k, t.clss[c]? = some k → (t.T K).ca c = He.ga K k.name := fun c k h => by
    show (match t.clss[c]? with
      | some k => He.ga K k.name
      | none => 0) = _
    rw [h]
  refine ⟨fun x d hl => ?_, fun x i hl => ?_, fun x c hl => ?_, fun x hb => ?_, fun c f hf => ?_, fun c m i hm => ?_, fun c i hi => ?_⟩
  · rcases lk_app hl with hl | hl
    · obtain ⟨a, _, e⟩ := lk_map (f := GV.fn) hl; cases e
    · rcases lk_app hl with hl | hl
      · obtain ⟨_, _, _, _, e⟩ := lk_idx (nm := ClsD.name) (f := GV.cls) hl; cases e
      · obtain ⟨a, ha, e⟩ := lk_map (f := GV.con) hl
        cases e
        have q := List.all_eq_true.mp c3 _ ha
        simp only at q
        split at q
        · rename_i u hu
          obtain ⟨v, r, dv⟩ := repB_ok (T := t.T K) d u q
          exact ⟨u, v, PySem.W.mg_of X G hu, r, dv⟩
        · cases q
  · rcases lk_app hl with hl | hl
    · obtain ⟨a, ha, e⟩ := lk_map (f := GV.fn) hl
      cases e
      obtain ⟨q1, q2⟩ := Bool.and_eq_true_iff.mp (List.all_eq_true.mp c1 _ ha)
      have q2 : He.ga K x = (t.T K).fa i := of_decide_eq_true q2
      rw [← q2]
      exact He.glo_ok X G q1
    · rcases lk_app hl with hl | hl
      · obtain ⟨_, _, _, _, e⟩ := lk_idx (nm := ClsD.name) (f := GV.cls) hl; cases e
      · obtain ⟨a, _, e⟩ := lk_map (f := GV.con) hl; cases e
  · rcases lk_app hl with hl | hl
    · obtain ⟨a, _, e⟩ := lk_map (f := GV.fn) hl; cases e
    · rcases lk_app hl with hl | hl
      · obtain ⟨c', k, h1, h2, e⟩ := lk_idx (nm := ClsD.name) (f := GV.cls) hl
        cases e
        rw [ca _ _ h1, ← h2]
        have q := hc k (List.mem_of_getElem? h1)
        unfold PT.clsB at q
        exact He.glo_ok X G (Bool.and_eq_true_iff.mp q).1
      · obtain ⟨a, _, e⟩ := lk_map (f := GV.con) hl; cases e
  · have hb : x ∈ t.bl := by simpa [PT.C] using hb
    exact He.free_ok X G (List.all_eq_true.mp c4 x hb)
  · have hf : (match t.clss[c]? with
      | some k => k.flds.contains f
      | none => false) = true := hf
    split at hf
    · rename_i k hk
      rw [ca _ _ hk]
      have q := hc k (List.mem_of_getElem? hk)
      unfold PT.clsB at q
      obtain ⟨_, q⟩ := Bool.and_eq_true_iff.mp q
      obtain ⟨q2, q⟩ := Bool.and_eq_true_iff.mp q
      obtain ⟨q3, _⟩ := Bool.and_eq_true_iff.mp q
      exact ⟨He.cls_ok q2, He.noat_ok (List.all_eq_true.mp q3 f (by simpa using hf))⟩
    · cases hf
  · have hm : (match t.clss[c]? with
      | some k => k.mths.lookup m
      | none => none) = some i := hm
    split at hm
    · rename_i k hk
      rw [ca _ _ hk]
      have q := hc k (List.mem_of_getElem? hk)
      unfold PT.clsB at q
      obtain ⟨_, q⟩ := Bool.and_eq_true_iff.mp q
      obtain ⟨q2, q⟩ := Bool.and_eq_true_iff.mp q
      obtain ⟨_, q⟩ := Bool.and_eq_true_iff.mp q
      obtain ⟨q4, _⟩ := Bool.and_eq_true_iff.mp q
      obtain ⟨q5, q6⟩ := Bool.and_eq_true_iff.mp (List.all_eq_true.mp q4 _ (lk_mem hm))
      have q6 : He.ma K (He.ga K k.name) m = (t.T K).fa i := of_decide_eq_true q6
      rw [← q6]
      exact ⟨He.cls_ok q2, He.meth_ok q5⟩
    · cases hm
  · have hi : (match t.clss[c]? with
      | some k => k.ini
      | none => none) = some i := hi
    split at hi
    · rename_i k hk
      rw [ca _ _ hk]
      have q := hc k (List.mem_of_getElem? hk)
      unfold PT.clsB at q
      obtain ⟨_, q⟩ := Bool.and_eq_true_iff.mp q
      obtain ⟨_, q⟩ := Bool.and_eq_true_iff.mp q
      obtain ⟨_, q⟩ := Bool.and_eq_true_iff.mp q
      obtain ⟨_, q5⟩ := Bool.and_eq_true_iff.mp q
      rw [hi] at q5
      obtain ⟨q6, q7⟩ := Bool.and_eq_true_iff.mp q5
      have q7 : He.ma K (He.ga K k.name) "__init__" = (t.T K).fa i := of_decide_eq_true q7
      rw [← q7]
      exact He.mkr_ok q6
    · cases hi
end L3


/-! L3T: defs of a table; the law's end. -/
namespace L3
open PySem PySem.Spec PyProof.Rows L2

def celB (sc : Scope) (x : Str) : Bool := match sc.names.lookup x with
  | some .local => true
  | some .cell => true
  | _ => false
def fnScB (N ps : List Str) (sc : Scope) : Bool := isFn sc && !sc.isCoroutine && !sc.isGenerator && decide N.Nodup && decide (N.take ps.length = ps) && (ps.all fun x => celB sc x) && (sc.names.all fun y => match y.2 with
  | .free => false
  | _ => true)
theorem fnScB_ok {N ps : List Str} {sc : Scope} (h : fnScB N ps sc = true) : FnScope N ps sc := by
  unfold fnScB at h
  simp only [Bool.and_eq_true, Bool.not_eq_true', decide_eq_true_eq] at h
  obtain ⟨⟨⟨⟨⟨⟨h1, h2⟩, h3⟩, h4⟩, h5⟩, h6⟩, h7⟩ := h
  refine ⟨isFn_kind h1, h2, h3, h4, h5, fun x hx => ?_, fun y hy e => ?_⟩
  · have q := List.all_eq_true.mp h6 x hx
    unfold celB at q
    split at q
    · exact .inl (by assumption)
    · exact .inr (by assumption)
    · cases q
  · have q := List.all_eq_true.mp h7 y hy
    rw [e] at q
    cases q
/-- what a def's row says of itself -/
def DefSt (e : DefE) : Prop := ∃ ps, FnScope e.N ps e.d.scope ∧ ps.length = e.d.params.args.length ∧ ∀ (T : Tab) (K : PySem.W.Frag) (f : Addr) (fd : FuncData), FunD K e.d.name e.d.qual e.d.params e.d.body e.d.scope (e.d.dvs K) (e.d.kws K) f fd →
  ∀ n, n ≤ e.d.params.args.length → e.d.params.args.length ≤ n + e.dfl.length → ∃ dvs ds, Vals dvs ds ∧ Binds K fd ps ds ∧ ∀ μ H, DVs T K μ H dvs (e.dfl.drop (n + e.dfl.length - e.d.params.args.length))
def AllSt : List DefE → Prop
  | [] => True
  | e :: r => DefSt e ∧ AllSt r
theorem AllSt.at : ∀ {l : List DefE} {i : Nat} {e : DefE}, AllSt l → l[i]? = some e → DefSt e
  | [], _, _, _, h => by cases h
  | _ :: _, 0, _, a, h => by cases h; exact a.1
  | _ :: l, i + 1, _, a, h => AllSt.at (l := l) a.2 h
/-- a def without defaults -/
theorem defSt0 {e : DefE} (ps : List Str) (h : fnScB e.N ps e.d.scope = true) (hl : ps.length = e.d.params.args.length) (h1 : e.d.dfl = []) (h2 : e.dfl = [])
    (hb : ∀ (kV doc pm : Value) (an : Option Addr) (cdv ct : Value) (us : List Value), us.length = ps.length → bindArgs (PySem.W.fnOf e.d.name e.d.qual e.d.params e.d.body e.d.scope .none kV doc pm an cdv ct) ⟨us, []⟩ = pure (ps.zip us)) : DefSt e := by
  refine ⟨ps, fnScB_ok h, hl, fun T K f fd FD n h3 h4 => ?_⟩
  have e1 : e.d.dvs K = [] := by unfold He.DefD.dvs; rw [h1]; rfl
  rw [e1] at FD
  refine ⟨[], [], .nil, FD.bindsN hb, fun μ H => ?_⟩
  rw [h2, List.drop_nil]
  exact .nil
section
variable {fuel : Nat} {t : PT} {K : PySem.W.Frag}
theorem known_lt {i : Nat} (h : Known (t.C fuel) i) (hk : (t.fns.all fun p => decide (p.2 < t.defs.length)) = true) (hm : (t.clss.all fun k => (k.mths.all fun p => decide (p.2 < t.defs.length)) && (match k.ini with
    | some i => decide (i < t.defs.length)
    | none => true)) = true) : i < t.defs.length := by
  rcases h with (⟨x, h⟩ | ⟨c, m, h⟩) | ⟨c, h⟩
  · rcases lk_app h with h | h
    · obtain ⟨a, ha, e⟩ := lk_map (f := GV.fn) h
      cases e
      exact of_decide_eq_true (List.all_eq_true.mp hk _ ha)
    · rcases lk_app h with h | h
      · obtain ⟨_, _, _, _, e⟩ := lk_idx (nm := ClsD.name) (f := GV.cls) h; cases e
      · obtain ⟨a, _, e⟩ := lk_map (f := GV.con) h; cases e
  · have h : (match t.clss[c]? with
      | some k => k.mths.lookup m
      | none => none) = some i := h
    split at h
    · rename_i k hk2
      obtain ⟨q1, _⟩ := Bool.and_eq_true_iff.mp (List.all_eq_true.mp hm k (List.mem_of_getElem? hk2))
      exact of_decide_eq_true (List.all_eq_true.mp q1 _ (lk_mem h))
    · cases h
  · have h : (match t.clss[c]? with
      | some k => k.ini
      | none => none) = some i := h
    split at h
    · rename_i k hk2
      obtain ⟨_, q2⟩ := Bool.and_eq_true_iff.mp (List.all_eq_true.mp hm k (List.mem_of_getElem? hk2))
      rw [h] at q2
      exact of_decide_eq_true q2
    · cases h
theorem at_def {i : Nat} {e : DefE} (h : t.defs[i]? = some e) : t.F i = ⟨e.N, e.d.scope, e.d.body⟩ ∧ t.ar i = e.d.params.args.length ∧ (t.C fuel).dfl i = e.dfl ∧ (t.T K).fa i = He.fAd K e.d.at_ := by
  refine ⟨?_, ?_, ?_, ?_⟩
  · unfold PT.F; rw [h]
  · unfold PT.ar; rw [h]
  · show (match t.defs[i]? with | some e => e.dfl | none => []) = _; rw [h]
  · show (match t.defs[i]? with | some e => He.fAd K e.d.at_ | none => 0) = _; rw [h]
theorem fun_ok {i : Nat} (c : He.SaysD [] (t.defs.map DefE.d) K) (st : AllSt t.defs) (hi : i < t.defs.length) : FunOk (t.T K) (t.C fuel) t.F K i := by
  have h : t.defs[i]? = some t.defs[i] := List.getElem?_eq_getElem hi
  obtain ⟨e1, e2, e3, e4⟩ := at_def (fuel := fuel) (K := K) h
  obtain ⟨ps, S, hl, hb⟩ := st.at h
  obtain ⟨fd, FD⟩ := c.def_ i (d := t.defs[i].d) (by rw [List.getElem?_map, h]; rfl)
  refine ⟨t.defs[i].d.name, t.defs[i].d.qual, t.defs[i].d.params, t.defs[i].d.dvs K, t.defs[i].d.kws K, fd, ps, ?_, ?_, ?_, ?_⟩
  · rw [e1, e4]; exact FD
  · rw [e1]; exact S
  · exact hl.trans e2.symm
  · intro n h1 h2
    have e2' : (t.C fuel).arity i = t.defs[i].d.params.args.length := e2
    rw [e2'] at h1 h2 ⊢
    rw [e3] at h2 ⊢
    exact hb _ _ _ _ FD n h1 h2
end
theorem sqF_of {K : PySem.W.Frag} {H : Hp} {a : Addr} {vs : List V} (hO : Only H) (h : SqL K H a vs) : SqF K H a vs := by
  rcases h with (h | ⟨o, h⟩) | h
  · rcases hO a with z | ⟨o, xs, z⟩
    · rw [z] at h; cases h
    · rw [z] at h; cases h
  · exact .inl ⟨o, h⟩
  · exact .inr h
/-- THE LAW'S END -/
theorem law_end {l : PySem.W.OpenLaw} {fuel m n il lv : Nat} {q : Program} {loose : List Str} {XP : (Str → Option Value) → Heap → Prop} {d : DefRec} {t : PT} {x : Str} {e : DefE} (hn : l.most = some n) (hn2 : n ≤ sizeLine) (hdf : d.params.defaults = []) (hr : Room (lv + 2) callerA)
    (st : AllSt t.defs) (hk : (t.fns.all fun p => decide (p.2 < t.defs.length)) = true) (hm : (t.clss.all fun k => (k.mths.all fun p => decide (p.2 < t.defs.length)) && (match k.ini with
      | some i => decide (i < t.defs.length)
      | none => true)) = true) (hil : (t.C fuel).gl.lookup d.name = some (.fn il)) (he : t.defs[il]? = some e) (h1 : e.d.dfl = []) (hsc : fnScB e.N [x] e.d.scope = true) (har : e.d.params.args.length = 1)
    (hb : ∀ (kV doc pm : Value) (an : Option Addr) (cdv ct : Value) (us : List Value), us.length = 1 → bindArgs (PySem.W.fnOf e.d.name e.d.qual e.d.params e.d.body e.d.scope .none kV doc pm an cdv ct) ⟨us, []⟩ = pure ([x].zip us))
    (hok : ∀ ns : List Int, ns.length ≤ n → ∃ S', callsN (t.C fuel) t.F (lv + 1) il [.kl (ns.map D.int)] [] = .ok (.bl true) S') :
    PySem.W.WalkO q loose XP (He.hookX m [] (t.defs.map DefE.d) [] [] t.chk).says l.row.toRowW d [] (fun f vs => PySem.call f vs) := by
  refine Att.attach_call hn hdf fun w s₀ s₁ mg mb fa o pm cd doc a vs ns G Y ho hd hcd hmg hobj hints hlen hg => ?_
  obtain ⟨K, KX, SX⟩ := Y
  have c := SX.t.d
  have fx : Facts0 (t.T K) (t.C fuel) K mg := facts0 KX G.T.g SX.more
  have efa : fa = (t.T K).fa il := by
    have z := fx.fn _ _ hil
    rw [hmg] at z
    cases z
    rfl
  subst efa
  obtain ⟨e1, e2, e3, e4⟩ := at_def (fuel := fuel) (K := K) he
  obtain ⟨fd, FD⟩ := c.def_ il (d := e.d) (by rw [List.getElem?_map, he]; rfl)
  have ed : e.d.dvs K = [] := by unfold He.DefD.dvs; rw [h1]; rfl
  have FD0 := FD
  rw [ed] at FD0
  refine law_call (CX := L2.CX l.prog w) (k := lv + 2) (x := x) (fd := fd) (sp := spF (t.T K) K ((t.C fuel).arity il) (callsN (t.C fuel) t.F (lv + 1) il)) KX G.T.g G.T.b G.T.builtins G.T.nolimit hg hobj hints (Nat.le_trans hlen hn2) hr ?_ ?_ ?_ ?_
  · intro base hK hB
    obtain ⟨q1, q2⟩ := calls_ok (P := l.prog) (w := w) (base := base) fx (fun i hi => fun_ok c st (known_lt hi hk hm)) lv
    refine body_fn fx (by rw [e1, e4]; exact FD) (by rw [e1]; exact fnScB_ok hsc) ?_ q1 q2
    exact (show 1 = t.ar il from by rw [e2, har])
  · intro s u
    exact FunD.bindsA (ps := [x]) FD0 hb s [u] rfl
  · intro H hO hS
    obtain ⟨S', hS'⟩ := hok ns hlen
    refine ⟨[], [], [.kl (ns.map D.int)], ⟨rfl, List.nodup_nil, fun i a o h => by cases h⟩, .cons (.kl (sqF_of hO hS) .of_ints) .nil, ?_, ?_⟩
    · show 1 = t.ar il
      rw [e2, har]
    · rw [hS']
      intro v H' μ' r dv t'
      cases dv
      rfl
  · rintro H e s' ⟨a, B, H', cls, d, _, _, _, _, _, _, _, w⟩
    exact w
end L3


/-! L4A: reckoning with the reader's meanings: rules for simp, loops by invariants, what a call keeps. -/
namespace L3
open PySem PySem.Spec PyProof.Rows L2

/-! ### rules for simp -/
@[simp] theorem Out.bind_ok {α β : Type} (a : α) (S : Store) (k : α → Store → Out β) : (Out.ok a S).bind k = k a S := rfl
@[simp] theorem Out.bind_exc {α β : Type} (c : Nat) (x : List (Str × D)) (S : Store) (k : α → Store → Out β) : (Out.exc c x S : Out α).bind k = .exc c x S := rfl
@[simp] theorem Out.bind_stuck {α β : Type} (k : α → Store → Out β) : (Out.stuck : Out α).bind k = .stuck := rfl
/-- a statement, then the rest -/
def Fl.seq (o : Fl) (k : Env → Store → Fl) : Fl := match o with
  | .next e S => k e S
  | o => o
@[simp] theorem Fl.seq_next (e : Env) (S : Store) (k : Env → Store → Fl) : (Fl.next e S).seq k = k e S := rfl
@[simp] theorem Fl.seq_ret (d : D) (S : Store) (k : Env → Store → Fl) : (Fl.ret d S).seq k = .ret d S := rfl
@[simp] theorem Fl.seq_brk (e : Env) (S : Store) (k : Env → Store → Fl) : (Fl.brk e S).seq k = .brk e S := rfl
@[simp] theorem Fl.seq_cont (e : Env) (S : Store) (k : Env → Store → Fl) : (Fl.cont e S).seq k = .cont e S := rfl
@[simp] theorem Fl.seq_exc (c : Nat) (x : List (Str × D)) (e : Env) (S : Store) (k : Env → Store → Fl) : (Fl.exc c x e S).seq k = .exc c x e S := rfl
@[simp] theorem Fl.seq_stuck (k : Env → Store → Fl) : Fl.stuck.seq k = .stuck := rfl
/-- a value, then a flow -/
def Out.fl {α : Type} (o : Out α) (e : Env) (k : α → Store → Fl) : Fl := match o with
  | .ok a S => k a S
  | .exc c fs S => .exc c fs e S
  | .stuck => .stuck
@[simp] theorem Out.fl_ok {α : Type} (a : α) (S : Store) (e : Env) (k : α → Store → Fl) : (Out.ok a S).fl e k = k a S := rfl
@[simp] theorem Out.fl_exc {α : Type} (c : Nat) (x : List (Str × D)) (S : Store) (e : Env) (k : α → Store → Fl) : (Out.exc c x S : Out α).fl e k = .exc c x e S := rfl
@[simp] theorem Out.fl_stuck {α : Type} (e : Env) (k : α → Store → Fl) : (Out.stuck : Out α).fl e k = .stuck := rfl
section
variable (f g h : DX) (F G : DS) (t u : DT) (e : Env) (S : Store)
@[simp] theorem sSeq_ap : sSeq F G e S = (F e S).seq fun e1 S1 => G e1 S1 := by unfold sSeq Fl.seq; cases F e S <;> rfl
@[simp] theorem sIf_ap : sIf t F G e S = (t e S).fl e fun b S1 => if b then F e S1 else G e S1 := by
  unfold sIf Out.fl
  cases t e S with
  | ok b S1 => cases b <;> rfl
  | exc c x S1 => rfl
  | stuck => rfl
@[simp] theorem sNext_ap : sNext e S = .next e S := rfl
@[simp] theorem sBrk_ap : sBrk e S = .brk e S := rfl
@[simp] theorem sCont_ap : sCont e S = .cont e S := rfl
@[simp] theorem sExpr_ap : sExpr f e S = (f e S).fl e fun _ S1 => .next e S1 := by unfold sExpr flX Out.fl; cases f e S <;> rfl
@[simp] theorem sRet_ap : sRet f e S = (mD f e S).fl e fun d S1 => .ret d S1 := by unfold sRet flD Out.fl; cases mD f e S <;> rfl
@[simp] theorem sRetN_ap : sRetN e S = .ret .non S := rfl
@[simp] theorem sAsg_ap (g : DG) : sAsg f g e S = (mD f e S).fl e fun d S1 => gRun g d e S1 := by unfold sAsg flD Out.fl; cases mD f e S <;> rfl
@[simp] theorem gVar_ap (i : Nat) (d : D) : gRun (gVar i) d e S = .next (e.set i (some d)) S := rfl
@[simp] theorem mC_ap (d : D) : mC d e S = .ok (.d d) S := rfl
@[simp] theorem mD_ap : mD f e S = (f e S).bind sit := rfl
@[simp] theorem sit_d (d : D) : sit (.d d) S = .ok d S := rfl
@[simp] theorem sit_fl (ds : List D) : sit (.fl ds) S = .ok (.ref S.length) (S ++ [.lst ds]) := rfl
@[simp] theorem mBin_ap (op : Operator) : mBin op f g e S = (f e S).bind fun x S1 => (g e S1).bind fun y S2 => okv (α := Unit) (opBin op x y S2) S2 := rfl
@[simp] theorem mCmp_ap (op : CmpOp) : mCmp op f g e S = (f e S).bind fun x S1 => (g e S1).bind fun y S2 => blv (cmpOp op x y S2) S2 := rfl
@[simp] theorem okv_some (x : XV) : okv (α := Unit) (some x) S = .ok x S := rfl
@[simp] theorem blv_some (b : Bool) : blv (some b) S = .ok (.d (.bl b)) S := rfl
@[simp] theorem mNeg_ap : mNeg f e S = (f e S).bind fun x S1 => match x with
  | .d (.int i) => .ok (.d (.int (-i))) S1
  | _ => .stuck := rfl
@[simp] theorem mIsN_ap (b : Bool) : mIsN b f e S = (f e S).bind fun x S1 => .ok (.d (.bl (xor b (nonX x)))) S1 := rfl
@[simp] theorem nonX_d (d : D) : nonX (.d d) = (match d with | .non => true | _ => false) := by cases d <;> rfl
@[simp] theorem nonX_fl (ds : List D) : nonX (.fl ds) = false := rfl
@[simp] theorem tOf_ap : tOf f e S = (f e S).bind toB := rfl
@[simp] theorem toB_bl (b : Bool) : toB (.d (.bl b)) S = .ok b S := rfl
@[simp] theorem tNot_ap : tNot t e S = (t e S).bind fun b S1 => .ok (!b) S1 := rfl
@[simp] theorem tAnd_ap : L3.tAnd t u e S = (t e S).bind fun b S1 => if b then u e S1 else .ok false S1 := rfl
@[simp] theorem tOr_ap : L3.tOr t u e S = (t e S).bind fun b S1 => if b then .ok true S1 else u e S1 := rfl
@[simp] theorem ofT_ap : ofT t e S = (t e S).bind fun b S1 => .ok (.d (.bl b)) S1 := rfl
/-- and, or of truths -/
def kAnd (g : Store → Out XV) (x : XV) (S1 : Store) : Out XV := match x with
  | .d (.bl true) => g S1
  | .d (.bl false) => .ok (.d (.bl false)) S1
  | _ => .stuck
def kOr (g : Store → Out XV) (x : XV) (S1 : Store) : Out XV := match x with
  | .d (.bl true) => .ok (.d (.bl true)) S1
  | .d (.bl false) => g S1
  | _ => .stuck
@[simp] theorem kAnd_bl (g : Store → Out XV) (b : Bool) : kAnd g (.d (.bl b)) S = if b then g S else .ok (.d (.bl false)) S := by cases b <;> rfl
@[simp] theorem kOr_bl (g : Store → Out XV) (b : Bool) : kOr g (.d (.bl b)) S = if b then .ok (.d (.bl true)) S else g S := by cases b <;> rfl
@[simp] theorem mAndV_ap : mAndV f g e S = (f e S).bind (kAnd fun S1 => g e S1) := by
  rfl
@[simp] theorem mOrV_ap : mOrV f g e S = (f e S).bind (kOr fun S1 => g e S1) := by
  rfl
@[simp] theorem mIf_ap : mIf t f g e S = (t e S).bind fun b S1 => if b then f e S1 else g e S1 := rfl
@[simp] theorem mArgs_nil : mArgs [] e S = .ok [] S := rfl
@[simp] theorem mArgs_cons (fs : List DX) : mArgs (f :: fs) e S = (mD f e S).bind fun d S1 => (mArgs fs e S1).bind fun ds S2 => .ok (d :: ds) S2 := rfl
@[simp] theorem mTup_ap (fs : List DX) : mTup fs e S = (mArgs fs e S).bind fun ds S1 => if lok ds.length then .ok (.d (.tup ds)) S1 else .stuck := rfl
@[simp] theorem mLst_ap (fs : List DX) : mLst fs e S = (mArgs fs e S).bind fun ds S1 => if lok ds.length then .ok (.fl ds) S1 else .stuck := rfl
@[simp] theorem mIx_ap : mIx f g e S = (f e S).bind fun x S1 => (g e S1).bind fun y S2 => okv (α := Unit) (opIx x y S2) S2 := rfl
@[simp] theorem oNone_ap : oNone e S = .ok none S := rfl
@[simp] theorem oSome_ap : oSome f e S = (f e S).bind fun x S1 => match x with
  | .d (.int i) => .ok (some i) S1
  | _ => .stuck := rfl
@[simp] theorem mSl_ap (lo hi : DO) : mSl f lo hi e S = (f e S).bind fun x S1 => (lo e S1).bind fun l S2 => (hi e S2).bind fun h S3 => okv (α := Unit) (opSl x l h S3) S3 := rfl
@[simp] theorem mB1_ap (b : B1) : mB1 b f e S = (f e S).bind fun x S1 => okv (α := Unit) (opB1 b x S1) S1 := rfl
@[simp] theorem mIsi_ap (t : Ty) : mIsi t f e S = (mD f e S).bind fun d S1 => blv (isT t d S1) S1 := rfl
@[simp] theorem xv_ok (d : D) : xv (.ok d S) = .ok (.d d) S := rfl
/-- a call by number, all arguments written or filled up -/
theorem mCall_ap (C : Cfg) (i : Nat) (fs : List DX) (h : arityOk C i fs.length = true) : mCall C i fs e S = (mArgs fs e S).bind fun ds S1 => xv (C.calls i (fillD C i ds) S1) := by
  unfold mCall; rw [if_pos h]
end
@[simp] theorem fin_next (e : Env) (S : Store) : endD (.next e S) = .ok .non S := rfl
@[simp] theorem fin_ret (d : D) (S : Store) : endD (.ret d S) = .ok d S := rfl
@[simp] theorem fin_exc (c : Nat) (x : List (Str × D)) (e : Env) (S : Store) : endD (.exc c x e S) = .exc c x S := rfl

/-! ### loops by invariants -/
/-- what a flow is to reach -/
inductive Fl.to : Fl → (Env → Store → Prop) → (D → Store → Prop) → Prop where
  | nx {e : Env} {S : Store} {N : Env → Store → Prop} {R : D → Store → Prop} : N e S → Fl.to (.next e S) N R
  | rt {d : D} {S : Store} {N : Env → Store → Prop} {R : D → Store → Prop} : R d S → Fl.to (.ret d S) N R
@[simp] theorem Fl.to_next (e : Env) (S : Store) (N : Env → Store → Prop) (R : D → Store → Prop) : (Fl.next e S).to N R = N e S := propext ⟨fun h => by cases h; assumption, .nx⟩
@[simp] theorem Fl.to_ret (d : D) (S : Store) (N : Env → Store → Prop) (R : D → Store → Prop) : (Fl.ret d S).to N R = R d S := propext ⟨fun h => by cases h; assumption, .rt⟩
theorem Fl.to_seq {o : Fl} {k : Env → Store → Fl} {N : Env → Store → Prop} {R : D → Store → Prop} (h : o.to (fun e S => (k e S).to N R) R) : (o.seq k).to N R := by
  cases h with
  | nx h => exact h
  | rt h => exact .rt h
/-- what it may be -/
theorem Fl.to.out {o : Fl} {N : Env → Store → Prop} {R : D → Store → Prop} (h : o.to N R) : (∃ e S, o = .next e S ∧ N e S) ∨ ∃ d S, o = .ret d S ∧ R d S := by
  cases h with
  | nx h => exact .inl ⟨_, _, rfl, h⟩
  | rt h => exact .inr ⟨_, _, rfl, h⟩
theorem Fl.to.mono {o : Fl} {N N' : Env → Store → Prop} {R R' : D → Store → Prop} (h : o.to N R) (h1 : ∀ e S, N e S → N' e S) (h2 : ∀ d S, R d S → R' d S) : o.to N' R' := by
  cases h with
  | nx h => exact .nx (h1 _ _ h)
  | rt h => exact .rt (h2 _ _ h)
/-- for over items that are known ahead -/
theorem for_items {g : DG} {b : DS} {ds : List D} {N : Env → Store → Prop} {R : D → Store → Prop} (I : Nat → Env → Store → Prop) (hN : ∀ e S, I ds.length e S → N e S)
    (hs : ∀ i d e S, ds[i]? = some d → I i e S → ∃ e1 S1, g d e S = .next e1 S1 ∧ (b e1 S1).to (I (i + 1)) R) : ∀ (n i : Nat) (e : Env) (S : Store), ds.length + 1 ≤ n + i → i ≤ ds.length → I i e S → (forRun g b (.items ds) n i e S).to N R
  | 0, i, e, S, h1, h2, _ => by omega
  | n + 1, i, e, S, h1, h2, h3 => by
    rw [forRun_succ]
    show Fl.to (match some ds[i]? with
      | none => .stuck
      | some none => .next e S
      | some (some d) => (match g d e S with
        | .next e1 S1 => again (fun e2 S2 => forRun g b (.items ds) n (i + 1) e2 S2) (b e1 S1)
        | _ => .stuck)) N R
    cases q : ds[i]? with
    | none =>
      have : ds.length ≤ i := List.getElem?_eq_none_iff.mp q
      have e1 : i = ds.length := by omega
      subst e1
      exact .nx (hN _ _ h3)
    | some d =>
      obtain ⟨e1, S1, q1, q2⟩ := hs i d e S q h3
      have hi := (List.getElem?_eq_some_iff.mp q).1
      simp only [q1]
      rcases q2.out with ⟨e2, S2, q3, q4⟩ | ⟨d2, S2, q3, q4⟩
      · rw [q3]; exact for_items I hN hs n (i + 1) e2 S2 (by omega) (by omega) q4
      · rw [q3]; exact .rt q4
theorem sFor_items {fuel : Nat} {i : DI} {g : DG} {b : DS} {ds : List D} {e : Env} {S S1 : Store} {N : Env → Store → Prop} {R : D → Store → Prop} (I : Nat → Env → Store → Prop) (hi : i e S = .ok (.items ds) S1) (h0 : I 0 e S1) (hN : ∀ e S, I ds.length e S → N e S)
    (hs : ∀ i d e S, ds[i]? = some d → I i e S → ∃ e1 S1, g d e S = .next e1 S1 ∧ (b e1 S1).to (I (i + 1)) R) : (sFor fuel i g b e S).to N R := by
  unfold sFor
  rw [hi]
  exact for_items I hN hs _ 0 e S1 (by show ds.length + 1 ≤ ds.length + 1 + 0; omega) (Nat.zero_le _) h0
/-- while, by a measure -/
theorem sWhile_to {t : DT} {b : DS} {N : Env → Store → Prop} {R : D → Store → Prop} (I : Nat → Env → Store → Prop)
    (hs : ∀ m e S, I m e S → (∃ S1, t e S = .ok false S1 ∧ N e S1) ∨ ∃ S1, t e S = .ok true S1 ∧ (b e S1).to (fun e2 S2 => ∃ m', m' < m ∧ I m' e2 S2) R) : ∀ (n m : Nat) (e : Env) (S : Store), m < n → I m e S → (sWhile t b n e S).to N R
  | 0, m, e, S, h, _ => by omega
  | n + 1, m, e, S, h, hI => by
    rw [sWhile_succ]
    rcases hs m e S hI with ⟨S1, q, hN⟩ | ⟨S1, q, hb⟩
    · rw [q]; exact .nx hN
    · simp only [q]
      rcases hb.out with ⟨e2, S2, q3, m', hm, h2⟩ | ⟨d2, S2, q3, q4⟩
      · rw [q3]; exact sWhile_to I hs n m' e2 S2 (by omega) h2
      · rw [q3]; exact .rt q4
/-- a list comprehension over items: one value each, the store as it goes -/
theorem lc_items {own : List Nat} {g : DG} {t : DT} {f : DX} {e0 : Env} {ds : List D} (I : Nat → Store → List D → Prop)
    (hs : ∀ i d S acc, ds[i]? = some d → I i S acc → acc.length < sizeLine ∧ ∃ e1 S1, g d (wipeE e0 own) S = .next e1 S1 ∧ ∃ b S2, t e1 S1 = .ok b S2 ∧ if b then ∃ v S3, mD f e1 S2 = .ok v S3 ∧ I (i + 1) S3 (acc ++ [v]) else I (i + 1) S2 acc) :
    ∀ (n i : Nat) (S : Store) (acc : List D), ds.length + 1 ≤ n + i → i ≤ ds.length → I i S acc → ∃ out S', lcRun own g t f e0 (.items ds) n i S acc = .ok (XV.fl out) S' ∧ I ds.length S' out
  | 0, i, S, acc, h1, h2, _ => by omega
  | n + 1, i, S, acc, h1, h2, h3 => by
    unfold lcRun
    show ∃ out S', (match some ds[i]? with
      | none => Out.stuck
      | some none => .ok (XV.fl acc) S
      | some (some d) => (match g d (wipeE e0 own) S with
        | .next e1 S1 => (match t e1 S1 with
          | .ok true S2 => (match mD f e1 S2 with
            | .ok v S3 => if decide (acc.length < sizeLine) then lcRun own g t f e0 (.items ds) n (i + 1) S3 (acc ++ [v]) else .stuck
            | _ => .stuck)
          | .ok false S2 => lcRun own g t f e0 (.items ds) n (i + 1) S2 acc
          | _ => .stuck)
        | _ => .stuck)) = .ok (XV.fl out) S' ∧ I ds.length S' out
    cases q : ds[i]? with
    | none =>
      have : ds.length ≤ i := List.getElem?_eq_none_iff.mp q
      have e1 : i = ds.length := by omega
      subst e1
      exact ⟨acc, S, rfl, h3⟩
    | some d =>
      obtain ⟨hl, e1, S1, q1, b, S2, q2, q3⟩ := hs i d S acc q h3
      have hi := (List.getElem?_eq_some_iff.mp q).1
      simp only [q1, q2]
      cases b with
      | false => exact lc_items I hs n (i + 1) S2 acc (by omega) (by omega) q3
      | true =>
        obtain ⟨v, S3, q4, q5⟩ := q3
        simp only [q4, hl, decide_true, if_true]
        exact lc_items I hs n (i + 1) S3 (acc ++ [v]) (by omega) (by omega) q5
theorem mLc_items {fuel : Nat} {own : List Nat} {i : DI} {g : DG} {t : DT} {f : DX} {e : Env} {S S1 : Store} {ds : List D} (I : Nat → Store → List D → Prop) (hi : i e S = .ok (.items ds) S1) (h0 : I 0 S1 [])
    (hs : ∀ i d S acc, ds[i]? = some d → I i S acc → acc.length < sizeLine ∧ ∃ e1 S1, g d (wipeE e own) S = .next e1 S1 ∧ ∃ b S2, t e1 S1 = .ok b S2 ∧ if b then ∃ v S3, mD f e1 S2 = .ok v S3 ∧ I (i + 1) S3 (acc ++ [v]) else I (i + 1) S2 acc) :
    ∃ out S', mLc fuel own i g t f e S = .ok (XV.fl out) S' ∧ I ds.length S' out := by
  unfold mLc
  rw [hi]
  exact lc_items I hs _ 0 S1 [] (by show ds.length + 1 ≤ ds.length + 1 + 0; omega) (Nat.zero_le _) h0

/-! ### what a call keeps -/
/-- the store may grow; what stands at the places ks may change -/
def Keep (ks : List Nat) (S S' : Store) : Prop := S.length ≤ S'.length ∧ ∀ q, q < S.length → q ∉ ks → S'[q]? = S[q]?
theorem Keep.refl {ks : List Nat} {S : Store} : Keep ks S S := ⟨Nat.le_refl _, fun _ _ _ => rfl⟩
theorem Keep.trans {ks : List Nat} {S S1 S2 : Store} (a : Keep ks S S1) (b : Keep ks S1 S2) : Keep ks S S2 :=
  ⟨Nat.le_trans a.1 b.1, fun q h n => (b.2 q (Nat.lt_of_lt_of_le h a.1) n).trans (a.2 q h n)⟩
theorem Keep.push {ks : List Nat} {S : Store} (o : O) : Keep ks S (S ++ [o]) := ⟨by simp, fun q h _ => List.getElem?_append_left h⟩
theorem Keep.app {ks : List Nat} {S T : Store} : Keep ks S (S ++ T) := ⟨by simp, fun q h _ => List.getElem?_append_left h⟩
theorem Keep.set {ks : List Nat} {S : Store} {r : Nat} {o : O} (h : r ∈ ks) : Keep ks S (S.set r o) := ⟨by simp, fun q _ n => List.getElem?_set_ne fun (e : r = q) => n (e ▸ h)⟩
theorem Keep.at {ks : List Nat} {S S' : Store} (k : Keep ks S S') {q : Nat} {o : O} (h : S[q]? = some o) (n : q ∉ ks) : S'[q]? = some o := (k.2 q (List.getElem?_eq_some_iff.mp h).1 n).trans h
theorem Keep.mono {ks ks' : List Nat} {S S' : Store} (k : Keep ks S S') (h : ∀ q ∈ ks, q ∈ ks') : Keep ks' S S' := ⟨k.1, fun q l n => k.2 q l fun m => n (h q m)⟩
end L3


/-! L4B: more rules for simp: by the shapes of data. -/
namespace L3
open PySem PySem.Spec PyProof.Rows L2

/-! ### names -/
def look (o : Option (Option D)) (S : Store) : Out XV := match o with
  | some (some (.exn _)) => .stuck
  | some (some d) => .ok (.d d) S
  | _ => .stuck
section
variable (S : Store)
@[simp] theorem mVar_ap (i : Nat) (e : Env) : mVar i e S = look e[i]? S := by
  unfold mVar look
  cases e[i]? with
  | none => rfl
  | some o => cases o with
    | none => rfl
    | some d => cases d <;> rfl
@[simp] theorem look_non : look (some (some .non)) S = .ok (.d .non) S := rfl
@[simp] theorem look_bl (b : Bool) : look (some (some (.bl b))) S = .ok (.d (.bl b)) S := rfl
@[simp] theorem look_int (i : Int) : look (some (some (.int i))) S = .ok (.d (.int i)) S := rfl
@[simp] theorem look_str (x : Str) : look (some (some (.str x))) S = .ok (.d (.str x)) S := rfl
@[simp] theorem look_tup (x : List D) : look (some (some (.tup x))) S = .ok (.d (.tup x)) S := rfl
@[simp] theorem look_ref (x : Nat) : look (some (some (.ref x))) S = .ok (.d (.ref x)) S := rfl
@[simp] theorem look_fn (x : Nat) : look (some (some (.fn x))) S = .ok (.d (.fn x)) S := rfl
@[simp] theorem look_kl (x : List D) : look (some (some (.kl x))) S = .ok (.d (.kl x)) S := rfl
/-- no exception -/
def noExn : D → Bool
  | .exn _ => false
  | _ => true
@[simp] theorem look_no {d : D} (h : noExn d = true) : look (some (some d)) S = .ok (.d d) S := by cases d <;> first | rfl | cases h

/-! ### operators -/
variable (i j : Int) (x y : Str) (a b : Bool) (ds es : List D) (r : Nat)
@[simp] theorem add_int : opBin .Add (.d (.int i)) (.d (.int j)) S = some (.d (.int (i + j))) := rfl
@[simp] theorem add_str : opBin .Add (.d (.str x)) (.d (.str y)) S = if lok (x.length + y.length) then some (.d (.str (x ++ y))) else none := rfl
@[simp] theorem add_tup : opBin .Add (.d (.tup ds)) (.d (.tup es)) S = if lok (ds.length + es.length) then some (.d (.tup (ds ++ es))) else none := rfl
@[simp] theorem sub_int : opBin .Sub (.d (.int i)) (.d (.int j)) S = some (.d (.int (i - j))) := rfl
@[simp] theorem mul_int : opBin .Mult (.d (.int i)) (.d (.int j)) S = if mulOk i j then some (.d (.int (i * j))) else none := rfl
@[simp] theorem div_int : opBin .FloorDiv (.d (.int i)) (.d (.int j)) S = if decide (0 < j ∧ j.natAbs.log2 < 9000) then some (.d (.int (i / j))) else none := rfl
@[simp] theorem mod_int : opBin .Mod (.d (.int i)) (.d (.int j)) S = if decide (0 < j) then some (.d (.int (i % j))) else none := rfl
@[simp] theorem pow_int : opBin .Pow (.d (.int i)) (.d (.int j)) S = if decide (0 ≤ j ∧ j ≤ 1000000 ∧ i.natAbs < 2 ^ 64) then some (.d (.int (i ^ j.toNat))) else none := rfl
@[simp] theorem eq_int : cmpOp .Eq (.d (.int i)) (.d (.int j)) S = some (decide (i = j)) := rfl
@[simp] theorem eq_str : cmpOp .Eq (.d (.str x)) (.d (.str y)) S = some (decide (x = y)) := rfl
@[simp] theorem eq_bl : cmpOp .Eq (.d (.bl a)) (.d (.bl b)) S = some (decide (a = b)) := rfl
@[simp] theorem ne_int : cmpOp .NotEq (.d (.int i)) (.d (.int j)) S = some (!decide (i = j)) := rfl
@[simp] theorem ne_str : cmpOp .NotEq (.d (.str x)) (.d (.str y)) S = some (!decide (x = y)) := rfl
@[simp] theorem ne_bl : cmpOp .NotEq (.d (.bl a)) (.d (.bl b)) S = some (!decide (a = b)) := rfl
@[simp] theorem lt_int : cmpOp .Lt (.d (.int i)) (.d (.int j)) S = some (decide (i < j)) := rfl
@[simp] theorem le_int : cmpOp .LtE (.d (.int i)) (.d (.int j)) S = some (decide (i ≤ j)) := rfl
@[simp] theorem gt_int : cmpOp .Gt (.d (.int i)) (.d (.int j)) S = some (decide (j < i)) := rfl
@[simp] theorem ge_int : cmpOp .GtE (.d (.int i)) (.d (.int j)) S = some (decide (j ≤ i)) := rfl
@[simp] theorem is_bl : cmpOp .Is (.d (.bl a)) (.d (.bl b)) S = some (decide (a = b)) := rfl
@[simp] theorem isnot_bl : cmpOp .IsNot (.d (.bl a)) (.d (.bl b)) S = some (!decide (a = b)) := rfl
/-- a list against the empty one -/
def emO (o : Option O) : Option Bool := match o with
  | some (.lst ds) => some ds.isEmpty
  | _ => none
@[simp] theorem emO_lst : emO (some (.lst ds)) = some ds.isEmpty := rfl
theorem toP_none (h : ∀ ds, S[r]? ≠ some (.lst ds)) : toP S 5000 (.ref r) = none := by
  show (match S[r]? with
    | some (.lst ds) => (toPs S 4999 ds).map PyData.list
    | _ => none) = none
  split
  · rename_i ds q; exact absurd q (h ds)
  · rfl
@[simp] theorem eq_em : cmpOp .Eq (.d (.ref r)) (.fl []) S = emO S[r]? := by
  show cmpEq (.d (.ref r)) (.fl []) S = _
  unfold cmpEq itsL its emO
  cases q : S[r]? with
  | none => simp [deepEq, toPX, toP_none S r (by rw [q]; simp), q]
  | some o => cases o with
    | lst ds => cases ds <;> simp [q]
    | _ => simp [deepEq, toPX, toP_none S r (by rw [q]; simp), q]
@[simp] theorem ne_em : cmpOp .NotEq (.d (.ref r)) (.fl []) S = (emO S[r]?).map (!·) := by rw [← eq_em]; rfl
@[simp] theorem eq_fl : cmpOp .Eq (.fl ds) (.fl []) S = some ds.isEmpty := by
  show cmpEq (.fl ds) (.fl []) S = _
  unfold cmpEq itsL its
  cases ds <;> simp
@[simp] theorem ne_fl : cmpOp .NotEq (.fl ds) (.fl []) S = some (!ds.isEmpty) := by
  show (cmpOp .Eq (.fl ds) (.fl []) S).map _ = _
  rw [eq_fl]; rfl
/-- x in a tuple of plain data -/
theorem in_tup {d : D} (hd : (match d with | .str w => w.length ≠ 1 ∨ True | _ => True)) (h1 : flatD d = true) (h2 : ds.all flatD = true) : cmpOp .In (.d d) (.d (.tup ds)) S = some (ds.any fun e => eqD e d) := by
  show cmpIn (.d d) (.d (.tup ds)) S = _
  unfold cmpIn
  cases d <;> simp [its, h1, h2]
theorem nin_tup {d : D} (h1 : flatD d = true) (h2 : ds.all flatD = true) : cmpOp .NotIn (.d d) (.d (.tup ds)) S = some (!ds.any fun e => eqD e d) := by
  show (cmpIn (.d d) (.d (.tup ds)) S).map _ = _
  rw [show cmpIn (.d d) (.d (.tup ds)) S = some (ds.any fun e => eqD e d) from in_tup S ds (by cases d <;> simp) h1 h2]
  rfl
/-- one sign in a text -/
@[simp] theorem in_sign (c : Nat) : cmpOp .In (.d (.str ⟨#[c]⟩)) (.d (.str y)) S = some (decide (c ∈ y.cps.toList)) := rfl
@[simp] theorem nin_sign (c : Nat) : cmpOp .NotIn (.d (.str ⟨#[c]⟩)) (.d (.str y)) S = some (!decide (c ∈ y.cps.toList)) := rfl

/-! ### subscripts, slices, len -/
theorem atI_nat {α : Type} (xs : List α) (n : Nat) : atI xs (n : Int) = xs[n]? := by
  unfold atI ixN
  rw [if_pos (by omega)]
  by_cases h : (n : Int) < xs.length
  · rw [if_pos h]; simp
  · rw [if_neg h, List.getElem?_eq_none (by omega)]; rfl
@[simp] theorem atI_lit {α : Type} (xs : List α) (n : Nat) : atI xs (no_index (@OfNat.ofNat Int n instOfNat)) = xs[n]? := atI_nat xs n
def ixO (o : Option O) (i : Int) : Option XV := match o with
  | some (.lst ds) => (atI ds i).map .d
  | _ => none
@[simp] theorem ixO_lst : ixO (some (.lst ds)) i = (atI ds i).map .d := rfl
@[simp] theorem ix_ref : opIx (.d (.ref r)) (.d (.int i)) S = ixO S[r]? i := by
  show (match its (.d (.ref r)) S with
    | some ds => (atI ds i).map XV.d
    | none => none) = _
  unfold its ixO
  simp only
  cases S[r]? with
  | none => rfl
  | some o => cases o <;> rfl
@[simp] theorem ix_tup : opIx (.d (.tup ds)) (.d (.int i)) S = (atI ds i).map .d := rfl
@[simp] theorem ix_fl : opIx (.fl ds) (.d (.int i)) S = (atI ds i).map .d := rfl
@[simp] theorem ix_kl : opIx (.d (.kl ds)) (.d (.int i)) S = (atI ds i).map .d := rfl
@[simp] theorem ix_str : opIx (.d (.str x)) (.d (.int i)) S = if lok x.length then (atI x.cps.toList i).map (fun c => .d (.str ⟨#[c]⟩)) else none := rfl
def slO (o : Option O) (lo hi : Option Int) : Option XV := match o with
  | some (.lst ds) => some (.fl (cutD ds lo hi))
  | _ => none
@[simp] theorem slO_lst (lo hi : Option Int) : slO (some (.lst ds)) lo hi = some (.fl (cutD ds lo hi)) := rfl
@[simp] theorem sl_ref (lo hi : Option Int) : opSl (.d (.ref r)) lo hi S = slO S[r]? lo hi := by
  show (its (.d (.ref r)) S).map _ = _
  unfold its slO
  simp only
  cases S[r]? with
  | none => rfl
  | some o => cases o <;> rfl
@[simp] theorem sl_tup (lo hi : Option Int) : opSl (.d (.tup ds)) lo hi S = some (.d (.tup (cutD ds lo hi))) := rfl
@[simp] theorem sl_kl (lo hi : Option Int) : opSl (.d (.kl ds)) lo hi S = some (.fl (cutD ds lo hi)) := rfl
@[simp] theorem sl_fl (lo hi : Option Int) : opSl (.fl ds) lo hi S = some (.fl (cutD ds lo hi)) := rfl
@[simp] theorem sl_str (lo hi : Option Int) : opSl (.d (.str x)) lo hi S = if lok x.length then some (.d (.str (cutS x lo hi))) else none := rfl
def lenO (o : Option O) : Option XV := match o with
  | some (.lst ds) => some (.d (.int ds.length))
  | _ => none
@[simp] theorem lenO_lst : lenO (some (.lst ds)) = some (.d (.int ds.length)) := rfl
@[simp] theorem len_ref : opB1 .len (.d (.ref r)) S = lenO S[r]? := by
  show (its (.d (.ref r)) S).map _ = _
  unfold its lenO
  simp only
  cases S[r]? with
  | none => rfl
  | some o => cases o <;> rfl
@[simp] theorem len_tup : opB1 .len (.d (.tup ds)) S = some (.d (.int ds.length)) := rfl
@[simp] theorem len_kl : opB1 .len (.d (.kl ds)) S = some (.d (.int ds.length)) := rfl
@[simp] theorem len_fl : opB1 .len (.fl ds) S = some (.d (.int ds.length)) := rfl
@[simp] theorem len_str : opB1 .len (.d (.str x)) S = if lok x.length then some (.d (.int x.length)) else none := rfl
@[simp] theorem int_int : opB1 .int (.d (.int i)) S = some (.d (.int i)) := rfl
@[simp] theorem int_bl : opB1 .int (.d (.bl b)) S = some (.d (.int (if b then 1 else 0))) := rfl
@[simp] theorem abs_int : opB1 .abs (.d (.int i)) S = some (.d (.int (if i < 0 then -i else i))) := rfl
@[simp] theorem tuple_fl : opB1 .tuple (.fl ds) S = some (.d (.tup ds)) := rfl
@[simp] theorem tuple_tup : opB1 .tuple (.d (.tup ds)) S = some (.d (.tup ds)) := rfl
@[simp] theorem list_fl : opB1 .list (.fl ds) S = some (.fl ds) := rfl
@[simp] theorem list_tup : opB1 .list (.d (.tup ds)) S = some (.fl ds) := rfl
@[simp] theorem all_fl : opB1 .all (.fl ds) S = (bools ds).map fun bs => .d (.bl (bs.all id)) := rfl
@[simp] theorem any_fl : opB1 .any (.fl ds) S = (bools ds).map fun bs => .d (.bl (bs.any id)) := rfl
@[simp] theorem bools_map (bs : List Bool) : bools (bs.map D.bl) = some bs := by
  induction bs with
  | nil => rfl
  | cons c bs ih => show (bools (bs.map D.bl)).map _ = _; rw [ih]; rfl
@[simp] theorem bools_map2 {α : Type} (l : List α) (f : α → Bool) : bools (l.map fun z => D.bl (f z)) = some (l.map f) := by
  have := bools_map (l.map f)
  rwa [List.map_map] at this

/-! ### kinds -/
@[simp] theorem ty_non : tyOfD .non S = some "NoneType" := rfl
@[simp] theorem ty_bl : tyOfD (.bl b) S = some "bool" := rfl
@[simp] theorem ty_int : tyOfD (.int i) S = some "int" := rfl
@[simp] theorem ty_str : tyOfD (.str x) S = some "str" := rfl
@[simp] theorem ty_tup : tyOfD (.tup ds) S = some "tuple" := rfl
def tyO (o : Option O) : Option String := match o with
  | some (.lst _) => some "list"
  | some (.dct _) => some "dict"
  | _ => none
@[simp] theorem tyO_lst : tyO (some (.lst ds)) = some "list" := rfl
@[simp] theorem ty_ref : tyOfD (.ref r) S = tyO S[r]? := by
  unfold tyOfD tyO
  try simp only
  all_goals (cases S[r]? with
  | none => rfl
  | some o => cases o <;> rfl)
@[simp] theorem isT_ap (t : Ty) (d : D) : isT t d S = (tyOfD d S).map fun n => isN n t := rfl

/-! ### targets -/
def gs2 (o : Out XV) (k : XV → Store → Fl) : Fl := match o with
  | .ok x S => k x S
  | _ => .stuck
@[simp] theorem gs2_ok (v : XV) (k : XV → Store → Fl) : gs2 (.ok v S) k = k v S := rfl
def subO (r : Nat) (i : Int) (d : D) (e : Env) (S : Store) (o : Option O) : Fl := match o with
  | some (.lst ds) => (match ixN ds.length i with
    | some k => .next e (S.set r (.lst (ds.set k d)))
    | none => .stuck)
  | _ => .stuck
@[simp] theorem subO_lit (n : Nat) (d : D) (e : Env) : subO r (no_index (@OfNat.ofNat Int n instOfNat)) d e S (some (.lst ds)) = if n < ds.length then .next e (S.set r (.lst (ds.set n d))) else .stuck := by
  unfold subO ixN
  simp only
  have e1 : (0 : Int) ≤ (@OfNat.ofNat Int n instOfNat) := Int.natCast_nonneg n
  rw [if_pos e1]
  by_cases h : n < ds.length
  · have e2 : (@OfNat.ofNat Int n instOfNat) < (ds.length : Int) := Int.ofNat_lt.mpr h
    rw [if_pos h, if_pos e2]; rfl
  · have e2 : ¬ (@OfNat.ofNat Int n instOfNat) < (ds.length : Int) := fun z => h (Int.ofNat_lt.mp z)
    rw [if_neg h, if_neg e2]
theorem subO_at {i : Int} (d : D) (e : Env) (h1 : 0 ≤ i) (h2 : i < ds.length) : subO r i d e S (some (.lst ds)) = .next e (S.set r (.lst (ds.set i.toNat d))) := by
  unfold subO ixN
  simp only [if_pos h1, if_pos h2]
def subK (o i : XV) (d : D) (e : Env) (S : Store) : Fl := match o, i with
  | .d (.ref r), .d (.int i) => subO r i d e S S[r]?
  | _, _ => .stuck
@[simp] theorem subK_ref (d : D) (e : Env) : subK (.d (.ref r)) (.d (.int i)) d e S = subO r i d e S S[r]? := rfl
@[simp] theorem gSub_ap (f g : DX) (d : D) (e : Env) : gRun (L3.gSub f g) d e S = gs2 (f e S) fun o S1 => gs2 (g e S1) fun i S2 => subK o i d e S2 := by
  unfold gRun L3.gSub gs2
  cases f e S with
  | ok v S1 =>
    cases v with
    | d o =>
      simp only
      cases g e S1 with
      | ok w S2 =>
        cases w with
        | d w =>
          cases w with
          | int i =>
            simp only
            cases o with
            | ref r =>
              unfold subK subO lstOf
              simp only
              cases S2[r]? with
              | none => rfl
              | some o =>
                cases o with
                | lst ds => simp only; cases ixN ds.length i <;> rfl
                | _ => rfl
            | _ => rfl
          | _ => cases o <;> rfl
        | fl _ => cases o <;> rfl
      | exc _ _ _ => rfl
      | stuck => rfl
    | fl ds =>
      simp only
      cases g e S1 <;> rfl
  | exc _ _ _ => rfl
  | stuck => rfl
@[simp] theorem gTup_ap (gs : List DG) (e : Env) : gRun (L3.gTup gs) (.tup ds) e S = if ds.length = gs.length then gRun (fun _ e S => gAll gs ds e S) .non e S else .stuck := by
  unfold gRun L3.gTup
  simp only
  by_cases h : ds.length = gs.length
  · rw [if_pos h, if_pos h]
  · rw [if_neg h, if_neg h]
@[simp] theorem gAll_nil (e : Env) : gRun (fun _ e S => gAll [] [] e S) .non e S = .next e S := rfl
@[simp] theorem gAll_cons (g : DG) (gs : List DG) (d : D) (e : Env) : gRun (fun _ e S => gAll (g :: gs) (d :: ds) e S) .non e S = (gRun g d e S).seq fun e1 S1 => gRun (fun _ e S => gAll gs ds e S) .non e1 S1 := by
  unfold gRun
  simp only [gAll]
  cases g d e S <;> rfl
def insO (C : Cfg) (x : Str) (r : Nat) (d : D) (e : Env) (S : Store) (o : Option O) : Fl := match o with
  | some (.ins c fs) => if C.fld c x && decide (fs.length < 1000) then .next e (S.set r (.ins c (putFD x d fs))) else .stuck
  | _ => .stuck
@[simp] theorem insO_ins (C : Cfg) (z : Str) (d : D) (e : Env) (c : Nat) (fs : List (Str × D)) : insO C z r d e S (some (.ins c fs)) = if C.fld c z && decide (fs.length < 1000) then .next e (S.set r (.ins c (putFD z d fs))) else .stuck := rfl
def insK (C : Cfg) (x : Str) (o : XV) (d : D) (e : Env) (S : Store) : Fl := match o with
  | .d (.ref r) => insO C x r d e S S[r]?
  | _ => .stuck
@[simp] theorem insK_ref (C : Cfg) (z : Str) (d : D) (e : Env) : insK C z (.d (.ref r)) d e S = insO C z r d e S S[r]? := rfl
@[simp] theorem gFld_ap (C : Cfg) (f : DX) (z : Str) (d : D) (e : Env) : gRun (gFld C f z) d e S = gs2 (f e S) fun o S1 => insK C z o d e S1 := by
  unfold gRun gFld gs2
  cases f e S with
  | ok v S1 =>
    cases v with
    | d o =>
      cases o with
      | ref r =>
        unfold insK insO fldOf
        simp only
        cases S1[r]? with
        | none => rfl
        | some o =>
          cases o with
          | ins c fs => simp only; cases (C.fld c z && decide (fs.length < 1000)) <;> rfl
          | _ => rfl
      | _ => rfl
    | fl ds => rfl
  | exc _ _ _ => rfl
  | stuck => rfl

/-! ### attributes -/
def fldO (C : Cfg) (x : Str) (S : Store) (o : Option O) : Out XV := match o with
  | some (.ins c fs) => (match C.fld c x, fs.lookup x with
    | true, some w => .ok (.d w) S
    | _, _ => .stuck)
  | _ => .stuck
@[simp] theorem fldO_ins {C : Cfg} {z : Str} {c : Nat} {fs : List (Str × D)} (h : C.fld c z = true) : fldO C z S (some (.ins c fs)) = (match fs.lookup z with | some w => .ok (.d w) S | none => .stuck) := by
  unfold fldO
  simp only [h]
  cases fs.lookup z <;> rfl
def fldK (C : Cfg) (x : Str) (o : XV) (S : Store) : Out XV := match o with
  | .d (.ref r) => fldO C x S S[r]?
  | _ => .stuck
@[simp] theorem fldK_ref (C : Cfg) (z : Str) : fldK C z (.d (.ref r)) S = fldO C z S S[r]? := rfl
@[simp] theorem mFld_ap (C : Cfg) (f : DX) (z : Str) (e : Env) : mFld C f z e S = (f e S).bind (fldK C z) := by
  unfold mFld
  congr 1; funext v S1
  cases v with
  | d o =>
    cases o with
    | ref r =>
      unfold fldK fldO fldOf
      simp only
      cases S1[r]? with
      | none => rfl
      | some o =>
        cases o with
        | ins c fs => simp only <;> (cases C.fld c z <;> cases fs.lookup z <;> rfl)
        | _ => rfl
    | _ => rfl
  | fl ds => rfl

/-! ### augmented assignments -/
@[simp] theorem augV_ap {op : Operator} {fo : Int → Int → Int} (ho : opAug op = some fo) (k : Nat) (f : DX) (e : Env) : sAugV op k f e S = (look e[k]? S).fl e fun a _ => match a with
    | .d a => (f e S).fl e fun y S1 => augV1 fo k a e y S1
    | _ => .stuck := by
  unfold sAugV
  rw [ho]
  simp only
  cases e[k]? with
  | none => rfl
  | some o =>
    cases o with
    | none => rfl
    | some d => cases d <;> first | rfl | (simp only [look, Out.fl_ok]; cases f e S <;> rfl)
@[simp] theorem augV1_int (fo : Int → Int → Int) (k : Nat) (e : Env) : augV1 fo k (.int i) e (.d (.int j)) S = .next (e.set k (some (.int (fo i j)))) S := rfl
@[simp] theorem opAug_add : opAug .Add = some fun x y => x + y := rfl
@[simp] theorem opAug_sub : opAug .Sub = some fun x y => x - y := rfl
end
end L3


/-! L4C: more rules for simp: methods, augmented assignments, new instances. -/
namespace L3
open PySem PySem.Spec PyProof.Rows L2

/-! ### methods -/
def methD (C : Cfg) (m : Str) (fs : List DX) (e : Env) (d : D) (S1 : Store) : Out XV := match fldOf d S1 with
  | some (_, c, gs) => (match gs.lookup m, C.mth c m with
    | none, some i => if arityOk C i (fs.length + 1) then (mArgs fs e S1).bind fun ds S2 => xv (C.calls i (fillD C i (d :: ds)) S2) else .stuck
    | _, _ => .stuck)
  | none => (match m1name m fs.length with
    | some k => if recOk k d S1 then mArg1 k d fs e S1 else .stuck
    | none => .stuck)
def methR (C : Cfg) (m : Str) (fs : List DX) (e : Env) (o : Out D) : Out XV := match o with
  | .ok d S1 => methD C m fs e d S1
  | _ => .stuck
section
variable (C : Cfg) (m : Str) (f g h : DX) (fs : List DX) (e : Env) (S : Store) (r : Nat) (d : D) (ds es : List D)
@[simp] theorem mMeth_ap : mMeth C m f fs e S = methR C m fs e ((f e S).bind sit) := by
  unfold mMeth methR
  rw [mD_ap]
  cases (f e S).bind sit <;> rfl
@[simp] theorem methR_ok : methR C m fs e (.ok d S) = methD C m fs e d S := rfl
@[simp] theorem m1_append : m1name "append" 1 = some .append := by kernel_rfl
@[simp] theorem m1_extend : m1name "extend" 1 = some .extend := by kernel_rfl
@[simp] theorem m1_pop : m1name "pop" 0 = some .pop := by kernel_rfl
@[simp] theorem m1_popAt : m1name "pop" 1 = some .popAt := by kernel_rfl
@[simp] theorem m1_insert : m1name "insert" 2 = some .insert := by kernel_rfl
@[simp] theorem m1_isalnum : m1name "isalnum" 0 = some .isalnum := by kernel_rfl
@[simp] theorem m1_isalpha : m1name "isalpha" 0 = some .isalpha := by kernel_rfl
@[simp] theorem m1_islower : m1name "islower" 0 = some .islower := by kernel_rfl
@[simp] theorem m1_isupper : m1name "isupper" 0 = some .isupper := by kernel_rfl
@[simp] theorem m1_isdigit : m1name "isdigit" 0 = some .isdigit := by kernel_rfl
@[simp] theorem m1_join : m1name "join" 1 = some .join := by kernel_rfl
@[simp] theorem mArg_0 (k : M1) : mArg1 k d [] e S = opL0 k d S := rfl
@[simp] theorem mArg_1 (k : M1) : mArg1 k d [g] e S = (g e S).bind fun y S2 => opL1 k d y S2 := rfl
@[simp] theorem mArg_2 (k : M1) : mArg1 k d [g, h] e S = (mD g e S).bind fun y S2 => (mD h e S2).bind fun z S3 => opL2 k d y z S3 := rfl
/-- a method of a list, of a text -/
def lstO (k : M1) (fs : List DX) (e : Env) (r : Nat) (S : Store) (o : Option O) : Out XV := match o with
  | some (.lst _) => mArg1 k (.ref r) fs e S
  | _ => .stuck
@[simp] theorem lstO_lst (k : M1) : lstO k fs e r S (some (.lst ds)) = mArg1 k (.ref r) fs e S := rfl
theorem meth_lst {k : M1} (hk : m1name m fs.length = some k) (hl : k = .append ∨ k = .extend ∨ k = .pop ∨ k = .popAt ∨ k = .insert) {ds : List D} (hs : S[r]? = some (.lst ds)) : methD C m fs e (.ref r) S = mArg1 k (.ref r) fs e S := by
  unfold methD fldOf
  simp only [hs, hk]
  rcases hl with rfl | rfl | rfl | rfl | rfl <;> simp [recOk, lstOf, hs]
theorem meth_str {k : M1} (x : Str) (hk : m1name m fs.length = some k) (hl : k = .isalnum ∨ k = .isalpha ∨ k = .islower ∨ k = .isupper ∨ k = .isdigit ∨ k = .join) : methD C m fs e (.str x) S = mArg1 k (.str x) fs e S := by
  unfold methD fldOf
  simp only [hk]
  rcases hl with rfl | rfl | rfl | rfl | rfl | rfl <;> simp [recOk, isStrD]
/-- a method of an instance -/
theorem meth_ins {c i : Nat} {gs : List (Str × D)} (hs : S[r]? = some (.ins c gs)) (hg : gs.lookup m = none) (hm : C.mth c m = some i) (ha : arityOk C i (fs.length + 1) = true) :
    methD C m fs e (.ref r) S = (mArgs fs e S).bind fun ds S2 => xv (C.calls i (fillD C i (.ref r :: ds)) S2) := by
  unfold methD fldOf
  simp only [hs, hg, hm, ha, if_true]
@[simp] theorem str_alnum (x : Str) : opL0 .isalnum (.str x) S = .ok (.d (.bl (Txt.isalnum x))) S := rfl
@[simp] theorem str_alpha (x : Str) : opL0 .isalpha (.str x) S = .ok (.d (.bl (Txt.isalpha x))) S := rfl
@[simp] theorem str_lower (x : Str) : opL0 .islower (.str x) S = .ok (.d (.bl (Txt.islower x))) S := rfl
@[simp] theorem str_upper (x : Str) : opL0 .isupper (.str x) S = .ok (.d (.bl (Txt.isupper x))) S := rfl
@[simp] theorem str_digit (x : Str) : opL0 .isdigit (.str x) S = .ok (.d (.bl (Txt.isdigit x))) S := rfl
theorem pop_ok {d : D} (hs : S[r]? = some (.lst (ds ++ [d]))) : opL0 .pop (.ref r) S = .ok (.d d) (S.set r (.lst ds)) := by
  show (match lstOf (.ref r) S with
    | some (r, ds) => (match ds[ds.length - 1]? with
      | some d => .ok (.d d) (S.set r (.lst ds.dropLast))
      | none => .stuck)
    | none => .stuck) = Out.ok (XV.d d) _
  unfold lstOf
  simp [hs]
theorem append_ok {y : XV} {d : D} {S1 : Store} (hy : sit y S = .ok d S1) (hs : S1[r]? = some (.lst ds)) (hl : ds.length < sizeLine) : opL1 .append (.ref r) y S = .ok (.d .non) (S1.set r (.lst (ds ++ [d]))) := by
  show ((sit y S).bind fun d S1 => (match lstOf (.ref r) S1 with
    | some (r, ds) => if decide (ds.length < sizeLine) then .ok (XV.d .non) (S1.set r (.lst (ds ++ [d]))) else .stuck
    | none => .stuck)) = _
  rw [hy]
  simp [lstOf, hs, hl]
theorem extend_ok {y : XV} (hy : itsE y S = some es) (hs : S[r]? = some (.lst ds)) (hl : ds.length + es.length ≤ sizeLine) : opL1 .extend (.ref r) y S = .ok (.d .non) (S.set r (.lst (ds ++ es))) := by
  show (match lstOf (.ref r) S, itsE y S with
    | some (r, ds), some es => if lok (ds.length + es.length) then Out.ok (XV.d .non) (S.set r (.lst (ds ++ es))) else Out.stuck
    | _, _ => Out.stuck) = _
  rw [hy]
  simp [lstOf, hs, lok, hl]
theorem pop0_ok {d : D} (hs : S[r]? = some (.lst (d :: ds))) : opL1 .popAt (.ref r) (.d (.int 0)) S = .ok (.d d) (S.set r (.lst ds)) := by
  show (match lstOf (.ref r) S, (XV.d (.int 0)) with
    | some (r, ds), .d (.int i) => if decide (-(2 ^ 63) ≤ i ∧ i < 2 ^ 63) then (match ixN ds.length i with
      | some k => (match ds[k]? with
        | some d => .ok (.d d) (S.set r (.lst (ds.eraseIdx k)))
        | none => .stuck)
      | none => .stuck) else .stuck
    | _, _ => .stuck) = Out.ok (XV.d d) _
  have e1 : ixN (ds.length + 1) 0 = some 0 := by
    unfold ixN
    rw [if_pos (Int.le_refl 0), if_pos (by omega)]
    rfl
  unfold lstOf
  simp [hs, e1]

/-! ### augmented assignments -/
@[simp] theorem flX_eq (o : Out XV) (k : XV → Store → Fl) : flX o e k = o.fl e k := by cases o <;> rfl
@[simp] theorem augS_add : sAugS .Add f g h e S = (f e S).fl e fun w S1 => augS3 (fun x y => x + y) g h e w S1 := by unfold sAugS; simp
@[simp] theorem augS_sub : sAugS .Sub f g h e S = (f e S).fl e fun w S1 => augS3 (fun x y => x - y) g h e w S1 := by unfold sAugS; simp
@[simp] theorem augF_add (z : Str) : sAugF C .Add f z g e S = (f e S).fl e fun w S1 => augF2 C (fun x y => x + y) z g e w S1 := by unfold sAugF; simp
@[simp] theorem augF_sub (z : Str) : sAugF C .Sub f z g e S = (f e S).fl e fun w S1 => augF2 C (fun x y => x - y) z g e w S1 := by unfold sAugF; simp
@[simp] theorem augS3_d (fo : Int → Int → Int) : augS3 fo f g e (.d d) S = (f e S).fl e fun k S2 => augS2 fo g e d k S2 := by unfold augS3; simp
theorem augS2_ok {fo : Int → Int → Int} {k : Int} {a : D} (hs : S[r]? = some (.lst ds)) (ha : atI ds k = some a) : augS2 fo f e (.ref r) (.d (.int k)) S = (f e S).fl e fun y S3 => augS1 fo (.ref r) k a e y S3 := by
  unfold augS2 lstOf; simp [hs, ha]
theorem augS1_ok {fo : Int → Int → Int} {k i j : Int} {n : Nat} (hs : S[r]? = some (.lst ds)) (hk : ixN ds.length k = some n) : augS1 fo (.ref r) k (.int i) e (.d (.int j)) S = .next e (S.set r (.lst (ds.set n (.int (fo i j))))) := by
  unfold augS1 lstOf augI; simp [hs, hk]
theorem augF2_ok {fo : Int → Int → Int} {z : Str} {c : Nat} {a : D} {gs : List (Str × D)} (hs : S[r]? = some (.ins c gs)) (hf : C.fld c z = true) (ha : gs.lookup z = some a) : augF2 C fo z f e (.d (.ref r)) S = (f e S).fl e fun y S2 => augF1 fo (.ref r) c z a e y S2 := by
  unfold augF2 fldOf; simp [hs, hf, ha]
theorem augF1_ok {fo : Int → Int → Int} {z : Str} {c : Nat} {i j : Int} {gs : List (Str × D)} (hs : S[r]? = some (.ins c gs)) (hl : gs.length < 1000) : augF1 fo (.ref r) c z (.int i) e (.d (.int j)) S = .next e (S.set r (.ins c (putFD z (.int (fo i j)) gs))) := by
  unfold augF1 fldOf augI; simp [hs, hl]

/-! ### new instances -/
def madeK (r : Nat) (v : D) (S2 : Store) : Out XV := match v with
  | .non => .ok (.d (.ref r)) S2
  | _ => .stuck
@[simp] theorem madeK_non : madeK r .non S = .ok (.d (.ref r)) S := rfl
theorem mMake_ap {c i : Nat} (hi : C.ini c = some i) (ha : arityOk C i (fs.length + 1) = true) : mMake C c fs e S = (mArgs fs e S).bind fun ds S1 => (C.inis i (fillD C i (.ref S1.length :: ds)) (S1 ++ [.ins c []])).bind fun v S2 => madeK S1.length v S2 := by
  unfold mMake; rw [hi]; simp only [ha, if_true]; rfl
theorem fill_all {i : Nat} (h : C.arity i = ds.length) (h2 : C.dfl i = []) : fillD C i ds = ds := by unfold fillD; rw [h2]; simp
end
/-! ### loops over what is walked -/
@[simp] theorem iOf_ap (f : DX) (e : Env) (S : Store) : iOf f e S = (f e S).bind fun x S1 => match x with
  | .fl ds => .ok (.items ds) S1
  | .d (.tup ds) => .ok (.items ds) S1
  | .d (.kl ds) => .ok (.items ds) S1
  | .d (.str z) => .ok (.items (z.cps.toList.map fun c => D.str ⟨#[c]⟩)) S1
  | .d (.ref r) => (match S1[r]? with
    | some (.lst _) => .ok (.live r) S1
    | _ => .stuck)
  | _ => .stuck := rfl
/-- chains -/
def cmp2K (op' : CmpOp) (h : DX) (e : Env) (y : XV) (S2 : Store) (o : Option Bool) : Out XV := match o with
  | some true => (h e S2).bind fun z S3 => blv (cmpOp op' y z S3) S3
  | some false => .ok (.d (.bl false)) S2
  | none => .stuck
@[simp] theorem cmp2K_some (op' : CmpOp) (h : DX) (e : Env) (y : XV) (S2 : Store) (b : Bool) : cmp2K op' h e y S2 (some b) = if b then (h e S2).bind fun z S3 => blv (cmpOp op' y z S3) S3 else .ok (.d (.bl false)) S2 := by cases b <;> rfl
@[simp] theorem mCmp2_ap (op op' : CmpOp) (f g h : DX) (e : Env) (S : Store) : mCmp2 op op' f g h e S = (f e S).bind fun x S1 => (g e S1).bind fun y S2 => cmp2K op' h e y S2 (cmpOp op x y S2) := by
  unfold mCmp2 cmp2K
  rfl
end L3


/-! L4D: the helpers that every law has: _law_font, _law_draw, _law_pick. -/
namespace L3
open PySem PySem.Spec PyProof.Rows L2
def b__law_font (C : Cfg) : DS := sSeq (sAsg (mC (.int 17)) (gVar 1)) (sSeq (sAsg (mLst [mC (.int 5)]) (gVar 2)) (sSeq (sAsg (mLst []) (gVar 3)) (sSeq (sFor C.fuel (iOf (mSl (mVar 0) oNone (oSome (mC (.int 63))))) (gVar 4) (sSeq (sIf (tOf (mCmp2 .Lt .Lt (mNeg (mBin .Pow (mC (.int 10)) (mC (.int 18)))) (mVar 4) (mBin .Pow (mC (.int 10)) (mC (.int 18))))) (sSeq (sExpr (mMeth C "append" (mVar 2) [mVar 4])) (sSeq (sAsg (mBin .Mod (mB1 .int (mBin .Add (mBin .Add (mBin .Mult (mVar 1) (mC (.int 40014))) (mBin .Mult (mVar 4) (mC (.int 69621)))) (mB1 .len (mVar 2)))) (mC (.int 2147483563))) (gVar 1)) sNext)) (sSeq (sExpr (mMeth C "append" (mVar 3) [mB1 .abs (mVar 4)])) sNext)) sNext)) (sSeq (sRet (mLst [mVar 1, mC (.int 0), mVar 2, mVar 3, mC (.int 0)])) sNext))))
def b_draw_rest (C : Cfg) : DS := sSeq (sIf (tOf (mCmp .Gt (mIx (mVar 0) (mC (.int 4))) (mC (.int 0)))) (sSeq (sAsg (mBin .Mod (mB1 .int (mIx (mVar 0) (mC (.int 4)))) (mVar 1)) (gVar 3)) (sSeq (sAsg (mBin .FloorDiv (mIx (mVar 0) (mC (.int 4))) (mVar 1)) (L3.gSub (mVar 0) (mC (.int 4)))) (sSeq (sRet (mVar 3)) sNext))) sNext) (sSeq (sAugS .Add (mVar 0) (mC (.int 1)) (mC (.int 1))) (sSeq (sAsg (mIx (mVar 0) (mC (.int 2))) (gVar 4)) (sSeq (sAsg (mIx (mVar 4) (mBin .Mod (mB1 .int (mIx (mVar 0) (mC (.int 1)))) (mB1 .len (mVar 4)))) (gVar 5)) (sSeq (sAsg (mBin .Mod (mB1 .int (mBin .Add (mBin .Add (mIx (mVar 0) (mC (.int 0))) (mBin .Mult (mVar 5) (mC (.int 30011)))) (mBin .Mult (mIx (mVar 0) (mC (.int 1))) (mC (.int 69621))))) (mC (.int 2147483629))) (gVar 6)) (sSeq (sAsg (mBin .Mod (mB1 .int (mBin .Add (mBin .Add (mBin .Mult (mVar 6) (mVar 6)) (mBin .Mult (mIx (mVar 0) (mC (.int 1))) (mC (.int 16807)))) (mVar 5))) (mC (.int 2147483587))) (gVar 7)) (sSeq (sRet (mBin .Mod (mBin .FloorDiv (mBin .Mod (mB1 .int (mBin .Mult (mVar 7) (mC (.int 48271)))) (mC (.int 2147483647))) (mC (.int 7))) (mVar 1))) sNext))))))
def b__law_draw (C : Cfg) : DS := sSeq (sAsg (mIx (mVar 0) (mC (.int 3))) (gVar 2)) (sSeq (sIf (L3.tAnd (tOf (mCmp .Eq (mIx (mVar 0) (mC (.int 4))) (mC (.int 0)))) (tOf (mCmp .NotEq (mVar 2) (mLst [])))) (sSeq (sAsg (mMeth C "pop" (mVar 2) [mC (.int 0)]) (L3.gSub (mVar 0) (mC (.int 4)))) sNext) sNext) (b_draw_rest C))
def b__law_pick (C : Cfg) (f__law_draw : Nat) : DS := sSeq (sRet (mIx (mVar 1) (mCall C f__law_draw [mVar 0, mB1 .len (mVar 1)]))) sNext
def b_same_turn (C : Cfg) : DS := sSeq (sIf (tOf (mCmp .Eq (mVar 2) (mLst []))) (sSeq (sRet (mC (.bl true))) sNext) sNext) (sSeq (sAsg (mMeth C "pop" (mVar 2) []) (L3.gTup [gVar 4, gVar 5])) (sSeq (sIf (tOf (mIsi .tuple (mVar 5))) (sSeq (sIf (L3.tOr (tNot (tOf (mIsi .tuple (mVar 4)))) (tOf (mCmp .NotEq (mB1 .len (mVar 4)) (mB1 .len (mVar 5))))) (sSeq (sRet (mC (.bl false))) sNext) sNext) (sSeq (sFor C.fuel (L3.iRng1 (mB1 .len (mVar 5))) (gVar 6) (sSeq (sExpr (mMeth C "append" (mVar 2) [mTup [mIx (mVar 4) (mVar 6), mIx (mVar 5) (mVar 6)]])) sNext)) sNext)) (sSeq (sIf (tOf (mIsN false (mVar 5))) (sSeq (sIf (tOf (mIsN true (mVar 4))) (sSeq (sRet (mC (.bl false))) sNext) sNext) sNext) (sSeq (sIf (tOf (mIsi .bool (mVar 5))) (sSeq (sIf (L3.tOr (tNot (tOf (mIsi .bool (mVar 4)))) (tOf (mCmp .NotEq (mVar 4) (mVar 5)))) (sSeq (sRet (mC (.bl false))) sNext) sNext) sNext) (sSeq (sIf (tOf (mIsi .str (mVar 5))) (sSeq (sIf (L3.tOr (tNot (tOf (mIsi .str (mVar 4)))) (tOf (mCmp .NotEq (mVar 4) (mVar 5)))) (sSeq (sRet (mC (.bl false))) sNext) sNext) sNext) (sSeq (sIf (L3.tOr (tNot (tOf (mIsi .int (mVar 4)))) (L3.tOr (tOf (mIsi .bool (mVar 4))) (tOf (mCmp .NotEq (mVar 4) (mVar 5))))) (sSeq (sRet (mC (.bl false))) sNext) sNext) sNext)) sNext)) sNext)) sNext)) sNext))
def b__law_same (C : Cfg) : DS := sSeq (sAsg (mLst [mTup [mVar 0, mVar 1]]) (gVar 2)) (sSeq (sFor C.fuel (L3.iRng1 (mC (.int 4000000))) (gVar 3) (b_same_turn C)) (sSeq (sRet (mC (.bl false))) sNext))
/-- the font of draws stands at rf, its small numbers at rs, its great ones at rg -/
structure FontAt (S : Store) (rf rg rs : Nat) (seed k g4 : Int) (sm gr : List Int) : Prop where
  at_ : S[rf]? = some (.lst [.int seed, .int k, .ref rs, .ref rg, .int g4])
  sm_ : S[rs]? = some (.lst (sm.map D.int))
  gr_ : S[rg]? = some (.lst (gr.map D.int))
  n1 : rf ≠ rs
  n2 : rf ≠ rg
  n3 : rg ≠ rs
  pos : 0 < sm.length
  few : sm.length ≤ 64
  small : ∀ c ∈ sm, c.natAbs < 2 ^ 60
  s0 : 0 ≤ seed
  s1 : seed < 2147483563
def FontOk (S : Store) (rf rg rs : Nat) (B : Nat) : Prop := ∃ seed k g4 sm gr, FontAt S rf rg rs seed k g4 sm gr ∧ 0 ≤ k ∧ k ≤ B
theorem FontOk.mono {S : Store} {rf rg rs B B' : Nat} (h : FontOk S rf rg rs B) (hb : B ≤ B') : FontOk S rf rg rs B' := by
  obtain ⟨seed, k, g4, sm, gr, F, h1, h2⟩ := h
  exact ⟨seed, k, g4, sm, gr, F, h1, by omega⟩
theorem FontOk.keep {S S' : Store} {rf rg rs B : Nat} {ks : List Nat} (h : FontOk S rf rg rs B) (k : Keep ks S S') (hk : ∀ q ∈ ks, q ≥ S.length ∨ ∃ o, S[q]? = some o ∧ ∀ ds, o ≠ .lst ds) : FontOk S' rf rg rs B := by
  obtain ⟨seed, k', g4, sm, gr, F, h1, h2⟩ := h
  have nk : ∀ q ds, S[q]? = some (.lst ds) → q ∉ ks := fun q ds h m => by
    rcases hk q m with z | ⟨o, z, n⟩
    · have := (List.getElem?_eq_some_iff.mp h).1; omega
    · rw [h] at z; cases z; exact n _ rfl
  exact ⟨seed, k', g4, sm, gr, ⟨k.at F.at_ (nk _ _ F.at_), k.at F.sm_ (nk _ _ F.sm_), k.at F.gr_ (nk _ _ F.gr_), F.n1, F.n2, F.n3, F.pos, F.few, F.small, F.s0, F.s1⟩, h1, h2⟩
theorem FontOk.put {S : Store} {rf rg rs B q : Nat} {o : O} (h : FontOk S rf rg rs B) (h1 : q ≠ rf) (h2 : q ≠ rg) (h3 : q ≠ rs) : FontOk (S.set q o) rf rg rs B := by
  obtain ⟨seed, k', g4, sm, gr, F, a1, a2⟩ := h
  exact ⟨seed, k', g4, sm, gr, ⟨by rw [List.getElem?_set_ne h1]; exact F.at_, by rw [List.getElem?_set_ne h3]; exact F.sm_, by rw [List.getElem?_set_ne h2]; exact F.gr_, F.n1, F.n2, F.n3, F.pos, F.few, F.small, F.s0, F.s1⟩, a1, a2⟩
theorem FontOk.lt {S : Store} {rf rg rs B : Nat} (h : FontOk S rf rg rs B) : rf < S.length ∧ rg < S.length ∧ rs < S.length := by
  obtain ⟨seed, k', g4, sm, gr, F, a1, a2⟩ := h
  exact ⟨(List.getElem?_eq_some_iff.mp F.at_).1, (List.getElem?_eq_some_iff.mp F.gr_).1, (List.getElem?_eq_some_iff.mp F.sm_).1⟩
theorem FontOk.lists {S : Store} {rf rg rs B : Nat} (h : FontOk S rf rg rs B) : (∃ l, S[rf]? = some (.lst l)) ∧ ∃ l, S[rg]? = some (.lst l) := by
  obtain ⟨seed, k', g4, sm, gr, F, a1, a2⟩ := h
  exact ⟨⟨_, F.at_⟩, _, F.gr_⟩
theorem Keep.out {ks : List Nat} {S S' : Store} (k : Keep ks S S') {r : Nat} (h : S.length ≤ r) (o : O) : Keep ks S (S'.set r o) :=
  ⟨by rw [List.length_set]; exact k.1, fun q hq n => by rw [List.getElem?_set_ne (by omega)]; exact k.2 q hq n⟩
theorem log2_le {n k : Nat} (h : n < 2 ^ k) (hk : 0 < k) : n.log2 < k := by
  by_cases h0 : n = 0
  · subst h0; simpa using hk
  · exact (Nat.log2_lt h0).mpr h
theorem mulOk_of {i j : Int} {a b : Nat} (h1 : i.natAbs < 2 ^ a) (h2 : j.natAbs < 2 ^ b) (ha : 0 < a) (hb : 0 < b) (h : a + b < 1000000) : mulOk i j = true := by
  have := log2_le h1 ha
  have := log2_le h2 hb
  exact decide_eq_true (by omega)
theorem ixN_pos {n : Nat} {i : Int} (h1 : 0 ≤ i) (h2 : i < n) : ixN n i = some i.toNat := by unfold ixN; rw [if_pos h1, if_pos h2]
theorem d7 : ((7 : Int).natAbs.log2 < 9000) = True := by decide
theorem d7' : (Nat.log2 7 < 9000) = True := by decide
section
variable (C : Cfg)
/-- what the draw gives when no great number is at hand -/
def drawn (seed k cell many : Int) : Int :=
  ((((seed + cell * 30011 + k * 69621) % 2147483629) * ((seed + cell * 30011 + k * 69621) % 2147483629) + k * 16807 + cell) % 2147483587) * 48271 % 2147483647 / 7 % many
abbrev drawN : List Str := ["font", "many", "greats", "found", "smalls", "cell", "one", "two"]
abbrev dEnv (rf rg : Nat) (many : Int) : Env := [some (.ref rf), some (.int many), some (.ref rg), none, none, none, none, none]
theorem draw_small {S : Store} {rf rg rs : Nat} {seed k g4 many : Int} {sm gr : List Int} (F : FontAt S rf rg rs seed k g4 sm gr) (hk : 0 ≤ k) (hk2 : k < 2 ^ 60) (hm : 0 < many) (hg : ¬ 0 < g4) :
    ∃ cell ∈ sm, endD (b_draw_rest C (dEnv rf rg many) S) =
      .ok (.int (drawn seed (k + 1) cell many)) (S.set rf (.lst [.int seed, .int (k + 1), .ref rs, .ref rg, .int g4])) := by
  have hl : rf < S.length := (List.getElem?_eq_some_iff.mp F.at_).1
  have e1 : (S.set rf (.lst [.int seed, .int (k + 1), .ref rs, .ref rg, .int g4]))[rf]? = some (.lst [.int seed, .int (k + 1), .ref rs, .ref rg, .int g4]) := List.getElem?_set_self hl
  have e2 : (S.set rf (.lst [.int seed, .int (k + 1), .ref rs, .ref rg, .int g4]))[rs]? = some (.lst (sm.map D.int)) := by rw [List.getElem?_set_ne F.n1]; exact F.sm_
  have hmod : 0 ≤ (k + 1) % (sm.length : Int) ∧ (k + 1) % (sm.length : Int) < sm.length := ⟨Int.emod_nonneg _ (by have := F.pos; omega), Int.emod_lt_of_pos _ (by have := F.pos; omega)⟩
  have hidx : ((k + 1) % (sm.length : Int)).toNat < sm.length := by omega
  refine ⟨sm[((k + 1) % (sm.length : Int)).toNat], List.getElem_mem _, ?_⟩
  have hc := F.small _ (List.getElem_mem hidx)
  generalize hcell : sm[((k + 1) % (sm.length : Int)).toNat] = cell at hc ⊢
  have e3 : sm[((k + 1) % (sm.length : Int)).toNat]? = some cell := by rw [List.getElem?_eq_getElem hidx, hcell]
  have e4 : atI (sm.map D.int) ((k + 1) % (sm.length : Int)) = some (.int cell) := by
    unfold atI
    rw [List.length_map, ixN_pos hmod.1 hmod.2]
    show (sm.map D.int)[_]? = _
    rw [List.getElem?_map, e3]; rfl
  have hpos : 0 < sm.length := F.pos
  have q1 : mulOk cell 30011 = true := mulOk_of (a := 60) (b := 60) hc (by decide) (by decide) (by decide) (by decide)
  have q2 : mulOk (k + 1) 69621 = true := mulOk_of (a := 61) (b := 60) (by omega) (by decide) (by decide) (by decide) (by decide)
  have q3 : mulOk (k + 1) 16807 = true := mulOk_of (a := 61) (b := 60) (by omega) (by decide) (by decide) (by decide) (by decide)
  have q4 : ∀ z : Int, mulOk (z % 2147483629) (z % 2147483629) = true := fun z => mulOk_of (a := 32) (b := 32) (by omega) (by omega) (by decide) (by decide) (by decide)
  have q5 : ∀ z : Int, mulOk (z % 2147483587) 48271 = true := fun z => mulOk_of (a := 32) (b := 32) (by omega) (by decide) (by decide) (by decide) (by decide)
  have ix1 : ixN 5 1 = some 1 := by decide
  have as2 : ∀ e : Env, augS2 (fun x y => x + y) (mC (.int 1)) e (.ref rf) (.d (.int 1)) S = .next e (S.set rf (.lst [.int seed, .int (k + 1), .ref rs, .ref rg, .int g4])) := fun e => by
    rw [augS2_ok (a := .int k) _ _ _ _ _ F.at_ (by simp)]
    simp only [mC_ap, Out.fl_ok]
    rw [augS1_ok _ _ _ _ F.at_ ix1]
    rfl
  unfold drawn
  simp [b_draw_rest, F.at_, hg, as2, e1, e2, e4, hpos, q1, q2, q3, q4, q5, hm, d7, d7']
theorem draw_great {S : Store} {rf rg rs : Nat} {seed k g4 many : Int} {sm gr : List Int} (F : FontAt S rf rg rs seed k g4 sm gr) (hm : 0 < many) (hm2 : many.natAbs < 2 ^ 8999) (hg : 0 < g4) :
    endD (b_draw_rest C (dEnv rf rg many) S) = .ok (.int (g4 % many)) (S.set rf (.lst [.int seed, .int k, .ref rs, .ref rg, .int (g4 / many)])) := by
  have hg0 : g4 ≠ 0 := by omega
  have hlog : many.natAbs.log2 < 9000 := Nat.lt_of_lt_of_le (log2_le hm2 (by decide)) (by decide)
  simp [b_draw_rest, F.at_, hg0, hg, hm, hlog]
theorem draw_first {S : Store} {rf rg rs : Nat} {seed k g4 many : Int} {sm gr : List Int} (F : FontAt S rf rg rs seed k g4 sm gr) {b : Bool} (hb : (L3.tAnd (tOf (mCmp .Eq (mIx (mVar 0) (mC (.int 4))) (mC (.int 0)))) (tOf (mCmp .NotEq (mVar 2) (mLst [])))) (dEnv rf rg many) S = .ok b S) :
    b__law_draw C (env0 drawN [.ref rf, .int many]) S = (if b then (sSeq (sAsg (mMeth C "pop" (mVar 2) [mC (.int 0)]) (L3.gSub (mVar 0) (mC (.int 4)))) sNext) (dEnv rf rg many) S else .next (dEnv rf rg many) S).seq fun e S => b_draw_rest C e S := by
  unfold b__law_draw
  simp only [sSeq_ap, sAsg_ap, sIf_ap]
  have e0 : (mD (mIx (mVar 0) (mC (.int 3))) (env0 drawN [.ref rf, .int many]) S) = .ok (.ref rg) S := by simp [env0, F.at_]
  rw [e0]
  simp only [Out.fl_ok, gVar_ap, Fl.seq_next]
  have e1 : (env0 drawN [.ref rf, .int many]).set 2 (some (.ref rg)) = dEnv rf rg many := by simp [env0]
  rw [e1, hb]
  simp only [Out.fl_ok]
  rfl
theorem draw_pop {S : Store} {rf rg rs : Nat} {seed k many g : Int} {sm gr : List Int} (F : FontAt S rf rg rs seed k 0 sm (g :: gr)) :
    FontAt ((S.set rg (.lst (gr.map D.int))).set rf (.lst [.int seed, .int k, .ref rs, .ref rg, .int g])) rf rg rs seed k g sm gr ∧
    (L3.tAnd (tOf (mCmp .Eq (mIx (mVar 0) (mC (.int 4))) (mC (.int 0)))) (tOf (mCmp .NotEq (mVar 2) (mLst [])))) [some (.ref rf), some (.int many), some (.ref rg), none, none, none, none, none] S = .ok true S ∧
    (sSeq (sAsg (mMeth C "pop" (mVar 2) [mC (.int 0)]) (L3.gSub (mVar 0) (mC (.int 4)))) sNext) [some (.ref rf), some (.int many), some (.ref rg), none, none, none, none, none] S =
      .next [some (.ref rf), some (.int many), some (.ref rg), none, none, none, none, none] ((S.set rg (.lst (gr.map D.int))).set rf (.lst [.int seed, .int k, .ref rs, .ref rg, .int g])) := by
  have hl : rf < S.length := (List.getElem?_eq_some_iff.mp F.at_).1
  have hl2 : rg < S.length := (List.getElem?_eq_some_iff.mp F.gr_).1
  have hg : S[rg]? = some (.lst (.int g :: gr.map D.int)) := F.gr_
  have e1 : (S.set rg (.lst (gr.map D.int)))[rf]? = some (.lst [.int seed, .int k, .ref rs, .ref rg, .int 0]) := by rw [List.getElem?_set_ne (Ne.symm F.n2)]; exact F.at_
  refine ⟨⟨List.getElem?_set_self (by rw [List.length_set]; exact hl), ?_, ?_, F.n1, F.n2, F.n3, F.pos, F.few, F.small, F.s0, F.s1⟩, ?_, ?_⟩
  · rw [List.getElem?_set_ne F.n1, List.getElem?_set_ne F.n3]; exact F.sm_
  · rw [List.getElem?_set_ne F.n2, List.getElem?_set_self hl2]
  · simp [F.at_, hg, lok]
  · have q := meth_lst C "pop" [mC (.int 0)] [some (.ref rf), some (.int many), some (.ref rg), none, none, none, none, none] S rg m1_popAt (by simp) hg
    have q2 := pop0_ok S rg (gr.map D.int) hg
    simp [q, q2, e1]
/-- THE DRAW -/
theorem draw_ok {S : Store} {rf rg rs B : Nat} {many : Int} (F : FontOk S rf rg rs B) (hB : B < 2 ^ 59) (hm : 0 < many) (hm2 : many < 2 ^ 62) :
    ∃ v S', endD (b__law_draw C (env0 drawN [.ref rf, .int many]) S) = .ok (.int v) S' ∧ 0 ≤ v ∧ v < many ∧ FontOk S' rf rg rs (B + 1) ∧ Keep [rf, rg] S S' ∧ S'.length = S.length := by
  obtain ⟨seed, k, g4, sm, gr, F, h1, h2⟩ := F
  have hm3 : many.natAbs < 2 ^ 8999 := by
    have : many.natAbs < 2 ^ 62 := by omega
    exact Nat.lt_of_lt_of_le this (Nat.pow_le_pow_right (by decide) (by decide))
  have kp : ∀ {S : Store} {o : O}, Keep [rf, rg] S (S.set rf o) := Keep.set (by simp)
  have kg : ∀ {S : Store} {o : O}, Keep [rf, rg] S (S.set rg o) := Keep.set (by simp)
  have rest : ∀ {S : Store} {g4 : Int} {gr : List Int}, FontAt S rf rg rs seed k g4 sm gr → ∃ v S', endD (b_draw_rest C (dEnv rf rg many) S) = .ok (.int v) S' ∧ 0 ≤ v ∧ v < many ∧ FontOk S' rf rg rs (B + 1) ∧ Keep [rf, rg] S S' ∧ S'.length = S.length := by
    intro S g4 gr F
    have hl : rf < S.length := (List.getElem?_eq_some_iff.mp F.at_).1
    by_cases hg : 0 < g4
    · refine ⟨_, _, draw_great C F hm hm3 hg, Int.emod_nonneg _ (by omega), Int.emod_lt_of_pos _ hm, ⟨seed, k, g4 / many, sm, gr, ⟨List.getElem?_set_self hl, ?_, ?_, F.n1, F.n2, F.n3, F.pos, F.few, F.small, F.s0, F.s1⟩, h1, by omega⟩, kp, List.length_set ..⟩
      · rw [List.getElem?_set_ne F.n1]; exact F.sm_
      · rw [List.getElem?_set_ne F.n2]; exact F.gr_
    · obtain ⟨cell, _, e⟩ := draw_small C F h1 (by omega) hm hg
      refine ⟨_, _, e, Int.emod_nonneg _ (by omega), Int.emod_lt_of_pos _ hm, ⟨seed, k + 1, g4, sm, gr, ⟨List.getElem?_set_self hl, ?_, ?_, F.n1, F.n2, F.n3, F.pos, F.few, F.small, F.s0, F.s1⟩, by omega, by omega⟩, kp, List.length_set ..⟩
      · rw [List.getElem?_set_ne F.n1]; exact F.sm_
      · rw [List.getElem?_set_ne F.n2]; exact F.gr_
  by_cases hn : g4 = 0 ∧ gr ≠ []
  · obtain ⟨rfl, hn⟩ := hn
    cases gr with
    | nil => exact absurd rfl hn
    | cons g gr =>
      obtain ⟨F2, q1, q2⟩ := draw_pop C (many := many) F
      obtain ⟨v, S', e, r1, r2, r3, r4, r5⟩ := rest F2
      refine ⟨v, S', ?_, r1, r2, r3, (kg.trans kp).trans r4, by rw [r5, List.length_set, List.length_set]⟩
      rw [draw_first C F q1, if_pos rfl, q2]
      exact e
  · obtain ⟨v, S', e, r⟩ := rest F
    refine ⟨v, S', ?_, r⟩
    have main : (L3.tAnd (tOf (mCmp .Eq (mIx (mVar 0) (mC (.int 4))) (mC (.int 0)))) (tOf (mCmp .NotEq (mVar 2) (mLst [])))) (dEnv rf rg many) S = .ok false S := by
      by_cases h0 : g4 = 0
      · have hgr : gr = [] := by
          by_cases h : gr = []
          · exact h
          · exact (hn ⟨h0, h⟩).elim
        have hgr2 : S[rg]? = some (.lst []) := by rw [F.gr_, hgr]; rfl
        subst h0
        simp [F.at_, hgr2, lok]
      · simp [F.at_, h0]
    rw [draw_first C F main, if_neg Bool.false_ne_true]
    exact e

abbrev fontN : List Str := ["script", "seed", "smalls", "greats", "cell"]
theorem pow18 : (10 : Int) ^ 18 = 1000000000000000000 := by decide
theorem font_ok {S : Store} (ns : List Int) (hl : ns.length ≤ 63) :
    ∃ S', endD (b__law_font C (env0 fontN [.kl (ns.map D.int)]) S) = .ok (.ref (S.length + 2)) S' ∧ FontOk S' (S.length + 2) (S.length + 1) S.length 0 ∧ Keep [] S S' ∧ S'.length = S.length + 3 := by
  have hit : ∀ (i : Nat) (d : D), (cutD (ns.map D.int) none (some 63))[i]? = some d → ∃ n : Int, d = D.int n := by
    intro i d h
    have hm := List.mem_of_getElem? h
    unfold cutD at hm
    obtain ⟨n, _, e⟩ := List.mem_map.mp (List.mem_of_mem_drop (List.mem_of_mem_take hm))
    exact ⟨n, e.symm⟩
  have hlen : (cutD (ns.map D.int) none (some 63)).length ≤ 63 := by
    unfold cutD
    rw [List.length_take, List.length_drop, List.length_map]
    omega
  have a1 : ∀ (sm gr : List D), (S ++ [O.lst sm, O.lst gr])[S.length]? = some (.lst sm) := fun sm gr => by simp
  have a2 : ∀ (sm gr : List D), (S ++ [O.lst sm, O.lst gr])[S.length + 1]? = some (.lst gr) := fun sm gr => by simp
  have s1 : ∀ (sm gr z : List D), (S ++ [O.lst sm, O.lst gr]).set S.length (.lst z) = S ++ [O.lst z, O.lst gr] := fun sm gr z => by simp
  have s2 : ∀ (sm gr z : List D), (S ++ [O.lst sm, O.lst gr]).set (S.length + 1) (.lst z) = S ++ [O.lst sm, O.lst z] := fun sm gr z => by simp
  let I : Nat → Env → Store → Prop := fun i e S' => ∃ (seed : Int) (sm gr : List Int) (x : Option D), e = [some (.kl (ns.map D.int)), some (.int seed), some (.ref S.length), some (.ref (S.length + 1)), x] ∧ S' = S ++ [O.lst (sm.map D.int), O.lst (gr.map D.int)] ∧
    0 < sm.length ∧ sm.length ≤ i + 1 ∧ gr.length ≤ i ∧ (∀ c ∈ sm, c.natAbs < 2 ^ 60) ∧ 0 ≤ seed ∧ seed < 2147483563
  have loop : Fl.to (sFor C.fuel (iOf (mSl (mVar 0) oNone (oSome (mC (.int 63))))) (gVar 4) (sSeq (sIf (tOf (mCmp2 .Lt .Lt (mNeg (mBin .Pow (mC (.int 10)) (mC (.int 18)))) (mVar 4) (mBin .Pow (mC (.int 10)) (mC (.int 18))))) (sSeq (sExpr (mMeth C "append" (mVar 2) [mVar 4])) (sSeq (sAsg (mBin .Mod (mB1 .int (mBin .Add (mBin .Add (mBin .Mult (mVar 1) (mC (.int 40014))) (mBin .Mult (mVar 4) (mC (.int 69621)))) (mB1 .len (mVar 2)))) (mC (.int 2147483563))) (gVar 1)) sNext)) (sSeq (sExpr (mMeth C "append" (mVar 3) [mB1 .abs (mVar 4)])) sNext)) sNext)
      [some (.kl (ns.map D.int)), some (.int 17), some (.ref S.length), some (.ref (S.length + 1)), none] (S ++ [O.lst [.int 5], O.lst []]))
      (I (cutD (ns.map D.int) none (some 63)).length) (fun _ _ => False) := by
    refine sFor_items I (ds := cutD (ns.map D.int) none (some 63)) (S1 := S ++ [O.lst [.int 5], O.lst []]) (by simp) ⟨17, [5], [], none, rfl, rfl, by decide, by decide, by decide, by decide, by decide, by decide⟩ (fun _ _ h => h) ?_
    rintro i d e S' hd ⟨seed, sm, gr, x, rfl, rfl, h1, h2, h3, h4, h5, h6⟩
    obtain ⟨n, rfl⟩ := hit i d hd
    have hi : i < 63 := Nat.lt_of_lt_of_le (List.getElem?_eq_some_iff.mp hd).1 hlen
    refine ⟨_, _, rfl, ?_⟩
    have hsz : 1000 < sizeLine := by decide
    by_cases hc : -1000000000000000000 < n ∧ n < 1000000000000000000
    · have hlt : sm.length < sizeLine := by omega
      have m1 := meth_lst C "append" [mVar 4] [some (.kl (ns.map D.int)), some (.int seed), some (.ref S.length), some (.ref (S.length + 1)), some (.int n)] (S ++ [O.lst (sm.map D.int), O.lst (gr.map D.int)]) S.length m1_append (by simp) (a1 _ _)
      have m2 := append_ok (S ++ [O.lst (sm.map D.int), O.lst (gr.map D.int)]) S.length (sm.map D.int) (y := .d (.int n)) (d := .int n) rfl (a1 _ _) (by simpa using hlt)
      have q1 : mulOk seed 40014 = true := mulOk_of (a := 32) (b := 32) (by omega) (by decide) (by decide) (by decide) (by decide)
      have q2 : mulOk n 69621 = true := mulOk_of (a := 60) (b := 32) (by omega) (by decide) (by decide) (by decide) (by decide)
      have hc1 : -(10 : Int) ^ 18 < n := by rw [pow18]; exact hc.1
      have hc2 : n < (10 : Int) ^ 18 := by rw [pow18]; exact hc.2
      simp [hc.1, hc.2, m1, m2, a1, s1, q1, q2, hc1, hc2]
      refine ⟨(seed * 40014 + n * 69621 + (sm.length + 1)) % 2147483563, sm ++ [n], gr, some (.int n), by simp, by simp, by simp, by simp; omega, by omega, ?_, by omega, by omega⟩
      intro c hcm
      rcases List.mem_append.mp hcm with hcm | hcm
      · exact h4 c hcm
      · rw [List.mem_singleton.mp hcm]; omega
    · have hlt : gr.length < sizeLine := by omega
      have m1 := meth_lst C "append" [mB1 .abs (mVar 4)] [some (.kl (ns.map D.int)), some (.int seed), some (.ref S.length), some (.ref (S.length + 1)), some (.int n)] (S ++ [O.lst (sm.map D.int), O.lst (gr.map D.int)]) (S.length + 1) m1_append (by simp) (a2 _ _)
      have m2 := append_ok (S ++ [O.lst (sm.map D.int), O.lst (gr.map D.int)]) (S.length + 1) (gr.map D.int) (y := .d (.int (if n < 0 then -n else n))) (d := .int (if n < 0 then -n else n)) rfl (a2 _ _) (by simpa using hlt)
      have hb : (decide (-(10 : Int) ^ 18 < n) && decide (n < (10 : Int) ^ 18)) = false := by
        rw [pow18]
        cases h : (decide (-(1000000000000000000 : Int) < n) && decide (n < (1000000000000000000 : Int))) with
        | false => rfl
        | true =>
          simp only [Bool.and_eq_true, decide_eq_true_eq] at h
          exact absurd h hc
      by_cases hc1 : -1000000000000000000 < n
      · have hc2 : ¬ n < 1000000000000000000 := fun z => hc ⟨hc1, z⟩
        simp [hc1, hc2, m1, m2, a2, s2]
        exact ⟨seed, sm, gr ++ [if n < 0 then -n else n], some (.int n), by simp, by simp, h1, by omega, by simp; omega, h4, h5, h6⟩
      · simp [hc1, m1, m2, a2, s2]
        exact ⟨seed, sm, gr ++ [if n < 0 then -n else n], some (.int n), by simp, by simp, h1, by omega, by simp; omega, h4, h5, h6⟩
  have e0 : b__law_font C (env0 fontN [.kl (ns.map D.int)]) S = (sFor C.fuel (iOf (mSl (mVar 0) oNone (oSome (mC (.int 63))))) (gVar 4) (sSeq (sIf (tOf (mCmp2 .Lt .Lt (mNeg (mBin .Pow (mC (.int 10)) (mC (.int 18)))) (mVar 4) (mBin .Pow (mC (.int 10)) (mC (.int 18))))) (sSeq (sExpr (mMeth C "append" (mVar 2) [mVar 4])) (sSeq (sAsg (mBin .Mod (mB1 .int (mBin .Add (mBin .Add (mBin .Mult (mVar 1) (mC (.int 40014))) (mBin .Mult (mVar 4) (mC (.int 69621)))) (mB1 .len (mVar 2)))) (mC (.int 2147483563))) (gVar 1)) sNext)) (sSeq (sExpr (mMeth C "append" (mVar 3) [mB1 .abs (mVar 4)])) sNext)) sNext)
      [some (.kl (ns.map D.int)), some (.int 17), some (.ref S.length), some (.ref (S.length + 1)), none] (S ++ [O.lst [.int 5], O.lst []])).seq fun e S => (sSeq (sRet (mLst [mVar 1, mC (.int 0), mVar 2, mVar 3, mC (.int 0)])) sNext) e S := by
    unfold b__law_font
    have hs1 : 1 ≤ sizeLine := by decide
    simp [env0, lok, hs1, -iOf_ap]
  rw [e0]
  revert loop
  generalize sFor C.fuel _ _ _ _ _ = o
  intro loop
  rcases loop.out with ⟨e, S', rfl, seed, sm, gr, x, rfl, rfl, h1, h2, h3, h4, h5, h6⟩ | ⟨_, _, _, z⟩
  · have hsz : 5 ≤ sizeLine := by decide
    refine ⟨(S ++ [O.lst (sm.map D.int), O.lst (gr.map D.int)]) ++ [O.lst [.int seed, .int 0, .ref S.length, .ref (S.length + 1), .int 0]], by simp [lok, hsz], ⟨seed, 0, 0, sm, gr, ⟨by simp, by simp, by simp, by omega, by omega, by omega, h1, by omega, h4, h5, h6⟩, by omega, by omega⟩, ?_, by simp⟩
    exact (Keep.app (T := [O.lst (sm.map D.int), O.lst (gr.map D.int)])).trans Keep.app
  · exact z.elim
end
end L3


/-! L4E: the helper _law_same. -/
namespace L3
open PySem PySem.Spec PyProof.Rows L2
mutual
def plainD : D → Bool
  | .non => true
  | .bl _ => true
  | .int _ => true
  | .str _ => true
  | .tup ds => plainDs ds
  | _ => false
def plainDs : List D → Bool
  | [] => true
  | d :: ds => plainD d && plainDs ds
end
mutual
def sameD (g : D) : D → Bool
  | .tup ds => (match g with
    | .tup gs => sameDs gs ds
    | _ => false)
  | .non => (match g with
    | .non => true
    | _ => false)
  | .bl b => (match g with
    | .bl c => c == b
    | _ => false)
  | .str x => (match g with
    | .str y => decide (y = x)
    | _ => false)
  | .int i => (match g with
    | .int j => decide (j = i)
    | _ => false)
  | _ => false
def sameDs : List D → List D → Bool
  | [], [] => true
  | g :: gs, d :: ds => sameD g d && sameDs gs ds
  | _, _ => false
end
mutual
def szD : D → Nat
  | .tup ds => 1 + szDs ds
  | _ => 1
def szDs : List D → Nat
  | [] => 0
  | d :: ds => szD d + szDs ds
end
abbrev pairD (p : D × D) : D := .tup [p.1, p.2]
def rowsZ : List (D × D) → Nat
  | [] => 0
  | p :: r => szD p.2 + rowsZ r
theorem rowsZ_app : ∀ (a b : List (D × D)), rowsZ (a ++ b) = rowsZ a + rowsZ b
  | [], b => by simp [rowsZ]
  | p :: a, b => by rw [List.cons_append, rowsZ, rowsZ, rowsZ_app a b]; omega
theorem rowsZ_zip : ∀ (a b : List D), a.length = b.length → rowsZ (a.zip b) = szDs b
  | [], [], _ => rfl
  | g :: a, d :: b, h => by
    rw [List.zip_cons_cons, rowsZ, szDs, rowsZ_zip a b (by simpa using h)]
  | [], _ :: _, h => by cases h
  | _ :: _, [], h => by cases h
theorem same_zip : ∀ (a b : List D), a.length = b.length → ((a.zip b).all fun p => sameD p.1 p.2) = sameDs a b
  | [], [], _ => rfl
  | g :: a, d :: b, h => by
    rw [List.zip_cons_cons, List.all_cons, sameDs, same_zip a b (by simpa using h)]
  | [], _ :: _, h => by cases h
  | _ :: _, [], h => by cases h
theorem same_len : ∀ (a b : List D), a.length ≠ b.length → sameDs a b = false
  | [], [], h => absurd rfl h
  | g :: a, d :: b, h => by rw [sameDs, same_len a b (by simpa using h), Bool.and_false]
  | [], _ :: _, _ => rfl
  | _ :: _, [], _ => rfl
theorem plain_zip : ∀ (a b : List D), plainDs a = true → plainDs b = true → ∀ p ∈ a.zip b, plainD p.1 = true ∧ plainD p.2 = true
  | [], _, _, _, p, hp => by simp at hp
  | _ :: _, [], _, _, p, hp => by simp at hp
  | g :: a, d :: b, h1, h2, p, hp => by
    obtain ⟨h1, h1'⟩ := Bool.and_eq_true_iff.mp (show (plainD g && plainDs a) = true from h1)
    obtain ⟨h2, h2'⟩ := Bool.and_eq_true_iff.mp (show (plainD d && plainDs b) = true from h2)
    rcases List.mem_cons.mp (show p ∈ (g, d) :: a.zip b from hp) with rfl | hp
    · exact ⟨h1, h2⟩
    · exact plain_zip a b h1' h2' p hp
theorem upto_at {lo : Int} {n i : Nat} {d : D} (h : (upto lo n)[i]? = some d) : d = .int (lo + i) ∧ i < n := by
  unfold upto at h
  rw [List.getElem?_map, Option.map_eq_some_iff] at h
  obtain ⟨k, h1, rfl⟩ := h
  obtain ⟨h2, h3⟩ := List.getElem?_eq_some_iff.mp h1
  rw [List.getElem_range] at h3
  subst h3
  exact ⟨rfl, by simpa using h2⟩
theorem upto_len (lo : Int) (n : Nat) : (upto lo n).length = n := by simp [upto]
def rng1 (x : XV) (S1 : Store) : Out It1 := match x with
  | .d (.int j) => if rngOk j then .ok (.items (upto 0 j.toNat)) S1 else .stuck
  | _ => .stuck
@[simp] theorem rng1_ap (f : DX) (e : Env) (S : Store) : L3.iRng1 f e S = (f e S).bind rng1 := rfl
theorem rng1_ok {j : Int} (h : rngOk j = true) (S : Store) : rng1 (.d (.int j)) S = .ok (.items (upto 0 j.toNat)) S := by
  exact if_pos h
@[simp] theorem rng2_ap (f g : DX) (e : Env) (S : Store) : L3.iRng2 f g e S = (f e S).bind fun x S1 => (g e S1).bind fun y S2 => rng2 x y S2 := rfl
theorem rng2_ok {i j : Int} (h : rngOk i = true) (h2 : rngOk j = true) (S : Store) : rng2 (.d (.int i)) (.d (.int j)) S = .ok (.items (upto i (j - i).toNat)) S := by
  exact if_pos (by rw [h, h2]; rfl)
abbrev sameN : List Str := ["one", "other", "rows", "turn", "got", "due", "k"]
section
variable (C : Cfg)
/-- the pairs of two tuples come onto the rows -/
theorem same_push {S : Store} {r : Nat} {rows : List (D × D)} {gs ds : List D} {a b t : Option D} (hr : S[r]? = some (.lst (rows.map pairD))) (hl : gs.length = ds.length) (hz : rows.length + ds.length < 8000000) {k0 : Option D} :
    ∃ k1, sFor C.fuel (L3.iRng1 (mB1 .len (mVar 5))) (gVar 6) (sSeq (sExpr (mMeth C "append" (mVar 2) [mTup [mIx (mVar 4) (mVar 6), mIx (mVar 5) (mVar 6)]])) sNext) [a, b, some (.ref r), t, some (.tup gs), some (.tup ds), k0] S =
      .next [a, b, some (.ref r), t, some (.tup gs), some (.tup ds), k1] (S.set r (.lst ((rows ++ gs.zip ds).map pairD))) := by
  have hlt : r < S.length := (List.getElem?_eq_some_iff.mp hr).1
  have hszl : 8000000 < sizeLine := by have := sizeLine_eq; omega
  have key : Fl.to (sFor C.fuel (L3.iRng1 (mB1 .len (mVar 5))) (gVar 6) (sSeq (sExpr (mMeth C "append" (mVar 2) [mTup [mIx (mVar 4) (mVar 6), mIx (mVar 5) (mVar 6)]])) sNext) [a, b, some (.ref r), t, some (.tup gs), some (.tup ds), k0] S)
      (fun e S' => ∃ k1, e = [a, b, some (.ref r), t, some (.tup gs), some (.tup ds), k1] ∧ S' = S.set r (.lst ((rows ++ (gs.zip ds).take ds.length).map pairD))) (fun _ _ => False) := by
    have hrng : rngOk (ds.length : Int) = true := rngOk_of (by omega)
    have hi : L3.iRng1 (mB1 .len (mVar 5)) [a, b, some (.ref r), t, some (.tup gs), some (.tup ds), k0] S = .ok (.items (upto 0 ds.length)) S := by simp [rng1_ok hrng]
    refine sFor_items (fun i e S' => ∃ k1, e = [a, b, some (.ref r), t, some (.tup gs), some (.tup ds), k1] ∧ S' = S.set r (.lst ((rows ++ (gs.zip ds).take i).map pairD))) hi ?_ ?_ ?_
    · refine ⟨k0, rfl, ?_⟩
      simp only [List.take_zero, List.append_nil]
      refine List.ext_getElem? fun q => ?_
      by_cases e : r = q
      · subst e; rw [List.getElem?_set_self hlt]; exact hr
      · rw [List.getElem?_set_ne e]
    · intro e S' h
      rw [upto_len] at h
      exact h
    · rintro i d e S' hd ⟨k1, rfl, rfl⟩
      obtain ⟨rfl, hi⟩ := upto_at hd
      refine ⟨_, _, rfl, ?_⟩
      have hi2 : i < gs.length := by omega
      have g1 : atI gs (0 + (i : Int)) = some gs[i] := by rw [Int.zero_add, atI_nat, List.getElem?_eq_getElem hi2]
      have g2 : atI ds (0 + (i : Int)) = some ds[i] := by rw [Int.zero_add, atI_nat, List.getElem?_eq_getElem hi]
      have hS : (S.set r (.lst ((rows ++ (gs.zip ds).take i).map pairD)))[r]? = some (.lst ((rows ++ (gs.zip ds).take i).map pairD)) := List.getElem?_set_self hlt
      have hlen : (gs.zip ds).length = ds.length := by rw [List.length_zip]; omega
      have hz : (gs.zip ds)[i]? = some (gs[i], ds[i]) := by
        rw [List.getElem?_eq_getElem (by rw [hlen]; exact hi), List.getElem_zip]
      have hlt2 : ((rows ++ (gs.zip ds).take i).map pairD).length < sizeLine := by rw [List.length_map, List.length_append, List.length_take, hlen]; omega
      have hend : (S.set r (.lst ((rows ++ (gs.zip ds).take i).map pairD))).set r (.lst ((rows ++ (gs.zip ds).take i).map pairD ++ [.tup [gs[i], ds[i]]])) = S.set r (.lst ((rows ++ (gs.zip ds).take (i + 1)).map pairD)) := by
        rw [List.set_set, List.take_succ, hz]
        simp
      revert hend hlt2 hS
      generalize S.set r (.lst ((rows ++ (gs.zip ds).take i).map pairD)) = S1
      generalize (rows ++ (gs.zip ds).take i).map pairD = L
      intro hS hlt2 hend
      have m1 := meth_lst C "append" [mTup [mIx (mVar 4) (mVar 6), mIx (mVar 5) (mVar 6)]] [a, b, some (.ref r), t, some (.tup gs), some (.tup ds), some (.int (0 + (i : Int)))] S1 r m1_append (by simp) hS
      have m2 := append_ok S1 r L (y := .d (.tup [gs[i], ds[i]])) (d := .tup [gs[i], ds[i]]) rfl hS hlt2
      have hs2 : 2 ≤ sizeLine := by have := sizeLine_eq; omega
      simp only [Int.zero_add] at m1 g1 g2
      simp only [Int.zero_add, sSeq_ap, sExpr_ap, mMeth_ap, mVar_ap, List.set_cons_succ, List.set_cons_zero, List.getElem?_cons_succ, List.getElem?_cons_zero, look_ref, look_tup, look_int, Out.bind_ok, sit_d, methR_ok, m1, mArg_1, mTup_ap, mArgs_cons, mArgs_nil, mD_ap, mIx_ap, ix_tup, g1, g2, Option.map_some, okv_some, List.length_cons, List.length_nil, lok, Nat.zero_add, Nat.reduceAdd, hs2, decide_true, if_true, m2, Out.fl_ok, Fl.seq_next, sNext_ap, Fl.to_next, hend]
      exact ⟨_, rfl, trivial⟩
  revert key
  generalize sFor C.fuel _ _ _ _ _ = o
  intro key
  rcases key.out with ⟨e, S', rfl, k1, rfl, rfl⟩ | ⟨_, _, _, z⟩
  · refine ⟨k1, ?_⟩
    rw [List.take_of_length_le (by rw [List.length_zip]; omega)]
  · exact z.elim

theorem szD_pos (d : D) : 0 < szD d := by cases d <;> simp [szD] <;> omega
theorem rows_len : ∀ rows : List (D × D), rows.length ≤ rowsZ rows
  | [] => Nat.le_refl _
  | p :: r => by
    have := rows_len r
    have := szD_pos p.2
    rw [List.length_cons, rowsZ]
    omega
/-- what a turn leaves -/
def SameI (S0 : Store) (r : Nat) (g d : D) (i : Nat) (e : Env) (S : Store) : Prop := ∃ rows x3 x4 x5 x6, e = [some g, some d, some (.ref r), x3, x4, x5, x6] ∧ S[r]? = some (.lst (rows.map pairD)) ∧ Keep [r] S0 S ∧ S.length = S0.length ∧ rowsZ rows + i ≤ szD d ∧
  (rows.all fun p => sameD p.1 p.2) = sameD g d ∧ ∀ p ∈ rows, plainD p.1 = true ∧ plainD p.2 = true
theorem same_turn {S0 S : Store} {r i : Nat} {g d : D} {e : Env} {t : D} (h : SameI S0 r g d i e S) (hz : szD d < 3900000) :
    Fl.to (b_same_turn C (e.set 3 (some t)) S) (SameI S0 r g d (i + 1)) (fun v S' => v = .bl (sameD g d) ∧ Keep [r] S0 S' ∧ S'.length = S0.length) := by
  obtain ⟨rows, x3, x4, x5, x6, rfl, hr, hk, hl, hi, hs, hp⟩ := h
  have hlt : r < S.length := (List.getElem?_eq_some_iff.mp hr).1
  rcases List.eq_nil_or_concat rows with rfl | ⟨init, p, rfl⟩
  · have hr0 : S[r]? = some (.lst []) := hr
    have hs1 : 0 ≤ sizeLine := Nat.zero_le _
    simp [b_same_turn, hr0, lok, hs1]
    exact ⟨by rw [← hs]; rfl, hk, hl⟩
  · obtain ⟨a, b⟩ := p
    have hr1 : S[r]? = some (.lst (init.map pairD ++ [.tup [a, b]])) := by rw [hr]; simp
    have hab := hp (a, b) (by simp)
    have hs2 : ((init.all fun p => sameD p.1 p.2) && sameD a b) = sameD g d := by rw [← hs]; simp
    have hpi : ∀ p ∈ init, plainD p.1 = true ∧ plainD p.2 = true := fun p h => hp p (by simp [h])
    have hzi : rowsZ init + szD b + i ≤ szD d := by
      have q : rowsZ (init.concat (a, b)) = rowsZ init + szD b := by rw [List.concat_eq_append, rowsZ_app]; simp [rowsZ]
      rw [q] at hi
      exact hi
    have kr : ∀ {o : O}, Keep [r] S (S.set r o) := Keep.set (by simp)
    have hS1 : (S.set r (.lst (init.map pairD)))[r]? = some (.lst (init.map pairD)) := List.getElem?_set_self hlt
    have m1 : ∀ e : Env, methD C "pop" [] e (.ref r) S = .ok (.d (.tup [a, b])) (S.set r (.lst (init.map pairD))) := fun e => by
      rw [meth_lst C "pop" [] e S r m1_pop (by simp) hr1, mArg_0, pop_ok S r _ hr1]
    have hne : ∀ l : List D, (l ++ [D.tup [a, b]]).isEmpty = false := fun l => by cases l <;> rfl
    have fin : sameD a b = false → False ∨ sameD g d = false := fun h => by rw [h, Bool.and_false] at hs2; exact .inr hs2.symm
    have cont : sameD a b = true → ∀ x3 x4 x5 x6, SameI S0 r g d (i + 1) [some g, some d, some (.ref r), x3, x4, x5, x6] (S.set r (.lst (init.map pairD))) := fun h x3 x4 x5 x6 => by
      rw [h, Bool.and_true] at hs2
      exact ⟨init, x3, x4, x5, x6, rfl, hS1, hk.trans kr, by rw [List.length_set, hl], by have := szD_pos b; omega, hs2, hpi⟩
    have done : sameD a b = false → (sameD g d = false ∧ Keep [r] S0 (S.set r (.lst (init.map pairD))) ∧ S.length = S0.length) := fun h => by
      rcases fin h with z | z
      · exact z.elim
      · exact ⟨z, hk.trans kr, hl⟩
    obtain ⟨pa, pb⟩ := hab
    have pa : plainD a = true := pa
    have pb : plainD b = true := pb
    cases b with
    | tup ds =>
      cases a with
      | tup gs =>
        by_cases hgl : gs.length = ds.length
        · have hrl := rows_len init
          have hds : init.length + ds.length < 8000000 := by
            have h1 : szDs ds + 1 = szD (.tup ds) := by simp [szD]; omega
            have h2 := rows_len (gs.zip ds)
            rw [rowsZ_zip gs ds hgl, List.length_zip] at h2
            omega
          obtain ⟨k1, hpush⟩ := same_push C (a := some g) (b := some d) (t := some t) (k0 := x6) hS1 hgl hds
          simp [b_same_turn, hr1, lok, m1, hgl, isN, -iOf_ap, -rng1_ap, hpush]
          refine ⟨init ++ gs.zip ds, some t, some (.tup gs), some (.tup ds), k1, rfl, by simp [hlt], ?_, by simp [hl], ?_, ?_, ?_⟩
          · first | exact (hk.trans kr).trans (Keep.set (by simp)) | exact hk.trans (Keep.set (by simp))
          · rw [rowsZ_app, rowsZ_zip gs ds hgl]
            have h1 : szD (.tup ds) = 1 + szDs ds := by simp [szD]
            omega
          · rw [List.all_append, same_zip gs ds hgl]
            exact hs2
          · intro p hp'
            rcases List.mem_append.mp hp' with h | h
            · exact hpi p h
            · exact plain_zip gs ds (by simpa [plainD] using pa) (by simpa [plainD] using pb) p h
        · have hf : sameD (.tup gs) (.tup ds) = false := by simp [sameD, same_len gs ds hgl]
          have := done hf
          have hgl' : ¬ ((gs.length : Int) = ds.length) := by omega
          simp [b_same_turn, hr1, lok, m1, isN, hgl']
          exact this
      | _ => first
        | (have hf := done (by simp [sameD]); simp [b_same_turn, hr1, lok, m1, isN]; exact hf)
        | (simp [plainD] at pa)
    | non =>
      cases a with
      | non => have hf := cont (by simp [sameD]); simp [b_same_turn, hr1, lok, m1, isN]; exact hf _ _ _ _
      | _ => first
        | (have hf := done (by simp [sameD]); simp [b_same_turn, hr1, lok, m1, isN]; exact hf)
        | (simp [plainD] at pa)
    | bl v =>
      cases a with
      | bl u =>
        by_cases huv : u = v
        · subst huv; have hf := cont (by simp [sameD]); simp [b_same_turn, hr1, lok, m1, isN]; exact hf _ _ _ _
        · have hf := done (by simp [sameD, huv]); simp [b_same_turn, hr1, lok, m1, isN, huv]; exact hf
      | _ => first
        | (have hf := done (by simp [sameD]); simp [b_same_turn, hr1, lok, m1, isN]; exact hf)
        | (simp [plainD] at pa)
    | str v =>
      cases a with
      | str u =>
        by_cases huv : u = v
        · subst huv; have hf := cont (by simp [sameD]); simp [b_same_turn, hr1, lok, m1, isN]; exact hf _ _ _ _
        · have hf := done (by simp [sameD, huv]); simp [b_same_turn, hr1, lok, m1, isN, huv]; exact hf
      | _ => first
        | (have hf := done (by simp [sameD]); simp [b_same_turn, hr1, lok, m1, isN]; exact hf)
        | (simp [plainD] at pa)
    | int v =>
      cases a with
      | int u =>
        by_cases huv : u = v
        · subst huv; have hf := cont (by simp [sameD]); simp [b_same_turn, hr1, lok, m1, isN]; exact hf _ _ _ _
        · have hf := done (by simp [sameD, huv]); simp [b_same_turn, hr1, lok, m1, isN, huv]; exact hf
      | _ => first
        | (have hf := done (by simp [sameD]); simp [b_same_turn, hr1, lok, m1, isN]; exact hf)
        | (simp [plainD] at pa)
    | _ => simp [plainD] at pb
theorem plain_no {d : D} (h : plainD d = true) : noExn d = true := by cases d <;> first | rfl | simp [plainD] at h
def b_same_n (n : Int) : DS := sSeq (sAsg (mLst [mTup [mVar 0, mVar 1]]) (gVar 2)) (sSeq (sFor C.fuel (L3.iRng1 (mC (.int n))) (gVar 3) (b_same_turn C)) (sSeq (sRet (mC (.bl false))) sNext))
theorem same_n {S : Store} {g d : D} {n : Int} (hg : plainD g = true) (hd : plainD d = true) (hz : szD d < 3900000) (hn : 3900000 < n) (hrng : rngOk n = true) :
    ∃ S', endD (b_same_n C n (env0 sameN [g, d]) S) = .ok (.bl (sameD g d)) S' ∧ Keep [] S S' ∧ S'.length = S.length + 1 := by
  have hs2 : 2 ≤ sizeLine := by have := sizeLine_eq; omega
  have hs1 : 1 ≤ sizeLine := by omega
  have hi : L3.iRng1 (mC (.int n)) [some g, some d, some (.ref S.length), none, none, none, none] (S ++ [.lst [.tup [g, d]]]) = .ok (.items (upto 0 n.toNat)) (S ++ [.lst [.tup [g, d]]]) := by
    show ((mC (.int n)) _ _).bind rng1 = _
    rw [mC_ap, Out.bind_ok, rng1_ok hrng]
  have loop := sFor_items (fuel := C.fuel) (g := gVar 3) (b := b_same_turn C) (N := fun _ _ => False) (R := fun v S' => v = .bl (sameD g d) ∧ Keep [S.length] (S ++ [O.lst [.tup [g, d]]]) S' ∧ S'.length = (S ++ [O.lst [.tup [g, d]]]).length)
    (SameI (S ++ [O.lst [.tup [g, d]]]) S.length g d) hi ?_ ?_ ?_
  · have e0 : b_same_n C n (env0 sameN [g, d]) S = (sFor C.fuel (L3.iRng1 (mC (.int n))) (gVar 3) (b_same_turn C) [some g, some d, some (.ref S.length), none, none, none, none] (S ++ [O.lst [.tup [g, d]]])).seq fun e S => (sSeq (sRet (mC (.bl false))) sNext) e S := by
      unfold b_same_n
      simp [env0, lok, hs1, hs2, look_no, plain_no hg, plain_no hd, -rng1_ap]
    rw [e0]
    rcases loop.out with ⟨_, _, _, z⟩ | ⟨v, S', e, rfl, k, l⟩
    · exact z.elim
    · rw [e]
      refine ⟨S', rfl, ⟨by rw [l]; simp, fun q hq _ => ?_⟩, by rw [l]; simp⟩
      rw [k.2 q (by simp; omega) (by simp; omega), List.getElem?_append_left hq]
  · exact ⟨[(g, d)], none, none, none, none, rfl, by simp, .refl, rfl, by simp [rowsZ], by simp, fun p hp => by rw [List.mem_singleton.mp hp]; exact ⟨hg, hd⟩⟩
  · rintro e S' ⟨rows, _, _, _, _, _, _, _, _, h, _⟩
    rw [upto_len] at h
    omega
  · intro i d' e S' h1 h2
    exact ⟨_, _, rfl, same_turn C h2 hz⟩
/-- THE HELPER same, of plain data -/
theorem same_ok {S : Store} {g d : D} (hg : plainD g = true) (hd : plainD d = true) (hz : szD d < 3900000) :
    ∃ S', endD (b__law_same C (env0 sameN [g, d]) S) = .ok (.bl (sameD g d)) S' ∧ Keep [] S S' ∧ S'.length = S.length + 1 :=
  same_n C (n := 4000000) hg hd hz (by omega) (rngOk_of (by omega))
end
end L3


/-! L4F: names.py: what its defs answer. -/
namespace L3
open PySem PySem.Spec PyProof.Rows L2
/-- a def of n parameters, no defaults -/
structure Ar (C : Cfg) (i n : Nat) : Prop where
  a : C.arity i = n
  d : C.dfl i = []
section
variable {C : Cfg} {i : Nat} (f g h : DX) (e : Env) (S : Store)
theorem ar_ok {n : Nat} (A : Ar C i n) : arityOk C i n = true := by unfold arityOk; rw [A.a, A.d]; simp
theorem ar_fill {n : Nat} (A : Ar C i n) {ds : List D} (hl : ds.length = n) : fillD C i ds = ds := fill_all (C := C) (ds := ds) (by rw [A.a, hl]) A.d
theorem call0 (A : Ar C i 0) : mCall C i [] e S = xv (C.calls i [] S) := by
  have hf : fillD C i [] = [] := ar_fill A rfl
  rw [mCall_ap _ _ _ _ _ (ar_ok A)]
  simp only [mArgs_nil, Out.bind_ok, hf]
theorem call1 (A : Ar C i 1) : mCall C i [f] e S = (mD f e S).bind fun d S1 => xv (C.calls i [d] S1) := by
  have hf : ∀ d, fillD C i [d] = [d] := fun d => ar_fill A rfl
  rw [mCall_ap _ _ _ _ _ (ar_ok A)]
  simp only [mArgs_cons, mArgs_nil, Out.bind_assoc, Out.bind_ok, hf]
theorem call2 (A : Ar C i 2) : mCall C i [f, g] e S = (mD f e S).bind fun d S1 => (mD g e S1).bind fun d2 S2 => xv (C.calls i [d, d2] S2) := by
  have hf : ∀ d d2, fillD C i [d, d2] = [d, d2] := fun d d2 => ar_fill A rfl
  rw [mCall_ap _ _ _ _ _ (ar_ok A)]
  simp only [mArgs_cons, mArgs_nil, Out.bind_assoc, Out.bind_ok, hf]
theorem call3 (A : Ar C i 3) : mCall C i [f, g, h] e S = (mD f e S).bind fun d S1 => (mD g e S1).bind fun d2 S2 => (mD h e S2).bind fun d3 S3 => xv (C.calls i [d, d2, d3] S3) := by
  have hf : ∀ d d2 d3, fillD C i [d, d2, d3] = [d, d2, d3] := fun d d2 d3 => ar_fill A rfl
  rw [mCall_ap _ _ _ _ _ (ar_ok A)]
  simp only [mArgs_cons, mArgs_nil, Out.bind_assoc, Out.bind_ok, hf]
end
def b_is_int (C : Cfg) : DS := sSeq (sRet (mAndV (mIsi .int (mVar 0)) (ofT (tNot (tOf (mIsi .bool (mVar 0))))))) sNext
def b_within (C : Cfg) (f_is_int : Nat) : DS := sSeq (sRet (mAndV (mCall C f_is_int [mVar 0]) (mCmp2 .LtE .LtE (mVar 1) (mVar 0) (mVar 2)))) sNext
def b_is_tuple (C : Cfg) : DS := sSeq (sRet (mAndV (mIsi .tuple (mVar 0)) (mCmp2 .LtE .LtE (mVar 1) (mB1 .len (mVar 0)) (mVar 2)))) sNext
def b_is_name (C : Cfg) : DS := sSeq (sIf (L3.tOr (tNot (tOf (mIsi .str (mVar 0)))) (L3.tOr (tNot (tOf (mCmp2 .LtE .LtE (mC (.int 1)) (mB1 .len (mVar 0)) (mC (.int 10))))) (tOf (mCmp .In (mVar 0) (mC (.tup [(.str "cell"), (.str "def"), (.str "do"), (.str "else"), (.str "give"), (.str "if"), (.str "kind"), (.str "let"), (.str "look"), (.str "match"), (.str "whole")])))))) (sSeq (sRet (mC (.bl false))) sNext) sNext) (sSeq (sIf (tOf (mCmp .NotIn (mIx (mVar 0) (mC (.int 0))) (mC (.str "abcdefghijklmnopqrstuvwxyzABCDEFGHIJKLMNOPQRSTUVWXYZ")))) (sSeq (sRet (mC (.bl false))) sNext) sNext) (sSeq (sRet (mB1 .all (mLc C.fuel [1] (iOf (mVar 0)) (gVar 1) L3.tYes (mOrV (mCmp .In (mVar 1) (mC (.str "abcdefghijklmnopqrstuvwxyzABCDEFGHIJKLMNOPQRSTUVWXYZ"))) (mCmp .In (mVar 1) (mC (.str "0123456789"))))))) sNext))
def b_is_low (C : Cfg) (f_is_name : Nat) : DS := sSeq (sRet (mAndV (mCall C f_is_name [mVar 0]) (mCmp .In (mIx (mVar 0) (mC (.int 0))) (mC (.str "abcdefghijklmnopqrstuvwxyz"))))) sNext
def b_is_high (C : Cfg) (f_is_name : Nat) : DS := sSeq (sRet (mAndV (mCall C f_is_name [mVar 0]) (mCmp .NotIn (mIx (mVar 0) (mC (.int 0))) (mC (.str "abcdefghijklmnopqrstuvwxyz"))))) sNext
def b_is_told (C : Cfg) (f_is_high : Nat) : DS := sSeq (sRet (mOrV (mCall C f_is_high [mVar 0]) (mAndV (mIsi .str (mVar 0)) (mCmp .Eq (mVar 0) (mC (.str "whole")))))) sNext
def b_is_kept (C : Cfg) : DS := sSeq (sRet (mCmp .In (mSl (mVar 0) oNone (oSome (mC (.int 2)))) (mC (.tup [(.str "zz"), (.str "Zz")])))) sNext
/-! ### what they answer -/
def intB : D → Bool
  | .int _ => true
  | _ => false
def tupB (a b : Int) : D → Bool
  | .tup ds => decide (a ≤ ds.length) && decide ((ds.length : Int) ≤ b)
  | _ => false
def strB : D → Bool
  | .str _ => true
  | _ => false
theorem tyO_cases {o : Option O} {n : String} (h : tyO o = some n) : n = "list" ∨ n = "dict" := by
  unfold tyO at h
  split at h <;> first | (cases h; exact .inl rfl) | (cases h; exact .inr rfl) | cases h
section
variable (C : Cfg) {S : Store} {d : D} {n : String}
theorem is_int_ok (h : tyOfD d S = some n) : endD (b_is_int C (env0 ["x"] [d]) S) = .ok (.bl (intB d)) S := by
  cases d with
  | ref r =>
    have h : tyO S[r]? = some n := by rw [← ty_ref]; exact h
    rcases tyO_cases h with rfl | rfl <;> simp [b_is_int, env0, h, isN, intB]
  | _ => first | (cases h; done) | simp [b_is_int, env0, isN, intB]
theorem is_tuple_ok (h : tyOfD d S = some n) (a b : Int) : endD (b_is_tuple C (env0 ["thing", "least", "most"] [d, .int a, .int b]) S) = .ok (.bl (tupB a b d)) S := by
  cases d with
  | ref r =>
    have h : tyO S[r]? = some n := by rw [← ty_ref]; exact h
    rcases tyO_cases h with rfl | rfl <;> simp [b_is_tuple, env0, h, isN, tupB]
  | tup ds =>
    by_cases h1 : a ≤ ds.length <;> simp [b_is_tuple, env0, isN, tupB, h1]
  | _ => first | (cases h; done) | simp [b_is_tuple, env0, isN, tupB]
/-- a comprehension without tests whose values are plain -/
theorem mLc_pure {fuel : Nat} {own : List Nat} {i : DI} {g : DG} {f : DX} {e : Env} {S : Store} {ds : List D} (F : D → D) (hi : i e S = .ok (.items ds) S) (hl : ds.length < sizeLine)
    (hf : ∀ d ∈ ds, ∃ e1, g d (wipeE e own) S = .next e1 S ∧ mD f e1 S = .ok (F d) S) : mLc fuel own i g L3.tYes f e S = .ok (.fl (ds.map F)) S := by
  obtain ⟨out, S', h1, h2, h3⟩ := mLc_items (fuel := fuel) (own := own) (g := g) (t := L3.tYes) (f := f) (fun i S' acc => S' = S ∧ acc = (ds.take i).map F) hi ⟨rfl, rfl⟩ (by
    rintro i d S' acc hd ⟨rfl, rfl⟩
    have hlt := (List.getElem?_eq_some_iff.mp hd).1
    refine ⟨by rw [List.length_map, List.length_take]; omega, ?_⟩
    obtain ⟨e1, q1, q2⟩ := hf d (List.mem_of_getElem? hd)
    refine ⟨e1, _, q1, true, _, rfl, ?_⟩
    rw [if_pos rfl]
    exact ⟨F d, _, q2, rfl, by rw [List.take_succ, hd]; simp⟩)
  rw [h1, h2, h3, List.take_of_length_le (Nat.le_refl _)]
end
@[simp] theorem bools_cons (b : Bool) (r : List D) : bools (.bl b :: r) = (bools r).map (b :: ·) := rfl
@[simp] theorem bools_comp {α : Type} (l : List α) (f : α → Bool) : bools (l.map (D.bl ∘ f)) = some (l.map f) := bools_map2 l f
@[simp] theorem bools_nil : bools [] = some [] := rfl
def letS : Str := "abcdefghijklmnopqrstuvwxyzABCDEFGHIJKLMNOPQRSTUVWXYZ"
def smaS : Str := "abcdefghijklmnopqrstuvwxyz"
def digS : Str := "0123456789"
def wordsD : List D := [(.str "cell"), (.str "def"), (.str "do"), (.str "else"), (.str "give"), (.str "if"), (.str "kind"), (.str "let"), (.str "look"), (.str "match"), (.str "whole")]
def signB (c : Nat) : Bool := decide (c ∈ letS.cps.toList) || decide (c ∈ digS.cps.toList)
def nameS (x : Str) : Bool := decide (1 ≤ x.length) && decide (x.length ≤ 10) && !(wordsD.any fun w => eqD w (.str x)) && (match x.cps.toList with
  | c :: _ => decide (c ∈ letS.cps.toList)
  | [] => false) && x.cps.toList.all signB
def nameB : D → Bool
  | .str x => nameS x
  | _ => false
section
variable (C : Cfg) {S : Store} {d : D} {n : String}
theorem words_in (x : Str) : cmpOp .In (.d (.str x)) (.d (.tup wordsD)) S = some (wordsD.any fun w => eqD w (.str x)) := in_tup S wordsD (by simp) rfl (by decide)
theorem is_name_ok (h : tyOfD d S = some n) (hl : ∀ x, d = .str x → x.length ≤ sizeLine) : endD (b_is_name C (env0 ["x", "sign"] [d]) S) = .ok (.bl (nameB d)) S := by
  cases d with
  | ref r =>
    have h : tyO S[r]? = some n := by rw [← ty_ref]; exact h
    rcases tyO_cases h with rfl | rfl <;> simp [b_is_name, env0, h, isN, nameB]
  | str x =>
    have hlen := hl x rfl
    have hx : x.length = x.cps.toList.length := by simp [Str.length]
    have hW := words_in (S := S) x
    unfold wordsD at hW
    have hsz := sizeLine_eq
    have hb : b_is_name C = sSeq (sIf (L3.tOr (tNot (tOf (mIsi .str (mVar 0)))) (L3.tOr (tNot (tOf (mCmp2 .LtE .LtE (mC (.int 1)) (mB1 .len (mVar 0)) (mC (.int 10))))) (tOf (mCmp .In (mVar 0) (mC (.tup wordsD)))))) (sSeq (sRet (mC (.bl false))) sNext) sNext) (sSeq (sIf (tOf (mCmp .NotIn (mIx (mVar 0) (mC (.int 0))) (mC (.str letS)))) (sSeq (sRet (mC (.bl false))) sNext) sNext) (sSeq (sRet (mB1 .all (mLc C.fuel [1] (iOf (mVar 0)) (gVar 1) L3.tYes (mOrV (mCmp .In (mVar 1) (mC (.str letS))) (mCmp .In (mVar 1) (mC (.str digS))))))) sNext)) := rfl
    rw [hb]
    by_cases h1 : 1 ≤ x.length
    · by_cases h2 : x.length ≤ 10
      · cases hq : x.cps.toList with
        | nil => rw [hx, hq] at h1; simp at h1
        | cons c cs =>
          have h1' : (1 : Int) ≤ x.length := by omega
          have h2' : (x.length : Int) ≤ 10 := by omega
          have hat : atI x.cps.toList 0 = some c := by rw [hq]; simp
          have hlc : mLc C.fuel [1] (iOf (mVar 0)) (gVar 1) L3.tYes (mOrV (mCmp .In (mVar 1) (mC (.str letS))) (mCmp .In (mVar 1) (mC (.str digS)))) [some (.str x), none] S = .ok (.fl (x.cps.toList.map (D.bl ∘ signB))) S := by
            rw [mLc_pure (fun d => match d with
              | .str z => D.bl (match z.cps.toList with | [c] => signB c | _ => false)
              | _ => .non) (ds := x.cps.toList.map fun c => D.str ⟨#[c]⟩) (by simp) (by rw [List.length_map, ← hx]; omega), List.map_map]
            · rfl
            · intro d hd
              obtain ⟨c, _, rfl⟩ := List.mem_map.mp hd
              refine ⟨_, rfl, ?_⟩
              by_cases hc : c ∈ letS.cps.toList
              · simp [wipeE, signB, hc]
              · simp [wipeE, signB, hc]
          by_cases hw : (wordsD.any fun w => eqD w (.str x)) = true
          · simp [env0, isN, lok, hlen, h1', h2', words_in, hw, nameB, nameS]
          · have hw : (wordsD.any fun w => eqD w (.str x)) = false := by simpa using hw
            by_cases hc : c ∈ letS.cps.toList
            · simp [env0, isN, lok, hlen, h1', h2', words_in, hw, hat, hc, hlc, nameB, nameS, h1, h2, hq]
            · simp [env0, isN, lok, hlen, h1', h2', words_in, hw, hat, hc, nameB, nameS, h1, h2, hq]
      · have h2' : ¬ (x.length : Int) ≤ 10 := by omega
        have h1' : (1 : Int) ≤ x.length := by omega
        simp [env0, isN, lok, hlen, h1', h2', nameB, nameS, h2]
    · have h1' : ¬ (1 : Int) ≤ x.length := by omega
      simp [env0, isN, lok, hlen, h1', nameB, nameS, h1]
  | _ => first | (cases h; done) | simp [b_is_name, env0, isN, nameB]
/-- a def of one value that answers a truth and leaves the store -/
structure Pure1 (C : Cfg) (i : Nat) (p : D → Bool) : Prop where
  ar : Ar C i 1
  ok : ∀ (d : D) (S : Store) (n : String), tyOfD d S = some n → (∀ x, d = .str x → x.length ≤ sizeLine) → C.calls i [d] S = .ok (.bl (p d)) S
def firstS (x : Str) : Nat := match x.cps.toList with
  | c :: _ => c
  | [] => 0
def lowB : D → Bool
  | .str x => nameS x && decide (firstS x ∈ smaS.cps.toList)
  | _ => false
def highB : D → Bool
  | .str x => nameS x && !decide (firstS x ∈ smaS.cps.toList)
  | _ => false
def toldB (d : D) : Bool := highB d || (match d with
  | .str x => decide (x = "whole")
  | _ => false)
theorem name_first {x : Str} (h : nameS x = true) : ∃ cs, x.cps.toList = firstS x :: cs := by
  unfold nameS at h
  simp only [Bool.and_eq_true] at h
  have h2 := h.1.2
  unfold firstS
  cases hq : x.cps.toList with
  | nil => rw [hq] at h2; cases h2
  | cons c cs => exact ⟨cs, rfl⟩
theorem is_low_ok {i : Nat} (A : Pure1 C i nameB) (h : tyOfD d S = some n) (hl : ∀ x, d = .str x → x.length ≤ sizeLine) : endD (b_is_low C i (env0 ["x"] [d]) S) = .ok (.bl (lowB d)) S := by
  have hc := A.ok d S n h hl
  have hb : b_is_low C i = sSeq (sRet (mAndV (mCall C i [mVar 0]) (mCmp .In (mIx (mVar 0) (mC (.int 0))) (mC (.str smaS))))) sNext := rfl
  rw [hb]
  cases d with
  | str x =>
    have hlen := hl x rfl
    cases hn : nameS x with
    | false => simp [env0, call1 _ _ _ A.ar, hc, nameB, hn, lowB]
    | true =>
      obtain ⟨cs, hq⟩ := name_first hn
      simp [env0, call1 _ _ _ A.ar, hc, nameB, hn, lowB, lok, hlen, hq]
  | _ => first | (cases h; done) | simp [env0, call1 _ _ _ A.ar, hc, nameB, lowB]
theorem is_high_ok {i : Nat} (A : Pure1 C i nameB) (h : tyOfD d S = some n) (hl : ∀ x, d = .str x → x.length ≤ sizeLine) : endD (b_is_high C i (env0 ["x"] [d]) S) = .ok (.bl (highB d)) S := by
  have hc := A.ok d S n h hl
  have hb : b_is_high C i = sSeq (sRet (mAndV (mCall C i [mVar 0]) (mCmp .NotIn (mIx (mVar 0) (mC (.int 0))) (mC (.str smaS))))) sNext := rfl
  rw [hb]
  cases d with
  | str x =>
    have hlen := hl x rfl
    cases hn : nameS x with
    | false => simp [env0, call1 _ _ _ A.ar, hc, nameB, hn, highB]
    | true =>
      obtain ⟨cs, hq⟩ := name_first hn
      simp [env0, call1 _ _ _ A.ar, hc, nameB, hn, highB, lok, hlen, hq]
  | _ => first | (cases h; done) | simp [env0, call1 _ _ _ A.ar, hc, nameB, highB]
theorem is_told_ok {i : Nat} (A : Pure1 C i highB) (h : tyOfD d S = some n) (hl : ∀ x, d = .str x → x.length ≤ sizeLine) : endD (b_is_told C i (env0 ["x"] [d]) S) = .ok (.bl (toldB d)) S := by
  have hc := A.ok d S n h hl
  cases hh : highB d with
  | true => 
    have hx : noExn d = true := by cases d <;> first | rfl | cases hh
    simp [b_is_told, env0, call1 _ _ _ A.ar, hc, hh, toldB, look_no, hx]
  | false =>
    cases d with
    | ref r =>
      have h : tyO S[r]? = some n := by rw [← ty_ref]; exact h
      rcases tyO_cases h with rfl | rfl <;> simp [b_is_told, env0, call1 _ _ _ A.ar, hc, hh, toldB, h, isN]
    | _ => first | (cases h; done) | simp [b_is_told, env0, call1 _ _ _ A.ar, hc, hh, toldB, isN]
def keptS (x : Str) : Bool := eqD (.str "zz") (.str (cutS x none (some 2))) || eqD (.str "Zz") (.str (cutS x none (some 2)))
theorem is_kept_ok {x : Str} (hl : x.length ≤ sizeLine) : endD (b_is_kept C (env0 ["x"] [.str x]) S) = .ok (.bl (keptS x)) S := by
  have hk : cmpOp .In (.d (.str (cutS x none (some 2)))) (.d (.tup [.str "zz", .str "Zz"])) S = some ([D.str "zz", .str "Zz"].any fun e => eqD e (.str (cutS x none (some 2)))) := in_tup S _ (by simp) rfl (by decide)
  simp only [List.any_cons, List.any_nil, Bool.or_false] at hk
  simp [b_is_kept, env0, lok, hl, hk, keptS]
def withinB (a b : Int) : D → Bool
  | .int i => decide (a ≤ i) && decide (i ≤ b)
  | _ => false
theorem within_ok {i : Nat} (A : Pure1 C i intB) (h : tyOfD d S = some n) (hl : ∀ x, d = .str x → x.length ≤ sizeLine) (a b : Int) : endD (b_within C i (env0 ["x", "low", "high"] [d, .int a, .int b]) S) = .ok (.bl (withinB a b d)) S := by
  have hc := A.ok d S n h hl
  cases d with
  | int j => by_cases h1 : a ≤ j <;> simp [b_within, env0, call1 _ _ _ A.ar, hc, intB, withinB, h1]
  | _ => first | (cases h; done) | simp [b_within, env0, call1 _ _ _ A.ar, hc, intB, withinB]
end
end L3


/-! L4G: trees.py: Form. -/
namespace L3
open PySem PySem.Spec PyProof.Rows L2
def b_Form___init__ (C : Cfg) : DS := sSeq (sAsg (mSl (mVar 1) oNone (oSome (mC (.int 6)))) (L3.gTup [gFld C (mVar 0) "kinds", gFld C (mVar 0) "makers", gFld C (mVar 0) "fields", gFld C (mVar 0) "families", gFld C (mVar 0) "defs", gFld C (mVar 0) "params"])) (sSeq (sAsg (mSl (mVar 1) (oSome (mC (.int 6))) oNone) (L3.gTup [gFld C (mVar 0) "parts", gFld C (mVar 0) "deepest"])) (sSeq (sAsg (mC (.int 0)) (gFld C (mVar 0) "spare")) sNext))
def b_Form_take (C : Cfg) : DS := sSeq (sAugF C .Sub (mVar 0) "spare" (mVar 1)) (sSeq (sRet (mCmp .GtE (mFld C (mVar 0) "spare") (mC (.int 0)))) sNext)
def b_Form_is_maker (C : Cfg) (f_is_told : Nat) (f_is_tuple : Nat) (f_is_high : Nat) : DS := sSeq (sIf (L3.tOr (tNot (tOf (mCall C f_is_tuple [mVar 1, mC (.int 2), mC (.int 2)]))) (L3.tOr (tNot (tOf (mCall C f_is_high [mIx (mVar 1) (mC (.int 0))]))) (tNot (tOf (mCall C f_is_tuple [mIx (mVar 1) (mC (.int 1)), mC (.int 0), mFld C (mVar 0) "fields"]))))) (sSeq (sRet (mC (.bl false))) sNext) sNext) (sSeq (sRet (mB1 .all (mLc C.fuel [2] (iOf (mIx (mVar 1) (mC (.int 1)))) (gVar 2) L3.tYes (mCall C f_is_told [mVar 2])))) sNext)
def b_Form_is_kind (C : Cfg) (f_is_tuple : Nat) (f_is_high : Nat) : DS := sSeq (sIf (L3.tOr (tNot (tOf (mCall C f_is_tuple [mVar 1, mC (.int 2), mC (.int 2)]))) (L3.tOr (tNot (tOf (mCall C f_is_high [mIx (mVar 1) (mC (.int 0))]))) (tNot (tOf (mCall C f_is_tuple [mIx (mVar 1) (mC (.int 1)), mC (.int 1), mFld C (mVar 0) "makers"]))))) (sSeq (sRet (mC (.bl false))) sNext) sNext) (sSeq (sRet (mB1 .all (mLc C.fuel [2] (iOf (mIx (mVar 1) (mC (.int 1)))) (gVar 2) L3.tYes (mMeth C "is_maker" (mVar 0) [mVar 2])))) sNext)
def b_Form_is_param (C : Cfg) (f_is_told : Nat) (f_is_low : Nat) (f_is_tuple : Nat) : DS := sSeq (sRet (mAndV (mCall C f_is_tuple [mVar 1, mC (.int 2), mC (.int 2)]) (mAndV (mCall C f_is_low [mIx (mVar 1) (mC (.int 0))]) (mCall C f_is_told [mIx (mVar 1) (mC (.int 1))])))) sNext
def b_Form_is_unit (C : Cfg) (f_is_told : Nat) (f_is_low : Nat) (f_is_tuple : Nat) : DS := sSeq (sIf (L3.tOr (tNot (tOf (mCall C f_is_tuple [mVar 1, mC (.int 4), mC (.int 4)]))) (L3.tOr (tNot (tOf (mCall C f_is_low [mIx (mVar 1) (mC (.int 0))]))) (tNot (tOf (mCall C f_is_told [mIx (mVar 1) (mC (.int 2))]))))) (sSeq (sRet (mC (.bl false))) sNext) sNext) (sSeq (sAsg (mFld C (mVar 0) "parts") (gFld C (mVar 0) "spare")) (sSeq (sRet (mMeth C "is_body" (mVar 0) [mIx (mVar 1) (mC (.int 3)), mC (.int 1)])) sNext))
def b_Form_is_family (C : Cfg) (f_is_low : Nat) : DS := sSeq (sRet (mAndV (mMeth C "is_unit" (mVar 0) [mVar 1]) (mCall C f_is_low [mIx (mVar 1) (mC (.int 1))]))) sNext
def b_Form_is_def (C : Cfg) (f_is_tuple : Nat) : DS := sSeq (sIf (L3.tOr (tNot (tOf (mMeth C "is_unit" (mVar 0) [mVar 1]))) (tNot (tOf (mCall C f_is_tuple [mIx (mVar 1) (mC (.int 1)), mC (.int 0), mFld C (mVar 0) "params"])))) (sSeq (sRet (mC (.bl false))) sNext) sNext) (sSeq (sRet (mB1 .all (mLc C.fuel [2] (iOf (mIx (mVar 1) (mC (.int 1)))) (gVar 2) L3.tYes (mMeth C "is_param" (mVar 0) [mVar 2])))) sNext)
def b_Form_are_lows (C : Cfg) (f_is_low : Nat) : DS := sSeq (sRet (mAndV (mMeth C "take" (mVar 0) [mB1 .len (mVar 1)]) (mB1 .all (mLc C.fuel [2] (iOf (mVar 1)) (gVar 2) L3.tYes (mCall C f_is_low [mVar 2]))))) sNext
def b_Form_are_expressions (C : Cfg) : DS := sSeq (sFor C.fuel (iOf (mVar 1)) (gVar 3) (sSeq (sIf (tNot (tOf (mMeth C "is_expression" (mVar 0) [mVar 3, mVar 2]))) (sSeq (sRet (mC (.bl false))) sNext) sNext) sNext)) (sSeq (sRet (mC (.bl true))) sNext)
def b_Form_are_args (C : Cfg) (f_is_tuple : Nat) : DS := sSeq (sRet (mAndV (mCall C f_is_tuple [mVar 1, mC (.int 0), mVar 2]) (mMeth C "are_expressions" (mVar 0) [mVar 1, mVar 3]))) sNext
def b_Form_is_expression (C : Cfg) (f_is_low : Nat) (f_is_high : Nat) (f_within : Nat) (f_is_tuple : Nat) : DS := sSeq (sIf (L3.tOr (tOf (mCmp .Gt (mVar 2) (mFld C (mVar 0) "deepest"))) (L3.tOr (tNot (tOf (mCall C f_is_tuple [mVar 1, mC (.int 2), mC (.int 4)]))) (L3.tOr (tNot (tOf (mMeth C "take" (mVar 0) [mC (.int 1)]))) (tNot (tOf (mIsi .str (mIx (mVar 1) (mC (.int 0))))))))) (sSeq (sRet (mC (.bl false))) sNext) sNext) (sSeq (sAsg (mIx (mVar 1) (mC (.int 0))) (gVar 3)) (sSeq (sIf (tOf (mCmp .Eq (mB1 .len (mVar 1)) (mC (.int 2)))) (sSeq (sIf (tOf (mCmp .Eq (mVar 3) (mC (.str "num")))) (sSeq (sRet (mCall C f_within [mIx (mVar 1) (mC (.int 1)), mNeg (mC (.int 1000000000000)), mC (.int 1000000000000)])) sNext) sNext) (sSeq (sIf (tOf (mCmp .Eq (mVar 3) (mC (.str "do")))) (sSeq (sRet (mMeth C "is_body" (mVar 0) [mIx (mVar 1) (mC (.int 1)), mBin .Add (mVar 2) (mC (.int 1))])) sNext) sNext) (sSeq (sRet (mAndV (mCmp .Eq (mVar 3) (mC (.str "name"))) (mCall C f_is_low [mIx (mVar 1) (mC (.int 1))]))) sNext))) sNext) (sSeq (sIf (tOf (mCmp .Eq (mB1 .len (mVar 1)) (mC (.int 4)))) (sSeq (sRet (mAndV (mCmp .Eq (mVar 3) (mC (.str "op"))) (mAndV (mCmp .In (mIx (mVar 1) (mC (.int 1))) (mTup [mC (.str "+"), mC (.str "-")])) (mMeth C "are_expressions" (mVar 0) [mSl (mVar 1) (oSome (mC (.int 2))) oNone, mBin .Add (mVar 2) (mC (.int 1))])))) sNext) sNext) (sSeq (sIf (tOf (mCmp .Eq (mVar 3) (mC (.str "make")))) (sSeq (sRet (mAndV (mCall C f_is_high [mIx (mVar 1) (mC (.int 1))]) (mMeth C "are_args" (mVar 0) [mIx (mVar 1) (mC (.int 2)), mFld C (mVar 0) "fields", mBin .Add (mVar 2) (mC (.int 1))]))) sNext) sNext) (sSeq (sIf (tOf (mCmp .Eq (mVar 3) (mC (.str "call")))) (sSeq (sRet (mAndV (mCall C f_is_low [mIx (mVar 1) (mC (.int 1))]) (mMeth C "are_args" (mVar 0) [mIx (mVar 1) (mC (.int 2)), mFld C (mVar 0) "params", mBin .Add (mVar 2) (mC (.int 1))]))) sNext) sNext) (sSeq (sIf (L3.tOr (tOf (mCmp .NotEq (mVar 3) (mC (.str "look")))) (tOf (mCmp .Eq (mFld C (mVar 0) "families") (mC (.int 0))))) (sSeq (sRet (mC (.bl false))) sNext) sNext) (sSeq (sRet (mAndV (mCall C f_is_low [mIx (mVar 1) (mC (.int 1))]) (mMeth C "is_expression" (mVar 0) [mIx (mVar 1) (mC (.int 2)), mBin .Add (mVar 2) (mC (.int 1))]))) sNext)))))))
def b_Form_is_branch (C : Cfg) (f_is_tuple : Nat) (f_is_high : Nat) : DS := sSeq (sIf (L3.tOr (tNot (tOf (mCall C f_is_tuple [mVar 1, mC (.int 3), mC (.int 3)]))) (L3.tOr (tNot (tOf (mCall C f_is_high [mIx (mVar 1) (mC (.int 0))]))) (tNot (tOf (mCall C f_is_tuple [mIx (mVar 1) (mC (.int 1)), mC (.int 0), mFld C (mVar 0) "fields"]))))) (sSeq (sRet (mC (.bl false))) sNext) sNext) (sSeq (sRet (mAndV (mMeth C "are_lows" (mVar 0) [mIx (mVar 1) (mC (.int 1))]) (mMeth C "is_body" (mVar 0) [mIx (mVar 1) (mC (.int 2)), mVar 2]))) sNext)
def b_Form_is_body (C : Cfg) (f_is_tuple : Nat) : DS := sSeq (sIf (L3.tOr (tOf (mCmp .Gt (mVar 2) (mFld C (mVar 0) "deepest"))) (L3.tOr (tNot (tOf (mCall C f_is_tuple [mVar 1, mC (.int 2), mC (.int 5)]))) (L3.tOr (tNot (tOf (mMeth C "take" (mVar 0) [mC (.int 1)]))) (tNot (tOf (mIsi .str (mIx (mVar 1) (mC (.int 0))))))))) (sSeq (sRet (mC (.bl false))) sNext) sNext) (sSeq (sAsg (mIx (mVar 1) (mC (.int 0))) (gVar 3)) (sSeq (sIf (tOf (mCmp .Eq (mVar 3) (mC (.str "give")))) (sSeq (sRet (mAndV (mCmp .Eq (mB1 .len (mVar 1)) (mC (.int 2))) (mMeth C "is_expression" (mVar 0) [mIx (mVar 1) (mC (.int 1)), mBin .Add (mVar 2) (mC (.int 1))]))) sNext) sNext) (sSeq (sIf (tOf (mCmp .Eq (mVar 3) (mC (.str "let")))) (sSeq (sIf (L3.tOr (tOf (mCmp .NotEq (mB1 .len (mVar 1)) (mC (.int 4)))) (tNot (tOf (mMeth C "are_lows" (mVar 0) [mLst [mIx (mVar 1) (mC (.int 1))]])))) (sSeq (sRet (mC (.bl false))) sNext) sNext) (sSeq (sRet (mAndV (mMeth C "is_expression" (mVar 0) [mIx (mVar 1) (mC (.int 2)), mBin .Add (mVar 2) (mC (.int 1))]) (mMeth C "is_body" (mVar 0) [mIx (mVar 1) (mC (.int 3)), mBin .Add (mVar 2) (mC (.int 1))]))) sNext)) sNext) (sSeq (sIf (tOf (mCmp .Eq (mVar 3) (mC (.str "if")))) (sSeq (sIf (L3.tOr (tOf (mCmp .NotEq (mB1 .len (mVar 1)) (mC (.int 5)))) (tNot (tOf (mMeth C "are_expressions" (mVar 0) [mSl (mVar 1) (oSome (mC (.int 1))) (oSome (mC (.int 3))), mBin .Add (mVar 2) (mC (.int 1))])))) (sSeq (sRet (mC (.bl false))) sNext) sNext) (sSeq (sRet (mAndV (mMeth C "is_body" (mVar 0) [mIx (mVar 1) (mC (.int 3)), mBin .Add (mVar 2) (mC (.int 1))]) (mMeth C "is_body" (mVar 0) [mIx (mVar 1) (mC (.int 4)), mBin .Add (mVar 2) (mC (.int 1))]))) sNext)) sNext) (sSeq (sIf (L3.tOr (tOf (mCmp .NotEq (mVar 3) (mC (.str "match")))) (L3.tOr (tOf (mCmp .NotEq (mB1 .len (mVar 1)) (mC (.int 3)))) (tNot (tOf (mMeth C "is_expression" (mVar 0) [mIx (mVar 1) (mC (.int 1)), mBin .Add (mVar 2) (mC (.int 1))]))))) (sSeq (sRet (mC (.bl false))) sNext) sNext) (sSeq (sIf (tNot (tOf (mCall C f_is_tuple [mIx (mVar 1) (mC (.int 2)), mC (.int 1), mFld C (mVar 0) "makers"]))) (sSeq (sRet (mC (.bl false))) sNext) sNext) (sSeq (sFor C.fuel (iOf (mIx (mVar 1) (mC (.int 2)))) (gVar 4) (sSeq (sIf (tNot (tOf (mMeth C "is_branch" (mVar 0) [mVar 4, mBin .Add (mVar 2) (mC (.int 1))]))) (sSeq (sRet (mC (.bl false))) sNext) sNext) sNext)) (sSeq (sRet (mC (.bl true))) sNext))))))))
def b_is_tree (C : Cfg) (f_is_tuple : Nat) (c_Form : Nat) : DS := sSeq (sAsg (mMake C c_Form [mVar 1]) (gVar 2)) (sSeq (sIf (L3.tOr (tNot (tOf (mCall C f_is_tuple [mVar 0, mC (.int 3), mC (.int 3)]))) (tNot (tOf (mCall C f_is_tuple [mIx (mVar 0) (mC (.int 0)), mC (.int 0), mFld C (mVar 2) "kinds"])))) (sSeq (sRet (mC (.bl false))) sNext) sNext) (sSeq (sIf (L3.tOr (tNot (tOf (mCall C f_is_tuple [mIx (mVar 0) (mC (.int 1)), mC (.int 0), mFld C (mVar 2) "families"]))) (tNot (tOf (mCall C f_is_tuple [mIx (mVar 0) (mC (.int 2)), mC (.int 0), mFld C (mVar 2) "defs"])))) (sSeq (sRet (mC (.bl false))) sNext) sNext) (sSeq (sIf (L3.tOr (tNot (tOf (mB1 .all (mLc C.fuel [3] (iOf (mIx (mVar 0) (mC (.int 0)))) (gVar 3) L3.tYes (mMeth C "is_kind" (mVar 2) [mVar 3]))))) (tNot (tOf (mB1 .all (mLc C.fuel [3] (iOf (mIx (mVar 0) (mC (.int 1)))) (gVar 3) L3.tYes (mMeth C "is_family" (mVar 2) [mVar 3])))))) (sSeq (sRet (mC (.bl false))) sNext) sNext) (sSeq (sRet (mB1 .all (mLc C.fuel [3] (iOf (mIx (mVar 0) (mC (.int 2)))) (gVar 3) L3.tYes (mMeth C "is_def" (mVar 2) [mVar 3])))) sNext))))
def b_strings_in (C : Cfg) : DS := sSeq (sPar [mLst [], mLst [mVar 0]] [1, 2]) (sSeq (sWhile (tOf (mCmp .NotEq (mVar 2) (mLst []))) (sSeq (sAsg (mMeth C "pop" (mVar 2) []) (gVar 3)) (sSeq (sIf (tOf (mIsi .str (mVar 3))) (sSeq (sExpr (mMeth C "append" (mVar 1) [mVar 3])) sNext) (sSeq (sIf (tOf (mIsi .tuple (mVar 3))) (sSeq (sExpr (mMeth C "extend" (mVar 2) [mVar 3])) sNext) sNext) sNext)) sNext)) C.fuel) (sSeq (sRet (mVar 1)) sNext))
def b_is_program (C : Cfg) (f_strings_in : Nat) (f_is_kept : Nat) (f_is_tree : Nat) : DS := sSeq (sRet (mAndV (mCall C f_is_tree [mVar 0, mC (.tup [(.int 16), (.int 8), (.int 8), (.int 16), (.int 100), (.int 16), (.int 300), (.int 40)])]) (ofT (tNot (tOf (mB1 .any (mLc C.fuel [1] (iOf (mCall C f_strings_in [mVar 0])) (gVar 1) L3.tYes (mCall C f_is_kept [mVar 1])))))))) sNext
def b_is_plain (C : Cfg) (f_is_tree : Nat) : DS := sSeq (sRet (mCall C f_is_tree [mVar 0, mC (.tup [(.int 40), (.int 8), (.int 16), (.int 0), (.int 150), (.int 20), (.int 700), (.int 50)])])) sNext
structure Lim where
  kinds : Int
  makers : Int
  fields : Int
  families : Int
  defs : Int
  params : Int
  parts : Int
  deepest : Int
def formF (L : Lim) (sp : Int) : List (Str × D) := [("kinds", .int L.kinds), ("makers", .int L.makers), ("fields", .int L.fields), ("families", .int L.families), ("defs", .int L.defs), ("params", .int L.params), ("parts", .int L.parts), ("deepest", .int L.deepest), ("spare", .int sp)]
def formO (c : Nat) (L : Lim) (sp : Int) : O := .ins c (formF L sp)
/-- the class's attributes may be looked at -/
structure FormF (C : Cfg) (c : Nat) : Prop where
  kinds : C.fld c "kinds" = true
  makers : C.fld c "makers" = true
  fields : C.fld c "fields" = true
  families : C.fld c "families" = true
  defs : C.fld c "defs" = true
  params : C.fld c "params" = true
  parts : C.fld c "parts" = true
  deepest : C.fld c "deepest" = true
  spare : C.fld c "spare" = true
section
variable {C : Cfg} {c r : Nat} {L : Lim} {sp : Int} {S : Store}
theorem meth_1 {i : Nat} {m : Str} {gs : List (Str × D)} (f : DX) (e : Env) (hs : S[r]? = some (.ins c gs)) (hg : gs.lookup m = none) (hm : C.mth c m = some i) (A : Ar C i 2) : methD C m [f] e (.ref r) S = (mD f e S).bind fun d S1 => xv (C.calls i [.ref r, d] S1) := by
  have hf : ∀ d d2, fillD C i [d, d2] = [d, d2] := fun d d2 => ar_fill A rfl
  rw [meth_ins C m [f] e S r hs hg hm (ar_ok A)]
  simp only [mArgs_cons, mArgs_nil, Out.bind_assoc, Out.bind_ok, hf]
theorem meth_2 {i : Nat} {m : Str} {gs : List (Str × D)} (f g : DX) (e : Env) (hs : S[r]? = some (.ins c gs)) (hg : gs.lookup m = none) (hm : C.mth c m = some i) (A : Ar C i 3) : methD C m [f, g] e (.ref r) S = (mD f e S).bind fun d S1 => (mD g e S1).bind fun d2 S2 => xv (C.calls i [.ref r, d, d2] S2) := by
  have hf : ∀ d d2 d3, fillD C i [d, d2, d3] = [d, d2, d3] := fun d d2 d3 => ar_fill A rfl
  rw [meth_ins C m [f, g] e S r hs hg hm (ar_ok A)]
  simp only [mArgs_cons, mArgs_nil, Out.bind_assoc, Out.bind_ok, hf]
theorem take_ok (hF : FormF C c) (hs : S[r]? = some (formO c L sp)) (many : Int) : endD (b_Form_take C (env0 ["self", "many"] [.ref r, .int many]) S) = .ok (.bl (decide (0 ≤ sp - many))) (S.set r (formO c L (sp - many))) := by
  have hlt : r < S.length := (List.getElem?_eq_some_iff.mp hs).1
  have hs' : S[r]? = some (.ins c (formF L sp)) := hs
  have hl : (formF L sp).lookup ("spare" : Str) = some (.int sp) := by unfold formF; kernel_rfl
  have h1 := fun f e => augF2_ok (C := C) f e S r (fo := fun x y => x - y) hs' hF.spare hl
  have h2 := fun e => augF1_ok e S r (fo := fun x y => x - y) (z := "spare") (i := sp) (j := many) hs' (by simp [formF])
  have h3 : putFD "spare" (.int (sp - many)) (formF L sp) = formF L (sp - many) := by unfold formF; kernel_rfl
  have h4 : (S.set r (.ins c (formF L (sp - many))))[r]? = some (.ins c (formF L (sp - many))) := List.getElem?_set_self hlt
  have h5 : (formF L (sp - many)).lookup ("spare" : Str) = some (.int (sp - many)) := by unfold formF; kernel_rfl
  simp [b_Form_take, env0, h1, h2, h3, h4, fldO_ins, hF.spare, h5, formO]
end
/-! ### things that may be looked at -/
/-- a sum's sign is no list, no tuple -/
def opF : List D → Bool
  | [.str w, a, _, _] => !decide (w = "op") || flatD a
  | _ => true
mutual
def okD (S : Store) : D → Prop
  | .non => True
  | .bl _ => True
  | .int _ => True
  | .str x => x.length ≤ sizeLine
  | .tup ds => ds.length < sizeLine ∧ okDs S ds ∧ opF ds = true
  | .ref r => ∃ l, S[r]? = some (.lst l)
  | _ => False
def okDs (S : Store) : List D → Prop
  | [] => True
  | d :: ds => okD S d ∧ okDs S ds
end
theorem okD.items {S : Store} {ds : List D} (h : okD S (.tup ds)) : okDs S ds := h.2.1
theorem okDs.get {S : Store} : ∀ {ds : List D} {i : Nat} {d : D}, okDs S ds → ds[i]? = some d → okD S d
  | [], _, _, _, h => by cases h
  | _ :: _, 0, _, a, h => by cases h; exact a.1
  | _ :: ds, i + 1, _, a, h => okDs.get (ds := ds) a.2 h
theorem okDs.mem {S : Store} {ds : List D} {d : D} (h : okDs S ds) (m : d ∈ ds) : okD S d := by
  obtain ⟨i, hi, e⟩ := List.mem_iff_getElem.mp m
  exact h.get (i := i) (by rw [List.getElem?_eq_getElem hi, e])
theorem okD.ty {S : Store} {d : D} (h : okD S d) : ∃ n, tyOfD d S = some n := by
  cases d with
  | ref r => obtain ⟨l, e⟩ := h; exact ⟨"list", by rw [ty_ref, e]; rfl⟩
  | fn _ => exact h.elim
  | exn _ => exact h.elim
  | kl _ => exact h.elim
  | _ => exact ⟨_, rfl⟩
theorem okD.len {S : Store} {d : D} (h : okD S d) : ∀ x, d = .str x → x.length ≤ sizeLine := fun x e => by subst e; exact h
theorem okD.no {S : Store} {d : D} (h : okD S d) : noExn d = true := by cases d <;> first | rfl | exact h.elim
mutual
theorem okD.keep {S S' : Store} {ks : List Nat} (k : Keep ks S S') (hk : ∀ q ∈ ks, ∀ l, S[q]? ≠ some (.lst l)) : ∀ {d : D}, okD S d → okD S' d
  | .non, _ => trivial
  | .bl _, _ => trivial
  | .int _, _ => trivial
  | .str _, h => h
  | .tup ds, h => ⟨h.1, okDs.keep k hk h.2.1, h.2.2⟩
  | .ref r, ⟨l, e⟩ => ⟨l, k.at e fun m => hk r m l e⟩
  | .fn _, h => h.elim
  | .exn _, h => h.elim
  | .kl _, h => h.elim
theorem okDs.keep {S S' : Store} {ks : List Nat} (k : Keep ks S S') (hk : ∀ q ∈ ks, ∀ l, S[q]? ≠ some (.lst l)) : ∀ {ds : List D}, okDs S ds → okDs S' ds
  | [], _ => trivial
  | _ :: _, h => ⟨okD.keep k hk h.1, okDs.keep k hk h.2⟩
end
end L3


/-! L4H: defs by levels; names.py, the plain methods of Form. -/
namespace L3
open PySem PySem.Spec PyProof.Rows L2
theorem ofStr_inj {a b : String} (h : Str.ofString a = Str.ofString b) : a = b := by
  rw [Str.ofString_eq_toList, Str.ofString_eq_toList] at h
  have h1 : a.toList.map Char.toNat = b.toList.map Char.toNat := by
    have := congrArg (fun s : Str => s.cps.toList) h
    simpa using this
  have h2 : a.toList = b.toList := (List.map_inj_right (fun c d e => Char.ext (UInt32.toNat_inj.mp e))).mp h1
  exact String.toList_inj.mp h2
/-- two written texts are alike if they are written alike -/
@[simp] theorem ofStr_eq (a b : String) : (Str.ofString a = Str.ofString b) = (a = b) := propext ⟨ofStr_inj, fun h => by rw [h]⟩
/-- a def of the text: its slots, what its body means, at all levels -/
structure Pr (C : Cfg) (F : Nat → FI) (i : Nat) (N : List Str) (n : Nat) (b : Cfg → DS) : Prop where
  ar : Ar C i n
  ok : ∀ k ds S, callsN C F (k + 1) i ds S = endD (b (cfgN C F k) (env0 N ds) S)
section
variable {C : Cfg} {F : Nat → FI}
theorem Pr.at {i n : Nat} {N : List Str} {b : Cfg → DS} (P : Pr C F i N n b) {k : Nat} (hk : 1 ≤ k) (ds : List D) (S : Store) : (cfgN C F k).calls i ds S = endD (b (cfgN C F (k - 1)) (env0 N ds) S) := by
  obtain ⟨m, rfl⟩ : ∃ m, k = m + 1 := ⟨k - 1, by omega⟩
  exact P.ok m ds S
theorem Pr.ark {i n : Nat} {N : List Str} {b : Cfg → DS} (P : Pr C F i N n b) (k : Nat) : Ar (cfgN C F k) i n := ⟨P.ar.a, P.ar.d⟩
structure NamesI where
  is_int : Nat
  within : Nat
  is_tuple : Nat
  is_name : Nat
  is_low : Nat
  is_high : Nat
  is_told : Nat
  is_kept : Nat
structure NamesP (C : Cfg) (F : Nat → FI) (I : NamesI) : Prop where
  is_int : Pr C F I.is_int ["x"] 1 b_is_int
  within : Pr C F I.within ["x", "low", "high"] 3 (fun C => b_within C I.is_int)
  is_tuple : Pr C F I.is_tuple ["thing", "least", "most"] 3 b_is_tuple
  is_name : Pr C F I.is_name ["x", "sign"] 1 b_is_name
  is_low : Pr C F I.is_low ["x"] 1 (fun C => b_is_low C I.is_name)
  is_high : Pr C F I.is_high ["x"] 1 (fun C => b_is_high C I.is_name)
  is_told : Pr C F I.is_told ["x"] 1 (fun C => b_is_told C I.is_high)
  is_kept : Pr C F I.is_kept ["x"] 1 b_is_kept
structure TupOk (C : Cfg) (i : Nat) : Prop where
  ar : Ar C i 3
  ok : ∀ (d : D) (S : Store) (n : String) (a b : Int), tyOfD d S = some n → C.calls i [d, .int a, .int b] S = .ok (.bl (tupB a b d)) S
structure WithinOk (C : Cfg) (i : Nat) : Prop where
  ar : Ar C i 3
  ok : ∀ (d : D) (S : Store) (n : String) (a b : Int), tyOfD d S = some n → (∀ x, d = .str x → x.length ≤ sizeLine) → C.calls i [d, .int a, .int b] S = .ok (.bl (withinB a b d)) S
structure KeptOk (C : Cfg) (i : Nat) : Prop where
  ar : Ar C i 1
  ok : ∀ (x : Str) (S : Store), x.length ≤ sizeLine → C.calls i [.str x] S = .ok (.bl (keptS x)) S
variable {I : NamesI} (P : NamesP C F I) {k : Nat}
include P
theorem NamesP.int_k (hk : 1 ≤ k) : Pure1 (cfgN C F k) I.is_int intB where
  ar := P.is_int.ark k
  ok d S n h hl := by rw [P.is_int.at hk]; exact is_int_ok _ h
theorem NamesP.within_k (hk : 2 ≤ k) : WithinOk (cfgN C F k) I.within where
  ar := P.within.ark k
  ok d S n a b h hl := by rw [P.within.at (by omega)]; exact within_ok _ (P.int_k (by omega)) h hl a b
theorem NamesP.tup_k (hk : 1 ≤ k) : TupOk (cfgN C F k) I.is_tuple where
  ar := P.is_tuple.ark k
  ok d S n a b h := by rw [P.is_tuple.at hk]; exact is_tuple_ok _ h a b
theorem NamesP.name_k (hk : 1 ≤ k) : Pure1 (cfgN C F k) I.is_name nameB where
  ar := P.is_name.ark k
  ok d S n h hl := by rw [P.is_name.at hk]; exact is_name_ok _ h hl
theorem NamesP.low_k (hk : 2 ≤ k) : Pure1 (cfgN C F k) I.is_low lowB where
  ar := P.is_low.ark k
  ok d S n h hl := by rw [P.is_low.at (by omega)]; exact is_low_ok _ (P.name_k (by omega)) h hl
theorem NamesP.high_k (hk : 2 ≤ k) : Pure1 (cfgN C F k) I.is_high highB where
  ar := P.is_high.ark k
  ok d S n h hl := by rw [P.is_high.at (by omega)]; exact is_high_ok _ (P.name_k (by omega)) h hl
theorem NamesP.told_k (hk : 3 ≤ k) : Pure1 (cfgN C F k) I.is_told toldB where
  ar := P.is_told.ark k
  ok d S n h hl := by rw [P.is_told.at (by omega)]; exact is_told_ok _ (P.high_k (by omega)) h hl
theorem NamesP.kept_k (hk : 1 ≤ k) : KeptOk (cfgN C F k) I.is_kept where
  ar := P.is_kept.ark k
  ok x S hl := by rw [P.is_kept.at hk]; exact is_kept_ok _ hl
end
/-! ### what the plain methods answer -/
def itemsT : D → List D
  | .tup ds => ds
  | _ => []
def makerB (L : Lim) : D → Bool
  | .tup [a, b] => highB a && (tupB 0 L.fields b && (itemsT b).all toldB)
  | _ => false
def kindB (L : Lim) : D → Bool
  | .tup [a, b] => highB a && (tupB 1 L.makers b && (itemsT b).all (makerB L))
  | _ => false
def paramB : D → Bool
  | .tup [a, b] => lowB a && toldB b
  | _ => false
theorem len2 {ds : List D} (h : ds.length = 2) : ∃ a b, ds = [a, b] := by
  match ds, h with
  | [a, b], _ => exact ⟨a, b, rfl⟩
theorem len3 {ds : List D} (h : ds.length = 3) : ∃ a b c, ds = [a, b, c] := by
  match ds, h with
  | [a, b, c], _ => exact ⟨a, b, c, rfl⟩
theorem len4 {ds : List D} (h : ds.length = 4) : ∃ a b c d, ds = [a, b, c, d] := by
  match ds, h with
  | [a, b, c, d], _ => exact ⟨a, b, c, d, rfl⟩
theorem len5 {ds : List D} (h : ds.length = 5) : ∃ a b c d e, ds = [a, b, c, d, e] := by
  match ds, h with
  | [a, b, c, d, e], _ => exact ⟨a, b, c, d, e, rfl⟩
/-- a pair, or none -/
theorem tup2 (d : D) : (tupB 2 2 d = true ∧ ∃ a b, d = .tup [a, b]) ∨ (tupB 2 2 d = false ∧ ∀ a b, d ≠ .tup [a, b]) := by
  cases d with
  | tup ds =>
    by_cases h : ds.length = 2
    · obtain ⟨a, b, rfl⟩ := len2 h
      exact .inl ⟨rfl, a, b, rfl⟩
    · refine .inr ⟨?_, fun a b e => h (by cases e; rfl)⟩
      unfold tupB
      have : ¬ ((2 : Int) ≤ ds.length ∧ (ds.length : Int) ≤ 2) := by omega
      cases hh : (decide ((2 : Int) ≤ ds.length) && decide ((ds.length : Int) ≤ 2)) with
      | false => exact hh
      | true => simp only [Bool.and_eq_true, decide_eq_true_eq] at hh; exact absurd hh this
  | _ => exact .inr ⟨rfl, fun a b e => by cases e⟩
section
variable {C : Cfg} {c r ih it io : Nat} {L : Lim} {sp : Int} {S : Store} {d : D}
theorem fieldsL {hF : FormF C c} (hs : S[r]? = some (formO c L sp)) : fldO C "fields" S S[r]? = .ok (.d (.int L.fields)) S := by
  rw [hs]
  show fldO C "fields" S (some (.ins c (formF L sp))) = _
  rw [fldO_ins S hF.fields]
  rfl
theorem is_maker_ok (hF : FormF C c) (hs : S[r]? = some (formO c L sp)) (T : TupOk C it) (H : Pure1 C ih highB) (O : Pure1 C io toldB) (hd : okD S d) :
    endD (b_Form_is_maker C io it ih (env0 ["self", "thing", "field"] [.ref r, d]) S) = .ok (.bl (makerB L d)) S := by
  obtain ⟨n, hn⟩ := hd.ty
  have hno := hd.no
  have hc := fun a b => T.ok d S n a b hn
  rcases tup2 d with ⟨h, a, b, rfl⟩ | ⟨h, h2⟩
  · have ha : okD S a := hd.items.1
    have hb : okD S b := hd.items.2.1
    obtain ⟨na, hna⟩ := ha.ty
    obtain ⟨nb, hnb⟩ := hb.ty
    have hca := H.ok a S na hna ha.len
    have hcb := T.ok b S nb 0 L.fields hnb
    cases q1 : highB a with
    | false => simp [b_Form_is_maker, env0, call3 _ _ _ _ _ T.ar, call1 _ _ _ H.ar, hc, h, hca, q1, makerB]
    | true =>
      cases q2 : tupB 0 L.fields b with
      | false => simp [b_Form_is_maker, env0, call3 _ _ _ _ _ T.ar, call1 _ _ _ H.ar, hc, h, hca, q1, makerB, fieldsL (hF := hF) hs, hcb, q2]
      | true =>
        cases b with
        | tup ds =>
          have od : okDs S ds := hb.items
          have hlc : mLc C.fuel [2] (iOf (mIx (mVar 1) (mC (.int 1)))) (gVar 2) L3.tYes (mCall C io [mVar 2]) [some (.ref r), some (.tup [a, .tup ds]), none] S = .ok (.fl (ds.map fun d => .bl (toldB d))) S := by
            refine mLc_pure (fun d => .bl (toldB d)) (by simp) hb.1 fun d hd => ⟨_, rfl, ?_⟩
            obtain ⟨n, hn⟩ := (od.mem hd).ty
            simp [wipeE, call1 _ _ _ O.ar, look_no _ (od.mem hd).no, O.ok d S n hn (od.mem hd).len]
          simp [b_Form_is_maker, env0, call3 _ _ _ _ _ T.ar, call1 _ _ _ H.ar, hc, h, hca, q1, makerB, fieldsL (hF := hF) hs, hcb, q2, hlc, itemsT]
        | _ => cases q2
  · have : makerB L d = false := by
      unfold makerB
      split
      · exact absurd rfl (h2 _ _)
      · rfl
    simp [b_Form_is_maker, env0, call3 _ _ _ _ _ T.ar, hc, h, this, hno]
theorem is_param_ok {il io : Nat} (T : TupOk C it) (H : Pure1 C il lowB) (O : Pure1 C io toldB) (hd : okD S d) :
    endD (b_Form_is_param C io il it (env0 ["self", "thing"] [.ref r, d]) S) = .ok (.bl (paramB d)) S := by
  obtain ⟨n, hn⟩ := hd.ty
  have hno := hd.no
  have hc := fun a b => T.ok d S n a b hn
  rcases tup2 d with ⟨h, a, b, rfl⟩ | ⟨h, h2⟩
  · have ha : okD S a := hd.items.1
    have hb : okD S b := hd.items.2.1
    obtain ⟨na, hna⟩ := ha.ty
    obtain ⟨nb, hnb⟩ := hb.ty
    have hca := H.ok a S na hna ha.len
    have hcb := O.ok b S nb hnb hb.len
    cases q1 : lowB a <;> simp [b_Form_is_param, env0, call3 _ _ _ _ _ T.ar, call1 _ _ _ H.ar, call1 _ _ _ O.ar, hc, h, hca, q1, hcb, paramB]
  · have : paramB d = false := by
      unfold paramB
      split
      · exact absurd rfl (h2 _ _)
      · rfl
    simp [b_Form_is_param, env0, call3 _ _ _ _ _ T.ar, hc, h, this, look_no _ hno]
end
/-! ### Form, by levels -/
structure FormI where
  c : Nat
  init : Nat
  take : Nat
  is_maker : Nat
  is_kind : Nat
  is_param : Nat
  is_unit : Nat
  is_family : Nat
  is_def : Nat
  are_lows : Nat
  are_expressions : Nat
  are_args : Nat
  is_expression : Nat
  is_branch : Nat
  is_body : Nat
/-- a method of Form: its name, its number -/
structure Mth (C : Cfg) (c : Nat) (m : Str) (i n : Nat) : Prop where
  mt : C.mth c m = some i
  a : Ar C i n
  g : ∀ L sp, (formF L sp).lookup m = none
structure FormP (C : Cfg) (F : Nat → FI) (I : NamesI) (J : FormI) : Prop where
  flds : FormF C J.c
  fuel : 100000000 ≤ C.fuel
  ini : C.ini J.c = some J.init
  init : Pr C F J.init ["self", "limits"] 2 b_Form___init__
  m_take : Mth C J.c "take" J.take 2
  take : Pr C F J.take ["self", "many"] 2 b_Form_take
  m_is_maker : Mth C J.c "is_maker" J.is_maker 2
  is_maker : Pr C F J.is_maker ["self", "thing", "field"] 2 (fun C => b_Form_is_maker C I.is_told I.is_tuple I.is_high)
  m_is_kind : Mth C J.c "is_kind" J.is_kind 2
  is_kind : Pr C F J.is_kind ["self", "thing", "maker"] 2 (fun C => b_Form_is_kind C I.is_tuple I.is_high)
  m_is_param : Mth C J.c "is_param" J.is_param 2
  is_param : Pr C F J.is_param ["self", "thing"] 2 (fun C => b_Form_is_param C I.is_told I.is_low I.is_tuple)
  m_is_unit : Mth C J.c "is_unit" J.is_unit 2
  is_unit : Pr C F J.is_unit ["self", "thing"] 2 (fun C => b_Form_is_unit C I.is_told I.is_low I.is_tuple)
  m_is_family : Mth C J.c "is_family" J.is_family 2
  is_family : Pr C F J.is_family ["self", "thing"] 2 (fun C => b_Form_is_family C I.is_low)
  m_is_def : Mth C J.c "is_def" J.is_def 2
  is_def : Pr C F J.is_def ["self", "thing", "param"] 2 (fun C => b_Form_is_def C I.is_tuple)
  m_are_lows : Mth C J.c "are_lows" J.are_lows 2
  are_lows : Pr C F J.are_lows ["self", "names", "name"] 2 (fun C => b_Form_are_lows C I.is_low)
  m_are_expressions : Mth C J.c "are_expressions" J.are_expressions 3
  are_expressions : Pr C F J.are_expressions ["self", "things", "deep", "thing"] 3 b_Form_are_expressions
  m_are_args : Mth C J.c "are_args" J.are_args 4
  are_args : Pr C F J.are_args ["self", "thing", "most", "deep"] 4 (fun C => b_Form_are_args C I.is_tuple)
  m_is_expression : Mth C J.c "is_expression" J.is_expression 3
  is_expression : Pr C F J.is_expression ["self", "thing", "deep", "word"] 3 (fun C => b_Form_is_expression C I.is_low I.is_high I.within I.is_tuple)
  m_is_branch : Mth C J.c "is_branch" J.is_branch 3
  is_branch : Pr C F J.is_branch ["self", "thing", "deep"] 3 (fun C => b_Form_is_branch C I.is_tuple I.is_high)
  m_is_body : Mth C J.c "is_body" J.is_body 3
  is_body : Pr C F J.is_body ["self", "thing", "deep", "word", "branch"] 3 (fun C => b_Form_is_body C I.is_tuple)
/-- a call of a method of Form: its answer, what is left -/
def Goes (C : Cfg) (c r : Nat) (L : Lim) (i : Nat) (as : List D) (S : Store) (o : Bool × Int) : Prop :=
  ∃ S', C.calls i (.ref r :: as) S = .ok (.bl o.1) S' ∧ S'[r]? = some (formO c L o.2) ∧ Keep [r] S S'
theorem Mth.k {C : Cfg} {c i n : Nat} {m : Str} (M : Mth C c m i n) (F : Nat → FI) (k : Nat) : Mth (cfgN C F k) c m i n := ⟨M.mt, ⟨M.a.a, M.a.d⟩, M.g⟩
theorem FormF.k {C : Cfg} {c : Nat} (M : FormF C c) (F : Nat → FI) (k : Nat) : FormF (cfgN C F k) c := ⟨M.kinds, M.makers, M.fields, M.families, M.defs, M.params, M.parts, M.deepest, M.spare⟩
section
variable {C : Cfg} {c r i : Nat} {L : Lim} {sp : Int} {S : Store} {m : Str}
theorem fm1 (M : Mth C c m i 2) (hs : S[r]? = some (formO c L sp)) (f : DX) (e : Env) : methD C m [f] e (.ref r) S = (mD f e S).bind fun d S1 => xv (C.calls i [.ref r, d] S1) := meth_1 f e hs (M.g L sp) M.mt M.a
theorem fm2 (M : Mth C c m i 3) (hs : S[r]? = some (formO c L sp)) (f g : DX) (e : Env) : methD C m [f, g] e (.ref r) S = (mD f e S).bind fun d S1 => (mD g e S1).bind fun d2 S2 => xv (C.calls i [.ref r, d, d2] S2) := meth_2 f g e hs (M.g L sp) M.mt M.a
theorem meth_3 {gs : List (Str × D)} (f g h : DX) (e : Env) (hs : S[r]? = some (.ins c gs)) (hg : gs.lookup m = none) (hm : C.mth c m = some i) (A : Ar C i 4) : methD C m [f, g, h] e (.ref r) S = (mD f e S).bind fun d S1 => (mD g e S1).bind fun d2 S2 => (mD h e S2).bind fun d3 S3 => xv (C.calls i [.ref r, d, d2, d3] S3) := by
  have hf : ∀ d d2 d3 d4, fillD C i [d, d2, d3, d4] = [d, d2, d3, d4] := fun d d2 d3 d4 => ar_fill A rfl
  rw [meth_ins C m [f, g, h] e S r hs hg hm (ar_ok A)]
  simp only [mArgs_cons, mArgs_nil, Out.bind_assoc, Out.bind_ok, hf]
theorem fm3 (M : Mth C c m i 4) (hs : S[r]? = some (formO c L sp)) (f g h : DX) (e : Env) : methD C m [f, g, h] e (.ref r) S = (mD f e S).bind fun d S1 => (mD g e S1).bind fun d2 S2 => (mD h e S2).bind fun d3 S3 => xv (C.calls i [.ref r, d, d2, d3] S3) := meth_3 f g h e hs (M.g L sp) M.mt M.a
theorem fldL (hs : S[r]? = some (formO c L sp)) (x : Str) {d : D} (hx : C.fld c x = true) (hd : (formF L sp).lookup x = some d) : fldO C x S (some (formO c L sp)) = .ok (.d d) S := by
  show fldO C x S (some (.ins c (formF L sp))) = _
  rw [fldO_ins S hx, hd]
/-- data stay what they are while Form counts -/
theorem form_keep {S' : Store} {d : D} (hs : S[r]? = some (formO c L sp)) (k : Keep [r] S S') (h : okD S d) : okD S' d := okD.keep k (fun q hq l e => by
  rw [List.mem_singleton.mp hq, hs] at e; cases e) h
theorem form_keeps {S' : Store} {ds : List D} (hs : S[r]? = some (formO c L sp)) (k : Keep [r] S S') (h : okDs S ds) : okDs S' ds := okDs.keep k (fun q hq l e => by
  rw [List.mem_singleton.mp hq, hs] at e; cases e) h
end
/-! ### what bodies and expressions come to -/
def two (o : Bool × Int) (k : Int → Bool × Int) : Bool × Int := if o.1 then k o.2 else o
def allM (f : D → Int → Bool × Int) : List D → Int → Bool × Int
  | [], sp => (true, sp)
  | d :: ds, sp => two (f d sp) (allM f ds)
def lowsM (ds : List D) (sp : Int) : Bool × Int := (decide (0 ≤ sp - ds.length) && ds.all lowB, sp - ds.length)
def signD (a : D) : Bool := eqD (.str "+") a || eqD (.str "-") a
section
variable (L : Lim) (fe fb : D → Int → Bool × Int)
def exprW (w : Str) (r : List D) (sp : Int) : Bool × Int := match r with
  | [a] => if w = "num" then (withinB (-1000000000000) 1000000000000 a, sp) else if w = "do" then fb a sp else (decide (w = "name") && lowB a, sp)
  | [a, b, c] => if w = "op" then if signD a then allM fe [b, c] sp else (false, sp) else (false, sp)
  | [a, b] => if w = "make" then (if highB a then (if tupB 0 L.fields b then allM fe (itemsT b) sp else (false, sp)) else (false, sp))
    else if w = "call" then (if lowB a then (if tupB 0 L.params b then allM fe (itemsT b) sp else (false, sp)) else (false, sp))
    else if w = "look" then (if L.families = 0 then (false, sp) else if lowB a then fe b sp else (false, sp)) else (false, sp)
  | _ => (false, sp)
def exprS (d : D) (sp : Int) : Bool × Int := if tupB 2 4 d then (if 0 ≤ sp - 1 then (match itemsT d with
    | .str w :: r => exprW L fe fb w r (sp - 1)
    | _ => (false, sp - 1)) else (false, sp - 1)) else (false, sp)
def branchS (d : D) (sp : Int) : Bool × Int := match d with
  | .tup [a, b, c] => if highB a then (if tupB 0 L.fields b then two (lowsM (itemsT b) sp) (fb c) else (false, sp)) else (false, sp)
  | _ => (false, sp)
def bodyW (w : Str) (r : List D) (sp : Int) : Bool × Int :=
  if w = "give" then (match r with
    | [a] => fe a sp
    | _ => (false, sp))
  else if w = "let" then (match r with
    | [a, b, c] => two (lowsM [a] sp) fun sp => two (fe b sp) (fb c)
    | _ => (false, sp))
  else if w = "if" then (match r with
    | [a, b, c, d] => two (allM fe [a, b] sp) fun sp => two (fb c sp) (fb d)
    | _ => (false, sp))
  else if w = "match" then (match r with
    | [a, b] => two (fe a sp) fun sp => if tupB 1 L.makers b then allM (branchS L fb) (itemsT b) sp else (false, sp)
    | _ => (false, sp))
  else (false, sp)
def bodyS (d : D) (sp : Int) : Bool × Int := if tupB 2 5 d then (if 0 ≤ sp - 1 then (match itemsT d with
    | .str w :: r => bodyW L fe fb w r (sp - 1)
    | _ => (false, sp - 1)) else (false, sp - 1)) else (false, sp)
end
mutual
/-- an expression with so many levels left -/
def exprM (L : Lim) : Nat → D → Int → Bool × Int
  | 0, _, sp => (false, sp)
  | n + 1, d, sp => exprS L (exprM L n) (bodyM L n) d sp
def bodyM (L : Lim) : Nat → D → Int → Bool × Int
  | 0, _, sp => (false, sp)
  | n + 1, d, sp => bodyS L (exprM L n) (bodyM L n) d sp
end
/-! ### the methods -/
/-- a comprehension without tests over a list of the store, whose values are plain -/
theorem lc_live {own : List Nat} {g : DG} {f : DX} {e0 : Env} {S : Store} {ds : List D} {q : Nat} (F : D → D) (hq : S[q]? = some (.lst ds)) (hl : ds.length < sizeLine)
    (hf : ∀ d ∈ ds, ∃ e1, g d (wipeE e0 own) S = .next e1 S ∧ mD f e1 S = .ok (F d) S) : ∀ (n i : Nat), ds.length + 1 ≤ n + i → i ≤ ds.length → lcRun own g L3.tYes f e0 (.live q) n i S ((ds.take i).map F) = .ok (.fl (ds.map F)) S
  | 0, i, h1, h2 => by omega
  | n + 1, i, h1, h2 => by
    unfold lcRun
    have hn : nextOf (.live q) S i = some ds[i]? := by simp [nextOf, hq]
    rw [hn]
    cases hd : ds[i]? with
    | none =>
      have : ds.length ≤ i := List.getElem?_eq_none_iff.mp hd
      simp only
      rw [List.take_of_length_le this]
    | some d =>
      have hi := (List.getElem?_eq_some_iff.mp hd).1
      obtain ⟨e1, q1, q2⟩ := hf d (List.mem_of_getElem? hd)
      have hl2 : ((ds.take i).map F).length < sizeLine := by rw [List.length_map, List.length_take]; omega
      simp only [q1, L3.tYes, q2, hl2, decide_true, if_true]
      have := lc_live F hq hl hf n (i + 1) (by omega) (by omega)
      rw [List.take_succ, hd] at this
      simpa using this
theorem mLc_live {fuel : Nat} {own : List Nat} {i : DI} {g : DG} {f : DX} {e : Env} {S : Store} {ds : List D} {q : Nat} (F : D → D) (hi : i e S = .ok (.live q) S) (hq : S[q]? = some (.lst ds)) (hl : ds.length < sizeLine) (hfu : ds.length < fuel)
    (hf : ∀ d ∈ ds, ∃ e1, g d (wipeE e own) S = .next e1 S ∧ mD f e1 S = .ok (F d) S) : mLc fuel own i g L3.tYes f e S = .ok (.fl (ds.map F)) S := by
  unfold mLc
  rw [hi]
  exact lc_live F hq hl hf fuel 0 (by omega) (Nat.zero_le _)
section
variable {C : Cfg} {F : Nat → FI} {I : NamesI} {J : FormI} (N : NamesP C F I) (P : FormP C F I J) {r k : Nat} {L : Lim} {sp : Int} {S : Store} {d : D}
include P in
theorem FormP.take_k (hk : 1 ≤ k) (hs : S[r]? = some (formO J.c L sp)) (many : Int) : (cfgN C F k).calls J.take [.ref r, .int many] S = .ok (.bl (decide (0 ≤ sp - many))) (S.set r (formO J.c L (sp - many))) := by
  rw [P.take.at hk]; exact take_ok (P.flds.k F _) hs many
theorem set_form {c : Nat} {o : O} (hs : S[r]? = some o) (sp' : Int) : (S.set r (formO c L sp'))[r]? = some (formO c L sp') := List.getElem?_set_self (List.getElem?_eq_some_iff.mp hs).1
theorem set_keep (o : O) : Keep [r] S (S.set r o) := Keep.set (by simp)
include N P in
theorem FormP.lows_k (hk : 4 ≤ k) (hs : S[r]? = some (formO J.c L sp)) {x : D} {ds : List D} (hx : x = .tup ds ∨ ∃ q, x = .ref q ∧ S[q]? = some (.lst ds)) (hd : okDs S ds) (hl2 : ds.length < sizeLine) :
    Goes (cfgN C F k) J.c r L J.are_lows [x] S (lowsM ds sp) := by
  unfold Goes
  rw [P.are_lows.at (by omega)]
  have hsz := sizeLine_eq
  have ht := P.take_k (k := k - 1) (by omega) hs ds.length
  have M := P.m_take.k F (k - 1)
  have W := N.low_k (k := k - 1) (by omega)
  have hf : 100000000 ≤ (cfgN C F (k - 1)).fuel := P.fuel
  rw [hsz] at hl2
  have ks : Keep [r] S (S.set r (formO J.c L (sp - ds.length))) := set_keep _
  have hd2 := form_keeps hs ks hd
  generalize hS1 : S.set r (formO J.c L (sp - ds.length)) = S1 at ht ks hd2
  have hs1 : S1[r]? = some (formO J.c L (sp - ds.length)) := by rw [← hS1]; exact set_form hs _
  refine ⟨S1, ?_, hs1, ks⟩
  have hno : noExn x = true := by rcases hx with rfl | ⟨q, rfl, _⟩ <;> rfl
  have hlen : opB1 .len (.d x) S = some (.d (.int ds.length)) := by
    rcases hx with rfl | ⟨q, rfl, hq⟩
    · rfl
    · rw [len_ref, hq]; rfl
  have hlc : mLc (cfgN C F (k - 1)).fuel [2] (iOf (mVar 1)) (gVar 2) L3.tYes (mCall (cfgN C F (k - 1)) I.is_low [mVar 2]) [some (.ref r), some x, none] S1 = .ok (.fl (ds.map fun d => .bl (lowB d))) S1 := by
    have hf : ∀ d ∈ ds, ∃ e1, gVar 2 d (wipeE [some (.ref r), some x, none] [2]) S1 = .next e1 S1 ∧ mD (mCall (cfgN C F (k - 1)) I.is_low [mVar 2]) e1 S1 = .ok (.bl (lowB d)) S1 := by
      intro d hdm
      have od := hd2.mem hdm
      obtain ⟨n, hn⟩ := od.ty
      have hc := W.ok d S1 n hn od.len
      refine ⟨_, rfl, ?_⟩
      simp [wipeE, call1 _ _ _ W.ar, look_no _ od.no, hc]
    rcases hx with rfl | ⟨q, rfl, hq⟩
    · exact mLc_pure (fun d => .bl (lowB d)) (by simp) (by omega) hf
    · have hq1 : S1[q]? = some (.lst ds) := ks.at hq (fun z => by rw [List.mem_singleton.mp z, hs] at hq; cases hq)
      exact mLc_live (fun d => .bl (lowB d)) (by simp [hq1]) hq1 (by omega) (by omega) hf
  unfold lowsM
  cases hb : decide (0 ≤ sp - (ds.length : Int)) with
  | false =>
    rw [hb] at ht
    simp [b_Form_are_lows, env0, fm1 M hs, look_no _ hno, hlen, ht]
  | true =>
    rw [hb] at ht
    simp [b_Form_are_lows, env0, fm1 M hs, look_no _ hno, hlen, ht, hlc]
/-- a call that judges one thing at a depth -/
def ExOk (C : Cfg) (c r : Nat) (L : Lim) (i : Nat) (deep : Int) (f : D → Int → Bool × Int) : Prop :=
  ∀ (d : D) (sp : Int) (S : Store), S[r]? = some (formO c L sp) → okD S d → Goes C c r L i [d, .int deep] S (f d sp)
def AxOk (C : Cfg) (c r : Nat) (L : Lim) (i : Nat) (deep : Int) (f : D → Int → Bool × Int) : Prop :=
  ∀ (ds : List D) (sp : Int) (S : Store), S[r]? = some (formO c L sp) → okDs S ds → Goes C c r L i [.tup ds, .int deep] S (allM f ds sp)
def AgOk (C : Cfg) (c r : Nat) (L : Lim) (i : Nat) (deep : Int) (f : D → Int → Bool × Int) : Prop :=
  ∀ (d : D) (most sp : Int) (S : Store), S[r]? = some (formO c L sp) → okD S d → Goes C c r L i [d, .int most, .int deep] S (if tupB 0 most d then allM f (itemsT d) sp else (false, sp))
theorem drop_at {α : Type} {l : List α} {i : Nat} {d : α} (h : l[i]? = some d) : l.drop i = d :: l.drop (i + 1) := by
  obtain ⟨hi, e⟩ := List.getElem?_eq_some_iff.mp h
  rw [List.drop_eq_getElem_cons hi, e]
include P in
theorem FormP.exprs_k {deep : Int} {fe : D → Int → Bool × Int} (hk : 1 ≤ k) (h : ExOk (cfgN C F (k - 1)) J.c r L J.is_expression deep fe) : AxOk (cfgN C F k) J.c r L J.are_expressions deep fe := by
  intro ds sp S hs hds
  unfold Goes
  rw [P.are_expressions.at hk]
  have M := P.m_is_expression.k F (k - 1)
  generalize cfgN C F (k - 1) = Ck at h M
  let In : Nat → Env → Store → Prop := fun i e S' => ∃ x sp', e = [some (.ref r), some (.tup ds), some (.int deep), x] ∧ S'[r]? = some (formO J.c L sp') ∧ Keep [r] S S' ∧ allM fe ds sp = allM fe (ds.drop i) sp'
  let R : D → Store → Prop := fun d S' => d = .bl (allM fe ds sp).1 ∧ S'[r]? = some (formO J.c L (allM fe ds sp).2) ∧ Keep [r] S S'
  have loop : Fl.to (sFor Ck.fuel (iOf (mVar 1)) (gVar 3) (sSeq (sIf (tNot (tOf (mMeth Ck "is_expression" (mVar 0) [mVar 3, mVar 2]))) (sSeq (sRet (mC (.bl false))) sNext) sNext) sNext) [some (.ref r), some (.tup ds), some (.int deep), none] S) (In ds.length) R := by
    refine sFor_items In (ds := ds) (S1 := S) (by simp) ⟨none, sp, rfl, hs, Keep.refl, rfl⟩ (fun _ _ h => h) ?_
    rintro i d e S' hd ⟨x, sp', rfl, h1, h2, h3⟩
    refine ⟨_, _, rfl, ?_⟩
    have od := okDs.get (form_keeps hs h2 hds) hd
    obtain ⟨S2, q1, q2, q3⟩ := h d sp' S' h1 od
    rw [drop_at hd] at h3
    cases hb : (fe d sp').1 with
    | true =>
      rw [hb] at q1
      simp [fm2 M h1, q1, look_no _ od.no]
      exact ⟨_, (fe d sp').2, rfl, q2, h2.trans q3, by rw [h3]; simp [allM, two, hb]⟩
    | false =>
      rw [hb] at q1
      simp [fm2 M h1, q1, look_no _ od.no]
      have e1 : allM fe ds sp = (false, (fe d sp').2) := by rw [h3]; simp only [allM, two, hb]; exact Prod.ext hb rfl
      exact ⟨by rw [e1], by rw [e1]; exact q2, h2.trans q3⟩
  have e0 : b_Form_are_expressions Ck (env0 ["self", "things", "deep", "thing"] [.ref r, .tup ds, .int deep]) S = (sFor Ck.fuel (iOf (mVar 1)) (gVar 3) (sSeq (sIf (tNot (tOf (mMeth Ck "is_expression" (mVar 0) [mVar 3, mVar 2]))) (sSeq (sRet (mC (.bl false))) sNext) sNext) sNext) [some (.ref r), some (.tup ds), some (.int deep), none] S).seq fun e S => (sSeq (sRet (mC (.bl true))) sNext) e S := by
    unfold b_Form_are_expressions
    rw [sSeq_ap]
    rfl
  rw [e0]
  rcases loop.out with ⟨e, S', q, x, sp', rfl, h1, h2, h3⟩ | ⟨d, S', q, h1, h2, h3⟩
  · rw [q]
    have e1 : allM fe ds sp = (true, sp') := by rw [h3, List.drop_length]; rfl
    exact ⟨S', by rw [e1]; simp, by rw [e1]; exact h1, h2⟩
  · rw [q]
    exact ⟨S', by rw [h1]; rfl, h2, h3⟩
include N P in
theorem FormP.args_k {deep : Int} {fe : D → Int → Bool × Int} (hk : 2 ≤ k) (h : AxOk (cfgN C F (k - 1)) J.c r L J.are_expressions deep fe) : AgOk (cfgN C F k) J.c r L J.are_args deep fe := by
  intro d most sp S hs hd
  unfold Goes
  rw [P.are_args.at (by omega)]
  have M := P.m_are_expressions.k F (k - 1)
  have T := N.tup_k (k := k - 1) (by omega)
  generalize cfgN C F (k - 1) = Ck at h M T
  obtain ⟨n, hn⟩ := hd.ty
  have hc := T.ok d S n 0 most hn
  cases hb : tupB 0 most d with
  | false =>
    rw [hb] at hc
    exact ⟨S, by simp [b_Form_are_args, env0, call3 _ _ _ _ _ T.ar, look_no _ hd.no, hc], hs, Keep.refl⟩
  | true =>
    rw [hb] at hc
    cases d with
    | tup ds =>
      obtain ⟨S', q1, q2, q3⟩ := h ds sp S hs hd.items
      exact ⟨S', by simp [b_Form_are_args, env0, call3 _ _ _ _ _ T.ar, hc, fm2 M hs, q1, itemsT], q2, q3⟩
    | _ => cases hb
end
end L3


/-! L4I: Form: expressions and bodies. -/
namespace L3
open PySem PySem.Spec PyProof.Rows L2
/-- the guard that expressions and bodies begin with -/
def tGuard (C : Cfg) (it : Nat) (a b : Int) : DT := L3.tOr (tOf (mCmp .Gt (mVar 2) (mFld C (mVar 0) "deepest"))) (L3.tOr (tNot (tOf (mCall C it [mVar 1, mC (.int a), mC (.int b)]))) (L3.tOr (tNot (tOf (mMeth C "take" (mVar 0) [mC (.int 1)]))) (tNot (tOf (mIsi .str (mIx (mVar 1) (mC (.int 0))))))))
def b_ex_rest (C : Cfg) (f_is_low : Nat) (f_is_high : Nat) (f_within : Nat) : DS := (sSeq (sAsg (mIx (mVar 1) (mC (.int 0))) (gVar 3)) (sSeq (sIf (tOf (mCmp .Eq (mB1 .len (mVar 1)) (mC (.int 2)))) (sSeq (sIf (tOf (mCmp .Eq (mVar 3) (mC (.str "num")))) (sSeq (sRet (mCall C f_within [mIx (mVar 1) (mC (.int 1)), mNeg (mC (.int 1000000000000)), mC (.int 1000000000000)])) sNext) sNext) (sSeq (sIf (tOf (mCmp .Eq (mVar 3) (mC (.str "do")))) (sSeq (sRet (mMeth C "is_body" (mVar 0) [mIx (mVar 1) (mC (.int 1)), mBin .Add (mVar 2) (mC (.int 1))])) sNext) sNext) (sSeq (sRet (mAndV (mCmp .Eq (mVar 3) (mC (.str "name"))) (mCall C f_is_low [mIx (mVar 1) (mC (.int 1))]))) sNext))) sNext) (sSeq (sIf (tOf (mCmp .Eq (mB1 .len (mVar 1)) (mC (.int 4)))) (sSeq (sRet (mAndV (mCmp .Eq (mVar 3) (mC (.str "op"))) (mAndV (mCmp .In (mIx (mVar 1) (mC (.int 1))) (mTup [mC (.str "+"), mC (.str "-")])) (mMeth C "are_expressions" (mVar 0) [mSl (mVar 1) (oSome (mC (.int 2))) oNone, mBin .Add (mVar 2) (mC (.int 1))])))) sNext) sNext) (sSeq (sIf (tOf (mCmp .Eq (mVar 3) (mC (.str "make")))) (sSeq (sRet (mAndV (mCall C f_is_high [mIx (mVar 1) (mC (.int 1))]) (mMeth C "are_args" (mVar 0) [mIx (mVar 1) (mC (.int 2)), mFld C (mVar 0) "fields", mBin .Add (mVar 2) (mC (.int 1))]))) sNext) sNext) (sSeq (sIf (tOf (mCmp .Eq (mVar 3) (mC (.str "call")))) (sSeq (sRet (mAndV (mCall C f_is_low [mIx (mVar 1) (mC (.int 1))]) (mMeth C "are_args" (mVar 0) [mIx (mVar 1) (mC (.int 2)), mFld C (mVar 0) "params", mBin .Add (mVar 2) (mC (.int 1))]))) sNext) sNext) (sSeq (sIf (L3.tOr (tOf (mCmp .NotEq (mVar 3) (mC (.str "look")))) (tOf (mCmp .Eq (mFld C (mVar 0) "families") (mC (.int 0))))) (sSeq (sRet (mC (.bl false))) sNext) sNext) (sSeq (sRet (mAndV (mCall C f_is_low [mIx (mVar 1) (mC (.int 1))]) (mMeth C "is_expression" (mVar 0) [mIx (mVar 1) (mC (.int 2)), mBin .Add (mVar 2) (mC (.int 1))]))) sNext)))))))
theorem ex_split (C : Cfg) (a b c d : Nat) : b_Form_is_expression C a b c d = sSeq (sIf (tGuard C d 2 4) (sSeq (sRet (mC (.bl false))) sNext) sNext) (b_ex_rest C a b c) := rfl
/-- .. and what bodies go on with -/
def b_bd_rest (C : Cfg) (f_is_tuple : Nat) : DS := (sSeq (sAsg (mIx (mVar 1) (mC (.int 0))) (gVar 3)) (sSeq (sIf (tOf (mCmp .Eq (mVar 3) (mC (.str "give")))) (sSeq (sRet (mAndV (mCmp .Eq (mB1 .len (mVar 1)) (mC (.int 2))) (mMeth C "is_expression" (mVar 0) [mIx (mVar 1) (mC (.int 1)), mBin .Add (mVar 2) (mC (.int 1))]))) sNext) sNext) (sSeq (sIf (tOf (mCmp .Eq (mVar 3) (mC (.str "let")))) (sSeq (sIf (L3.tOr (tOf (mCmp .NotEq (mB1 .len (mVar 1)) (mC (.int 4)))) (tNot (tOf (mMeth C "are_lows" (mVar 0) [mLst [mIx (mVar 1) (mC (.int 1))]])))) (sSeq (sRet (mC (.bl false))) sNext) sNext) (sSeq (sRet (mAndV (mMeth C "is_expression" (mVar 0) [mIx (mVar 1) (mC (.int 2)), mBin .Add (mVar 2) (mC (.int 1))]) (mMeth C "is_body" (mVar 0) [mIx (mVar 1) (mC (.int 3)), mBin .Add (mVar 2) (mC (.int 1))]))) sNext)) sNext) (sSeq (sIf (tOf (mCmp .Eq (mVar 3) (mC (.str "if")))) (sSeq (sIf (L3.tOr (tOf (mCmp .NotEq (mB1 .len (mVar 1)) (mC (.int 5)))) (tNot (tOf (mMeth C "are_expressions" (mVar 0) [mSl (mVar 1) (oSome (mC (.int 1))) (oSome (mC (.int 3))), mBin .Add (mVar 2) (mC (.int 1))])))) (sSeq (sRet (mC (.bl false))) sNext) sNext) (sSeq (sRet (mAndV (mMeth C "is_body" (mVar 0) [mIx (mVar 1) (mC (.int 3)), mBin .Add (mVar 2) (mC (.int 1))]) (mMeth C "is_body" (mVar 0) [mIx (mVar 1) (mC (.int 4)), mBin .Add (mVar 2) (mC (.int 1))]))) sNext)) sNext) (sSeq (sIf (L3.tOr (tOf (mCmp .NotEq (mVar 3) (mC (.str "match")))) (L3.tOr (tOf (mCmp .NotEq (mB1 .len (mVar 1)) (mC (.int 3)))) (tNot (tOf (mMeth C "is_expression" (mVar 0) [mIx (mVar 1) (mC (.int 1)), mBin .Add (mVar 2) (mC (.int 1))]))))) (sSeq (sRet (mC (.bl false))) sNext) sNext) (sSeq (sIf (tNot (tOf (mCall C f_is_tuple [mIx (mVar 1) (mC (.int 2)), mC (.int 1), mFld C (mVar 0) "makers"]))) (sSeq (sRet (mC (.bl false))) sNext) sNext) (sSeq (sFor C.fuel (iOf (mIx (mVar 1) (mC (.int 2)))) (gVar 4) (sSeq (sIf (tNot (tOf (mMeth C "is_branch" (mVar 0) [mVar 4, mBin .Add (mVar 2) (mC (.int 1))]))) (sSeq (sRet (mC (.bl false))) sNext) sNext) sNext)) (sSeq (sRet (mC (.bl true))) sNext))))))))
theorem bd_split (C : Cfg) (d : Nat) : b_Form_is_body C d = sSeq (sIf (tGuard C d 2 5) (sSeq (sRet (mC (.bl false))) sNext) sNext) (b_bd_rest C d) := rfl
section
variable {C : Cfg} {c r it : Nat} {L : Lim} {sp deep a b : Int} {S : Store} {d : D} {t : Env}
theorem str_ty {x : D} {n : String} (h : tyOfD x S = some n) : isN n .str = strB x := by
  cases x with
  | ref q =>
    rw [ty_ref] at h
    rcases tyO_cases h with rfl | rfl <;> rfl
  | _ => first | (cases h; rfl) | cases h
/-- the guard -/
theorem guard_ok (hF : FormF C c) (hs : S[r]? = some (formO c L sp)) (T : TupOk C it) {itk : Nat} (M : Mth C c "take" itk 2) (K : ∀ many, C.calls itk [.ref r, .int many] S = .ok (.bl (decide (0 ≤ sp - many))) (S.set r (formO c L (sp - many)))) (hd : okD S d) (hdeep : deep ≤ L.deepest) (ha : 1 ≤ a) :
    (tupB a b d = false ∧ tGuard C it a b (some (.ref r) :: some d :: some (.int deep) :: t) S = .ok true S) ∨
    (tupB a b d = true ∧ ¬ 0 ≤ sp - 1 ∧ tGuard C it a b (some (.ref r) :: some d :: some (.int deep) :: t) S = .ok true (S.set r (formO c L (sp - 1)))) ∨
    (tupB a b d = true ∧ 0 ≤ sp - 1 ∧ ∃ x ds, d = .tup (x :: ds) ∧ tGuard C it a b (some (.ref r) :: some d :: some (.int deep) :: t) S = .ok (!strB x) (S.set r (formO c L (sp - 1)))) := by
  obtain ⟨n, hn⟩ := hd.ty
  have hc := T.ok d S n a b hn
  have hgt : ¬ L.deepest < deep := by omega
  have hfl : fldO C "deepest" S (some (formO c L sp)) = .ok (.d (.int L.deepest)) S := fldL hs "deepest" hF.deepest (by unfold formF; kernel_rfl)
  have hk := K 1
  cases hb : tupB a b d with
  | false =>
    refine .inl ⟨rfl, ?_⟩
    rw [hb] at hc
    simp [tGuard, hs, hfl, hgt, call3 _ _ _ _ _ T.ar, look_no _ hd.no, hc]
  | true =>
    rw [hb] at hc
    by_cases h1 : 0 ≤ sp - 1
    · cases d with
      | tup ds =>
        cases ds with
        | nil => simp [tupB] at hb; omega
        | cons x ds =>
          refine .inr (.inr ⟨rfl, h1, x, ds, rfl, ?_⟩)
          have hx : okD S x := hd.items.1
          have hx1 : okD (S.set r (formO c L (sp - 1))) x := form_keep hs (set_keep _) hx
          obtain ⟨m, hm⟩ := hx1.ty
          rw [decide_eq_true h1] at hk
          simp [tGuard, hs, hfl, hgt, call3 _ _ _ _ _ T.ar, hc, fm1 M hs, hk, hm, str_ty hm]
      | _ => cases hb
    · refine .inr (.inl ⟨rfl, h1, ?_⟩)
      rw [decide_eq_false h1] at hk
      simp [tGuard, hs, hfl, hgt, call3 _ _ _ _ _ T.ar, look_no _ hd.no, hc, fm1 M hs, hk]
end
section
variable {C : Cfg} {F : Nat → FI} {I : NamesI} {J : FormI} (N : NamesP C F I) (P : FormP C F I J) {r k : Nat} {L : Lim} {sp deep : Int} {S : Store} {d : D} {fe fb : D → Int → Bool × Int}
theorem cut2 (w a b c : D) : cutD [w, a, b, c] (some 2) none = [b, c] := rfl
theorem cut13 (w a b c d : D) : cutD [w, a, b, c, d] (some 1) (some 3) = [a, b] := rfl
include N P in
theorem FormP.ex_rest (hk : 3 ≤ k) {w : Str} {ds : List D} (hs : S[r]? = some (formO J.c L sp)) (hd : okD S (.tup (.str w :: ds))) (hl : 1 ≤ ds.length ∧ ds.length ≤ 3)
    (he : ExOk (cfgN C F k) J.c r L J.is_expression (deep + 1) fe) (hb : ExOk (cfgN C F k) J.c r L J.is_body (deep + 1) fb) (hx : AxOk (cfgN C F k) J.c r L J.are_expressions (deep + 1) fe) (ha : AgOk (cfgN C F k) J.c r L J.are_args (deep + 1) fe) :
    ∃ S', endD (b_ex_rest (cfgN C F k) I.is_low I.is_high I.within [some (.ref r), some (.tup (.str w :: ds)), some (.int deep), none] S) = .ok (.bl (exprW L fe fb w ds sp).1) S' ∧ S'[r]? = some (formO J.c L (exprW L fe fb w ds sp).2) ∧ Keep [r] S S' := by
  have W := N.low_k (k := k) (by omega)
  have H := N.high_k (k := k) (by omega)
  have V := N.within_k (k := k) (by omega)
  have Mb := P.m_is_body.k F k
  have Me := P.m_is_expression.k F k
  have Mx := P.m_are_expressions.k F k
  have Ma := P.m_are_args.k F k
  have hF := P.flds.k F k
  generalize cfgN C F k = Ck at *
  have f1 : fldO Ck "fields" S (some (formO J.c L sp)) = .ok (.d (.int L.fields)) S := fldL hs "fields" hF.fields (by unfold formF; kernel_rfl)
  have f2 : fldO Ck "params" S (some (formO J.c L sp)) = .ok (.d (.int L.params)) S := fldL hs "params" hF.params (by unfold formF; kernel_rfl)
  have f3 : fldO Ck "families" S (some (formO J.c L sp)) = .ok (.d (.int L.families)) S := fldL hs "families" hF.families (by unfold formF; kernel_rfl)
  have hi := hd.items.2
  match ds, hl with
  | [a], _ =>
    have oa := hi.1
    obtain ⟨na, hna⟩ := oa.ty
    have hv := V.ok a S na (-1000000000000) 1000000000000 hna oa.len
    have hw := W.ok a S na hna oa.len
    by_cases h1 : w = "num"
    · exact ⟨S, by simp [b_ex_rest, h1, call3 _ _ _ _ _ V.ar, hv, exprW], by simp [exprW, h1, hs], Keep.refl⟩
    · by_cases h2 : w = "do"
      · subst h2
        obtain ⟨S', q1, q2, q3⟩ := hb a sp S hs oa
        exact ⟨S', by simp [b_ex_rest, h1, fm2 Mb hs, q1, exprW], by simp [exprW, h1, q2], q3⟩
      · by_cases h3 : w = "name"
        · subst h3
          exact ⟨S, by simp [b_ex_rest, h1, h2, call1 _ _ _ W.ar, hw, exprW], by simp [exprW, h1, h2, hs], Keep.refl⟩
        · exact ⟨S, by simp [b_ex_rest, h1, h2, h3, exprW], by simp [exprW, h1, h2, h3, hs], Keep.refl⟩
  | [a, b], _ =>
    have oa := hi.1
    have ob := hi.2.1
    obtain ⟨na, hna⟩ := oa.ty
    have hw := W.ok a S na hna oa.len
    have hh := H.ok a S na hna oa.len
    by_cases h1 : w = "make"
    · subst h1
      cases qa : highB a with
      | false =>
        rw [qa] at hh
        exact ⟨S, by simp [b_ex_rest, call1 _ _ _ H.ar, hh, exprW, qa], by simp [exprW, qa, hs], Keep.refl⟩
      | true =>
        rw [qa] at hh
        obtain ⟨S', q1, q2, q3⟩ := ha b L.fields sp S hs ob
        exact ⟨S', by simp [b_ex_rest, call1 _ _ _ H.ar, hh, exprW, qa, fm3 Ma hs, hs, f1, q1], by simp [exprW, qa, q2], q3⟩
    · by_cases h2 : w = "call"
      · subst h2
        cases qa : lowB a with
        | false =>
          rw [qa] at hw
          exact ⟨S, by simp [b_ex_rest, call1 _ _ _ W.ar, hw, exprW, qa, h1], by simp [exprW, qa, hs, h1], Keep.refl⟩
        | true =>
          rw [qa] at hw
          obtain ⟨S', q1, q2, q3⟩ := ha b L.params sp S hs ob
          exact ⟨S', by simp [b_ex_rest, call1 _ _ _ W.ar, hw, exprW, qa, fm3 Ma hs, hs, f2, q1, h1], by simp [exprW, qa, q2, h1], q3⟩
      · by_cases h3 : w = "look"
        · subst h3
          by_cases h4 : L.families = 0
          · rw [h4] at f3
            exact ⟨S, by simp [b_ex_rest, exprW, h1, h2, hs, f3, h4], by simp [exprW, hs, h1, h2, h4], Keep.refl⟩
          · cases qa : lowB a with
            | false =>
              rw [qa] at hw
              exact ⟨S, by simp [b_ex_rest, call1 _ _ _ W.ar, hw, exprW, qa, h1, h2, hs, f3, h4], by simp [exprW, qa, hs, h1, h2, h4], Keep.refl⟩
            | true =>
              rw [qa] at hw
              obtain ⟨S', q1, q2, q3⟩ := he b sp S hs ob
              exact ⟨S', by simp [b_ex_rest, call1 _ _ _ W.ar, hw, exprW, qa, h1, h2, hs, f3, h4, fm2 Me hs, q1], by simp [exprW, qa, hs, h1, h2, h4, q2], q3⟩
        · exact ⟨S, by simp [b_ex_rest, exprW, h1, h2, h3], by simp [exprW, hs, h1, h2, h3], Keep.refl⟩
  | [a, b, c], _ =>
    by_cases h1 : w = "op"
    · subst h1
      have hfl : flatD a = true := by
        have := hd.2.2
        simpa [opF] using this
      have hin : cmpOp .In (.d a) (.d (.tup [.str "+", .str "-"])) S = some (signD a) := by
        rw [in_tup S _ (by cases a <;> simp) hfl rfl]
        simp [signD]
      have hsz := sizeLine_eq
      have lk : lok 2 = true := by unfold lok; rw [hsz]; decide
      cases qa : signD a with
      | false =>
        rw [qa] at hin
        exact ⟨S, by simp [b_ex_rest, exprW, lk, hin, qa], by simp [exprW, qa, hs], Keep.refl⟩
      | true =>
        rw [qa] at hin
        obtain ⟨S', q1, q2, q3⟩ := hx [b, c] sp S hs hi.2
        exact ⟨S', by simp [b_ex_rest, exprW, lk, hin, qa, cut2, fm2 Mx hs, q1], by simp [exprW, qa, q2], q3⟩
    · exact ⟨S, by simp [b_ex_rest, exprW, h1], by simp [exprW, h1, hs], Keep.refl⟩
include N P in
theorem FormP.ex_k (hk : 4 ≤ k) (hdeep : deep ≤ L.deepest) (he : ExOk (cfgN C F (k - 1)) J.c r L J.is_expression (deep + 1) fe) (hb : ExOk (cfgN C F (k - 1)) J.c r L J.is_body (deep + 1) fb) (hx : AxOk (cfgN C F (k - 1)) J.c r L J.are_expressions (deep + 1) fe) (ha : AgOk (cfgN C F (k - 1)) J.c r L J.are_args (deep + 1) fe) :
    ExOk (cfgN C F k) J.c r L J.is_expression deep (exprS L fe fb) := by
  intro d sp S hs hd
  unfold Goes
  rw [P.is_expression.at (by omega)]
  simp only [ex_split]
  rw [sSeq_ap, sIf_ap]
  show ∃ S', endD (((tGuard _ _ 2 4 [some (.ref r), some d, some (.int deep), none] S).fl _ _).seq _) = _ ∧ _
  have G := guard_ok (t := [none]) (b := 4) (P.flds.k F (k - 1)) hs (N.tup_k (k := k - 1) (by omega)) (P.m_take.k F (k - 1)) (P.take_k (k := k - 1) (by omega) hs) hd hdeep (show (1 : Int) ≤ 2 by omega)
  rcases G with ⟨g1, g2⟩ | ⟨g1, g2, g3⟩ | ⟨g1, g2, x, ds, rfl, g3⟩
  · rw [g2]
    exact ⟨S, by simp [exprS, g1], by simp [exprS, g1, hs], Keep.refl⟩
  · rw [g3]
    have e2 : exprS L fe fb d sp = (false, sp - 1) := by unfold exprS; rw [if_pos g1, if_neg g2]
    rw [e2]
    exact ⟨_, rfl, set_form hs _, set_keep _⟩
  · rw [g3]
    have ks : Keep [r] S (S.set r (formO J.c L (sp - 1))) := set_keep _
    have hd1 := form_keep hs ks hd
    have hs1 : (S.set r (formO J.c L (sp - 1)))[r]? = some (formO J.c L (sp - 1)) := set_form hs _
    generalize S.set r (formO J.c L (sp - 1)) = S1 at ks hd1 hs1 g3 ⊢
    cases x with
    | str w =>
      have hl : 1 ≤ ds.length ∧ ds.length ≤ 3 := by
        simp [tupB] at g1; omega
      obtain ⟨S', q1, q2, q3⟩ := P.ex_rest N (k := k - 1) (by omega) hs1 hd1 hl he hb hx ha
      have e3 : exprS L fe fb (.tup (.str w :: ds)) sp = exprW L fe fb w ds (sp - 1) := by unfold exprS; rw [if_pos g1, if_pos g2]; rfl
      rw [e3]
      exact ⟨S', q1, q2, ks.trans q3⟩
    | _ =>
      refine ⟨S1, ?_, ?_, ks⟩
      · simp only [exprS, g1, g2, if_true, itemsT]; rfl
      · simp only [exprS, g1, g2, if_true, itemsT]; exact hs1
end
end L3


/-! L4J: Form: branches, bodies; all depths. -/
namespace L3
open PySem PySem.Spec PyProof.Rows L2
theorem tup3 (d : D) : (tupB 3 3 d = true ∧ ∃ a b c, d = .tup [a, b, c]) ∨ (tupB 3 3 d = false ∧ ∀ a b c, d ≠ .tup [a, b, c]) := by
  cases d with
  | tup ds =>
    by_cases h : ds.length = 3
    · obtain ⟨a, b, c, rfl⟩ := len3 h
      exact .inl ⟨rfl, a, b, c, rfl⟩
    · refine .inr ⟨?_, fun a b c e => h (by cases e; rfl)⟩
      unfold tupB
      have : ¬ ((3 : Int) ≤ ds.length ∧ (ds.length : Int) ≤ 3) := by omega
      cases hh : (decide ((3 : Int) ≤ ds.length) && decide ((ds.length : Int) ≤ 3)) with
      | false => exact hh
      | true => simp only [Bool.and_eq_true, decide_eq_true_eq] at hh; exact absurd hh this
  | _ => exact .inr ⟨rfl, fun a b c e => by cases e⟩
theorem tup4 (d : D) : (tupB 4 4 d = true ∧ ∃ a b c e, d = .tup [a, b, c, e]) ∨ (tupB 4 4 d = false ∧ ∀ a b c e, d ≠ .tup [a, b, c, e]) := by
  cases d with
  | tup ds =>
    by_cases h : ds.length = 4
    · obtain ⟨a, b, c, e, rfl⟩ := len4 h
      exact .inl ⟨rfl, a, b, c, e, rfl⟩
    · refine .inr ⟨?_, fun a b c e z => h (by cases z; rfl)⟩
      unfold tupB
      have : ¬ ((4 : Int) ≤ ds.length ∧ (ds.length : Int) ≤ 4) := by omega
      cases hh : (decide ((4 : Int) ≤ ds.length) && decide ((ds.length : Int) ≤ 4)) with
      | false => exact hh
      | true => simp only [Bool.and_eq_true, decide_eq_true_eq] at hh; exact absurd hh this
  | _ => exact .inr ⟨rfl, fun a b c e z => by cases z⟩
theorem two_f {o : Bool × Int} {k : Int → Bool × Int} (h : o.1 = false) : two o k = (false, o.2) := by unfold two; rw [h]; exact Prod.ext h rfl
theorem two_t {o : Bool × Int} {k : Int → Bool × Int} (h : o.1 = true) : two o k = k o.2 := by unfold two; rw [h]; rfl
section
variable {C : Cfg} {F : Nat → FI} {I : NamesI} {J : FormI} (N : NamesP C F I) (P : FormP C F I J) {r k : Nat} {L : Lim} {sp deep : Int} {S : Store} {d : D} {fe fb : D → Int → Bool × Int}
include N P in
theorem FormP.branch_k (hk : 5 ≤ k) (hb : ExOk (cfgN C F (k - 1)) J.c r L J.is_body deep fb) : ExOk (cfgN C F k) J.c r L J.is_branch deep (branchS L fb) := by
  intro d sp S hs hd
  unfold Goes
  rw [P.is_branch.at (by omega)]
  have T := N.tup_k (k := k - 1) (by omega)
  have H := N.high_k (k := k - 1) (by omega)
  have Ml := P.m_are_lows.k F (k - 1)
  have Mb := P.m_is_body.k F (k - 1)
  have hl := fun {x : D} {ds : List D} hx hd hl => P.lows_k N (k := k - 1) (by omega) hs (x := x) (ds := ds) hx hd hl
  have hF := P.flds.k F (k - 1)
  generalize cfgN C F (k - 1) = Ck at *
  have f1 : fldO Ck "fields" S (some (formO J.c L sp)) = .ok (.d (.int L.fields)) S := fldL hs "fields" hF.fields (by unfold formF; kernel_rfl)
  obtain ⟨n, hn⟩ := hd.ty
  have hc := T.ok d S n 3 3 hn
  rcases tup3 d with ⟨h, a, b, c, rfl⟩ | ⟨h, h2⟩
  · rw [h] at hc
    have oa := hd.items.1
    have ob := hd.items.2.1
    have oc := hd.items.2.2.1
    obtain ⟨na, hna⟩ := oa.ty
    obtain ⟨nb, hnb⟩ := ob.ty
    have hca := H.ok a S na hna oa.len
    have hcb := T.ok b S nb 0 L.fields hnb
    cases q1 : highB a with
    | false =>
      rw [q1] at hca
      exact ⟨S, by simp [b_Form_is_branch, env0, call3 _ _ _ _ _ T.ar, call1 _ _ _ H.ar, hc, hca, branchS, q1], by simp [branchS, q1, hs], Keep.refl⟩
    | true =>
      rw [q1] at hca
      cases q2 : tupB 0 L.fields b with
      | false =>
        rw [q2] at hcb
        exact ⟨S, by simp [b_Form_is_branch, env0, call3 _ _ _ _ _ T.ar, call1 _ _ _ H.ar, hc, hca, branchS, q1, hs, f1, hcb, q2], by simp [branchS, q1, hs, q2], Keep.refl⟩
      | true =>
        rw [q2] at hcb
        cases b with
        | tup ns =>
          obtain ⟨S1, r1, r2, r3⟩ := hl (x := .tup ns) (ds := ns) (.inl rfl) ob.items ob.1
          have e1 : branchS L fb (.tup [a, .tup ns, c]) sp = two (lowsM ns sp) (fb c) := by
            show (if highB a then (if tupB 0 L.fields (.tup ns) then two (lowsM ns sp) (fb c) else (false, sp)) else (false, sp)) = _
            rw [if_pos q1, if_pos q2]
          rw [e1]
          cases q3 : (lowsM ns sp).1 with
          | false =>
            rw [two_f q3]
            rw [q3] at r1
            exact ⟨S1, by simp [b_Form_is_branch, env0, call3 _ _ _ _ _ T.ar, call1 _ _ _ H.ar, hc, hca, hs, f1, hcb, fm1 Ml hs, r1], r2, r3⟩
          | true =>
            rw [two_t q3]
            rw [q3] at r1
            obtain ⟨S2, t1, t2, t3⟩ := hb c (lowsM ns sp).2 S1 r2 (form_keep hs r3 oc)
            exact ⟨S2, by simp [b_Form_is_branch, env0, call3 _ _ _ _ _ T.ar, call1 _ _ _ H.ar, hc, hca, hs, f1, hcb, fm1 Ml hs, r1, fm2 Mb r2, t1], t2, r3.trans t3⟩
        | _ => cases q2
  · rw [h] at hc
    have e1 : branchS L fb d sp = (false, sp) := by
      unfold branchS
      split
      · exact absurd rfl (h2 _ _ _)
      · rfl
    rw [e1]
    exact ⟨S, by simp [b_Form_is_branch, env0, call3 _ _ _ _ _ T.ar, look_no _ hd.no, hc], hs, Keep.refl⟩
/-- the branches of a match, one after the other -/
theorem branches_loop {Ck : Cfg} {c i : Nat} {fb : D → Int → Bool × Int} (Mb : Mth Ck c "is_branch" i 3) (h : ExOk Ck c r L i (deep + 1) fb) {ds : List D} {w : D} {y1 y2 : D} (hs : S[r]? = some (formO c L sp)) (hds : okDs S ds) :
    (∃ x S', sFor Ck.fuel (iOf (mIx (mVar 1) (mC (.int 2)))) (gVar 4) (sSeq (sIf (tNot (tOf (mMeth Ck "is_branch" (mVar 0) [mVar 4, mBin .Add (mVar 2) (mC (.int 1))]))) (sSeq (sRet (mC (.bl false))) sNext) sNext) sNext) [some (.ref r), some (.tup [y1, y2, .tup ds]), some (.int deep), some w, none] S = .next [some (.ref r), some (.tup [y1, y2, .tup ds]), some (.int deep), some w, x] S' ∧ (allM fb ds sp).1 = true ∧ S'[r]? = some (formO c L (allM fb ds sp).2) ∧ Keep [r] S S') ∨
    (∃ S', sFor Ck.fuel (iOf (mIx (mVar 1) (mC (.int 2)))) (gVar 4) (sSeq (sIf (tNot (tOf (mMeth Ck "is_branch" (mVar 0) [mVar 4, mBin .Add (mVar 2) (mC (.int 1))]))) (sSeq (sRet (mC (.bl false))) sNext) sNext) sNext) [some (.ref r), some (.tup [y1, y2, .tup ds]), some (.int deep), some w, none] S = .ret (.bl false) S' ∧ (allM fb ds sp).1 = false ∧ S'[r]? = some (formO c L (allM fb ds sp).2) ∧ Keep [r] S S') := by
  let In : Nat → Env → Store → Prop := fun i e S' => ∃ x sp', e = [some (.ref r), some (.tup [y1, y2, .tup ds]), some (.int deep), some w, x] ∧ S'[r]? = some (formO c L sp') ∧ Keep [r] S S' ∧ allM fb ds sp = allM fb (ds.drop i) sp'
  let R : D → Store → Prop := fun d S' => d = .bl false ∧ (allM fb ds sp).1 = false ∧ S'[r]? = some (formO c L (allM fb ds sp).2) ∧ Keep [r] S S'
  have loop : Fl.to (sFor Ck.fuel (iOf (mIx (mVar 1) (mC (.int 2)))) (gVar 4) (sSeq (sIf (tNot (tOf (mMeth Ck "is_branch" (mVar 0) [mVar 4, mBin .Add (mVar 2) (mC (.int 1))]))) (sSeq (sRet (mC (.bl false))) sNext) sNext) sNext) [some (.ref r), some (.tup [y1, y2, .tup ds]), some (.int deep), some w, none] S) (In ds.length) R := by
    refine sFor_items In (ds := ds) (S1 := S) (by simp) ⟨none, sp, rfl, hs, Keep.refl, rfl⟩ (fun _ _ h => h) ?_
    rintro i d e S' hd ⟨x, sp', rfl, h1, h2, h3⟩
    refine ⟨_, _, rfl, ?_⟩
    have od := okDs.get (form_keeps hs h2 hds) hd
    obtain ⟨S2, q1, q2, q3⟩ := h d sp' S' h1 od
    rw [drop_at hd] at h3
    cases hb : (fb d sp').1 with
    | true =>
      rw [hb] at q1
      simp [fm2 Mb h1, q1, look_no _ od.no]
      exact ⟨_, (fb d sp').2, rfl, q2, h2.trans q3, by rw [h3]; simp [allM, two, hb]⟩
    | false =>
      rw [hb] at q1
      simp [fm2 Mb h1, q1, look_no _ od.no]
      have e1 : allM fb ds sp = (false, (fb d sp').2) := by rw [h3]; simp only [allM]; exact two_f hb
      exact ⟨rfl, by rw [e1], by rw [e1]; exact q2, h2.trans q3⟩
  rcases loop.out with ⟨e, S', q, x, sp', rfl, h1, h2, h3⟩ | ⟨d, S', q, h1, h2, h3, h4⟩
  · have e1 : allM fb ds sp = (true, sp') := by rw [h3, List.drop_length]; rfl
    exact .inl ⟨x, S', q, by rw [e1], by rw [e1]; exact h1, h2⟩
  · exact .inr ⟨S', by rw [q, h1], h2, h3, h4⟩
include N P in
theorem FormP.bd_rest (hk : 5 ≤ k) {w : Str} {ds : List D} (hs : S[r]? = some (formO J.c L sp)) (hd : okD S (.tup (.str w :: ds))) (hl : 1 ≤ ds.length ∧ ds.length ≤ 4)
    (he : ExOk (cfgN C F k) J.c r L J.is_expression (deep + 1) fe) (hb : ExOk (cfgN C F k) J.c r L J.is_body (deep + 1) fb) (hx : AxOk (cfgN C F k) J.c r L J.are_expressions (deep + 1) fe) (hr : ExOk (cfgN C F k) J.c r L J.is_branch (deep + 1) (branchS L fb)) :
    ∃ S', endD (b_bd_rest (cfgN C F k) I.is_tuple [some (.ref r), some (.tup (.str w :: ds)), some (.int deep), none, none] S) = .ok (.bl (bodyW L fe fb w ds sp).1) S' ∧ S'[r]? = some (formO J.c L (bodyW L fe fb w ds sp).2) ∧ Keep [r] S S' := by
  have T := N.tup_k (k := k) (by omega)
  have Mb := P.m_is_body.k F k
  have Me := P.m_is_expression.k F k
  have Mx := P.m_are_expressions.k F k
  have Ml := P.m_are_lows.k F k
  have Mr := P.m_is_branch.k F k
  have hF := P.flds.k F k
  have hlw := fun {S : Store} {x : D} {ds : List D} hs hx hd hl => P.lows_k N (k := k) (S := S) (L := L) (r := r) (sp := sp) (by omega) hs (x := x) (ds := ds) hx hd hl
  generalize cfgN C F k = Ck at *
  have f1 : ∀ {S : Store} {sp : Int}, S[r]? = some (formO J.c L sp) → fldO Ck "makers" S (some (formO J.c L sp)) = .ok (.d (.int L.makers)) S := fun hs => fldL hs "makers" hF.makers (by unfold formF; kernel_rfl)
  have hi := hd.items.2
  have hsz := sizeLine_eq
  have lk : lok 1 = true := by unfold lok; rw [hsz]; decide
  by_cases h1 : w = "give"
  · subst h1
    match ds, hl with
    | [a], _ =>
      obtain ⟨S', q1, q2, q3⟩ := he a sp S hs hi.1
      exact ⟨S', by simp [b_bd_rest, bodyW, fm2 Me hs, q1], by simp [bodyW, q2], q3⟩
    | [a, b], _ => exact ⟨S, by simp [b_bd_rest, bodyW], by simp [bodyW, hs], Keep.refl⟩
    | [a, b, c], _ => exact ⟨S, by simp [b_bd_rest, bodyW], by simp [bodyW, hs], Keep.refl⟩
    | [a, b, c, d], _ => exact ⟨S, by simp [b_bd_rest, bodyW], by simp [bodyW, hs], Keep.refl⟩
  · by_cases h2 : w = "let"
    · subst h2
      match ds, hl with
      | [a], _ => exact ⟨S, by simp [b_bd_rest, bodyW, h1], by simp [bodyW, hs, h1], Keep.refl⟩
      | [a, b], _ => exact ⟨S, by simp [b_bd_rest, bodyW, h1], by simp [bodyW, hs, h1], Keep.refl⟩
      | [a, b, c, d], _ => exact ⟨S, by simp [b_bd_rest, bodyW, h1], by simp [bodyW, hs, h1], Keep.refl⟩
      | [a, b, c], _ =>
        have oa := hi.1
        have ob := hi.2.1
        have oc := hi.2.2.1
        have hlt : r < S.length := (List.getElem?_eq_some_iff.mp hs).1
        have hs0 : (S ++ [O.lst [a]])[r]? = some (formO J.c L sp) := by rw [List.getElem?_append_left hlt]; exact hs
        have k0 : Keep [r] S (S ++ [O.lst [a]]) := Keep.push _
        obtain ⟨S1, q1, q2, q3⟩ := hlw (S := S ++ [O.lst [a]]) (x := .ref S.length) (ds := [a]) hs0 (.inr ⟨_, rfl, by simp⟩) ⟨form_keep hs k0 oa, trivial⟩ (by rw [hsz]; simp)
        have e1 : bodyW L fe fb "let" [a, b, c] sp = two (lowsM [a] sp) fun sp => two (fe b sp) (fb c) := by simp [bodyW, h1]
        rw [e1]
        cases z1 : (lowsM [a] sp).1 with
        | false =>
          rw [two_f z1]
          rw [z1] at q1
          exact ⟨S1, by simp [b_bd_rest, h1, lk, fm1 Ml hs, q1], q2, k0.trans q3⟩
        | true =>
          rw [two_t z1]
          rw [z1] at q1
          have k1 := k0.trans q3
          obtain ⟨S2, t1, t2, t3⟩ := he b (lowsM [a] sp).2 S1 q2 (form_keep hs k1 ob)
          have k2 := k1.trans t3
          cases z2 : (fe b (lowsM [a] sp).2).1 with
          | false =>
            rw [two_f z2]
            rw [z2] at t1
            exact ⟨S2, by simp [b_bd_rest, h1, lk, fm1 Ml hs, q1, fm2 Me q2, t1], t2, k2⟩
          | true =>
            rw [two_t z2]
            rw [z2] at t1
            obtain ⟨S3, u1, u2, u3⟩ := hb c (fe b (lowsM [a] sp).2).2 S2 t2 (form_keep hs k2 oc)
            exact ⟨S3, by simp [b_bd_rest, h1, lk, fm1 Ml hs, q1, fm2 Me q2, t1, fm2 Mb t2, u1], u2, k2.trans u3⟩
    · by_cases h3 : w = "if"
      · subst h3
        match ds, hl with
        | [a], _ => exact ⟨S, by simp [b_bd_rest, bodyW, h1, h2], by simp [bodyW, hs, h1, h2], Keep.refl⟩
        | [a, b], _ => exact ⟨S, by simp [b_bd_rest, bodyW, h1, h2], by simp [bodyW, hs, h1, h2], Keep.refl⟩
        | [a, b, c], _ => exact ⟨S, by simp [b_bd_rest, bodyW, h1, h2], by simp [bodyW, hs, h1, h2], Keep.refl⟩
        | [a, b, c, d], _ =>
          have oc := hi.2.2.1
          have od := hi.2.2.2.1
          obtain ⟨S1, q1, q2, q3⟩ := hx [a, b] sp S hs ⟨hi.1, hi.2.1, trivial⟩
          have e1 : bodyW L fe fb "if" [a, b, c, d] sp = two (allM fe [a, b] sp) fun sp => two (fb c sp) (fb d) := by simp [bodyW, h1, h2]
          rw [e1]
          cases z1 : (allM fe [a, b] sp).1 with
          | false =>
            rw [two_f z1]
            rw [z1] at q1
            exact ⟨S1, by simp [b_bd_rest, h1, h2, cut13, fm2 Mx hs, q1], q2, q3⟩
          | true =>
            rw [two_t z1]
            rw [z1] at q1
            obtain ⟨S2, t1, t2, t3⟩ := hb c (allM fe [a, b] sp).2 S1 q2 (form_keep hs q3 oc)
            have k2 := q3.trans t3
            cases z2 : (fb c (allM fe [a, b] sp).2).1 with
            | false =>
              rw [two_f z2]
              rw [z2] at t1
              exact ⟨S2, by simp [b_bd_rest, h1, h2, cut13, fm2 Mx hs, q1, fm2 Mb q2, t1], t2, k2⟩
            | true =>
              rw [two_t z2]
              rw [z2] at t1
              obtain ⟨S3, u1, u2, u3⟩ := hb d (fb c (allM fe [a, b] sp).2).2 S2 t2 (form_keep hs k2 od)
              exact ⟨S3, by simp [b_bd_rest, h1, h2, cut13, fm2 Mx hs, q1, fm2 Mb q2, t1, fm2 Mb t2, u1], u2, k2.trans u3⟩
      · by_cases h4 : w = "match"
        · subst h4
          match ds, hl with
          | [a], _ => exact ⟨S, by simp [b_bd_rest, bodyW, h1, h2, h3], by simp [bodyW, hs, h1, h2, h3], Keep.refl⟩
          | [a, b, c], _ => exact ⟨S, by simp [b_bd_rest, bodyW, h1, h2, h3], by simp [bodyW, hs, h1, h2, h3], Keep.refl⟩
          | [a, b, c, d], _ => exact ⟨S, by simp [b_bd_rest, bodyW, h1, h2, h3], by simp [bodyW, hs, h1, h2, h3], Keep.refl⟩
          | [a, b], _ =>
            have ob := hi.2.1
            obtain ⟨S1, q1, q2, q3⟩ := he a sp S hs hi.1
            have e1 : bodyW L fe fb "match" [a, b] sp = two (fe a sp) fun sp => if tupB 1 L.makers b then allM (branchS L fb) (itemsT b) sp else (false, sp) := by simp [bodyW, h1, h2, h3]
            rw [e1]
            cases z1 : (fe a sp).1 with
            | false =>
              rw [two_f z1]
              rw [z1] at q1
              exact ⟨S1, by simp [b_bd_rest, h1, h2, h3, fm2 Me hs, q1], q2, q3⟩
            | true =>
              rw [two_t z1]
              rw [z1] at q1
              have ob1 := form_keep hs q3 ob
              obtain ⟨nb, hnb⟩ := ob1.ty
              have hcb := T.ok b S1 nb 1 L.makers hnb
              cases z2 : tupB 1 L.makers b with
              | false =>
                rw [z2] at hcb
                exact ⟨S1, by simp [b_bd_rest, h1, h2, h3, fm2 Me hs, q1, call3 _ _ _ _ _ T.ar, q2, f1 q2, hcb], by simp [q2], q3⟩
              | true =>
                rw [z2] at hcb
                cases b with
                | tup bs =>
                  simp only [if_true, itemsT]
                  rcases branches_loop Mr hr (w := .str "match") (y1 := .str "match") (y2 := a) q2 ob1.items with ⟨x, S2, t1, t2, t3, t4⟩ | ⟨S2, t1, t2, t3, t4⟩
                  · exact ⟨S2, by simp [b_bd_rest, h1, h2, h3, fm2 Me hs, q1, call3 _ _ _ _ _ T.ar, q2, f1 q2, hcb, t1, t2], t3, q3.trans t4⟩
                  · exact ⟨S2, by simp [b_bd_rest, h1, h2, h3, fm2 Me hs, q1, call3 _ _ _ _ _ T.ar, q2, f1 q2, hcb, t1, t2], t3, q3.trans t4⟩
                | _ => cases z2
        · exact ⟨S, by simp [b_bd_rest, bodyW, h1, h2, h3, h4], by simp [bodyW, hs, h1, h2, h3, h4], Keep.refl⟩
end
end L3


/-! L4K: Form: bodies at all depths; units, kinds. -/
namespace L3
open PySem PySem.Spec PyProof.Rows L2
section
variable {C : Cfg} {F : Nat → FI} {I : NamesI} {J : FormI} (N : NamesP C F I) (P : FormP C F I J) {r k : Nat} {L : Lim} {sp deep : Int} {S : Store} {d : D} {fe fb : D → Int → Bool × Int}
include N P in
theorem FormP.bd_k (hk : 6 ≤ k) (hdeep : deep ≤ L.deepest) (he : ExOk (cfgN C F (k - 1)) J.c r L J.is_expression (deep + 1) fe) (hb : ExOk (cfgN C F (k - 1)) J.c r L J.is_body (deep + 1) fb) (hx : AxOk (cfgN C F (k - 1)) J.c r L J.are_expressions (deep + 1) fe) (hr : ExOk (cfgN C F (k - 1)) J.c r L J.is_branch (deep + 1) (branchS L fb)) :
    ExOk (cfgN C F k) J.c r L J.is_body deep (bodyS L fe fb) := by
  intro d sp S hs hd
  unfold Goes
  rw [P.is_body.at (by omega)]
  simp only [bd_split]
  rw [sSeq_ap, sIf_ap]
  show ∃ S', endD (((tGuard _ _ 2 5 [some (.ref r), some d, some (.int deep), none, none] S).fl _ _).seq _) = _ ∧ _
  have G := guard_ok (t := [none, none]) (b := 5) (P.flds.k F (k - 1)) hs (N.tup_k (k := k - 1) (by omega)) (P.m_take.k F (k - 1)) (P.take_k (k := k - 1) (by omega) hs) hd hdeep (show (1 : Int) ≤ 2 by omega)
  rcases G with ⟨g1, g2⟩ | ⟨g1, g2, g3⟩ | ⟨g1, g2, x, ds, rfl, g3⟩
  · rw [g2]
    exact ⟨S, by simp [bodyS, g1], by simp [bodyS, g1, hs], Keep.refl⟩
  · rw [g3]
    have e2 : bodyS L fe fb d sp = (false, sp - 1) := by unfold bodyS; rw [if_pos g1, if_neg g2]
    rw [e2]
    exact ⟨_, rfl, set_form hs _, set_keep _⟩
  · rw [g3]
    have ks : Keep [r] S (S.set r (formO J.c L (sp - 1))) := set_keep _
    have hd1 := form_keep hs ks hd
    have hs1 : (S.set r (formO J.c L (sp - 1)))[r]? = some (formO J.c L (sp - 1)) := set_form hs _
    generalize S.set r (formO J.c L (sp - 1)) = S1 at ks hd1 hs1 g3 ⊢
    cases x with
    | str w =>
      have hl : 1 ≤ ds.length ∧ ds.length ≤ 4 := by
        simp [tupB] at g1; omega
      obtain ⟨S', q1, q2, q3⟩ := P.bd_rest N (k := k - 1) (by omega) hs1 hd1 hl he hb hx hr
      have e3 : bodyS L fe fb (.tup (.str w :: ds)) sp = bodyW L fe fb w ds (sp - 1) := by unfold bodyS; rw [if_pos g1, if_pos g2]; rfl
      rw [e3]
      exact ⟨S', q1, q2, ks.trans q3⟩
    | _ =>
      refine ⟨S1, ?_, ?_, ks⟩
      · simp only [bodyS, g1, g2, if_true, itemsT]; rfl
      · simp only [bodyS, g1, g2, if_true, itemsT]; exact hs1
theorem guard_deep {Ck : Cfg} {it : Nat} {a b : Int} {t : Env} (hF : FormF Ck J.c) (hs : S[r]? = some (formO J.c L sp)) (h : L.deepest < deep) : tGuard Ck it a b (some (.ref r) :: some d :: some (.int deep) :: t) S = .ok true S := by
  have hfl : fldO Ck "deepest" S (some (formO J.c L sp)) = .ok (.d (.int L.deepest)) S := fldL hs "deepest" hF.deepest (by unfold formF; kernel_rfl)
  simp [tGuard, hs, hfl, h]
include N P in
/-- ALL DEPTHS -/
theorem FormP.all_k : ∀ (n : Nat) (deep : Int), deep + n = L.deepest + 1 → ∀ k, 4 * n + 6 ≤ k → ExOk (cfgN C F k) J.c r L J.is_expression deep (exprM L n) ∧ ExOk (cfgN C F k) J.c r L J.is_body deep (bodyM L n)
  | 0, deep, h, k, hk => by
    constructor
    · intro d sp S hs hd
      unfold Goes
      rw [P.is_expression.at (by omega)]
      simp only [ex_split]
      rw [sSeq_ap, sIf_ap]
      show ∃ S', endD (((tGuard _ _ 2 4 [some (.ref r), some d, some (.int deep), none] S).fl _ _).seq _) = _ ∧ _
      rw [guard_deep (P.flds.k F (k - 1)) hs (by omega)]
      exact ⟨S, by simp [exprM], by simp [exprM, hs], Keep.refl⟩
    · intro d sp S hs hd
      unfold Goes
      rw [P.is_body.at (by omega)]
      simp only [bd_split]
      rw [sSeq_ap, sIf_ap]
      show ∃ S', endD (((tGuard _ _ 2 5 [some (.ref r), some d, some (.int deep), none, none] S).fl _ _).seq _) = _ ∧ _
      rw [guard_deep (P.flds.k F (k - 1)) hs (by omega)]
      exact ⟨S, by simp [bodyM], by simp [bodyM, hs], Keep.refl⟩
  | n + 1, deep, h, k, hk => by
    have ih := FormP.all_k n (deep + 1) (by omega)
    have hx2 : AxOk (cfgN C F (k - 2)) J.c r L J.are_expressions (deep + 1) (exprM L n) := P.exprs_k (k := k - 2) (by omega) (ih (k - 2 - 1) (by omega)).1
    have hx1 : AxOk (cfgN C F (k - 1)) J.c r L J.are_expressions (deep + 1) (exprM L n) := P.exprs_k (k := k - 1) (by omega) (ih (k - 1 - 1) (by omega)).1
    have ha : AgOk (cfgN C F (k - 1)) J.c r L J.are_args (deep + 1) (exprM L n) := P.args_k N (k := k - 1) (by omega) hx2
    have hr : ExOk (cfgN C F (k - 1)) J.c r L J.is_branch (deep + 1) (branchS L (bodyM L n)) := P.branch_k N (k := k - 1) (by omega) (ih (k - 1 - 1) (by omega)).2
    have ih1 := ih (k - 1) (by omega)
    exact ⟨P.ex_k N (by omega) (by omega) ih1.1 ih1.2 hx1 ha, P.bd_k N (by omega) (by omega) ih1.1 ih1.2 hx1 hr⟩
end
/-! ### units -/
/-- a body's judgement: all parts at hand, at depth 1 -/
def bodyB (L : Lim) (d : D) : Bool := (bodyM L L.deepest.toNat d L.parts).1
def unitB (L : Lim) : D → Bool
  | .tup [a, _, c, e] => lowB a && (toldB c && bodyB L e)
  | _ => false
def keyD : D → D
  | .tup [_, b, _, _] => b
  | _ => .non
def familyB (L : Lim) (d : D) : Bool := unitB L d && lowB (keyD d)
def defB (L : Lim) (d : D) : Bool := unitB L d && (tupB 0 L.params (keyD d) && (itemsT (keyD d)).all paramB)
/-- a call that judges, whatever is left -/
def GoesB (C : Cfg) (c r : Nat) (L : Lim) (i : Nat) (as : List D) (S : Store) (b : Bool) : Prop :=
  ∃ S' sp', C.calls i (.ref r :: as) S = .ok (.bl b) S' ∧ S'[r]? = some (formO c L sp') ∧ Keep [r] S S'
section
variable {C : Cfg} {F : Nat → FI} {I : NamesI} {J : FormI} (N : NamesP C F I) (P : FormP C F I J) {r k : Nat} {L : Lim} {sp deep : Int} {S : Store} {d : D}
include N P in
theorem FormP.unit_k (hk : 4 * L.deepest.toNat + 8 ≤ k) (h0 : 0 ≤ L.deepest) (hs : S[r]? = some (formO J.c L sp)) (hd : okD S d) : GoesB (cfgN C F k) J.c r L J.is_unit [d] S (unitB L d) := by
  unfold GoesB
  rw [P.is_unit.at (by omega)]
  have T := N.tup_k (k := k - 1) (by omega)
  have W := N.low_k (k := k - 1) (by omega)
  have O := N.told_k (k := k - 1) (by omega)
  have Mb := P.m_is_body.k F (k - 1)
  have hb := (P.all_k N (r := r) (L := L) L.deepest.toNat 1 (by omega) (k - 1) (by omega)).2
  have hF := P.flds.k F (k - 1)
  generalize cfgN C F (k - 1) = Ck at *
  have f1 : fldO Ck "parts" S (some (formO J.c L sp)) = .ok (.d (.int L.parts)) S := fldL hs "parts" hF.parts (by unfold formF; kernel_rfl)
  obtain ⟨n, hn⟩ := hd.ty
  have hc := T.ok d S n 4 4 hn
  rcases tup4 d with ⟨h, a, b, c, e, rfl⟩ | ⟨h, h2⟩
  · rw [h] at hc
    have oa := hd.items.1
    have oc := hd.items.2.2.1
    have oe := hd.items.2.2.2.1
    obtain ⟨na, hna⟩ := oa.ty
    obtain ⟨nc, hnc⟩ := oc.ty
    have hca := W.ok a S na hna oa.len
    have hcc := O.ok c S nc hnc oc.len
    cases q1 : lowB a with
    | false =>
      rw [q1] at hca
      exact ⟨S, sp, by simp [b_Form_is_unit, env0, call3 _ _ _ _ _ T.ar, call1 _ _ _ W.ar, hc, hca, unitB, q1], hs, Keep.refl⟩
    | true =>
      rw [q1] at hca
      cases q2 : toldB c with
      | false =>
        rw [q2] at hcc
        exact ⟨S, sp, by simp [b_Form_is_unit, env0, call3 _ _ _ _ _ T.ar, call1 _ _ _ W.ar, call1 _ _ _ O.ar, hc, hca, hcc, unitB, q1, q2], hs, Keep.refl⟩
      | true =>
        rw [q2] at hcc
        have h3 : putFD "spare" (.int L.parts) (formF L sp) = formF L L.parts := by unfold formF; kernel_rfl
        have hin : insO Ck "spare" r (.int L.parts) [some (.ref r), some (.tup [a, b, c, e])] S (some (formO J.c L sp)) = .next [some (.ref r), some (.tup [a, b, c, e])] (S.set r (formO J.c L L.parts)) := by
          unfold formO
          rw [insO_ins, hF.spare, h3]
          rfl
        have ks : Keep [r] S (S.set r (formO J.c L L.parts)) := set_keep _
        have hs1 : (S.set r (formO J.c L L.parts))[r]? = some (formO J.c L L.parts) := set_form hs _
        obtain ⟨S2, t1, t2, t3⟩ := hb e L.parts _ hs1 (form_keep hs ks oe)
        refine ⟨S2, _, ?_, t2, ks.trans t3⟩
        simp [b_Form_is_unit, env0, call3 _ _ _ _ _ T.ar, call1 _ _ _ W.ar, call1 _ _ _ O.ar, hc, hca, hcc, hs, f1, hin, fm2 Mb hs1, t1, unitB, q1, q2, bodyB]
  · rw [h] at hc
    have e1 : unitB L d = false := by
      unfold unitB
      split
      · exact absurd rfl (h2 _ _ _ _)
      · rfl
    rw [e1]
    exact ⟨S, sp, by simp [b_Form_is_unit, env0, call3 _ _ _ _ _ T.ar, look_no _ hd.no, hc], hs, Keep.refl⟩
theorem unit_shape (h : unitB L d = true) : ∃ a b c e, d = .tup [a, b, c, e] := by
  unfold unitB at h
  split at h
  · exact ⟨_, _, _, _, rfl⟩
  · cases h
include N P in
theorem FormP.family_k (hk : 4 * L.deepest.toNat + 9 ≤ k) (h0 : 0 ≤ L.deepest) (hs : S[r]? = some (formO J.c L sp)) (hd : okD S d) : GoesB (cfgN C F k) J.c r L J.is_family [d] S (familyB L d) := by
  unfold GoesB
  rw [P.is_family.at (by omega)]
  have W := N.low_k (k := k - 1) (by omega)
  have Mu := P.m_is_unit.k F (k - 1)
  obtain ⟨S1, sp1, q1, q2, q3⟩ := P.unit_k N (k := k - 1) (by omega) h0 hs hd
  generalize cfgN C F (k - 1) = Ck at *
  cases hu : unitB L d with
  | false =>
    rw [hu] at q1
    exact ⟨S1, sp1, by simp [b_Form_is_family, env0, fm1 Mu hs, look_no _ hd.no, q1, familyB, hu], q2, q3⟩
  | true =>
    rw [hu] at q1
    obtain ⟨a, b, c, e, rfl⟩ := unit_shape hu
    have ob := (form_keep hs q3 hd).items.2.1
    obtain ⟨nb, hnb⟩ := ob.ty
    have hcb := W.ok b S1 nb hnb ob.len
    exact ⟨S1, sp1, by simp [b_Form_is_family, env0, fm1 Mu hs, q1, familyB, hu, call1 _ _ _ W.ar, hcb, keyD], q2, q3⟩
include N P in
theorem FormP.param_k (hk : 4 ≤ k) (hs : S[r]? = some (formO J.c L sp)) (hd : okD S d) : (cfgN C F k).calls J.is_param [.ref r, d] S = .ok (.bl (paramB d)) S := by
  rw [P.is_param.at (by omega)]
  exact is_param_ok (N.tup_k (by omega)) (N.low_k (by omega)) (N.told_k (by omega)) hd
include N P in
theorem FormP.maker_k (hk : 4 ≤ k) (hs : S[r]? = some (formO J.c L sp)) (hd : okD S d) : (cfgN C F k).calls J.is_maker [.ref r, d] S = .ok (.bl (makerB L d)) S := by
  rw [P.is_maker.at (by omega)]
  exact is_maker_ok (P.flds.k F _) hs (N.tup_k (by omega)) (N.high_k (by omega)) (N.told_k (by omega)) hd
include N P in
theorem FormP.def_k (hk : 4 * L.deepest.toNat + 9 ≤ k) (h0 : 0 ≤ L.deepest) (hs : S[r]? = some (formO J.c L sp)) (hd : okD S d) : GoesB (cfgN C F k) J.c r L J.is_def [d] S (defB L d) := by
  unfold GoesB
  rw [P.is_def.at (by omega)]
  have T := N.tup_k (k := k - 1) (by omega)
  have Mu := P.m_is_unit.k F (k - 1)
  have Mp := P.m_is_param.k F (k - 1)
  obtain ⟨S1, sp1, q1, q2, q3⟩ := P.unit_k N (k := k - 1) (by omega) h0 hs hd
  have hp := fun {d : D} hd => P.param_k N (k := k - 1) (d := d) (by omega) q2 hd
  have hF := P.flds.k F (k - 1)
  generalize cfgN C F (k - 1) = Ck at *
  have f1 : fldO Ck "params" S1 (some (formO J.c L sp1)) = .ok (.d (.int L.params)) S1 := fldL q2 "params" hF.params (by unfold formF; kernel_rfl)
  refine ⟨S1, sp1, ?_, q2, q3⟩
  cases hu : unitB L d with
  | false =>
    rw [hu] at q1
    simp [b_Form_is_def, env0, fm1 Mu hs, look_no _ hd.no, q1, defB, hu]
  | true =>
    rw [hu] at q1
    obtain ⟨a, b, c, e, rfl⟩ := unit_shape hu
    have ob := (form_keep hs q3 hd).items.2.1
    obtain ⟨nb, hnb⟩ := ob.ty
    have hcb := T.ok b S1 nb 0 L.params hnb
    cases h2 : tupB 0 L.params b with
    | false =>
      rw [h2] at hcb
      simp [b_Form_is_def, env0, fm1 Mu hs, q1, defB, hu, call3 _ _ _ _ _ T.ar, q2, f1, hcb, keyD, h2]
    | true =>
      rw [h2] at hcb
      cases b with
      | tup bs =>
        have hlc : mLc Ck.fuel [2] (iOf (mIx (mVar 1) (mC (.int 1)))) (gVar 2) L3.tYes (mMeth Ck "is_param" (mVar 0) [mVar 2]) [some (.ref r), some (.tup [a, .tup bs, c, e]), none] S1 = .ok (.fl (bs.map fun d => .bl (paramB d))) S1 := by
          refine mLc_pure (fun d => .bl (paramB d)) (by simp) ob.1 fun d hd => ⟨_, rfl, ?_⟩
          have od := ob.items.mem hd
          simp [wipeE, fm1 Mp q2, look_no _ od.no, hp od]
        simp [b_Form_is_def, env0, fm1 Mu hs, q1, defB, hu, call3 _ _ _ _ _ T.ar, q2, f1, hcb, keyD, h2, hlc, itemsT]
      | _ => cases h2
include N P in
theorem FormP.kind_k (hk : 5 ≤ k) (hs : S[r]? = some (formO J.c L sp)) (hd : okD S d) : (cfgN C F k).calls J.is_kind [.ref r, d] S = .ok (.bl (kindB L d)) S := by
  rw [P.is_kind.at (by omega)]
  have T := N.tup_k (k := k - 1) (by omega)
  have H := N.high_k (k := k - 1) (by omega)
  have Mp := P.m_is_maker.k F (k - 1)
  have hp := fun {d : D} hd => P.maker_k N (k := k - 1) (d := d) (by omega) hs hd
  have hF := P.flds.k F (k - 1)
  generalize cfgN C F (k - 1) = Ck at *
  have f1 : fldO Ck "makers" S (some (formO J.c L sp)) = .ok (.d (.int L.makers)) S := fldL hs "makers" hF.makers (by unfold formF; kernel_rfl)
  obtain ⟨n, hn⟩ := hd.ty
  have hc := T.ok d S n 2 2 hn
  rcases tup2 d with ⟨h, a, b, rfl⟩ | ⟨h, h2⟩
  · rw [h] at hc
    have oa := hd.items.1
    have ob := hd.items.2.1
    obtain ⟨na, hna⟩ := oa.ty
    obtain ⟨nb, hnb⟩ := ob.ty
    have hca := H.ok a S na hna oa.len
    have hcb := T.ok b S nb 1 L.makers hnb
    cases q1 : highB a with
    | false => simp [b_Form_is_kind, env0, call3 _ _ _ _ _ T.ar, call1 _ _ _ H.ar, hc, hca, q1, kindB]
    | true =>
      cases q2 : tupB 1 L.makers b with
      | false => simp [b_Form_is_kind, env0, call3 _ _ _ _ _ T.ar, call1 _ _ _ H.ar, hc, hca, q1, kindB, hs, f1, hcb, q2]
      | true =>
        cases b with
        | tup ds =>
          have hlc : mLc Ck.fuel [2] (iOf (mIx (mVar 1) (mC (.int 1)))) (gVar 2) L3.tYes (mMeth Ck "is_maker" (mVar 0) [mVar 2]) [some (.ref r), some (.tup [a, .tup ds]), none] S = .ok (.fl (ds.map fun d => .bl (makerB L d))) S := by
            refine mLc_pure (fun d => .bl (makerB L d)) (by simp) ob.1 fun d hd => ⟨_, rfl, ?_⟩
            have od := ob.items.mem hd
            simp [wipeE, fm1 Mp hs, look_no _ od.no, hp od]
          have e2 : (ds.map (makerB L)).all id = ds.all (makerB L) := by rw [List.all_map]; rfl
          simp [b_Form_is_kind, env0, call3 _ _ _ _ _ T.ar, call1 _ _ _ H.ar, hc, hca, q1, kindB, hs, f1, hcb, q2, hlc, itemsT]
        | _ => cases q2
  · rw [h] at hc
    have : kindB L d = false := by
      unfold kindB
      split
      · exact absurd rfl (h2 _ _)
      · rfl
    rw [this]
    simp [b_Form_is_kind, env0, call3 _ _ _ _ _ T.ar, hc, look_no _ hd.no]
end
end L3


/-! L4L: is_tree, strings_in, is_program, is_plain. -/
namespace L3
open PySem PySem.Spec PyProof.Rows L2
def limD (L : Lim) : D := .tup [.int L.kinds, .int L.makers, .int L.fields, .int L.families, .int L.defs, .int L.params, .int L.parts, .int L.deepest]
def treeB (L : Lim) : D → Bool
  | .tup [a, b, c] => (tupB 0 L.kinds a && (tupB 0 L.families b && tupB 0 L.defs c)) && ((itemsT a).all (kindB L) && ((itemsT b).all (familyB L) && (itemsT c).all (defB L)))
  | _ => false
@[simp] theorem sPar_ap (fs : List DX) (is : List Nat) (e : Env) (S : Store) : sPar fs is e S = (mArgs fs e S).fl e fun ds S1 => gRun (fun _ e S => gAll (is.map gVar) ds e S) .non e S1 := by
  unfold sPar Out.fl
  cases mArgs fs e S <;> rfl
section
variable {C : Cfg} {F : Nat → FI} {I : NamesI} {J : FormI} (N : NamesP C F I) (P : FormP C F I J) {r k : Nat} {L : Lim} {sp deep : Int} {S : Store} {d : D}
include P in
theorem FormP.init_k (hk : 1 ≤ k) : (cfgN C F k).calls J.init [.ref S.length, limD L] (S ++ [.ins J.c []]) = .ok .non (S ++ [formO J.c L 0]) := by
  rw [P.init.at hk]
  have hF := P.flds.k F (k - 1)
  generalize cfgN C F (k - 1) = Ck at *
  have at1 : ∀ o : O, (S ++ [o])[S.length]? = some o := fun o => by simp
  have st1 : ∀ o o' : O, (S ++ [o]).set S.length o' = S ++ [o'] := fun o o' => by simp
  have c1 : cutD [D.int L.kinds, .int L.makers, .int L.fields, .int L.families, .int L.defs, .int L.params, .int L.parts, .int L.deepest] none (some 6) = [D.int L.kinds, .int L.makers, .int L.fields, .int L.families, .int L.defs, .int L.params] := rfl
  have c2 : cutD [D.int L.kinds, .int L.makers, .int L.fields, .int L.families, .int L.defs, .int L.params, .int L.parts, .int L.deepest] (some 6) none = [D.int L.parts, .int L.deepest] := rfl
  simp [b_Form___init__, env0, limD, c1, c2, at1, st1, hF.kinds, hF.makers, hF.fields, hF.families, hF.defs, hF.params, hF.parts, hF.deepest, hF.spare, putFD, formO, formF]
theorem comp_form {Ck : Cfg} {c i : Nat} {m : Str} {f : D → Bool} {it : DI} {ds : List D} {y1 y2 : D} {x : Option D} {fuel : Nat} (M : Mth Ck c m i 2) (h : ∀ (d : D) (S : Store) (sp : Int), S[r]? = some (formO c L sp) → okD S d → GoesB Ck c r L i [d] S (f d))
    (hs : S[r]? = some (formO c L sp)) (hds : okDs S ds) (hl : ds.length < sizeLine) (hi : it [some y1, some y2, some (.ref r), x] S = .ok (.items ds) S) :
    ∃ S' sp', mLc fuel [3] it (gVar 3) L3.tYes (mMeth Ck m (mVar 2) [mVar 3]) [some y1, some y2, some (.ref r), x] S = .ok (.fl (ds.map fun d => .bl (f d))) S' ∧ S'[r]? = some (formO c L sp') ∧ Keep [r] S S' := by
  obtain ⟨out, S', h1, sp', h2, h3, h4⟩ := mLc_items (fuel := fuel) (own := [3]) (g := gVar 3) (t := L3.tYes) (f := mMeth Ck m (mVar 2) [mVar 3]) (e := [some y1, some y2, some (.ref r), x])
    (fun i S' acc => ∃ sp', S'[r]? = some (formO c L sp') ∧ Keep [r] S S' ∧ acc = (ds.take i).map fun d => D.bl (f d)) hi ⟨sp, hs, Keep.refl, rfl⟩ (by
    rintro i d S' acc hd ⟨sp', h1, h2, rfl⟩
    have hlt := (List.getElem?_eq_some_iff.mp hd).1
    refine ⟨by rw [List.length_map, List.length_take]; omega, ?_⟩
    have od := okDs.get (form_keeps hs h2 hds) hd
    obtain ⟨S2, sp2, q1, q2, q3⟩ := h d S' sp' h1 od
    refine ⟨_, _, rfl, true, _, rfl, ?_⟩
    rw [if_pos rfl]
    refine ⟨.bl (f d), S2, ?_, sp2, q2, h2.trans q3, by rw [List.take_succ, hd]; simp⟩
    simp [wipeE, fm1 M h1, look_no _ od.no, q1])
  rw [List.take_of_length_le (Nat.le_refl _)] at h4
  exact ⟨S', sp', by rw [h1, h4], h2, h3⟩
/-- what is_tree promises -/
structure TreeOk (C : Cfg) (i : Nat) (L : Lim) : Prop where
  ar : Ar C i 2
  ok : ∀ (d : D) (S : Store), okD S d → ∃ S', C.calls i [d, limD L] S = .ok (.bl (treeB L d)) S' ∧ Keep [] S S'
theorem all_id {α : Type} (l : List α) (f : α → Bool) : (l.map f).all id = l.all f := by rw [List.all_map]; rfl
include N P in
theorem FormP.tree_k {i : Nat} (Pt : Pr C F i ["thing", "limits", "form", "entry"] 2 (fun C => b_is_tree C I.is_tuple J.c)) (hk : 4 * L.deepest.toNat + 11 ≤ k) (h0 : 0 ≤ L.deepest) : TreeOk (cfgN C F k) i L where
  ar := Pt.ark k
  ok d S hd := by
    rw [Pt.at (by omega)]
    have T := N.tup_k (k := k - 1) (by omega)
    have Mk := P.m_is_kind.k F (k - 1)
    have Mf := P.m_is_family.k F (k - 1)
    have Md := P.m_is_def.k F (k - 1)
    have hkd := fun {r : Nat} {d : D} {S : Store} {sp : Int} hs hd => P.kind_k N (k := k - 1) (r := r) (d := d) (S := S) (sp := sp) (L := L) (by omega) hs hd
    have hfm := fun {r : Nat} (d : D) (S : Store) (sp : Int) hs hd => P.family_k N (k := k - 1) (r := r) (d := d) (S := S) (sp := sp) (L := L) (by omega) h0 hs hd
    have hdf := fun {r : Nat} (d : D) (S : Store) (sp : Int) hs hd => P.def_k N (k := k - 1) (r := r) (d := d) (S := S) (sp := sp) (L := L) (by omega) h0 hs hd
    have hin : (cfgN C F (k - 1)).inis J.init [.ref S.length, limD L] (S ++ [.ins J.c []]) = .ok .non (S ++ [formO J.c L 0]) := P.init_k (k := k - 1 - 1) (by omega)
    have hii : (cfgN C F (k - 1)).ini J.c = some J.init := P.ini
    have hia : Ar (cfgN C F (k - 1)) J.init 2 := P.init.ark (k - 1)
    have hF := P.flds.k F (k - 1)
    generalize cfgN C F (k - 1) = Ck at *
    have hmk : ∀ e : Env, e[1]? = some (some (limD L)) → mMake Ck J.c [mVar 1] e S = .ok (.d (.ref S.length)) (S ++ [formO J.c L 0]) := by
      intro e he
      rw [mMake_ap Ck [mVar 1] e S hii (ar_ok hia)]
      have hf : fillD Ck J.init [.ref S.length, limD L] = [.ref S.length, limD L] := ar_fill hia rfl
      have hlk : look (some (some (limD L))) S = .ok (.d (limD L)) S := rfl
      simp [he, hlk, hf, hin]
    have k0 : Keep [] S (S ++ [formO J.c L 0]) := Keep.push _
    have hs : (S ++ [formO J.c L 0])[S.length]? = some (formO J.c L 0) := by simp
    have hd1 : okD (S ++ [formO J.c L 0]) d := okD.keep k0 (fun q hq => by cases hq) hd
    have kk : ∀ {S' : Store}, Keep [S.length] (S ++ [formO J.c L 0]) S' → Keep [] S S' := fun kp => ⟨by have := kp.1; simp at this; omega, fun q hq _ => by
      rw [kp.2 q (by simp; omega) (by simp; omega)]
      exact List.getElem?_append_left hq⟩
    generalize hr : S.length = r at *
    generalize S ++ [formO J.c L 0] = S0 at *
    have f1 : ∀ {S : Store} {sp : Int}, S[r]? = some (formO J.c L sp) → fldO Ck "kinds" S (some (formO J.c L sp)) = .ok (.d (.int L.kinds)) S := fun hs => fldL hs "kinds" hF.kinds (by unfold formF; kernel_rfl)
    have f2 : ∀ {S : Store} {sp : Int}, S[r]? = some (formO J.c L sp) → fldO Ck "families" S (some (formO J.c L sp)) = .ok (.d (.int L.families)) S := fun hs => fldL hs "families" hF.families (by unfold formF; kernel_rfl)
    have f3 : ∀ {S : Store} {sp : Int}, S[r]? = some (formO J.c L sp) → fldO Ck "defs" S (some (formO J.c L sp)) = .ok (.d (.int L.defs)) S := fun hs => fldL hs "defs" hF.defs (by unfold formF; kernel_rfl)
    obtain ⟨n, hn⟩ := hd1.ty
    have hc := T.ok d S0 n 3 3 hn
    rcases tup3 d with ⟨h, a, b, c, rfl⟩ | ⟨h, h2⟩
    · rw [h] at hc
      have oa := hd1.items.1
      have ob := hd1.items.2.1
      have oc := hd1.items.2.2.1
      obtain ⟨na, hna⟩ := oa.ty
      obtain ⟨nb, hnb⟩ := ob.ty
      obtain ⟨nc, hnc⟩ := oc.ty
      have hca := T.ok a S0 na 0 L.kinds hna
      have hcb := T.ok b S0 nb 0 L.families hnb
      have hcc := T.ok c S0 nc 0 L.defs hnc
      cases q1 : tupB 0 L.kinds a with
      | false =>
        rw [q1] at hca
        exact ⟨S0, by simp [b_is_tree, env0, hmk, call3 _ _ _ _ _ T.ar, hc, hca, hs, f1 hs, treeB, q1], k0⟩
      | true =>
        rw [q1] at hca
        cases q2 : tupB 0 L.families b with
        | false =>
          rw [q2] at hcb
          exact ⟨S0, by simp [b_is_tree, env0, hmk, call3 _ _ _ _ _ T.ar, hc, hca, hcb, hs, f1 hs, f2 hs, treeB, q1, q2], k0⟩
        | true =>
          rw [q2] at hcb
          cases q3 : tupB 0 L.defs c with
          | false =>
            rw [q3] at hcc
            exact ⟨S0, by simp [b_is_tree, env0, hmk, call3 _ _ _ _ _ T.ar, hc, hca, hcb, hcc, hs, f1 hs, f2 hs, f3 hs, treeB, q1, q2, q3], k0⟩
          | true =>
            rw [q3] at hcc
            cases a with
            | tup as =>
              cases b with
              | tup bs =>
                cases c with
                | tup cs =>
                  have hlk : mLc Ck.fuel [3] (iOf (mIx (mVar 0) (mC (.int 0)))) (gVar 3) L3.tYes (mMeth Ck "is_kind" (mVar 2) [mVar 3]) [some (.tup [.tup as, .tup bs, .tup cs]), some (limD L), some (.ref r), none] S0 = .ok (.fl (as.map fun d => .bl (kindB L d))) S0 := by
                    refine mLc_pure (fun d => .bl (kindB L d)) (by simp) oa.1 fun d hd => ⟨_, rfl, ?_⟩
                    have od := oa.items.mem hd
                    simp [wipeE, fm1 Mk hs, look_no _ od.no, hkd hs od]
                  cases z1 : as.all (kindB L) with
                  | false => exact ⟨S0, by simp [b_is_tree, env0, hmk, call3 _ _ _ _ _ T.ar, hc, hca, hcb, hcc, hs, f1 hs, f2 hs, f3 hs, treeB, q1, q2, q3, hlk, all_id, z1, itemsT], k0⟩
                  | true =>
                    obtain ⟨S1, sp1, t1, t2, t3⟩ := comp_form (x := none) (y1 := .tup [.tup as, .tup bs, .tup cs]) (y2 := limD L) (it := iOf (mIx (mVar 0) (mC (.int 1)))) (fuel := Ck.fuel) Mf (fun d S sp hs hd => hfm d S sp hs hd) hs ob.items ob.1 (by simp)
                    cases z2 : bs.all (familyB L) with
                    | false => exact ⟨S1, by simp [b_is_tree, env0, hmk, call3 _ _ _ _ _ T.ar, hc, hca, hcb, hcc, hs, f1 hs, f2 hs, f3 hs, treeB, q1, q2, q3, hlk, all_id, z1, itemsT, t1, z2], kk t3⟩
                    | true =>
                      have oc1 := form_keep hs t3 oc
                      obtain ⟨S2, sp2, u1, u2, u3⟩ := comp_form (x := none) (y1 := .tup [.tup as, .tup bs, .tup cs]) (y2 := limD L) (it := iOf (mIx (mVar 0) (mC (.int 2)))) (fuel := Ck.fuel) Md (fun d S sp hs hd => hdf d S sp hs hd) t2 oc1.items oc1.1 (by simp)
                      exact ⟨S2, by simp [b_is_tree, env0, hmk, call3 _ _ _ _ _ T.ar, hc, hca, hcb, hcc, hs, f1 hs, f2 hs, f3 hs, treeB, q1, q2, q3, hlk, all_id, z1, itemsT, t1, z2, u1], kk (t3.trans u3)⟩
                | _ => cases q3
              | _ => cases q2
            | _ => cases q1
    · rw [h] at hc
      have e1 : treeB L d = false := by
        unfold treeB
        split
        · exact absurd rfl (h2 _ _ _)
        · rfl
      rw [e1]
      exact ⟨S0, by simp [b_is_tree, env0, hmk, call3 _ _ _ _ _ T.ar, hc, look_no _ hd1.no], k0⟩
end
end L3


/-! L4M: strings_in, is_program, is_plain. -/
namespace L3
open PySem PySem.Spec PyProof.Rows L2
mutual
/-- a text in a tree -/
def anyS (p : Str → Bool) : D → Bool
  | .str x => p x
  | .tup ds => anySs p ds
  | _ => false
def anySs (p : Str → Bool) : List D → Bool
  | [] => false
  | d :: ds => anyS p d || anySs p ds
end
theorem anySs_app (p : Str → Bool) : ∀ a b : List D, anySs p (a ++ b) = (anySs p a || anySs p b)
  | [], b => by simp [anySs]
  | d :: a, b => by rw [List.cons_append, anySs, anySs, anySs_app p a b, Bool.or_assoc]
theorem szDs_app : ∀ a b : List D, szDs (a ++ b) = szDs a + szDs b
  | [], b => by simp [szDs]
  | d :: a, b => by rw [List.cons_append, szDs, szDs, szDs_app a b]; omega
theorem szDs_len : ∀ ds : List D, ds.length ≤ szDs ds
  | [] => by simp [szDs]
  | d :: ds => by have := szD_pos d; have := szDs_len ds; simp [szDs]; omega
theorem okDs_app {S : Store} : ∀ {a b : List D}, okDs S (a ++ b) ↔ okDs S a ∧ okDs S b
  | [], b => by simp [okDs]
  | d :: a, b => by rw [List.cons_append, okDs, okDs, okDs_app, and_assoc]
/-- what strings_in promises -/
structure StrsOk (C : Cfg) (i : Nat) : Prop where
  ar : Ar C i 1
  ok : ∀ (d : D) (S : Store), okD S d → szD d ≤ 10000000 → ∃ (out : List Str) (st : List D), C.calls i [d] S = .ok (.ref S.length) (S ++ [.lst (out.map D.str), .lst st]) ∧ (∀ p, out.any p = anyS p d) ∧ (∀ x ∈ out, x.length ≤ sizeLine) ∧ out.length ≤ szD d
section
variable {C : Cfg} {F : Nat → FI} {I : NamesI} {J : FormI} (N : NamesP C F I) (P : FormP C F I J) {r k : Nat} {L : Lim} {sp deep : Int} {S : Store} {d : D}
theorem strings_ok {Ck : Cfg} (hf : 100000000 ≤ Ck.fuel) (hd : okD S d) (hz : szD d ≤ 10000000) :
    ∃ (out : List Str) (st : List D), endD (b_strings_in Ck (env0 ["tree", "found", "waiting", "one"] [d]) S) = .ok (.ref S.length) (S ++ [.lst (out.map D.str), .lst st]) ∧ (∀ p, out.any p = anyS p d) ∧ (∀ x ∈ out, x.length ≤ sizeLine) ∧ out.length ≤ szD d := by
  have hsz := sizeLine_eq
  have a1 : ∀ (x y : List D), (S ++ [O.lst x, O.lst y])[S.length]? = some (.lst x) := fun x y => by simp
  have a2 : ∀ (x y : List D), (S ++ [O.lst x, O.lst y])[S.length + 1]? = some (.lst y) := fun x y => by simp
  have s1 : ∀ (x y z : List D), (S ++ [O.lst x, O.lst y]).set S.length (.lst z) = S ++ [O.lst z, O.lst y] := fun x y z => by simp
  have s2 : ∀ (x y z : List D), (S ++ [O.lst x, O.lst y]).set (S.length + 1) (.lst z) = S ++ [O.lst x, O.lst z] := fun x y z => by simp
  have lk0 : lok 0 = true := rfl
  have lk1 : lok 1 = true := by unfold lok; rw [hsz]; decide
  let wh : DS := sWhile (tOf (mCmp .NotEq (mVar 2) (mLst []))) (sSeq (sAsg (mMeth Ck "pop" (mVar 2) []) (gVar 3)) (sSeq (sIf (tOf (mIsi .str (mVar 3))) (sSeq (sExpr (mMeth Ck "append" (mVar 1) [mVar 3])) sNext) (sSeq (sIf (tOf (mIsi .tuple (mVar 3))) (sSeq (sExpr (mMeth Ck "extend" (mVar 2) [mVar 3])) sNext) sNext) sNext)) sNext)) Ck.fuel
  let In : Nat → Env → Store → Prop := fun m e S' => ∃ (out : List Str) (st : List D) (x : Option D), m = szDs st ∧ e = [some d, some (.ref S.length), some (.ref (S.length + 1)), x] ∧ S' = S ++ [O.lst (out.map D.str), O.lst st] ∧
    okDs S st ∧ (∀ p, (out.any p || anySs p st) = anyS p d) ∧ (∀ x ∈ out, x.length ≤ sizeLine) ∧ out.length + szDs st ≤ szD d
  have loop : Fl.to (wh [some d, some (.ref S.length), some (.ref (S.length + 1)), none] (S ++ [O.lst [], O.lst [d]])) (fun e S' => ∃ (x : Option D) (out : List Str), e = [some d, some (.ref S.length), some (.ref (S.length + 1)), x] ∧ S' = S ++ [O.lst (out.map D.str), O.lst []] ∧ (∀ p, out.any p = anyS p d) ∧ (∀ x ∈ out, x.length ≤ sizeLine) ∧ out.length ≤ szD d) (fun _ _ => False) := by
    refine sWhile_to In ?_ Ck.fuel (szDs [d]) _ _ (by simp [szDs]; omega) ⟨[], [d], none, rfl, rfl, rfl, ⟨hd, trivial⟩, fun p => by simp [anySs], by simp, by simp [szDs]⟩
    rintro m e S' ⟨out, st, x, rfl, rfl, rfl, h1, h2, h3, h4⟩
    rcases List.eq_nil_or_concat st with rfl | ⟨st, a, rfl⟩
    · left
      refine ⟨_, ?_, x, out, rfl, rfl, fun p => ?_, h3, by omega⟩
      · simp [a2, lk0]
      · have := h2 p; simpa [anySs] using this
    · right
      rw [List.concat_eq_append] at h1 h2 h4 ⊢
      have oa : okD S a := (okDs_app.mp h1).2.1
      have ost := (okDs_app.mp h1).1
      have zz : szDs (st ++ [a]) = szDs st + szD a := by rw [szDs_app]; simp [szDs]
      rw [zz] at h4
      have p1 := szD_pos a
      have k1 : Keep [] S (S ++ [O.lst (out.map D.str), O.lst st]) := Keep.app
      have oa1 : okD (S ++ [O.lst (out.map D.str), O.lst st]) a := okD.keep k1 (fun q hq => by cases hq) oa
      obtain ⟨n, hn⟩ := oa1.ty
      have m1 := meth_lst Ck "pop" [] [some d, some (.ref S.length), some (.ref (S.length + 1)), x] (S ++ [O.lst (out.map D.str), O.lst (st ++ [a])]) (S.length + 1) m1_pop (by simp) (a2 _ _)
      have m2 := pop_ok (S ++ [O.lst (out.map D.str), O.lst (st ++ [a])]) (S.length + 1) st (a2 _ _)
      refine ⟨S ++ [O.lst (out.map D.str), O.lst (st ++ [a])], ?_, ?_⟩
      · have : (st ++ [a]).isEmpty = false := by cases st <;> rfl
        simp [a2, lk0, this]
      · cases a with
        | str z =>
          have n1 := meth_lst Ck "append" [mVar 3] [some d, some (.ref S.length), some (.ref (S.length + 1)), some (.str z)] (S ++ [O.lst (out.map D.str), O.lst st]) S.length m1_append (by simp) (a1 _ _)
          have n2 := append_ok (S ++ [O.lst (out.map D.str), O.lst st]) S.length (out.map D.str) (y := .d (.str z)) (d := .str z) rfl (a1 _ _) (by rw [List.length_map, hsz]; omega)
          simp only [szD] at h4 zz
          simp [m1, m2, s2, n1, n2, s1, isN]
          refine ⟨szDs st, by rw [zz]; omega, out ++ [z], st, some (.str z), rfl, by simp, by simp, ost, fun p => ?_, ?_, by simp; omega⟩
          · rw [← h2 p, anySs_app]; simp [anySs, anyS]; cases anySs p st <;> cases p z <;> cases out.any p <;> rfl
          · intro y hy
            rcases List.mem_append.mp hy with hy | hy
            · exact h3 y hy
            · rw [List.mem_singleton.mp hy]; exact oa
        | tup ds =>
          have n1 := meth_lst Ck "extend" [mVar 3] [some d, some (.ref S.length), some (.ref (S.length + 1)), some (.tup ds)] (S ++ [O.lst (out.map D.str), O.lst st]) (S.length + 1) m1_extend (by simp) (a2 _ _)
          simp only [szD] at h4 zz
          have l1 := szDs_len ds
          have l2 := szDs_len st
          have n2 := extend_ok (S ++ [O.lst (out.map D.str), O.lst st]) (S.length + 1) st ds (y := .d (.tup ds)) rfl (a2 _ _) (by rw [hsz]; omega)
          simp [m1, m2, s2, n1, n2, isN]
          refine ⟨szDs st + szDs ds, by rw [zz]; omega, out, st ++ ds, some (.tup ds), by rw [szDs_app], by simp, by simp, okDs_app.mpr ⟨ost, oa.items⟩, fun p => ?_, h3, by rw [szDs_app]; omega⟩
          rw [← h2 p, anySs_app, anySs_app]; simp [anySs, anyS]
        | ref q =>
          simp only [szD] at h4 zz
          have hq : tyO (S ++ [O.lst (out.map D.str), O.lst st])[q]? = some n := by rw [← ty_ref]; exact hn
          have e1 : isN n .str = false := by rcases tyO_cases hq with rfl | rfl <;> rfl
          have e2 : isN n .tuple = false := by rcases tyO_cases hq with rfl | rfl <;> rfl
          simp [m1, m2, s2, hq, e1, e2]
          exact ⟨szDs st, by rw [zz]; omega, out, st, some (.ref q), rfl, by simp, by simp, ost, fun p => by rw [← h2 p, anySs_app]; simp [anySs, anyS], h3, by omega⟩
        | non =>
          simp only [szD] at h4 zz
          simp [m1, m2, s2, isN]
          exact ⟨szDs st, by rw [zz]; omega, out, st, some .non, rfl, by simp, by simp, ost, fun p => by rw [← h2 p, anySs_app]; simp [anySs, anyS], h3, by omega⟩
        | bl b =>
          simp only [szD] at h4 zz
          simp [m1, m2, s2, isN]
          exact ⟨szDs st, by rw [zz]; omega, out, st, some (.bl b), rfl, by simp, by simp, ost, fun p => by rw [← h2 p, anySs_app]; simp [anySs, anyS], h3, by omega⟩
        | int b =>
          simp only [szD] at h4 zz
          simp [m1, m2, s2, isN]
          exact ⟨szDs st, by rw [zz]; omega, out, st, some (.int b), rfl, by simp, by simp, ost, fun p => by rw [← h2 p, anySs_app]; simp [anySs, anyS], h3, by omega⟩
        | fn _ => exact oa.elim
        | exn _ => exact oa.elim
        | kl _ => exact oa.elim
  have e0 : b_strings_in Ck (env0 ["tree", "found", "waiting", "one"] [d]) S = (wh [some d, some (.ref S.length), some (.ref (S.length + 1)), none] (S ++ [O.lst [], O.lst [d]])).seq fun e S => (sSeq (sRet (mVar 1)) sNext) e S := by
    unfold b_strings_in
    simp [env0, lk0, lk1, look_no _ hd.no]
    rfl
  rw [e0]
  rcases loop.out with ⟨e, S', q, x, out, rfl, rfl, h1, h2, h3⟩ | ⟨_, _, _, z⟩
  · rw [q]
    exact ⟨out, [], by simp, h1, h2, h3⟩
  · exact z.elim
include P in
theorem FormP.strs_k {i : Nat} (Ps : Pr C F i ["tree", "found", "waiting", "one"] 1 b_strings_in) (hk : 1 ≤ k) : StrsOk (cfgN C F k) i where
  ar := Ps.ark k
  ok d S hd hz := by
    rw [Ps.at (by omega)]
    exact strings_ok P.fuel hd hz
end
/-! ### programs -/
def told : Lim := ⟨16, 8, 8, 16, 100, 16, 300, 40⟩
def plain : Lim := ⟨40, 8, 16, 0, 150, 20, 700, 50⟩
def progB (d : D) : Bool := treeB told d && !anyS keptS d
/-- what a judge of one thing promises -/
structure JudgeOk (C : Cfg) (i : Nat) (p : D → Bool) : Prop where
  ar : Ar C i 1
  ok : ∀ (d : D) (S : Store), okD S d → szD d ≤ 10000000 → ∃ S', C.calls i [d] S = .ok (.bl (p d)) S' ∧ Keep [] S S'
section
variable {C : Cfg} {F : Nat → FI} {I : NamesI} {J : FormI} (N : NamesP C F I) (P : FormP C F I J) {k : Nat}
include N P in
theorem FormP.plain_k {i it : Nat} (Pi : Pr C F i ["thing"] 1 (fun C => b_is_plain C it)) (Pt : Pr C F it ["thing", "limits", "form", "entry"] 2 (fun C => b_is_tree C I.is_tuple J.c)) (hk : 212 ≤ k) : JudgeOk (cfgN C F k) i (treeB plain) where
  ar := Pi.ark k
  ok d S hd hz := by
    rw [Pi.at (by omega)]
    have T := P.tree_k N (k := k - 1) (L := plain) Pt (by show 4 * 50 + 11 ≤ _; omega) (by decide)
    obtain ⟨S', h1, h2⟩ := T.ok d S hd
    have h1' : (cfgN C F (k - 1)).calls it [d, .tup [.int 40, .int 8, .int 16, .int 0, .int 150, .int 20, .int 700, .int 50]] S = .ok (.bl (treeB plain d)) S' := h1
    exact ⟨S', by simp [b_is_plain, env0, call2 _ _ _ _ T.ar, look_no _ hd.no, h1'], h2⟩
include N P in
theorem FormP.program_k {i is it : Nat} (Pi : Pr C F i ["thing", "name"] 1 (fun C => b_is_program C is I.is_kept it)) (Pt : Pr C F it ["thing", "limits", "form", "entry"] 2 (fun C => b_is_tree C I.is_tuple J.c)) (Ps : Pr C F is ["tree", "found", "waiting", "one"] 1 b_strings_in) (hk : 172 ≤ k) : JudgeOk (cfgN C F k) i progB where
  ar := Pi.ark k
  ok d S hd hz := by
    rw [Pi.at (by omega)]
    have T := P.tree_k N (k := k - 1) (L := L3.told) Pt (by show 4 * 40 + 11 ≤ _; omega) (by decide)
    have W := P.strs_k (k := k - 1) Ps (by omega)
    have K := N.kept_k (k := k - 1) (by omega)
    have hf : 100000000 ≤ (cfgN C F (k - 1)).fuel := P.fuel
    have hsz := sizeLine_eq
    generalize cfgN C F (k - 1) = Ck at *
    obtain ⟨S1, h1, h2⟩ := T.ok d S hd
    have h1' : Ck.calls it [d, .tup [.int 16, .int 8, .int 8, .int 16, .int 100, .int 16, .int 300, .int 40]] S = .ok (.bl (treeB L3.told d)) S1 := h1
    cases hb : treeB L3.told d with
    | false =>
      rw [hb] at h1'
      exact ⟨S1, by simp [b_is_program, env0, call2 _ _ _ _ T.ar, look_no _ hd.no, h1', progB, hb], h2⟩
    | true =>
      rw [hb] at h1'
      have hd1 : okD S1 d := okD.keep h2 (fun q hq => by cases hq) hd
      obtain ⟨out, st, q1, q2, q3, q4⟩ := W.ok d S1 hd1 hz
      have hlc : mLc Ck.fuel [1] (iOf (mCall Ck is [mVar 0])) (gVar 1) L3.tYes (mCall Ck I.is_kept [mVar 1]) [some d, none] S1 = .ok (.fl ((out.map D.str).map fun d => match d with | .str x => .bl (keptS x) | _ => .non)) (S1 ++ [.lst (out.map D.str), .lst st]) := by
        have hi : iOf (mCall Ck is [mVar 0]) [some d, none] S1 = .ok (.live S1.length) (S1 ++ [.lst (out.map D.str), .lst st]) := by
          simp [call1 _ _ _ W.ar, look_no _ hd.no, q1]
        show (iOf (mCall Ck is [mVar 0]) [some d, none] S1).bind _ = _
        rw [hi]
        exact lc_live (fun d => match d with | .str x => .bl (keptS x) | _ => .non) (ds := out.map D.str) (q := S1.length) (by simp) (by rw [List.length_map, hsz]; omega) (fun d hd => by
          obtain ⟨x, hx, rfl⟩ := List.mem_map.mp hd
          refine ⟨_, rfl, ?_⟩
          simp [wipeE, call1 _ _ _ K.ar, K.ok x _ (q3 x hx)]) Ck.fuel 0 (by rw [List.length_map]; omega) (Nat.zero_le _)
      have e1 : ((out.map D.str).map fun d => match d with | .str x => D.bl (keptS x) | _ => .non) = out.map fun x => D.bl (keptS x) := by rw [List.map_map]; rfl
      rw [e1] at hlc
      refine ⟨S1 ++ [.lst (out.map D.str), .lst st], ?_, h2.trans Keep.app⟩
      have e2 : (out.map keptS).any id = anyS keptS d := by rw [List.any_map, ← q2]; rfl
      simp [b_is_program, env0, call2 _ _ _ _ T.ar, look_no _ hd.no, h1', progB, hb, hlc, e2]
end
end L3


/-! L4N: more rules: comprehensions with tests, in, signs, loops over lists of the store. -/
namespace L3
open PySem PySem.Spec PyProof.Rows L2
/-- a comprehension with a test, all plain -/
theorem mLc_filter {fuel : Nat} {own : List Nat} {i : DI} {g : DG} {t : DT} {f : DX} {e : Env} {S : Store} {ds : List D} (F : D → D) (p : D → Bool) (hi : i e S = .ok (.items ds) S) (hl : ds.length < sizeLine)
    (hf : ∀ d ∈ ds, ∃ e1, g d (wipeE e own) S = .next e1 S ∧ t e1 S = .ok (p d) S ∧ (p d = true → mD f e1 S = .ok (F d) S)) : mLc fuel own i g t f e S = .ok (.fl ((ds.filter p).map F)) S := by
  obtain ⟨out, S', h1, h2, h3⟩ := mLc_items (fuel := fuel) (own := own) (g := g) (t := t) (f := f) (fun i S' acc => S' = S ∧ acc = ((ds.take i).filter p).map F) hi ⟨rfl, rfl⟩ (by
    rintro i d S' acc hd ⟨rfl, rfl⟩
    have hlt := (List.getElem?_eq_some_iff.mp hd).1
    refine ⟨?_, ?_⟩
    · rw [List.length_map]
      have := List.length_filter_le p (ds.take i)
      rw [List.length_take] at this
      omega
    obtain ⟨e1, q1, q2, q3⟩ := hf d (List.mem_of_getElem? hd)
    refine ⟨e1, _, q1, p d, _, q2, ?_⟩
    cases hp : p d with
    | true =>
      rw [if_pos rfl]
      exact ⟨F d, _, q3 hp, rfl, by rw [List.take_succ, hd, List.filter_append]; simp [hp]⟩
    | false =>
      rw [if_neg Bool.false_ne_true]
      exact ⟨rfl, by rw [List.take_succ, hd, List.filter_append]; simp [hp]⟩)
  rw [h1, h2, h3, List.take_of_length_le (Nat.le_refl _)]
theorem in_ref {S : Store} {r : Nat} {ds : List D} {d : D} (hr : S[r]? = some (.lst ds)) (h1 : flatD d = true) (h2 : ds.all flatD = true) : cmpOp .In (.d d) (.d (.ref r)) S = some (ds.any fun e => eqD e d) := by
  show cmpIn (.d d) (.d (.ref r)) S = _
  unfold cmpIn
  cases d <;> simp [its, hr, h1, h2]
theorem join_ok {S : Store} {a : Str} {y : XV} {ds : List D} {ys : List Str} (hy : its y S = some ds) (ht : txts ds = some ys) (hs : (ys.map (·.length)).sum + ys.length * a.length ≤ 16777216) : opL1 .join (.str a) y S = .ok (.d (.str (Txt.join a ys))) S := by
  simp only [opL1, hy, ht, decide_eq_true hs, if_true]
theorem txts_map : ∀ ys : List Str, txts (ys.map D.str) = some ys
  | [] => rfl
  | y :: ys => by simp only [List.map_cons, txts, txts_map ys, Option.map_some]
/-- ASCII signs -/
def ascB (x : Str) : Bool := x.cps.toList.all fun c => decide (c < 128)
theorem asc_alnum : ∀ c, c < 128 → Txt.isalnum ⟨#[c]⟩ = signB c := by decide +kernel
theorem asc_alpha : ∀ c, c < 128 → Txt.isalpha ⟨#[c]⟩ = decide (c ∈ letS.cps.toList) := by decide +kernel
theorem asc_lower : ∀ c, c < 128 → Txt.islower ⟨#[c]⟩ = decide (c ∈ smaS.cps.toList) := by decide +kernel
theorem asc_upper : ∀ c, c < 128 → Txt.isupper ⟨#[c]⟩ = (decide (c ∈ letS.cps.toList) && !decide (c ∈ smaS.cps.toList)) := by decide +kernel
theorem sma_let : ∀ c, c < 128 → c ∈ smaS.cps.toList → c ∈ letS.cps.toList := by decide +kernel
/-- for over a list of the store that stays -/
theorem for_live {g : DG} {b : DS} {l : List D} {q : Nat} {N : Env → Store → Prop} {R : D → Store → Prop} (I : Nat → Env → Store → Prop) (hN : ∀ e S, I l.length e S → N e S) (hq : ∀ i e S, I i e S → S[q]? = some (.lst l))
    (hs : ∀ i d e S, l[i]? = some d → I i e S → ∃ e1 S1, g d e S = .next e1 S1 ∧ (b e1 S1).to (I (i + 1)) R) : ∀ (n i : Nat) (e : Env) (S : Store), l.length + 1 ≤ n + i → i ≤ l.length → I i e S → (forRun g b (.live q) n i e S).to N R
  | 0, i, e, S, h1, h2, _ => by omega
  | n + 1, i, e, S, h1, h2, h3 => by
    rw [forRun_succ]
    have hn : nextOf (.live q) S i = some l[i]? := by simp [nextOf, hq i e S h3]
    rw [hn]
    cases z : l[i]? with
    | none =>
      have : l.length ≤ i := List.getElem?_eq_none_iff.mp z
      have e1 : i = l.length := by omega
      subst e1
      exact .nx (hN _ _ h3)
    | some d =>
      obtain ⟨e1, S1, q1, q2⟩ := hs i d e S z h3
      have hi := (List.getElem?_eq_some_iff.mp z).1
      simp only [q1]
      rcases q2.out with ⟨e2, S2, q3, q4⟩ | ⟨d2, S2, q3, q4⟩
      · rw [q3]; exact for_live I hN hq hs n (i + 1) e2 S2 (by omega) (by omega) q4
      · rw [q3]; exact .rt q4
theorem sFor_live {fuel : Nat} {i : DI} {g : DG} {b : DS} {l : List D} {q : Nat} {e : Env} {S S1 : Store} {N : Env → Store → Prop} {R : D → Store → Prop} (I : Nat → Env → Store → Prop) (hi : i e S = .ok (.live q) S1) (hfu : l.length < fuel) (h0 : I 0 e S1) (hN : ∀ e S, I l.length e S → N e S) (hq : ∀ i e S, I i e S → S[q]? = some (.lst l))
    (hs : ∀ i d e S, l[i]? = some d → I i e S → ∃ e1 S1, g d e S = .next e1 S1 ∧ (b e1 S1).to (I (i + 1)) R) : (sFor fuel i g b e S).to N R := by
  unfold sFor
  rw [hi]
  exact for_live I hN hq hs fuel 0 e S1 (by omega) (Nat.zero_le _) h0
end L3


/-! T01: the table of this law's program. Printed by gen.py. -/
namespace T01
open PySem PySem.Spec PyProof.Rows L2 L3

def top (i : Nat) : Stmt := PySem.Challenge.pw_newinputs_k01_whole_names_at_all_places.main.body.getD i (.Pass ⟨0, 0, 0, 0⟩)
def e0 : DefE := ⟨⟨("is_int", none), "is_int", "is_int", defArgs (top 8), defBody (top 8), defScope (top 8), [], []⟩, ["x"], []⟩
def e1 : DefE := ⟨⟨("within", none), "within", "within", defArgs (top 9), defBody (top 9), defScope (top 9), [], []⟩, ["x", "low", "high"], []⟩
def e2 : DefE := ⟨⟨("is_tuple", none), "is_tuple", "is_tuple", defArgs (top 10), defBody (top 10), defScope (top 10), [], []⟩, ["thing", "least", "most"], []⟩
def e3 : DefE := ⟨⟨("is_name", none), "is_name", "is_name", defArgs (top 11), defBody (top 11), defScope (top 11), [], []⟩, ["x", "sign"], []⟩
def e4 : DefE := ⟨⟨("is_low", none), "is_low", "is_low", defArgs (top 12), defBody (top 12), defScope (top 12), [], []⟩, ["x"], []⟩
def e5 : DefE := ⟨⟨("is_high", none), "is_high", "is_high", defArgs (top 13), defBody (top 13), defScope (top 13), [], []⟩, ["x"], []⟩
def e6 : DefE := ⟨⟨("is_told", none), "is_told", "is_told", defArgs (top 14), defBody (top 14), defScope (top 14), [], []⟩, ["x"], []⟩
def e7 : DefE := ⟨⟨("is_kept", none), "is_kept", "is_kept", defArgs (top 15), defBody (top 15), defScope (top 15), [], []⟩, ["x"], []⟩
def e8 : DefE := ⟨⟨("Form", some "__init__"), "__init__", "Form.__init__", defArgs (inClass (top 19) 0), defBody (inClass (top 19) 0), defScope (inClass (top 19) 0), [], []⟩, ["self", "limits"], []⟩
def e9 : DefE := ⟨⟨("Form", some "take"), "take", "Form.take", defArgs (inClass (top 19) 1), defBody (inClass (top 19) 1), defScope (inClass (top 19) 1), [], []⟩, ["self", "many"], []⟩
def e10 : DefE := ⟨⟨("Form", some "is_maker"), "is_maker", "Form.is_maker", defArgs (inClass (top 19) 2), defBody (inClass (top 19) 2), defScope (inClass (top 19) 2), [], []⟩, ["self", "thing", "field"], []⟩
def e11 : DefE := ⟨⟨("Form", some "is_kind"), "is_kind", "Form.is_kind", defArgs (inClass (top 19) 3), defBody (inClass (top 19) 3), defScope (inClass (top 19) 3), [], []⟩, ["self", "thing", "maker"], []⟩
def e12 : DefE := ⟨⟨("Form", some "is_param"), "is_param", "Form.is_param", defArgs (inClass (top 19) 4), defBody (inClass (top 19) 4), defScope (inClass (top 19) 4), [], []⟩, ["self", "thing"], []⟩
def e13 : DefE := ⟨⟨("Form", some "is_unit"), "is_unit", "Form.is_unit", defArgs (inClass (top 19) 5), defBody (inClass (top 19) 5), defScope (inClass (top 19) 5), [], []⟩, ["self", "thing"], []⟩
def e14 : DefE := ⟨⟨("Form", some "is_family"), "is_family", "Form.is_family", defArgs (inClass (top 19) 6), defBody (inClass (top 19) 6), defScope (inClass (top 19) 6), [], []⟩, ["self", "thing"], []⟩
def e15 : DefE := ⟨⟨("Form", some "is_def"), "is_def", "Form.is_def", defArgs (inClass (top 19) 7), defBody (inClass (top 19) 7), defScope (inClass (top 19) 7), [], []⟩, ["self", "thing", "param"], []⟩
def e16 : DefE := ⟨⟨("Form", some "are_lows"), "are_lows", "Form.are_lows", defArgs (inClass (top 19) 8), defBody (inClass (top 19) 8), defScope (inClass (top 19) 8), [], []⟩, ["self", "names", "name"], []⟩
def e17 : DefE := ⟨⟨("Form", some "are_expressions"), "are_expressions", "Form.are_expressions", defArgs (inClass (top 19) 9), defBody (inClass (top 19) 9), defScope (inClass (top 19) 9), [], []⟩, ["self", "things", "deep", "thing"], []⟩
def e18 : DefE := ⟨⟨("Form", some "are_args"), "are_args", "Form.are_args", defArgs (inClass (top 19) 10), defBody (inClass (top 19) 10), defScope (inClass (top 19) 10), [], []⟩, ["self", "thing", "most", "deep"], []⟩
def e19 : DefE := ⟨⟨("Form", some "is_expression"), "is_expression", "Form.is_expression", defArgs (inClass (top 19) 11), defBody (inClass (top 19) 11), defScope (inClass (top 19) 11), [], []⟩, ["self", "thing", "deep", "word"], []⟩
def e20 : DefE := ⟨⟨("Form", some "is_branch"), "is_branch", "Form.is_branch", defArgs (inClass (top 19) 12), defBody (inClass (top 19) 12), defScope (inClass (top 19) 12), [], []⟩, ["self", "thing", "deep"], []⟩
def e21 : DefE := ⟨⟨("Form", some "is_body"), "is_body", "Form.is_body", defArgs (inClass (top 19) 13), defBody (inClass (top 19) 13), defScope (inClass (top 19) 13), [], []⟩, ["self", "thing", "deep", "word", "branch"], []⟩
def e22 : DefE := ⟨⟨("is_tree", none), "is_tree", "is_tree", defArgs (top 20), defBody (top 20), defScope (top 20), [], []⟩, ["thing", "limits", "form", "entry"], []⟩
def e23 : DefE := ⟨⟨("strings_in", none), "strings_in", "strings_in", defArgs (top 21), defBody (top 21), defScope (top 21), [], []⟩, ["tree", "found", "waiting", "one"], []⟩
def e24 : DefE := ⟨⟨("is_program", none), "is_program", "is_program", defArgs (top 23), defBody (top 23), defScope (top 23), [], []⟩, ["thing", "name"], []⟩
def e25 : DefE := ⟨⟨("is_plain", none), "is_plain", "is_plain", defArgs (top 24), defBody (top 24), defScope (top 24), [], []⟩, ["thing"], []⟩
def e26 : DefE := ⟨⟨("_law_font", none), "_law_font", "_law_font", defArgs (top 26), defBody (top 26), defScope (top 26), [], []⟩, ["script", "seed", "smalls", "greats", "cell"], []⟩
def e27 : DefE := ⟨⟨("_law_draw", none), "_law_draw", "_law_draw", defArgs (top 27), defBody (top 27), defScope (top 27), [], []⟩, ["font", "many", "greats", "found", "smalls", "cell", "one", "two"], []⟩
def e28 : DefE := ⟨⟨("_law_pick", none), "_law_pick", "_law_pick", defArgs (top 28), defBody (top 28), defScope (top 28), [], []⟩, ["font", "rows"], []⟩
def e29 : DefE := ⟨⟨("_law_same", none), "_law_same", "_law_same", defArgs (top 29), defBody (top 29), defScope (top 29), [], []⟩, ["one", "other", "rows", "turn", "got", "due", "k"], []⟩
def e30 : DefE := ⟨⟨("_law_program", none), "_law_program", "_law_program", defArgs (top 30), defBody (top 30), defScope (top 30), [], []⟩, ["spot", "thing", "plain", "n", "inner", "branches", "look", "body", "kinds", "families"], []⟩
def e31 : DefE := ⟨⟨("_law_sorts", none), "_law_sorts", "_law_sorts", defArgs (top 31), defBody (top 31), defScope (top 31), [], []⟩, [], []⟩
def e32 : DefE := ⟨⟨("_law_is_sort", none), "_law_is_sort", "_law_is_sort", defArgs (top 32), defBody (top 32), defScope (top 32), [], []⟩, ["thing", "sort", "kept", "sign"], []⟩
def e33 : DefE := ⟨⟨("_law_things", none), "_law_things", "_law_things", defArgs (top 33), defBody (top 33), defScope (top 33), [], []⟩, ["font", "some", "letters", "k", "i"], []⟩
def e34 : DefE := ⟨⟨("law", none), "law", "law", defArgs (top 34), defBody (top 34), defScope (top 34), [], []⟩, ["script", "font", "sorts", "spot", "thing", "good", "kept"], []⟩
def tbl : PT where
  defs := [e0, e1, e2, e3, e4, e5, e6, e7, e8, e9, e10, e11, e12, e13, e14, e15, e16, e17, e18, e19, e20, e21, e22, e23, e24, e25, e26, e27, e28, e29, e30, e31, e32, e33, e34]
  fns := [("is_int", 0), ("within", 1), ("is_tuple", 2), ("is_name", 3), ("is_low", 4), ("is_high", 5), ("is_told", 6), ("is_kept", 7), ("is_tree", 22), ("strings_in", 23), ("is_program", 24), ("is_plain", 25), ("_law_font", 26), ("_law_draw", 27), ("_law_pick", 28), ("_law_same", 29), ("_law_program", 30), ("_law_sorts", 31), ("_law_is_sort", 32), ("_law_things", 33), ("law", 34)]
  clss := [⟨"Form", ["spare", "kinds", "makers", "fields", "families", "defs", "params", "parts", "deepest"], [("take", 9), ("is_maker", 10), ("is_kind", 11), ("is_param", 12), ("is_unit", 13), ("is_family", 14), ("is_def", 15), ("are_lows", 16), ("are_expressions", 17), ("are_args", 18), ("is_expression", 19), ("is_branch", 20), ("is_body", 21)], some 8⟩]
  cons := [("LETTERS", .str "abcdefghijklmnopqrstuvwxyzABCDEFGHIJKLMNOPQRSTUVWXYZ"), ("SMALL", .str "abcdefghijklmnopqrstuvwxyz"), ("DIGITS", .str "0123456789"), ("WORDS", .tup [.str "cell", .str "def", .str "do", .str "else", .str "give", .str "if", .str "kind", .str "let", .str "look", .str "match", .str "whole"]), ("LONGEST_NAME", .int 10), ("GREATEST_NUMBER", .int 1000000000000), ("KEPT", .tup [.str "zz", .str "Zz"]), ("TOLD", .tup [.int 16, .int 8, .int 8, .int 16, .int 100, .int 16, .int 300, .int 40]), ("PLAIN", .tup [.int 40, .int 8, .int 16, .int 0, .int 150, .int 20, .int 700, .int 50])]
  bl := ["abs", "all", "any", "bool", "int", "isinstance", "len", "range", "str", "tuple"]
theorem st0 : DefSt e0 := defSt0 ["x"] (by kernel_rfl) rfl rfl rfl fun _ _ _ _ _ _ us hl => match us, hl with | [_], _ => rfl
theorem st1 : DefSt e1 := defSt0 ["x", "low", "high"] (by kernel_rfl) rfl rfl rfl fun _ _ _ _ _ _ us hl => match us, hl with | [_, _, _], _ => rfl
theorem st2 : DefSt e2 := defSt0 ["thing", "least", "most"] (by kernel_rfl) rfl rfl rfl fun _ _ _ _ _ _ us hl => match us, hl with | [_, _, _], _ => rfl
theorem st3 : DefSt e3 := defSt0 ["x"] (by kernel_rfl) rfl rfl rfl fun _ _ _ _ _ _ us hl => match us, hl with | [_], _ => rfl
theorem st4 : DefSt e4 := defSt0 ["x"] (by kernel_rfl) rfl rfl rfl fun _ _ _ _ _ _ us hl => match us, hl with | [_], _ => rfl
theorem st5 : DefSt e5 := defSt0 ["x"] (by kernel_rfl) rfl rfl rfl fun _ _ _ _ _ _ us hl => match us, hl with | [_], _ => rfl
theorem st6 : DefSt e6 := defSt0 ["x"] (by kernel_rfl) rfl rfl rfl fun _ _ _ _ _ _ us hl => match us, hl with | [_], _ => rfl
theorem st7 : DefSt e7 := defSt0 ["x"] (by kernel_rfl) rfl rfl rfl fun _ _ _ _ _ _ us hl => match us, hl with | [_], _ => rfl
theorem st8 : DefSt e8 := defSt0 ["self", "limits"] (by kernel_rfl) rfl rfl rfl fun _ _ _ _ _ _ us hl => match us, hl with | [_, _], _ => rfl
theorem st9 : DefSt e9 := defSt0 ["self", "many"] (by kernel_rfl) rfl rfl rfl fun _ _ _ _ _ _ us hl => match us, hl with | [_, _], _ => rfl
theorem st10 : DefSt e10 := defSt0 ["self", "thing"] (by kernel_rfl) rfl rfl rfl fun _ _ _ _ _ _ us hl => match us, hl with | [_, _], _ => rfl
theorem st11 : DefSt e11 := defSt0 ["self", "thing"] (by kernel_rfl) rfl rfl rfl fun _ _ _ _ _ _ us hl => match us, hl with | [_, _], _ => rfl
theorem st12 : DefSt e12 := defSt0 ["self", "thing"] (by kernel_rfl) rfl rfl rfl fun _ _ _ _ _ _ us hl => match us, hl with | [_, _], _ => rfl
theorem st13 : DefSt e13 := defSt0 ["self", "thing"] (by kernel_rfl) rfl rfl rfl fun _ _ _ _ _ _ us hl => match us, hl with | [_, _], _ => rfl
theorem st14 : DefSt e14 := defSt0 ["self", "thing"] (by kernel_rfl) rfl rfl rfl fun _ _ _ _ _ _ us hl => match us, hl with | [_, _], _ => rfl
theorem st15 : DefSt e15 := defSt0 ["self", "thing"] (by kernel_rfl) rfl rfl rfl fun _ _ _ _ _ _ us hl => match us, hl with | [_, _], _ => rfl
theorem st16 : DefSt e16 := defSt0 ["self", "names"] (by kernel_rfl) rfl rfl rfl fun _ _ _ _ _ _ us hl => match us, hl with | [_, _], _ => rfl
theorem st17 : DefSt e17 := defSt0 ["self", "things", "deep"] (by kernel_rfl) rfl rfl rfl fun _ _ _ _ _ _ us hl => match us, hl with | [_, _, _], _ => rfl
theorem st18 : DefSt e18 := defSt0 ["self", "thing", "most", "deep"] (by kernel_rfl) rfl rfl rfl fun _ _ _ _ _ _ us hl => match us, hl with | [_, _, _, _], _ => rfl
theorem st19 : DefSt e19 := defSt0 ["self", "thing", "deep"] (by kernel_rfl) rfl rfl rfl fun _ _ _ _ _ _ us hl => match us, hl with | [_, _, _], _ => rfl
theorem st20 : DefSt e20 := defSt0 ["self", "thing", "deep"] (by kernel_rfl) rfl rfl rfl fun _ _ _ _ _ _ us hl => match us, hl with | [_, _, _], _ => rfl
theorem st21 : DefSt e21 := defSt0 ["self", "thing", "deep"] (by kernel_rfl) rfl rfl rfl fun _ _ _ _ _ _ us hl => match us, hl with | [_, _, _], _ => rfl
theorem st22 : DefSt e22 := defSt0 ["thing", "limits"] (by kernel_rfl) rfl rfl rfl fun _ _ _ _ _ _ us hl => match us, hl with | [_, _], _ => rfl
theorem st23 : DefSt e23 := defSt0 ["tree"] (by kernel_rfl) rfl rfl rfl fun _ _ _ _ _ _ us hl => match us, hl with | [_], _ => rfl
theorem st24 : DefSt e24 := defSt0 ["thing"] (by kernel_rfl) rfl rfl rfl fun _ _ _ _ _ _ us hl => match us, hl with | [_], _ => rfl
theorem st25 : DefSt e25 := defSt0 ["thing"] (by kernel_rfl) rfl rfl rfl fun _ _ _ _ _ _ us hl => match us, hl with | [_], _ => rfl
theorem st26 : DefSt e26 := defSt0 ["script"] (by kernel_rfl) rfl rfl rfl fun _ _ _ _ _ _ us hl => match us, hl with | [_], _ => rfl
theorem st27 : DefSt e27 := defSt0 ["font", "many"] (by kernel_rfl) rfl rfl rfl fun _ _ _ _ _ _ us hl => match us, hl with | [_, _], _ => rfl
theorem st28 : DefSt e28 := defSt0 ["font", "rows"] (by kernel_rfl) rfl rfl rfl fun _ _ _ _ _ _ us hl => match us, hl with | [_, _], _ => rfl
theorem st29 : DefSt e29 := defSt0 ["one", "other"] (by kernel_rfl) rfl rfl rfl fun _ _ _ _ _ _ us hl => match us, hl with | [_, _], _ => rfl
theorem st30 : DefSt e30 := defSt0 ["spot", "thing", "plain"] (by kernel_rfl) rfl rfl rfl fun _ _ _ _ _ _ us hl => match us, hl with | [_, _, _], _ => rfl
theorem st31 : DefSt e31 := defSt0 [] (by kernel_rfl) rfl rfl rfl fun _ _ _ _ _ _ us hl => match us, hl with | [], _ => rfl
theorem st32 : DefSt e32 := defSt0 ["thing", "sort"] (by kernel_rfl) rfl rfl rfl fun _ _ _ _ _ _ us hl => match us, hl with | [_, _], _ => rfl
theorem st33 : DefSt e33 := defSt0 ["font"] (by kernel_rfl) rfl rfl rfl fun _ _ _ _ _ _ us hl => match us, hl with | [_], _ => rfl
theorem st34 : DefSt e34 := defSt0 ["script"] (by kernel_rfl) rfl rfl rfl fun _ _ _ _ _ _ us hl => match us, hl with | [_], _ => rfl
theorem st : AllSt tbl.defs := ⟨st0, st1, st2, st3, st4, st5, st6, st7, st8, st9, st10, st11, st12, st13, st14, st15, st16, st17, st18, st19, st20, st21, st22, st23, st24, st25, st26, st27, st28, st29, st30, st31, st32, st33, st34, trivial⟩
abbrev R : PySem.W.OpenRow := PySem.W.OpenLaw.row PySem.Challenge.rw_newinputs_k01_whole_names_at_all_places
abbrev hk : PySem.W.Hook := He.hookX 7 [] (tbl.defs.map DefE.d) [] [] tbl.chk
def ob (s : PySem.W.SharedT) : He.AlX := He.obsX 7 [] (tbl.defs.map DefE.d) [] [] tbl.chk (HandSHeadRun.getT s)
theorem ob_eq (s : PySem.W.SharedT) : ob s = hk.obs s.abs := He.obsX_eq (HandSHeadRun.getT_eq s)
def loose0 : List Str := ["LETTERS", "SMALL", "DIGITS", "WORDS", "LONGEST_NAME", "GREATEST_NUMBER", "KEPT", "is_int", "within", "is_tuple", "is_name", "is_low", "is_high", "is_told", "is_kept", "TOLD", "PLAIN", "Form", "is_tree", "strings_in", "is_program", "is_plain", "_law_font", "_law_draw", "_law_pick", "_law_same", "_law_program", "_law_sorts", "_law_is_sort", "_law_things"]
def loose : List Str := loose0
theorem run (w : World) : HandSHeadRun.RunEq R (PySem.W.view R.prog [34]) hk ob 9000 loose w := by
  intro os
  kernel_rfl
/-- the law holds, if its def gives True -/
theorem holds_of {fuel lv : Nat} (hr : Room (lv + 2) callerA) (hok : ∀ ns : List Int, ns.length ≤ 63 → ∃ S', callsN (tbl.C fuel) tbl.F (lv + 1) 34 [.kl (ns.map D.int)] [] = .ok (.bl true) S') : PySem.Challenge.rw_newinputs_k01_whole_names_at_all_places.Holds := by
  w_on; o_law
  refine HandSHeadRun.head_any (r := PySem.W.OpenLaw.row PySem.Challenge.rw_newinputs_k01_whole_names_at_all_places) (q := PySem.W.view R.prog [34]) (H := hk) (ob := ob) (M := 9000) (loose := loose) (d := HandSHeadRun.topDef R.prog 34) (kwd := []) ob_eq
    (by kernel_rfl) (fun s => by kernel_rfl) run (by kernel_rfl) (by kernel_rfl) (by kernel_rfl) (by rfl) (by first | assumption | decide +kernel) (by decide +kernel) ⟨rfl, rfl, rfl, rfl, rfl, by decide +kernel⟩ ?hw ?hc
  case hw => w_witness2
  case hc =>
    exact law_end (l := PySem.Challenge.rw_newinputs_k01_whole_names_at_all_places) (n := 63) (il := 34) (lv := lv) (t := tbl) (x := "script") (e := e34) rfl (by decide) (by kernel_rfl) hr st (by kernel_rfl) (by kernel_rfl) (by kernel_rfl) rfl rfl (by kernel_rfl) rfl (fun _ _ _ _ _ _ us hl => match us, hl with | [_], _ => rfl) hok
end T01


/-! B01: what the defs mean. Printed by bodies.py. -/
namespace B01
open PySem PySem.Spec PyProof.Rows L2 L3
theorem den_is_int (fuel : Nat) (calls inis : CallF) : denSs T01.e0.d.body (scOf (withC (T01.tbl.C fuel) calls inis) ⟨T01.e0.N, T01.e0.d.scope, T01.e0.d.body⟩) = b_is_int (withC (T01.tbl.C fuel) calls inis) := by kernel_rfl
theorem pr_is_int (fuel : Nat) : Pr (T01.tbl.C fuel) T01.tbl.F 0 ["x"] 1 (fun C => b_is_int C) := ⟨⟨by kernel_rfl, by kernel_rfl⟩, fun k ds S => (congrFun (congrFun (congrFun (callsN_succ (T01.tbl.C fuel) T01.tbl.F k) 0) ds) S).trans (congrArg (fun b : DS => endD (b (env0 T01.e0.N ds) S)) (den_is_int fuel _ _))⟩
theorem den_within (fuel : Nat) (calls inis : CallF) : denSs T01.e1.d.body (scOf (withC (T01.tbl.C fuel) calls inis) ⟨T01.e1.N, T01.e1.d.scope, T01.e1.d.body⟩) = b_within (withC (T01.tbl.C fuel) calls inis) 0 := by kernel_rfl
theorem pr_within (fuel : Nat) : Pr (T01.tbl.C fuel) T01.tbl.F 1 ["x", "low", "high"] 3 (fun C => b_within C 0) := ⟨⟨by kernel_rfl, by kernel_rfl⟩, fun k ds S => (congrFun (congrFun (congrFun (callsN_succ (T01.tbl.C fuel) T01.tbl.F k) 1) ds) S).trans (congrArg (fun b : DS => endD (b (env0 T01.e1.N ds) S)) (den_within fuel _ _))⟩
theorem den_is_tuple (fuel : Nat) (calls inis : CallF) : denSs T01.e2.d.body (scOf (withC (T01.tbl.C fuel) calls inis) ⟨T01.e2.N, T01.e2.d.scope, T01.e2.d.body⟩) = b_is_tuple (withC (T01.tbl.C fuel) calls inis) := by kernel_rfl
theorem pr_is_tuple (fuel : Nat) : Pr (T01.tbl.C fuel) T01.tbl.F 2 ["thing", "least", "most"] 3 (fun C => b_is_tuple C) := ⟨⟨by kernel_rfl, by kernel_rfl⟩, fun k ds S => (congrFun (congrFun (congrFun (callsN_succ (T01.tbl.C fuel) T01.tbl.F k) 2) ds) S).trans (congrArg (fun b : DS => endD (b (env0 T01.e2.N ds) S)) (den_is_tuple fuel _ _))⟩
theorem den_is_name (fuel : Nat) (calls inis : CallF) : denSs T01.e3.d.body (scOf (withC (T01.tbl.C fuel) calls inis) ⟨T01.e3.N, T01.e3.d.scope, T01.e3.d.body⟩) = b_is_name (withC (T01.tbl.C fuel) calls inis) := by kernel_rfl
theorem pr_is_name (fuel : Nat) : Pr (T01.tbl.C fuel) T01.tbl.F 3 ["x", "sign"] 1 (fun C => b_is_name C) := ⟨⟨by kernel_rfl, by kernel_rfl⟩, fun k ds S => (congrFun (congrFun (congrFun (callsN_succ (T01.tbl.C fuel) T01.tbl.F k) 3) ds) S).trans (congrArg (fun b : DS => endD (b (env0 T01.e3.N ds) S)) (den_is_name fuel _ _))⟩
theorem den_is_low (fuel : Nat) (calls inis : CallF) : denSs T01.e4.d.body (scOf (withC (T01.tbl.C fuel) calls inis) ⟨T01.e4.N, T01.e4.d.scope, T01.e4.d.body⟩) = b_is_low (withC (T01.tbl.C fuel) calls inis) 3 := by kernel_rfl
theorem pr_is_low (fuel : Nat) : Pr (T01.tbl.C fuel) T01.tbl.F 4 ["x"] 1 (fun C => b_is_low C 3) := ⟨⟨by kernel_rfl, by kernel_rfl⟩, fun k ds S => (congrFun (congrFun (congrFun (callsN_succ (T01.tbl.C fuel) T01.tbl.F k) 4) ds) S).trans (congrArg (fun b : DS => endD (b (env0 T01.e4.N ds) S)) (den_is_low fuel _ _))⟩
theorem den_is_high (fuel : Nat) (calls inis : CallF) : denSs T01.e5.d.body (scOf (withC (T01.tbl.C fuel) calls inis) ⟨T01.e5.N, T01.e5.d.scope, T01.e5.d.body⟩) = b_is_high (withC (T01.tbl.C fuel) calls inis) 3 := by kernel_rfl
theorem pr_is_high (fuel : Nat) : Pr (T01.tbl.C fuel) T01.tbl.F 5 ["x"] 1 (fun C => b_is_high C 3) := ⟨⟨by kernel_rfl, by kernel_rfl⟩, fun k ds S => (congrFun (congrFun (congrFun (callsN_succ (T01.tbl.C fuel) T01.tbl.F k) 5) ds) S).trans (congrArg (fun b : DS => endD (b (env0 T01.e5.N ds) S)) (den_is_high fuel _ _))⟩
theorem den_is_told (fuel : Nat) (calls inis : CallF) : denSs T01.e6.d.body (scOf (withC (T01.tbl.C fuel) calls inis) ⟨T01.e6.N, T01.e6.d.scope, T01.e6.d.body⟩) = b_is_told (withC (T01.tbl.C fuel) calls inis) 5 := by kernel_rfl
theorem pr_is_told (fuel : Nat) : Pr (T01.tbl.C fuel) T01.tbl.F 6 ["x"] 1 (fun C => b_is_told C 5) := ⟨⟨by kernel_rfl, by kernel_rfl⟩, fun k ds S => (congrFun (congrFun (congrFun (callsN_succ (T01.tbl.C fuel) T01.tbl.F k) 6) ds) S).trans (congrArg (fun b : DS => endD (b (env0 T01.e6.N ds) S)) (den_is_told fuel _ _))⟩
theorem den_is_kept (fuel : Nat) (calls inis : CallF) : denSs T01.e7.d.body (scOf (withC (T01.tbl.C fuel) calls inis) ⟨T01.e7.N, T01.e7.d.scope, T01.e7.d.body⟩) = b_is_kept (withC (T01.tbl.C fuel) calls inis) := by kernel_rfl
theorem pr_is_kept (fuel : Nat) : Pr (T01.tbl.C fuel) T01.tbl.F 7 ["x"] 1 (fun C => b_is_kept C) := ⟨⟨by kernel_rfl, by kernel_rfl⟩, fun k ds S => (congrFun (congrFun (congrFun (callsN_succ (T01.tbl.C fuel) T01.tbl.F k) 7) ds) S).trans (congrArg (fun b : DS => endD (b (env0 T01.e7.N ds) S)) (den_is_kept fuel _ _))⟩
theorem den_Form___init__ (fuel : Nat) (calls inis : CallF) : denSs T01.e8.d.body (scOf (withC (T01.tbl.C fuel) calls inis) ⟨T01.e8.N, T01.e8.d.scope, T01.e8.d.body⟩) = b_Form___init__ (withC (T01.tbl.C fuel) calls inis) := by kernel_rfl
theorem pr_Form___init__ (fuel : Nat) : Pr (T01.tbl.C fuel) T01.tbl.F 8 ["self", "limits"] 2 (fun C => b_Form___init__ C) := ⟨⟨by kernel_rfl, by kernel_rfl⟩, fun k ds S => (congrFun (congrFun (congrFun (callsN_succ (T01.tbl.C fuel) T01.tbl.F k) 8) ds) S).trans (congrArg (fun b : DS => endD (b (env0 T01.e8.N ds) S)) (den_Form___init__ fuel _ _))⟩
theorem den_Form_take (fuel : Nat) (calls inis : CallF) : denSs T01.e9.d.body (scOf (withC (T01.tbl.C fuel) calls inis) ⟨T01.e9.N, T01.e9.d.scope, T01.e9.d.body⟩) = b_Form_take (withC (T01.tbl.C fuel) calls inis) := by kernel_rfl
theorem pr_Form_take (fuel : Nat) : Pr (T01.tbl.C fuel) T01.tbl.F 9 ["self", "many"] 2 (fun C => b_Form_take C) := ⟨⟨by kernel_rfl, by kernel_rfl⟩, fun k ds S => (congrFun (congrFun (congrFun (callsN_succ (T01.tbl.C fuel) T01.tbl.F k) 9) ds) S).trans (congrArg (fun b : DS => endD (b (env0 T01.e9.N ds) S)) (den_Form_take fuel _ _))⟩
theorem den_Form_is_maker (fuel : Nat) (calls inis : CallF) : denSs T01.e10.d.body (scOf (withC (T01.tbl.C fuel) calls inis) ⟨T01.e10.N, T01.e10.d.scope, T01.e10.d.body⟩) = b_Form_is_maker (withC (T01.tbl.C fuel) calls inis) 6 2 5 := by kernel_rfl
theorem pr_Form_is_maker (fuel : Nat) : Pr (T01.tbl.C fuel) T01.tbl.F 10 ["self", "thing", "field"] 2 (fun C => b_Form_is_maker C 6 2 5) := ⟨⟨by kernel_rfl, by kernel_rfl⟩, fun k ds S => (congrFun (congrFun (congrFun (callsN_succ (T01.tbl.C fuel) T01.tbl.F k) 10) ds) S).trans (congrArg (fun b : DS => endD (b (env0 T01.e10.N ds) S)) (den_Form_is_maker fuel _ _))⟩
theorem den_Form_is_kind (fuel : Nat) (calls inis : CallF) : denSs T01.e11.d.body (scOf (withC (T01.tbl.C fuel) calls inis) ⟨T01.e11.N, T01.e11.d.scope, T01.e11.d.body⟩) = b_Form_is_kind (withC (T01.tbl.C fuel) calls inis) 2 5 := by kernel_rfl
theorem pr_Form_is_kind (fuel : Nat) : Pr (T01.tbl.C fuel) T01.tbl.F 11 ["self", "thing", "maker"] 2 (fun C => b_Form_is_kind C 2 5) := ⟨⟨by kernel_rfl, by kernel_rfl⟩, fun k ds S => (congrFun (congrFun (congrFun (callsN_succ (T01.tbl.C fuel) T01.tbl.F k) 11) ds) S).trans (congrArg (fun b : DS => endD (b (env0 T01.e11.N ds) S)) (den_Form_is_kind fuel _ _))⟩
theorem den_Form_is_param (fuel : Nat) (calls inis : CallF) : denSs T01.e12.d.body (scOf (withC (T01.tbl.C fuel) calls inis) ⟨T01.e12.N, T01.e12.d.scope, T01.e12.d.body⟩) = b_Form_is_param (withC (T01.tbl.C fuel) calls inis) 6 4 2 := by kernel_rfl
theorem pr_Form_is_param (fuel : Nat) : Pr (T01.tbl.C fuel) T01.tbl.F 12 ["self", "thing"] 2 (fun C => b_Form_is_param C 6 4 2) := ⟨⟨by kernel_rfl, by kernel_rfl⟩, fun k ds S => (congrFun (congrFun (congrFun (callsN_succ (T01.tbl.C fuel) T01.tbl.F k) 12) ds) S).trans (congrArg (fun b : DS => endD (b (env0 T01.e12.N ds) S)) (den_Form_is_param fuel _ _))⟩
theorem den_Form_is_unit (fuel : Nat) (calls inis : CallF) : denSs T01.e13.d.body (scOf (withC (T01.tbl.C fuel) calls inis) ⟨T01.e13.N, T01.e13.d.scope, T01.e13.d.body⟩) = b_Form_is_unit (withC (T01.tbl.C fuel) calls inis) 6 4 2 := by kernel_rfl
theorem pr_Form_is_unit (fuel : Nat) : Pr (T01.tbl.C fuel) T01.tbl.F 13 ["self", "thing"] 2 (fun C => b_Form_is_unit C 6 4 2) := ⟨⟨by kernel_rfl, by kernel_rfl⟩, fun k ds S => (congrFun (congrFun (congrFun (callsN_succ (T01.tbl.C fuel) T01.tbl.F k) 13) ds) S).trans (congrArg (fun b : DS => endD (b (env0 T01.e13.N ds) S)) (den_Form_is_unit fuel _ _))⟩
theorem den_Form_is_family (fuel : Nat) (calls inis : CallF) : denSs T01.e14.d.body (scOf (withC (T01.tbl.C fuel) calls inis) ⟨T01.e14.N, T01.e14.d.scope, T01.e14.d.body⟩) = b_Form_is_family (withC (T01.tbl.C fuel) calls inis) 4 := by kernel_rfl
theorem pr_Form_is_family (fuel : Nat) : Pr (T01.tbl.C fuel) T01.tbl.F 14 ["self", "thing"] 2 (fun C => b_Form_is_family C 4) := ⟨⟨by kernel_rfl, by kernel_rfl⟩, fun k ds S => (congrFun (congrFun (congrFun (callsN_succ (T01.tbl.C fuel) T01.tbl.F k) 14) ds) S).trans (congrArg (fun b : DS => endD (b (env0 T01.e14.N ds) S)) (den_Form_is_family fuel _ _))⟩
theorem den_Form_is_def (fuel : Nat) (calls inis : CallF) : denSs T01.e15.d.body (scOf (withC (T01.tbl.C fuel) calls inis) ⟨T01.e15.N, T01.e15.d.scope, T01.e15.d.body⟩) = b_Form_is_def (withC (T01.tbl.C fuel) calls inis) 2 := by kernel_rfl
theorem pr_Form_is_def (fuel : Nat) : Pr (T01.tbl.C fuel) T01.tbl.F 15 ["self", "thing", "param"] 2 (fun C => b_Form_is_def C 2) := ⟨⟨by kernel_rfl, by kernel_rfl⟩, fun k ds S => (congrFun (congrFun (congrFun (callsN_succ (T01.tbl.C fuel) T01.tbl.F k) 15) ds) S).trans (congrArg (fun b : DS => endD (b (env0 T01.e15.N ds) S)) (den_Form_is_def fuel _ _))⟩
theorem den_Form_are_lows (fuel : Nat) (calls inis : CallF) : denSs T01.e16.d.body (scOf (withC (T01.tbl.C fuel) calls inis) ⟨T01.e16.N, T01.e16.d.scope, T01.e16.d.body⟩) = b_Form_are_lows (withC (T01.tbl.C fuel) calls inis) 4 := by kernel_rfl
theorem pr_Form_are_lows (fuel : Nat) : Pr (T01.tbl.C fuel) T01.tbl.F 16 ["self", "names", "name"] 2 (fun C => b_Form_are_lows C 4) := ⟨⟨by kernel_rfl, by kernel_rfl⟩, fun k ds S => (congrFun (congrFun (congrFun (callsN_succ (T01.tbl.C fuel) T01.tbl.F k) 16) ds) S).trans (congrArg (fun b : DS => endD (b (env0 T01.e16.N ds) S)) (den_Form_are_lows fuel _ _))⟩
theorem den_Form_are_expressions (fuel : Nat) (calls inis : CallF) : denSs T01.e17.d.body (scOf (withC (T01.tbl.C fuel) calls inis) ⟨T01.e17.N, T01.e17.d.scope, T01.e17.d.body⟩) = b_Form_are_expressions (withC (T01.tbl.C fuel) calls inis) := by kernel_rfl
theorem pr_Form_are_expressions (fuel : Nat) : Pr (T01.tbl.C fuel) T01.tbl.F 17 ["self", "things", "deep", "thing"] 3 (fun C => b_Form_are_expressions C) := ⟨⟨by kernel_rfl, by kernel_rfl⟩, fun k ds S => (congrFun (congrFun (congrFun (callsN_succ (T01.tbl.C fuel) T01.tbl.F k) 17) ds) S).trans (congrArg (fun b : DS => endD (b (env0 T01.e17.N ds) S)) (den_Form_are_expressions fuel _ _))⟩
theorem den_Form_are_args (fuel : Nat) (calls inis : CallF) : denSs T01.e18.d.body (scOf (withC (T01.tbl.C fuel) calls inis) ⟨T01.e18.N, T01.e18.d.scope, T01.e18.d.body⟩) = b_Form_are_args (withC (T01.tbl.C fuel) calls inis) 2 := by kernel_rfl
theorem pr_Form_are_args (fuel : Nat) : Pr (T01.tbl.C fuel) T01.tbl.F 18 ["self", "thing", "most", "deep"] 4 (fun C => b_Form_are_args C 2) := ⟨⟨by kernel_rfl, by kernel_rfl⟩, fun k ds S => (congrFun (congrFun (congrFun (callsN_succ (T01.tbl.C fuel) T01.tbl.F k) 18) ds) S).trans (congrArg (fun b : DS => endD (b (env0 T01.e18.N ds) S)) (den_Form_are_args fuel _ _))⟩
theorem den_Form_is_expression (fuel : Nat) (calls inis : CallF) : denSs T01.e19.d.body (scOf (withC (T01.tbl.C fuel) calls inis) ⟨T01.e19.N, T01.e19.d.scope, T01.e19.d.body⟩) = b_Form_is_expression (withC (T01.tbl.C fuel) calls inis) 4 5 1 2 := by kernel_rfl
theorem pr_Form_is_expression (fuel : Nat) : Pr (T01.tbl.C fuel) T01.tbl.F 19 ["self", "thing", "deep", "word"] 3 (fun C => b_Form_is_expression C 4 5 1 2) := ⟨⟨by kernel_rfl, by kernel_rfl⟩, fun k ds S => (congrFun (congrFun (congrFun (callsN_succ (T01.tbl.C fuel) T01.tbl.F k) 19) ds) S).trans (congrArg (fun b : DS => endD (b (env0 T01.e19.N ds) S)) (den_Form_is_expression fuel _ _))⟩
theorem den_Form_is_branch (fuel : Nat) (calls inis : CallF) : denSs T01.e20.d.body (scOf (withC (T01.tbl.C fuel) calls inis) ⟨T01.e20.N, T01.e20.d.scope, T01.e20.d.body⟩) = b_Form_is_branch (withC (T01.tbl.C fuel) calls inis) 2 5 := by kernel_rfl
theorem pr_Form_is_branch (fuel : Nat) : Pr (T01.tbl.C fuel) T01.tbl.F 20 ["self", "thing", "deep"] 3 (fun C => b_Form_is_branch C 2 5) := ⟨⟨by kernel_rfl, by kernel_rfl⟩, fun k ds S => (congrFun (congrFun (congrFun (callsN_succ (T01.tbl.C fuel) T01.tbl.F k) 20) ds) S).trans (congrArg (fun b : DS => endD (b (env0 T01.e20.N ds) S)) (den_Form_is_branch fuel _ _))⟩
theorem den_Form_is_body (fuel : Nat) (calls inis : CallF) : denSs T01.e21.d.body (scOf (withC (T01.tbl.C fuel) calls inis) ⟨T01.e21.N, T01.e21.d.scope, T01.e21.d.body⟩) = b_Form_is_body (withC (T01.tbl.C fuel) calls inis) 2 := by kernel_rfl
theorem pr_Form_is_body (fuel : Nat) : Pr (T01.tbl.C fuel) T01.tbl.F 21 ["self", "thing", "deep", "word", "branch"] 3 (fun C => b_Form_is_body C 2) := ⟨⟨by kernel_rfl, by kernel_rfl⟩, fun k ds S => (congrFun (congrFun (congrFun (callsN_succ (T01.tbl.C fuel) T01.tbl.F k) 21) ds) S).trans (congrArg (fun b : DS => endD (b (env0 T01.e21.N ds) S)) (den_Form_is_body fuel _ _))⟩
theorem den_is_tree (fuel : Nat) (calls inis : CallF) : denSs T01.e22.d.body (scOf (withC (T01.tbl.C fuel) calls inis) ⟨T01.e22.N, T01.e22.d.scope, T01.e22.d.body⟩) = b_is_tree (withC (T01.tbl.C fuel) calls inis) 2 0 := by kernel_rfl
theorem pr_is_tree (fuel : Nat) : Pr (T01.tbl.C fuel) T01.tbl.F 22 ["thing", "limits", "form", "entry"] 2 (fun C => b_is_tree C 2 0) := ⟨⟨by kernel_rfl, by kernel_rfl⟩, fun k ds S => (congrFun (congrFun (congrFun (callsN_succ (T01.tbl.C fuel) T01.tbl.F k) 22) ds) S).trans (congrArg (fun b : DS => endD (b (env0 T01.e22.N ds) S)) (den_is_tree fuel _ _))⟩
theorem den_strings_in (fuel : Nat) (calls inis : CallF) : denSs T01.e23.d.body (scOf (withC (T01.tbl.C fuel) calls inis) ⟨T01.e23.N, T01.e23.d.scope, T01.e23.d.body⟩) = b_strings_in (withC (T01.tbl.C fuel) calls inis) := by kernel_rfl
theorem pr_strings_in (fuel : Nat) : Pr (T01.tbl.C fuel) T01.tbl.F 23 ["tree", "found", "waiting", "one"] 1 (fun C => b_strings_in C) := ⟨⟨by kernel_rfl, by kernel_rfl⟩, fun k ds S => (congrFun (congrFun (congrFun (callsN_succ (T01.tbl.C fuel) T01.tbl.F k) 23) ds) S).trans (congrArg (fun b : DS => endD (b (env0 T01.e23.N ds) S)) (den_strings_in fuel _ _))⟩
theorem den_is_program (fuel : Nat) (calls inis : CallF) : denSs T01.e24.d.body (scOf (withC (T01.tbl.C fuel) calls inis) ⟨T01.e24.N, T01.e24.d.scope, T01.e24.d.body⟩) = b_is_program (withC (T01.tbl.C fuel) calls inis) 23 7 22 := by kernel_rfl
theorem pr_is_program (fuel : Nat) : Pr (T01.tbl.C fuel) T01.tbl.F 24 ["thing", "name"] 1 (fun C => b_is_program C 23 7 22) := ⟨⟨by kernel_rfl, by kernel_rfl⟩, fun k ds S => (congrFun (congrFun (congrFun (callsN_succ (T01.tbl.C fuel) T01.tbl.F k) 24) ds) S).trans (congrArg (fun b : DS => endD (b (env0 T01.e24.N ds) S)) (den_is_program fuel _ _))⟩
theorem den_is_plain (fuel : Nat) (calls inis : CallF) : denSs T01.e25.d.body (scOf (withC (T01.tbl.C fuel) calls inis) ⟨T01.e25.N, T01.e25.d.scope, T01.e25.d.body⟩) = b_is_plain (withC (T01.tbl.C fuel) calls inis) 22 := by kernel_rfl
theorem pr_is_plain (fuel : Nat) : Pr (T01.tbl.C fuel) T01.tbl.F 25 ["thing"] 1 (fun C => b_is_plain C 22) := ⟨⟨by kernel_rfl, by kernel_rfl⟩, fun k ds S => (congrFun (congrFun (congrFun (callsN_succ (T01.tbl.C fuel) T01.tbl.F k) 25) ds) S).trans (congrArg (fun b : DS => endD (b (env0 T01.e25.N ds) S)) (den_is_plain fuel _ _))⟩
theorem den__law_font (fuel : Nat) (calls inis : CallF) : denSs T01.e26.d.body (scOf (withC (T01.tbl.C fuel) calls inis) ⟨T01.e26.N, T01.e26.d.scope, T01.e26.d.body⟩) = b__law_font (withC (T01.tbl.C fuel) calls inis) := by kernel_rfl
theorem pr__law_font (fuel : Nat) : Pr (T01.tbl.C fuel) T01.tbl.F 26 ["script", "seed", "smalls", "greats", "cell"] 1 (fun C => b__law_font C) := ⟨⟨by kernel_rfl, by kernel_rfl⟩, fun k ds S => (congrFun (congrFun (congrFun (callsN_succ (T01.tbl.C fuel) T01.tbl.F k) 26) ds) S).trans (congrArg (fun b : DS => endD (b (env0 T01.e26.N ds) S)) (den__law_font fuel _ _))⟩
theorem den__law_draw (fuel : Nat) (calls inis : CallF) : denSs T01.e27.d.body (scOf (withC (T01.tbl.C fuel) calls inis) ⟨T01.e27.N, T01.e27.d.scope, T01.e27.d.body⟩) = b__law_draw (withC (T01.tbl.C fuel) calls inis) := by kernel_rfl
theorem pr__law_draw (fuel : Nat) : Pr (T01.tbl.C fuel) T01.tbl.F 27 ["font", "many", "greats", "found", "smalls", "cell", "one", "two"] 2 (fun C => b__law_draw C) := ⟨⟨by kernel_rfl, by kernel_rfl⟩, fun k ds S => (congrFun (congrFun (congrFun (callsN_succ (T01.tbl.C fuel) T01.tbl.F k) 27) ds) S).trans (congrArg (fun b : DS => endD (b (env0 T01.e27.N ds) S)) (den__law_draw fuel _ _))⟩
theorem den__law_pick (fuel : Nat) (calls inis : CallF) : denSs T01.e28.d.body (scOf (withC (T01.tbl.C fuel) calls inis) ⟨T01.e28.N, T01.e28.d.scope, T01.e28.d.body⟩) = b__law_pick (withC (T01.tbl.C fuel) calls inis) 27 := by kernel_rfl
theorem pr__law_pick (fuel : Nat) : Pr (T01.tbl.C fuel) T01.tbl.F 28 ["font", "rows"] 2 (fun C => b__law_pick C 27) := ⟨⟨by kernel_rfl, by kernel_rfl⟩, fun k ds S => (congrFun (congrFun (congrFun (callsN_succ (T01.tbl.C fuel) T01.tbl.F k) 28) ds) S).trans (congrArg (fun b : DS => endD (b (env0 T01.e28.N ds) S)) (den__law_pick fuel _ _))⟩
theorem den__law_same (fuel : Nat) (calls inis : CallF) : denSs T01.e29.d.body (scOf (withC (T01.tbl.C fuel) calls inis) ⟨T01.e29.N, T01.e29.d.scope, T01.e29.d.body⟩) = b__law_same (withC (T01.tbl.C fuel) calls inis) := by kernel_rfl
theorem pr__law_same (fuel : Nat) : Pr (T01.tbl.C fuel) T01.tbl.F 29 ["one", "other", "rows", "turn", "got", "due", "k"] 2 (fun C => b__law_same C) := ⟨⟨by kernel_rfl, by kernel_rfl⟩, fun k ds S => (congrFun (congrFun (congrFun (callsN_succ (T01.tbl.C fuel) T01.tbl.F k) 29) ds) S).trans (congrArg (fun b : DS => endD (b (env0 T01.e29.N ds) S)) (den__law_same fuel _ _))⟩
def b__law_program (C : Cfg) : DS := sSeq (sAsg (mLst [mC (.str "Row"), mC (.str "Nil"), mC (.str "Row"), mC (.str "base"), mC (.str "k"), mC (.str "whole"), mC (.str "make1"), mC (.str "p"), mC (.str "Row"), mC (.str "whole"), mC (.str "x"), mC (.str "Nil"), mC (.str "y"), mC (.str "p"), mC (.str "make1"), mC (.str "base"), mC (.str "Nil"), mC (.str "Cons")]) (gVar 3)) (sSeq (sAsg (mVar 1) (L3.gSub (mVar 3) (mVar 0))) (sSeq (sAsg (mTup [mC (.str "give"), mTup [mC (.str "op"), mC (.str "+"), mTup [mC (.str "name"), mIx (mVar 3) (mC (.int 13))], mTup [mC (.str "call"), mIx (mVar 3) (mC (.int 14)), mTup [mTup [mC (.str "make"), mIx (mVar 3) (mC (.int 16)), mTup []]]]]]) (gVar 4)) (sSeq (sAsg (mTup [mTup [mIx (mVar 3) (mC (.int 11)), mTup [], mVar 4], mTup [mC (.str "Cons"), mTup [mIx (mVar 3) (mC (.int 12)), mC (.str "t")], mTup [mC (.str "give"), mTup [mC (.str "num"), mC (.int 1)]]]]) (gVar 5)) (sSeq (sAsg (mIf (tOf (mVar 2)) (mTup [mC (.str "num"), mC (.int 3)]) (mTup [mC (.str "look"), mIx (mVar 3) (mC (.int 15)), mTup [mC (.str "num"), mC (.int 3)]])) (gVar 6)) (sSeq (sAsg (mTup [mC (.str "let"), mIx (mVar 3) (mC (.int 10)), mVar 6, mTup [mC (.str "match"), mTup [mC (.str "make"), mC (.str "Nil"), mTup []], mVar 5]]) (gVar 7)) (sSeq (sAsg (mTup [mTup [mIx (mVar 3) (mC (.int 0)), mTup [mTup [mIx (mVar 3) (mC (.int 1)), mTup []], mTup [mIx (mVar 3) (mC (.int 17)), mTup [mC (.str "whole"), mIx (mVar 3) (mC (.int 2))]]]]]) (gVar 8)) (sSeq (sAsg (mIf (tOf (mVar 2)) (mTup []) (mTup [mTup [mIx (mVar 3) (mC (.int 3)), mIx (mVar 3) (mC (.int 4)), mIx (mVar 3) (mC (.int 5)), mTup [mC (.str "give"), mTup [mC (.str "num"), mC (.int 0)]]]])) (gVar 9)) (sSeq (sRet (mTup [mVar 8, mVar 9, mTup [mTup [mIx (mVar 3) (mC (.int 6)), mTup [mTup [mIx (mVar 3) (mC (.int 7)), mIx (mVar 3) (mC (.int 8))]], mIx (mVar 3) (mC (.int 9)), mVar 7]]])) sNext))))))))
theorem den__law_program (fuel : Nat) (calls inis : CallF) : denSs T01.e30.d.body (scOf (withC (T01.tbl.C fuel) calls inis) ⟨T01.e30.N, T01.e30.d.scope, T01.e30.d.body⟩) = b__law_program (withC (T01.tbl.C fuel) calls inis) := by kernel_rfl
theorem pr__law_program (fuel : Nat) : Pr (T01.tbl.C fuel) T01.tbl.F 30 ["spot", "thing", "plain", "n", "inner", "branches", "look", "body", "kinds", "families"] 3 (fun C => b__law_program C) := ⟨⟨by kernel_rfl, by kernel_rfl⟩, fun k ds S => (congrFun (congrFun (congrFun (callsN_succ (T01.tbl.C fuel) T01.tbl.F k) 30) ds) S).trans (congrArg (fun b : DS => endD (b (env0 T01.e30.N ds) S)) (den__law_program fuel _ _))⟩
def b__law_sorts (C : Cfg) : DS := sSeq (sRet (mC (.str "hhtlltllttlhllllhh"))) sNext
theorem den__law_sorts (fuel : Nat) (calls inis : CallF) : denSs T01.e31.d.body (scOf (withC (T01.tbl.C fuel) calls inis) ⟨T01.e31.N, T01.e31.d.scope, T01.e31.d.body⟩) = b__law_sorts (withC (T01.tbl.C fuel) calls inis) := by kernel_rfl
theorem pr__law_sorts (fuel : Nat) : Pr (T01.tbl.C fuel) T01.tbl.F 31 [] 0 (fun C => b__law_sorts C) := ⟨⟨by kernel_rfl, by kernel_rfl⟩, fun k ds S => (congrFun (congrFun (congrFun (callsN_succ (T01.tbl.C fuel) T01.tbl.F k) 31) ds) S).trans (congrArg (fun b : DS => endD (b (env0 T01.e31.N ds) S)) (den__law_sorts fuel _ _))⟩
def b__law_is_sort (C : Cfg) : DS := sSeq (sAsg (mLst [mC (.str "cell"), mC (.str "def"), mC (.str "do"), mC (.str "else"), mC (.str "give"), mC (.str "if"), mC (.str "kind"), mC (.str "let"), mC (.str "look"), mC (.str "match"), mC (.str "whole")]) (gVar 2)) (sSeq (sIf (L3.tOr (tNot (tOf (mIsi .str (mVar 0)))) (L3.tOr (tOf (mCmp .Eq (mVar 0) (mC (.str "")))) (tOf (mCmp .Gt (mB1 .len (mVar 0)) (mC (.int 10)))))) (sSeq (sRet (mC (.bl false))) sNext) sNext) (sSeq (sIf (L3.tAnd (tOf (mCmp .Eq (mVar 1) (mC (.str "t")))) (tOf (mCmp .Eq (mVar 0) (mC (.str "whole"))))) (sSeq (sRet (mC (.bl true))) sNext) sNext) (sSeq (sIf (L3.tOr (tOf (mCmp .In (mVar 0) (mVar 2))) (L3.tOr (tOf (mCmp .NotEq (mLc C.fuel [3] (iOf (mVar 0)) (gVar 3) (tNot (tOf (mMeth C "isalnum" (mVar 3) []))) (mVar 3)) (mLst []))) (tNot (tOf (mMeth C "isalpha" (mIx (mVar 0) (mC (.int 0))) []))))) (sSeq (sRet (mC (.bl false))) sNext) sNext) (sSeq (sRet (mIf (tOf (mCmp .Eq (mVar 1) (mC (.str "l")))) (mMeth C "islower" (mIx (mVar 0) (mC (.int 0))) []) (mMeth C "isupper" (mIx (mVar 0) (mC (.int 0))) []))) sNext))))
theorem den__law_is_sort (fuel : Nat) (calls inis : CallF) : denSs T01.e32.d.body (scOf (withC (T01.tbl.C fuel) calls inis) ⟨T01.e32.N, T01.e32.d.scope, T01.e32.d.body⟩) = b__law_is_sort (withC (T01.tbl.C fuel) calls inis) := by kernel_rfl
theorem pr__law_is_sort (fuel : Nat) : Pr (T01.tbl.C fuel) T01.tbl.F 32 ["thing", "sort", "kept", "sign"] 2 (fun C => b__law_is_sort C) := ⟨⟨by kernel_rfl, by kernel_rfl⟩, fun k ds S => (congrFun (congrFun (congrFun (callsN_succ (T01.tbl.C fuel) T01.tbl.F k) 32) ds) S).trans (congrArg (fun b : DS => endD (b (env0 T01.e32.N ds) S)) (den__law_is_sort fuel _ _))⟩
def b__law_things (C : Cfg) (f__law_draw : Nat) : DS := sSeq (sAsg (mLst [mC (.str "a"), mC (.str "A"), mC (.str "z"), mC (.str "Z"), mC (.str "zz"), mC (.str "Zz"), mC (.str "zZ"), mC (.str "ZZ"), mC (.str "zza"), mC (.str "Zza"), mC (.str "az"), mC (.str "x1"), mC (.str "X1"), mC (.str "1x"), mC (.str "9"), mC (.str ""), mC (.str " "), mC (.str "a "), mC (.str "a-b"), mC (.str "a_b"), mC (.str "abcdefghij")]) (gVar 1)) (sSeq (sExpr (mMeth C "extend" (mVar 1) [mLst [mC (.str "Abcdefghij"), mC (.str "abcdefghijk"), mC (.str "Abcdefghijk"), mC (.str "cell"), mC (.str "def"), mC (.str "do"), mC (.str "else"), mC (.str "give"), mC (.str "if"), mC (.str "kind"), mC (.str "let"), mC (.str "look"), mC (.str "match"), mC (.str "whole")]])) (sSeq (sExpr (mMeth C "extend" (mVar 1) [mLst [mC (.str "Cell"), mC (.str "Whole"), mC (.str "wholes"), mC (.str "Row"), mC (.str "base"), mC (.str "a.b"), mC (.str "("), mC .non, mC (.bl true), mC (.int 0), mTup [mC (.str "a")], mLst [mC (.str "a")], mTup []]])) (sSeq (sAsg (mC (.str "abyzABYZ019")) (gVar 2)) (sSeq (sFor C.fuel (L3.iRng1 (mC (.int 6))) (gVar 3) (sSeq (sExpr (mMeth C "append" (mVar 1) [mMeth C "join" (mC (.str "")) [mLc C.fuel [4] (L3.iRng1 (mBin .Add (mC (.int 1)) (mCall C f__law_draw [mVar 0, mC (.int 11)]))) (gVar 4) L3.tYes (mIx (mVar 2) (mCall C f__law_draw [mVar 0, mC (.int 11)]))]])) sNext)) (sSeq (sRet (mVar 1)) sNext)))))
theorem den__law_things (fuel : Nat) (calls inis : CallF) : denSs T01.e33.d.body (scOf (withC (T01.tbl.C fuel) calls inis) ⟨T01.e33.N, T01.e33.d.scope, T01.e33.d.body⟩) = b__law_things (withC (T01.tbl.C fuel) calls inis) 27 := by kernel_rfl
theorem pr__law_things (fuel : Nat) : Pr (T01.tbl.C fuel) T01.tbl.F 33 ["font", "some", "letters", "k", "i"] 1 (fun C => b__law_things C 27) := ⟨⟨by kernel_rfl, by kernel_rfl⟩, fun k ds S => (congrFun (congrFun (congrFun (callsN_succ (T01.tbl.C fuel) T01.tbl.F k) 33) ds) S).trans (congrArg (fun b : DS => endD (b (env0 T01.e33.N ds) S)) (den__law_things fuel _ _))⟩
def b_law (C : Cfg) (f__law_things : Nat) (f__law_same : Nat) (f_is_plain : Nat) (f__law_program : Nat) (f_is_program : Nat) (f__law_is_sort : Nat) (f__law_sorts : Nat) (f__law_font : Nat) : DS := sSeq (sAsg (mCall C f__law_font [mVar 0]) (gVar 1)) (sSeq (sAsg (mCall C f__law_sorts []) (gVar 2)) (sSeq (sIf (L3.tOr (tOf (mCmp .IsNot (mCall C f_is_program [mCall C f__law_program [mC (.int 0), mC (.str "Row"), mC (.bl false)]]) (mC (.bl true)))) (tOf (mCmp .IsNot (mCall C f_is_plain [mCall C f__law_program [mC (.int 0), mC (.str "Row"), mC (.bl true)]]) (mC (.bl true))))) (sSeq (sRet (mC (.bl false))) sNext) sNext) (sSeq (sFor C.fuel (L3.iRng1 (mC (.int 18))) (gVar 3) (sSeq (sFor C.fuel (iOf (mCall C f__law_things [mVar 1])) (gVar 4) (sSeq (sAsg (mCall C f__law_is_sort [mVar 4, mIx (mVar 2) (mVar 3)]) (gVar 5)) (sSeq (sAsg (mAndV (mVar 5) (mCmp .In (mSl (mVar 4) oNone (oSome (mC (.int 2)))) (mTup [mC (.str "zz"), mC (.str "Zz")]))) (gVar 6)) (sSeq (sIf (tNot (tOf (mCall C f__law_same [mCall C f_is_program [mCall C f__law_program [mVar 3, mVar 4, mC (.bl false)]], mAndV (mVar 5) (ofT (tNot (tOf (mVar 6))))]))) (sSeq (sRet (mC (.bl false))) sNext) sNext) (sSeq (sIf (tOf (mCmp .IsNot (mCall C f_is_plain [mCall C f__law_program [mVar 3, mVar 4, mC (.bl false)]]) (mC (.bl false)))) (sSeq (sRet (mC (.bl false))) sNext) sNext) (sSeq (sIf (L3.tAnd (tOf (mCmp .NotIn (mVar 3) (mTup [mC (.int 3), mC (.int 4), mC (.int 5), mC (.int 15)]))) (tNot (tOf (mCall C f__law_same [mCall C f_is_plain [mCall C f__law_program [mVar 3, mVar 4, mC (.bl true)]], mVar 5])))) (sSeq (sRet (mC (.bl false))) sNext) sNext) sNext)))))) sNext)) (sSeq (sRet (mC (.bl true))) sNext))))
theorem den_law (fuel : Nat) (calls inis : CallF) : denSs T01.e34.d.body (scOf (withC (T01.tbl.C fuel) calls inis) ⟨T01.e34.N, T01.e34.d.scope, T01.e34.d.body⟩) = b_law (withC (T01.tbl.C fuel) calls inis) 33 29 25 30 24 32 31 26 := by kernel_rfl
theorem pr_law (fuel : Nat) : Pr (T01.tbl.C fuel) T01.tbl.F 34 ["script", "font", "sorts", "spot", "thing", "good", "kept"] 1 (fun C => b_law C 33 29 25 30 24 32 31 26) := ⟨⟨by kernel_rfl, by kernel_rfl⟩, fun k ds S => (congrFun (congrFun (congrFun (callsN_succ (T01.tbl.C fuel) T01.tbl.F k) 34) ds) S).trans (congrArg (fun b : DS => endD (b (env0 T01.e34.N ds) S)) (den_law fuel _ _))⟩
end B01


/-! I01: the program's modules. Printed by inst.py. -/
namespace I01
open PySem PySem.Spec PyProof.Rows L2 L3 B01
def nI : NamesI := ⟨0, 1, 2, 3, 4, 5, 6, 7⟩
theorem nP (fuel : Nat) : NamesP (T01.tbl.C fuel) T01.tbl.F nI := ⟨pr_is_int fuel, pr_within fuel, pr_is_tuple fuel, pr_is_name fuel, pr_is_low fuel, pr_is_high fuel, pr_is_told fuel, pr_is_kept fuel⟩
def fI : FormI := ⟨0, 8, 9, 10, 11, 12, 13, 14, 15, 16, 17, 18, 19, 20, 21⟩
theorem fP (fuel : Nat) (h : 100000000 ≤ fuel) : FormP (T01.tbl.C fuel) T01.tbl.F nI fI := ⟨⟨by kernel_rfl, by kernel_rfl, by kernel_rfl, by kernel_rfl, by kernel_rfl, by kernel_rfl, by kernel_rfl, by kernel_rfl, by kernel_rfl⟩, h, by kernel_rfl, pr_Form___init__ fuel, ⟨by kernel_rfl, (pr_Form_take fuel).ar, fun L sp => by unfold formF; kernel_rfl⟩, pr_Form_take fuel, ⟨by kernel_rfl, (pr_Form_is_maker fuel).ar, fun L sp => by unfold formF; kernel_rfl⟩, pr_Form_is_maker fuel, ⟨by kernel_rfl, (pr_Form_is_kind fuel).ar, fun L sp => by unfold formF; kernel_rfl⟩, pr_Form_is_kind fuel, ⟨by kernel_rfl, (pr_Form_is_param fuel).ar, fun L sp => by unfold formF; kernel_rfl⟩, pr_Form_is_param fuel, ⟨by kernel_rfl, (pr_Form_is_unit fuel).ar, fun L sp => by unfold formF; kernel_rfl⟩, pr_Form_is_unit fuel, ⟨by kernel_rfl, (pr_Form_is_family fuel).ar, fun L sp => by unfold formF; kernel_rfl⟩, pr_Form_is_family fuel, ⟨by kernel_rfl, (pr_Form_is_def fuel).ar, fun L sp => by unfold formF; kernel_rfl⟩, pr_Form_is_def fuel, ⟨by kernel_rfl, (pr_Form_are_lows fuel).ar, fun L sp => by unfold formF; kernel_rfl⟩, pr_Form_are_lows fuel, ⟨by kernel_rfl, (pr_Form_are_expressions fuel).ar, fun L sp => by unfold formF; kernel_rfl⟩, pr_Form_are_expressions fuel, ⟨by kernel_rfl, (pr_Form_are_args fuel).ar, fun L sp => by unfold formF; kernel_rfl⟩, pr_Form_are_args fuel, ⟨by kernel_rfl, (pr_Form_is_expression fuel).ar, fun L sp => by unfold formF; kernel_rfl⟩, pr_Form_is_expression fuel, ⟨by kernel_rfl, (pr_Form_is_branch fuel).ar, fun L sp => by unfold formF; kernel_rfl⟩, pr_Form_is_branch fuel, ⟨by kernel_rfl, (pr_Form_is_body fuel).ar, fun L sp => by unfold formF; kernel_rfl⟩, pr_Form_is_body fuel⟩
end I01


/-! K01A: the law's programs; what is judged of them. -/
namespace K01
open PySem PySem.Spec PyProof.Rows L2 L3
def bodyT (n : Nat → D) (b : Bool) : D :=
  .tup [.str "let", n 10, (if b then .tup [.str "num", .int 3] else .tup [.str "look", n 15, .tup [.str "num", .int 3]]),
    .tup [.str "match", .tup [.str "make", .str "Nil", .tup []],
      .tup [.tup [n 11, .tup [], .tup [.str "give", .tup [.str "op", .str "+", .tup [.str "name", n 13], .tup [.str "call", n 14, .tup [.tup [.str "make", n 16, .tup []]]]]]],
        .tup [.str "Cons", .tup [n 12, .str "t"], .tup [.str "give", .tup [.str "num", .int 1]]]]]]
/-- the law's program, its names by number -/
def prgT (n : Nat → D) (b : Bool) : D :=
  .tup [.tup [.tup [n 0, .tup [.tup [n 1, .tup []], .tup [n 17, .tup [.str "whole", n 2]]]]],
    (if b then .tup [] else .tup [.tup [n 3, n 4, n 5, .tup [.str "give", .tup [.str "num", .int 0]]]]),
    .tup [.tup [n 6, .tup [.tup [n 7, n 8]], n 9, bodyT n b]]]
def leaves : List D := [.str "Row", .str "Nil", .str "Row", .str "base", .str "k", .str "whole", .str "make1", .str "p", .str "Row", .str "whole", .str "x", .str "Nil", .str "y", .str "p", .str "make1", .str "base", .str "Nil", .str "Cons"]
theorem exprM_s (L : Lim) (n : Nat) (d : D) (sp : Int) : exprM L (n + 1) d sp = exprS L (exprM L n) (bodyM L n) d sp := rfl
theorem bodyM_s (L : Lim) (n : Nat) (d : D) (sp : Int) : bodyM L (n + 1) d sp = bodyS L (exprM L n) (bodyM L n) d sp := rfl
theorem hNil : highB (.str "Nil") = true := by decide
theorem hCons : highB (.str "Cons") = true := by decide
theorem lt : lowB (.str "t") = true := by decide
theorem twhole : toldB (.str "whole") = true := by decide
section
variable (n : Nat → D)
theorem body_told : bodyB L3.told (bodyT n false) = (lowB (n 10) && (lowB (n 15) && (highB (n 11) && (lowB (n 13) && (lowB (n 14) && (highB (n 16) && (lowB (n 12)))))))) := by
  cases h10 : lowB (n 10) with
  | false => simp [treeB, prgT, tupB, kindB, makerB, familyB, unitB, defB, bodyB, paramB, keyD, itemsT, L3.told, L3.plain, exprM_s, bodyM_s, exprS, bodyS, exprW, bodyW, branchS, allM, two, lowsM, withinB, signD, eqD, hNil, hCons, lt, twhole, bodyT, h10]
  | true =>
    cases h15 : lowB (n 15) with
    | false => simp [treeB, prgT, tupB, kindB, makerB, familyB, unitB, defB, bodyB, paramB, keyD, itemsT, L3.told, L3.plain, exprM_s, bodyM_s, exprS, bodyS, exprW, bodyW, branchS, allM, two, lowsM, withinB, signD, eqD, hNil, hCons, lt, twhole, bodyT, h10, h15]
    | true =>
      cases h11 : highB (n 11) with
      | false => simp [treeB, prgT, tupB, kindB, makerB, familyB, unitB, defB, bodyB, paramB, keyD, itemsT, L3.told, L3.plain, exprM_s, bodyM_s, exprS, bodyS, exprW, bodyW, branchS, allM, two, lowsM, withinB, signD, eqD, hNil, hCons, lt, twhole, bodyT, h10, h15, h11]
      | true =>
        cases h13 : lowB (n 13) with
        | false => simp [treeB, prgT, tupB, kindB, makerB, familyB, unitB, defB, bodyB, paramB, keyD, itemsT, L3.told, L3.plain, exprM_s, bodyM_s, exprS, bodyS, exprW, bodyW, branchS, allM, two, lowsM, withinB, signD, eqD, hNil, hCons, lt, twhole, bodyT, h10, h15, h11, h13]
        | true =>
          cases h14 : lowB (n 14) with
          | false => simp [treeB, prgT, tupB, kindB, makerB, familyB, unitB, defB, bodyB, paramB, keyD, itemsT, L3.told, L3.plain, exprM_s, bodyM_s, exprS, bodyS, exprW, bodyW, branchS, allM, two, lowsM, withinB, signD, eqD, hNil, hCons, lt, twhole, bodyT, h10, h15, h11, h13, h14]
          | true =>
            cases h16 : highB (n 16) with
            | false => simp [treeB, prgT, tupB, kindB, makerB, familyB, unitB, defB, bodyB, paramB, keyD, itemsT, L3.told, L3.plain, exprM_s, bodyM_s, exprS, bodyS, exprW, bodyW, branchS, allM, two, lowsM, withinB, signD, eqD, hNil, hCons, lt, twhole, bodyT, h10, h15, h11, h13, h14, h16]
            | true =>
              cases h12 : lowB (n 12) with
              | false => simp [treeB, prgT, tupB, kindB, makerB, familyB, unitB, defB, bodyB, paramB, keyD, itemsT, L3.told, L3.plain, exprM_s, bodyM_s, exprS, bodyS, exprW, bodyW, branchS, allM, two, lowsM, withinB, signD, eqD, hNil, hCons, lt, twhole, bodyT, h10, h15, h11, h13, h14, h16, h12]
              | true =>
                simp [treeB, prgT, tupB, kindB, makerB, familyB, unitB, defB, bodyB, paramB, keyD, itemsT, L3.told, L3.plain, exprM_s, bodyM_s, exprS, bodyS, exprW, bodyW, branchS, allM, two, lowsM, withinB, signD, eqD, hNil, hCons, lt, twhole, bodyT, h10, h15, h11, h13, h14, h16, h12]
theorem body_plain : bodyB L3.plain (bodyT n true) = (lowB (n 10) && (highB (n 11) && (lowB (n 13) && (lowB (n 14) && (highB (n 16) && (lowB (n 12))))))) := by
  cases h10 : lowB (n 10) with
  | false => simp [treeB, prgT, tupB, kindB, makerB, familyB, unitB, defB, bodyB, paramB, keyD, itemsT, L3.told, L3.plain, exprM_s, bodyM_s, exprS, bodyS, exprW, bodyW, branchS, allM, two, lowsM, withinB, signD, eqD, hNil, hCons, lt, twhole, bodyT, h10]
  | true =>
    cases h11 : highB (n 11) with
    | false => simp [treeB, prgT, tupB, kindB, makerB, familyB, unitB, defB, bodyB, paramB, keyD, itemsT, L3.told, L3.plain, exprM_s, bodyM_s, exprS, bodyS, exprW, bodyW, branchS, allM, two, lowsM, withinB, signD, eqD, hNil, hCons, lt, twhole, bodyT, h10, h11]
    | true =>
      cases h13 : lowB (n 13) with
      | false => simp [treeB, prgT, tupB, kindB, makerB, familyB, unitB, defB, bodyB, paramB, keyD, itemsT, L3.told, L3.plain, exprM_s, bodyM_s, exprS, bodyS, exprW, bodyW, branchS, allM, two, lowsM, withinB, signD, eqD, hNil, hCons, lt, twhole, bodyT, h10, h11, h13]
      | true =>
        cases h14 : lowB (n 14) with
        | false => simp [treeB, prgT, tupB, kindB, makerB, familyB, unitB, defB, bodyB, paramB, keyD, itemsT, L3.told, L3.plain, exprM_s, bodyM_s, exprS, bodyS, exprW, bodyW, branchS, allM, two, lowsM, withinB, signD, eqD, hNil, hCons, lt, twhole, bodyT, h10, h11, h13, h14]
        | true =>
          cases h16 : highB (n 16) with
          | false => simp [treeB, prgT, tupB, kindB, makerB, familyB, unitB, defB, bodyB, paramB, keyD, itemsT, L3.told, L3.plain, exprM_s, bodyM_s, exprS, bodyS, exprW, bodyW, branchS, allM, two, lowsM, withinB, signD, eqD, hNil, hCons, lt, twhole, bodyT, h10, h11, h13, h14, h16]
          | true =>
            cases h12 : lowB (n 12) with
            | false => simp [treeB, prgT, tupB, kindB, makerB, familyB, unitB, defB, bodyB, paramB, keyD, itemsT, L3.told, L3.plain, exprM_s, bodyM_s, exprS, bodyS, exprW, bodyW, branchS, allM, two, lowsM, withinB, signD, eqD, hNil, hCons, lt, twhole, bodyT, h10, h11, h13, h14, h16, h12]
            | true =>
              simp [treeB, prgT, tupB, kindB, makerB, familyB, unitB, defB, bodyB, paramB, keyD, itemsT, L3.told, L3.plain, exprM_s, bodyM_s, exprS, bodyS, exprW, bodyW, branchS, allM, two, lowsM, withinB, signD, eqD, hNil, hCons, lt, twhole, bodyT, h10, h11, h13, h14, h16, h12]
/-- whether all names are of their sorts -/
def allB (b : Bool) : Bool := (highB (n 0) && highB (n 1) && toldB (n 2) && lowB (n 6) && lowB (n 7) && toldB (n 8) && toldB (n 9) && highB (n 17)) && (b || (lowB (n 3) && lowB (n 4) && toldB (n 5))) && (lowB (n 10) && (b || lowB (n 15)) && highB (n 11) && lowB (n 13) && lowB (n 14) && highB (n 16) && lowB (n 12))
theorem fam_body : bodyB L3.told (.tup [.str "give", .tup [.str "num", .int 0]]) = true := by simp [treeB, prgT, tupB, kindB, makerB, familyB, unitB, defB, bodyB, paramB, keyD, itemsT, L3.told, L3.plain, exprM_s, bodyM_s, exprS, bodyS, exprW, bodyW, branchS, allM, two, lowsM, withinB, signD, eqD, hNil, hCons, lt, twhole]
theorem tree_told : treeB L3.told (prgT n false) = allB n false := by
  have e1 : treeB L3.told (prgT n false) = ((highB (n 0) && ((highB (n 1) && (highB (n 17) && toldB (n 2))))) && ((lowB (n 3) && (toldB (n 5) && bodyB L3.told (.tup [.str "give", .tup [.str "num", .int 0]])) && lowB (n 4)) && ((lowB (n 6) && (toldB (n 9) && bodyB L3.told (bodyT n false))) && (lowB (n 7) && toldB (n 8))))) := by
    simp [treeB, prgT, tupB, kindB, makerB, familyB, unitB, defB, paramB, keyD, itemsT, L3.told, twhole]
  rw [e1, body_told, fam_body]
  unfold allB
  simp only [Bool.true_and, Bool.and_true, Bool.false_or]
  ac_rfl
theorem tree_plain : treeB L3.plain (prgT n true) = allB n true := by
  have e1 : treeB L3.plain (prgT n true) = ((highB (n 0) && ((highB (n 1) && (highB (n 17) && toldB (n 2))))) && ((lowB (n 6) && (toldB (n 9) && bodyB L3.plain (bodyT n true))) && (lowB (n 7) && toldB (n 8)))) := by
    simp [treeB, prgT, tupB, kindB, makerB, familyB, unitB, defB, paramB, keyD, itemsT, L3.plain, twhole]
  rw [e1, body_plain]
  unfold allB
  simp only [Bool.true_and, Bool.and_true, Bool.true_or]
  ac_rfl
theorem tree_fam : treeB L3.plain (prgT n false) = false := by
  simp [treeB, prgT, tupB, L3.plain]
end
end K01


/-! K01B: the law's helpers. -/
namespace K01
open PySem PySem.Spec PyProof.Rows L2 L3
abbrev progN : List Str := ["spot", "thing", "plain", "n", "inner", "branches", "look", "body", "kinds", "families"]
section
variable (C : Cfg) {S : Store} {d : D}
def nAt (s : Nat) (d : D) : Nat → D := fun i => (leaves.set s d).getD i .non
theorem lawprog_ok {s : Nat} (hs : s < 18) (hd : noExn d = true) (b : Bool) : endD (B01.b__law_program C (env0 progN [.int s, d, .bl b]) S) = .ok (prgT (nAt s d) b) (S ++ [.lst (leaves.set s d)]) := by
  have hsz := sizeLine_eq
  have lk : ∀ n : Nat, n ≤ 18 → lok n = true := fun n h => by unfold lok; rw [hsz]; exact decide_eq_true (by omega)
  have lk0 := lk 0 (by omega); have lk1 := lk 1 (by omega); have lk2 := lk 2 (by omega); have lk3 := lk 3 (by omega); have lk4 := lk 4 (by omega); have lk18 := lk 18 (by omega)
  have hset : subO S.length (s : Int) d [some (.int s), some d, some (.bl b), some (.ref S.length), none, none, none, none, none, none] (S ++ [.lst leaves]) (some (.lst leaves)) = .next [some (.int s), some d, some (.bl b), some (.ref S.length), none, none, none, none, none, none] (S ++ [.lst (leaves.set s d)]) := by
    rw [subO_at _ _ _ _ _ (by omega) (by simp [leaves]; omega)]
    simp
  have hln : (leaves.set s d).length = 18 := by simp [leaves]
  have hget : ∀ i, i < 18 → (leaves.set s d)[i]? = some (nAt s d i) := fun i hi => by
    unfold nAt
    rw [List.getD_eq_getElem?_getD]
    cases h : (leaves.set s d)[i]? with
    | none => have := List.getElem?_eq_none_iff.mp h; omega
    | some x => rfl
  generalize hl : leaves.set s d = l at *
  generalize nAt s d = n at *
  have g0 := hget 0 (by omega); have g1 := hget 1 (by omega); have g2 := hget 2 (by omega); have g3 := hget 3 (by omega); have g4 := hget 4 (by omega); have g5 := hget 5 (by omega)
  have g6 := hget 6 (by omega); have g7 := hget 7 (by omega); have g8 := hget 8 (by omega); have g9 := hget 9 (by omega); have g10 := hget 10 (by omega); have g11 := hget 11 (by omega)
  have g12 := hget 12 (by omega); have g13 := hget 13 (by omega); have g14 := hget 14 (by omega); have g15 := hget 15 (by omega); have g16 := hget 16 (by omega); have g17 := hget 17 (by omega)
  have at1 : (S ++ [O.lst l])[S.length]? = some (.lst l) := by simp
  have at0 : (S ++ [O.lst leaves])[S.length]? = some (.lst leaves) := by simp
  unfold leaves at hset at0
  unfold B01.b__law_program
  cases b with
  | false => simp [env0, lk0, lk1, lk2, lk3, lk4, lk18, at0, hset, look_no _ hd, at1, g0, g1, g2, g3, g4, g5, g6, g7, g8, g9, g10, g11, g12, g13, g14, g15, g16, g17, prgT, bodyT]
  | true => simp [env0, lk0, lk1, lk2, lk3, lk4, lk18, at0, hset, look_no _ hd, at1, g0, g1, g2, g3, g4, g5, g6, g7, g8, g9, g10, g11, g12, g13, g14, g15, g16, g17, prgT, bodyT]
end
end K01


/-! K01C: the law's judge of sorts. -/
namespace K01
open PySem PySem.Spec PyProof.Rows L2 L3
abbrev sortN : List Str := ["thing", "sort", "kept", "sign"]
def sortB (srt : Str) (d : D) : Bool := if srt = "t" then toldB d else if srt = "l" then lowB d else highB d
section
variable (C : Cfg) {S : Store} {d : D}
theorem sort_no {srt : Str} (h : ∀ x, d ≠ .str x) : sortB srt d = false := by
  unfold sortB toldB lowB highB
  cases d <;> first | (simp; done) | exact absurd rfl (h _)
theorem low_str (x : Str) : lowB (.str x) = (nameS x && decide (firstS x ∈ smaS.cps.toList)) := rfl
theorem high_str (x : Str) : highB (.str x) = (nameS x && !decide (firstS x ∈ smaS.cps.toList)) := rfl
theorem told_str (x : Str) : toldB (.str x) = (highB (.str x) || decide (x = "whole")) := rfl
theorem nameS_first {x : Str} {c : Nat} {cs : List Nat} (hq : x.cps.toList = c :: cs) : firstS x = c := by unfold firstS; rw [hq]
theorem is_sort_ok {srt : Str} (hd : okD S d) (hs : srt = "h" ∨ srt = "l" ∨ srt = "t") (ha : ∀ x, d = .str x → ascB x = true) :
    endD (B01.b__law_is_sort C (env0 sortN [d, .str srt]) S) = .ok (.bl (sortB srt d)) (S ++ [.lst wordsD]) := by
  have hsz := sizeLine_eq
  have lk0 : lok 0 = true := rfl
  have lk11 : lok 11 = true := by unfold lok; rw [hsz]; decide
  have at1 : (S ++ [O.lst wordsD])[S.length]? = some (.lst wordsD) := by simp
  unfold wordsD at at1
  have k1 : Keep [] S (S ++ [O.lst wordsD]) := Keep.push _
  have hd1 := okD.keep k1 (fun q hq => by cases hq) hd
  obtain ⟨n, hn⟩ := hd1.ty
  have hstr := str_ty hn
  unfold wordsD at hn hd1
  cases d with
  | str x =>
    have hasc := ha x rfl
    have hxl : x.length ≤ sizeLine := hd
    have hx : x.length = x.cps.toList.length := by simp [Str.length]
    have hin : cmpOp .In (.d (.str x)) (.d (.ref S.length)) (S ++ [O.lst wordsD]) = some (wordsD.any fun e => eqD e (.str x)) := in_ref (by simp) rfl (by decide)
    unfold wordsD at hin
    by_cases h0 : x = ""
    · subst h0
      have e1 : sortB srt (.str "") = false := by
        have q1 : nameS "" = false := by decide
        simp [sortB, told_str, low_str, high_str, q1]
      rw [e1]
      simp [B01.b__law_is_sort, env0, lk0, lk11, isN, wordsD]
    · by_cases h10 : x.length ≤ 10
      · have h10' : ¬ (10 : Int) < x.length := by omega
        have hlk : lok x.length = true := decide_eq_true hxl
        cases hq : x.cps.toList with
        | nil =>
          exfalso
          apply h0
          have : x.cps = #[] := by rw [← Array.toList_eq_nil_iff]; exact hq
          cases x; simp at this; subst this; rfl
        | cons c cs =>
          have hfirst := nameS_first hq
          have hac : ∀ c ∈ x.cps.toList, c < 128 := fun c hc => of_decide_eq_true (List.all_eq_true.mp hasc c hc)
          have hc := hac c (by rw [hq]; exact List.mem_cons_self ..)
          have h1 : 1 ≤ x.length := by rw [hx, hq]; simp
          have hat : atI x.cps.toList 0 = some c := by rw [hq]; simp
          have hat2 : x.cps[0]? = some c := by simpa using hat
          have mal : ∀ (e : L3.Env) (S : Store), methD C "isalpha" [] e (.str ⟨#[c]⟩) S = .ok (.d (.bl (decide (c ∈ letS.cps.toList)))) S := fun e S => by
            rw [meth_str C "isalpha" [] e S ⟨#[c]⟩ m1_isalpha (by simp)]
            simp [asc_alpha c hc]
          have mlo : ∀ (e : L3.Env) (S : Store), methD C "islower" [] e (.str ⟨#[c]⟩) S = .ok (.d (.bl (decide (c ∈ smaS.cps.toList)))) S := fun e S => by
            rw [meth_str C "islower" [] e S ⟨#[c]⟩ m1_islower (by simp)]
            simp [asc_lower c hc]
          have mup : ∀ (e : L3.Env) (S : Store), methD C "isupper" [] e (.str ⟨#[c]⟩) S = .ok (.d (.bl (decide (c ∈ letS.cps.toList) && !decide (c ∈ smaS.cps.toList)))) S := fun e S => by
            rw [meth_str C "isupper" [] e S ⟨#[c]⟩ m1_isupper (by simp)]
            simp [asc_upper c hc]
          have hlc : mLc C.fuel [3] (iOf (mVar 0)) (gVar 3) (tNot (tOf (mMeth C "isalnum" (mVar 3) []))) (mVar 3) [some (.str x), some (.str srt), some (.ref S.length), none] (S ++ [O.lst wordsD]) =
              .ok (.fl (((x.cps.toList.map fun c => D.str ⟨#[c]⟩).filter fun d => match d with | .str z => !Txt.isalnum z | _ => true).map id)) (S ++ [O.lst wordsD]) := by
            refine mLc_filter id _ (by simp) (by rw [List.length_map, ← hx]; omega) fun d hd => ?_
            obtain ⟨c, hcm, rfl⟩ := List.mem_map.mp hd
            refine ⟨_, rfl, ?_, fun _ => ?_⟩
            · have := meth_str C "isalnum" [] [some (.str x), some (.str srt), some (.ref S.length), some (.str ⟨#[c]⟩)] (S ++ [O.lst wordsD]) ⟨#[c]⟩ m1_isalnum (by simp)
              simp [wipeE, this]
            · simp [wipeE]
          have hemp : (((x.cps.toList.map fun c => D.str ⟨#[c]⟩).filter fun d => match d with | .str z => !Txt.isalnum z | _ => true).map id).isEmpty = x.cps.toList.all signB := by
            rw [Bool.eq_iff_iff]
            simp only [List.isEmpty_iff, List.map_eq_nil_iff, List.filter_eq_nil_iff, List.all_eq_true, List.mem_map]
            constructor
            · intro h c hc
              have := h _ ⟨c, hc, rfl⟩
              simp only [Bool.not_eq_true, Bool.not_eq_false'] at this
              rw [asc_alnum c (hac c hc)] at this
              exact this
            · rintro h d ⟨c, hc, rfl⟩
              simp only [Bool.not_eq_true, Bool.not_eq_false']
              rw [asc_alnum c (hac c hc)]
              exact h c hc
          unfold wordsD at hlc
          have nm : nameS x = (!(wordsD.any fun w => eqD w (.str x)) && decide (c ∈ letS.cps.toList) && x.cps.toList.all signB) := by
            unfold nameS
            rw [decide_eq_true h1, decide_eq_true h10, hq]
            simp
          unfold wordsD at nm
          by_cases hw : srt = "t" ∧ x = "whole"
          · obtain ⟨rfl, rfl⟩ := hw
            have e1 : sortB "t" (.str "whole") = true := by decide
            rw [e1]
            have l5 : (Str.ofString "whole").length = 5 := by decide
            have lk5 : lok 5 = true := by unfold lok; rw [hsz]; decide
            simp [B01.b__law_is_sort, env0, lk11, lk5, isN, wordsD, l5]
          · have hw1 : (srt = "t" → x ≠ "whole") := fun a b => hw ⟨a, b⟩
            have hsort : sortB srt (.str x) = (nameS x && (if srt = "l" then decide (c ∈ smaS.cps.toList) else !decide (c ∈ smaS.cps.toList))) := by
              simp only [sortB, low_str, high_str, told_str, hfirst]
              by_cases t1 : srt = "t"
              · have := hw1 t1
                subst t1
                simp [this]
              · by_cases t2 : srt = "l" <;> simp [t1, t2]
            rw [hsort, nm]
            have tst : (decide (srt = "t") && decide (x = "whole")) = false := by
              by_cases t1 : srt = "t"
              · simp [hw1 t1]
              · simp [t1]
            cases b1 : (([D.str "cell", .str "def", .str "do", .str "else", .str "give", .str "if", .str "kind", .str "let", .str "look", .str "match", .str "whole"] : List D).any fun w => eqD w (.str x)) with
            | true =>
              rw [b1] at hin
              by_cases t1 : srt = "t"
              · have t2 := hw1 t1
                subst t1
                simp [B01.b__law_is_sort, env0, lk0, lk11, isN, wordsD, h0, hlk, h10', t2, hin]
              · simp [B01.b__law_is_sort, env0, lk0, lk11, isN, wordsD, h0, hlk, h10', t1, hin]
            | false =>
              rw [b1] at hin
              cases b2 : x.cps.toList.all signB with
              | false =>
                rw [b2] at hemp
                by_cases t1 : srt = "t"
                · have t2 := hw1 t1
                  subst t1
                  simp [B01.b__law_is_sort, env0, lk0, lk11, isN, wordsD, h0, hlk, h10', t2, hin, hlc, hemp, -List.map_id_fun]
                · simp [B01.b__law_is_sort, env0, lk0, lk11, isN, wordsD, h0, hlk, h10', t1, hin, hlc, hemp, -List.map_id_fun]
              | true =>
                rw [b2] at hemp
                cases b3 : decide (c ∈ letS.cps.toList) with
                | false =>
                  rw [b3] at mal
                  by_cases t1 : srt = "t"
                  · have t2 := hw1 t1
                    subst t1
                    simp [B01.b__law_is_sort, env0, lk0, lk11, isN, wordsD, h0, hlk, h10', t2, hin, hlc, hemp, hat2, mal, -List.map_id_fun]
                  · simp [B01.b__law_is_sort, env0, lk0, lk11, isN, wordsD, h0, hlk, h10', t1, hin, hlc, hemp, hat2, mal, -List.map_id_fun]
                | true =>
                  rw [b3] at mal mup
                  by_cases t1 : srt = "t"
                  · have t2 := hw1 t1
                    subst t1
                    simp [B01.b__law_is_sort, env0, lk0, lk11, isN, wordsD, h0, hlk, h10', t2, hin, hlc, hemp, hat2, mal, mup, -List.map_id_fun]
                  · by_cases t3 : srt = "l"
                    · subst t3
                      simp [B01.b__law_is_sort, env0, lk0, lk11, isN, wordsD, h0, hlk, h10', t1, hin, hlc, hemp, hat2, mal, mlo, -List.map_id_fun]
                    · simp [B01.b__law_is_sort, env0, lk0, lk11, isN, wordsD, h0, hlk, h10', t1, t3, hin, hlc, hemp, hat2, mal, mup, -List.map_id_fun]
      · have h10' : (10 : Int) < x.length := by omega
        have hlk : lok x.length = true := decide_eq_true hxl
        have q1 : nameS x = false := by unfold nameS; rw [decide_eq_false h10]; simp
        have e1 : sortB srt (.str x) = false := by
          have : x ≠ "whole" := fun z => h10 (by rw [z]; decide)
          simp [sortB, told_str, low_str, high_str, q1, this]
        rw [e1]
        simp [B01.b__law_is_sort, env0, lk0, lk11, isN, wordsD, h0, hlk, h10']
  | ref q =>
    have hq : tyO (S ++ [O.lst [D.str "cell", .str "def", .str "do", .str "else", .str "give", .str "if", .str "kind", .str "let", .str "look", .str "match", .str "whole"]])[q]? = some n := by rw [← ty_ref]; exact hn
    have e1 : isN n .str = false := hstr
    rw [sort_no (fun x => by simp)]
    simp [B01.b__law_is_sort, env0, lk0, lk11, hq, e1, wordsD]
  | fn _ => exact hd.elim
  | exn _ => exact hd.elim
  | kl _ => exact hd.elim
  | _ =>
    rw [sort_no (fun x => by simp)]
    simp [B01.b__law_is_sort, env0, lk0, lk11, isN, wordsD]
end
end K01


/-! K01D: the law's things. -/
namespace K01
open PySem PySem.Spec PyProof.Rows L2 L3
theorem str_app (x y : Str) : (x ++ y).cps.toList = x.cps.toList ++ y.cps.toList := by
  show (x.cps ++ y.cps).toList = _
  simp
theorem join_signs : ∀ cs : List Nat, (Txt.join "" (cs.map fun c => (⟨#[c]⟩ : Str))).cps.toList = cs := by
  intro cs
  show (Builtin.Str.glued (Str.ofString "") (cs.map fun c => (⟨#[c]⟩ : Str))).cps.toList = cs
  rw [StrLaws.glued_eq_join]
  have z : (Str.ofString "").cps.toList = [] := by decide
  induction cs with
  | nil => decide
  | cons c cs ih =>
    cases cs with
    | nil => simp [Str.join]
    | cons c2 cs =>
      have e : Str.join (Str.ofString "") ((c :: c2 :: cs).map fun c => (⟨#[c]⟩ : Str)) = (⟨#[c]⟩ : Str) ++ Str.ofString "" ++ Str.join (Str.ofString "") ((c2 :: cs).map fun c => (⟨#[c]⟩ : Str)) := by
        simp only [List.map_cons, Str.join]
      rw [e, str_app, str_app, ih, z]
      rfl
/-- what may stand at a spot -/
structure Thing (S : Store) (d : D) : Prop where
  ok : okD S d
  sz : szD d ≤ 3
  asc : ∀ x, d = .str x → ascB x = true ∧ x ≠ "op"
theorem Thing.keep {S S' : Store} {d : D} {ks : List Nat} (t : Thing S d) (k : Keep ks S S') (hk : ∀ q ∈ ks, ∀ o, S[q]? = some o → ∃ l l', o = .lst l ∧ S'[q]? = some (.lst l')) : Thing S' d := by
  refine ⟨?_, t.sz, t.asc⟩
  have gen : (∀ d, okD S d → okD S' d) ∧ (∀ ds, okDs S ds → okDs S' ds) := by
    have h1 : ∀ n, (∀ d, szD d ≤ n → okD S d → okD S' d) ∧ (∀ ds, szDs ds ≤ n → okDs S ds → okDs S' ds) := by
      intro n
      induction n with
      | zero =>
        refine ⟨fun d h => ?_, fun ds h _ => ?_⟩
        · have := szD_pos d; omega
        · cases ds with
          | nil => trivial
          | cons d ds => have := szD_pos d; simp [szDs] at h; omega
      | succ n ih =>
        refine ⟨fun d h o => ?_, fun ds => ?_⟩
        · cases d with
          | tup ds => exact ⟨o.1, ih.2 ds (by simp [szD] at h; omega) o.2.1, o.2.2⟩
          | ref r =>
            obtain ⟨l, e⟩ := o
            by_cases m : r ∈ ks
            · obtain ⟨_, l', _, q⟩ := hk r m _ e
              exact ⟨l', q⟩
            · exact ⟨l, k.at e m⟩
          | str x => exact o
          | fn _ => exact o.elim
          | exn _ => exact o.elim
          | kl _ => exact o.elim
          | _ => trivial
        · induction ds with
          | nil => exact fun _ _ => trivial
          | cons d ds ih2 =>
            intro h o
            have := szD_pos d
            simp only [szDs] at h
            refine ⟨?_, ih.2 ds (by omega) o.2⟩
            cases d with
            | tup ds => exact ⟨o.1.1, ih.2 ds (by simp [szD] at h; omega) o.1.2.1, o.1.2.2⟩
            | ref r =>
              obtain ⟨l, e⟩ := o.1
              by_cases m : r ∈ ks
              · obtain ⟨_, l', _, q⟩ := hk r m _ e
                exact ⟨l', q⟩
              · exact ⟨l, k.at e m⟩
            | str x => exact o.1
            | fn _ => exact o.1.elim
            | exn _ => exact o.1.elim
            | kl _ => exact o.1.elim
            | _ => trivial
    exact ⟨fun d => (h1 (szD d)).1 d (Nat.le_refl _), fun ds => (h1 (szDs ds)).2 ds (Nat.le_refl _)⟩
  exact gen.1 d t.ok
/-- the draw, as a call -/
structure DrawOk (C : Cfg) (i : Nat) : Prop where
  ar : Ar C i 2
  ok : ∀ (S : Store) (rf rg rs B : Nat) (many : Int), FontOk S rf rg rs B → B < 2 ^ 59 → 0 < many → many < 2 ^ 62 →
    ∃ v S', C.calls i [.ref rf, .int many] S = .ok (.int v) S' ∧ 0 ≤ v ∧ v < many ∧ FontOk S' rf rg rs (B + 1) ∧ Keep [rf, rg] S S' ∧ S'.length = S.length
def lettS : Str := "abyzABYZ019"
section
variable (C : Cfg) {S : Store} {i rf rg rs B : Nat}
theorem lett_lt : lettS.cps.toList.length = 11 := by decide
theorem lett_asc : ∀ c ∈ lettS.cps.toList, c < 128 ∧ c ≠ 111 := by decide
/-- a drawn text's signs -/
theorem signs_ok (W : DrawOk C i) (F : FontOk S rf rg rs B) (hB : B < 2 ^ 58) (e1 e3 e4 : Option D) (hq : e1 = some (.ref (S.length - 1 + 1)) ∨ True) :
    ∃ (cs : List Nat) (S' : Store), mLc C.fuel [4] (L3.iRng1 (mBin .Add (mC (.int 1)) (mCall C i [mVar 0, mC (.int 11)]))) (gVar 4) L3.tYes (mIx (mVar 2) (mCall C i [mVar 0, mC (.int 11)])) [some (.ref rf), e1, some (.str lettS), e3, e4] S =
      .ok (.fl (cs.map fun c => D.str ⟨#[c]⟩)) S' ∧ (∀ c ∈ cs, c ∈ lettS.cps.toList) ∧ cs.length ≤ 11 ∧ FontOk S' rf rg rs (B + 12) ∧ Keep [rf, rg] S S' ∧ S'.length = S.length := by
  obtain ⟨v, S1, h1, h2, h3, h4, h5, h6⟩ := W.ok S rf rg rs B 11 F (by omega) (by omega) (by omega)
  have hsz := sizeLine_eq
  have hr : rngOk (1 + v) = true := rngOk_of (by omega)
  have hi : L3.iRng1 (mBin .Add (mC (.int 1)) (mCall C i [mVar 0, mC (.int 11)])) [some (.ref rf), e1, some (.str lettS), e3, e4] S = .ok (.items (upto 0 (1 + v).toNat)) S1 := by
    unfold L3.iRng1
    simp [call2 _ _ _ _ W.ar, h1, hr]
  have hlu : (upto 0 (1 + v).toNat).length ≤ 11 := by unfold upto; rw [List.length_map, List.length_range]; omega
  have lk : lok lettS.length = true := by decide
  obtain ⟨out, S', q1, cs, q2, q3, q4, q5, q6, q7⟩ := mLc_items (fuel := C.fuel) (own := [4]) (g := gVar 4) (t := L3.tYes) (f := mIx (mVar 2) (mCall C i [mVar 0, mC (.int 11)]))
    (fun k S' acc => ∃ cs : List Nat, acc = (cs.map fun c => D.str ⟨#[c]⟩) ∧ (∀ c ∈ cs, c ∈ lettS.cps.toList) ∧ cs.length ≤ k ∧ FontOk S' rf rg rs (B + 1 + k) ∧ Keep [rf, rg] S S' ∧ S'.length = S.length) hi ⟨[], rfl, by simp, by simp, h4, h5, h6⟩ (by
    rintro k d S' acc hd ⟨cs, rfl, a1, a2, a3, a4, a5⟩
    have hk : k < 11 := Nat.lt_of_lt_of_le (List.getElem?_eq_some_iff.mp hd).1 hlu
    refine ⟨by rw [List.length_map, hsz]; omega, _, _, rfl, true, _, rfl, ?_⟩
    rw [if_pos rfl]
    obtain ⟨v, S2, b1, b2, b3, b4, b5, b6⟩ := W.ok S' rf rg rs (B + 1 + k) 11 a3 (by omega) (by omega) (by omega)
    have hvl : v.toNat < lettS.cps.toList.length := by rw [lett_lt]; omega
    have hat : atI lettS.cps.toList v = some (lettS.cps.toList[v.toNat]) := by
      unfold atI
      rw [ixN_pos b2 (by rw [lett_lt]; exact b3)]
      exact List.getElem?_eq_getElem hvl
    refine ⟨.str ⟨#[lettS.cps.toList[v.toNat]]⟩, S2, ?_, cs ++ [lettS.cps.toList[v.toNat]], by simp, ?_, by simp; omega, b4, a4.trans b5, by rw [b6, a5]⟩
    · simp [wipeE, call2 _ _ _ _ W.ar, b1, lk, hat]
    · intro c hc
      rcases List.mem_append.mp hc with hc | hc
      · exact a1 c hc
      · rw [List.mem_singleton.mp hc]; exact List.getElem_mem hvl)
  exact ⟨cs, S', by rw [q1, q2], q3, by omega, q5.mono (by omega), q6, q7⟩
abbrev thgN : List Str := ["font", "some", "letters", "k", "i"]
def base1 : List D := [.str "a", .str "A", .str "z", .str "Z", .str "zz", .str "Zz", .str "zZ", .str "ZZ", .str "zza", .str "Zza", .str "az", .str "x1", .str "X1", .str "1x", .str "9", .str "", .str " ", .str "a ", .str "a-b", .str "a_b", .str "abcdefghij"]
def base2 : List D := [.str "Abcdefghij", .str "abcdefghijk", .str "Abcdefghijk", .str "cell", .str "def", .str "do", .str "else", .str "give", .str "if", .str "kind", .str "let", .str "look", .str "match", .str "whole"]
def base3 (q : Nat) : List D := [.str "Cell", .str "Whole", .str "wholes", .str "Row", .str "base", .str "a.b", .str "(", .non, .bl true, .int 0, .tup [.str "a"], .ref q, .tup []]
/-- a plain thing, looked at by reckoning -/
def thingB : D → Bool
  | .str x => decide (x.length ≤ 11) && ascB x && !decide (x = "op")
  | .tup [.str x] => decide (x.length ≤ 11)
  | .tup [] => true
  | .non => true
  | .bl _ => true
  | .int _ => true
  | _ => false
theorem thing_of {S : Store} {d : D} (h : thingB d = true) : Thing S d := by
  have hsz := sizeLine_eq
  unfold thingB at h
  split at h
  · simp only [Bool.and_eq_true, decide_eq_true_eq, Bool.not_eq_true', decide_eq_false_iff_not] at h
    exact ⟨show _ ≤ _ by rw [hsz]; omega, by simp [szD], fun y e => by cases e; exact ⟨h.1.2, h.2⟩⟩
  · have := of_decide_eq_true h
    exact ⟨⟨by rw [hsz]; simp, ⟨show _ ≤ _ by rw [hsz]; omega, trivial⟩, rfl⟩, by simp [szD, szDs], fun y e => by cases e⟩
  · exact ⟨⟨by rw [hsz]; simp, trivial, rfl⟩, by simp [szD, szDs], fun y e => by cases e⟩
  · exact ⟨trivial, by simp [szD], fun y e => by cases e⟩
  · exact ⟨trivial, by simp [szD], fun y e => by cases e⟩
  · exact ⟨trivial, by simp [szD], fun y e => by cases e⟩
  · cases h
theorem things_ok (W : DrawOk C i) (F : FontOk S rf rg rs B) (hB : B < 2 ^ 57) :
    ∃ S' l, endD (B01.b__law_things C i (env0 thgN [.ref rf]) S) = .ok (.ref S.length) S' ∧ S'[S.length]? = some (.lst l) ∧ l.length ≤ 100 ∧ (∀ d ∈ l, Thing S' d) ∧ FontOk S' rf rg rs (B + 72) ∧ Keep [rf, rg] S S' := by
  have hsz := sizeLine_eq
  have lk : ∀ n : Nat, n ≤ 100 → lok n = true := fun n h => by unfold lok; rw [hsz]; exact decide_eq_true (by omega)
  have lk0 := lk 0 (by omega); have lk1 := lk 1 (by omega); have lk13 := lk 13 (by omega); have lk14 := lk 14 (by omega); have lk21 := lk 21 (by omega)
  let S0 : Store := S ++ [O.lst (base1 ++ base2 ++ base3 (S.length + 1)), O.lst [.str "a"]]
  let In : Nat → L3.Env → Store → Prop := fun k e S' => ∃ (l : List D) (x : Option D), e = [some (.ref rf), some (.ref S.length), some (.str lettS), x, none] ∧ S'[S.length]? = some (.lst l) ∧ l.length ≤ 48 + k ∧ (∀ d ∈ l, Thing S' d) ∧ FontOk S' rf rg rs (B + 12 * k) ∧ Keep [rf, rg] S S'
  have hlt := F.lt
  have loop : Fl.to (sFor C.fuel (L3.iRng1 (mC (.int 6))) (gVar 3) (sSeq (sExpr (mMeth C "append" (mVar 1) [mMeth C "join" (mC (.str "")) [mLc C.fuel [4] (L3.iRng1 (mBin .Add (mC (.int 1)) (mCall C i [mVar 0, mC (.int 11)]))) (gVar 4) L3.tYes (mIx (mVar 2) (mCall C i [mVar 0, mC (.int 11)]))]])) sNext) [some (.ref rf), some (.ref S.length), some (.str lettS), none, none] S0) (In 6) (fun _ _ => False) := by
    have hr6 : rngOk 6 = true := rngOk_of (by omega)
    refine sFor_items In (ds := upto 0 6) (S1 := S0) (by unfold L3.iRng1; simp [hr6]) ⟨base1 ++ base2 ++ base3 (S.length + 1), none, rfl, by simp [S0], by simp [base1, base2, base3], ?_, ?_, Keep.app⟩ (fun _ _ h => h) ?_
    · intro d hd
      rcases List.mem_append.mp hd with hd | hd
      · have : (base1 ++ base2).all thingB = true := by decide
        exact thing_of (List.all_eq_true.mp this d hd)
      · unfold base3 at hd
        simp only [List.mem_cons, List.not_mem_nil, or_false] at hd
        rcases hd with rfl | rfl | rfl | rfl | rfl | rfl | rfl | rfl | rfl | rfl | rfl | rfl | rfl
        all_goals first | exact thing_of (by decide) | exact ⟨⟨[.str "a"], by simp [S0]⟩, by simp [szD], fun y e => by cases e⟩
    · exact F.keep (ks := []) Keep.app (fun q hq => by cases hq)
    · rintro k d e S' hd ⟨l, x, rfl, h1, h2, h3, h4, h5⟩
      have hk : k < 6 := by
        have := (List.getElem?_eq_some_iff.mp hd).1
        unfold upto at this; simpa using this
      have hdn : ∃ z : Int, d = .int z := by
        have := List.mem_of_getElem? hd
        unfold upto at this
        obtain ⟨z, _, e⟩ := List.mem_map.mp this
        exact ⟨_, e.symm⟩
      obtain ⟨z, rfl⟩ := hdn
      obtain ⟨cs, S2, q1, q2, q3, q4, q5, q6⟩ := signs_ok C W h4 (by omega) (some (.ref S.length)) (some (.int z)) none (.inr trivial)
      refine ⟨_, _, rfl, ?_⟩
      have hl2 : S2[S.length]? = some (.lst l) := q5.at h1 (by simp; omega)
      have m1 := fun fs => meth_lst C "append" [fs] [some (.ref rf), some (.ref S.length), some (.str lettS), some (.int z), none] S' S.length m1_append (by simp) h1
      have m2 := fun fs => meth_str C "join" [fs] [some (.ref rf), some (.ref S.length), some (.str lettS), some (.int z), none] S' (Str.ofString "") m1_join (by simp)
      have hsum : ((cs.map fun c => (⟨#[c]⟩ : Str)).map fun s : Str => s.length).sum + (cs.map fun c => (⟨#[c]⟩ : Str)).length * (Str.ofString "").length ≤ 16777216 := by
        have z0 : (Str.ofString "").length = 0 := by decide
        rw [z0]
        have : ∀ cs : List Nat, ((cs.map fun c => (⟨#[c]⟩ : Str)).map fun s : Str => s.length).sum = cs.length := by
          intro cs
          induction cs with
          | nil => rfl
          | cons c cs ih => simp only [List.map_cons, List.sum_cons, ih, List.length_cons]; simp [Str.length]; omega
        rw [this]; omega
      have hcs : (cs.map fun c => D.str ⟨#[c]⟩) = (cs.map fun c => (⟨#[c]⟩ : Str)).map D.str := by rw [List.map_map]; rfl
      have hj : opL1 .join (.str (Str.ofString "")) (.fl (cs.map fun c => D.str ⟨#[c]⟩)) S2 = .ok (.d (.str (Txt.join "" (cs.map fun c => (⟨#[c]⟩ : Str))))) S2 := join_ok (ds := cs.map fun c => D.str ⟨#[c]⟩) rfl (by rw [hcs]; exact txts_map _) hsum
      have ha := append_ok S2 S.length l (y := .d (.str (Txt.join "" (cs.map fun c => (⟨#[c]⟩ : Str))))) rfl hl2 (by rw [hsz]; omega)
      have hx := join_signs cs
      generalize hxx : Txt.join "" (cs.map fun c => (⟨#[c]⟩ : Str)) = xx at hj ha hx
      have hxl : xx.length = cs.length := by rw [← hx]; simp [Str.length]
      have kset : Keep [rf, rg] S (S2.set S.length (.lst (l ++ [.str xx]))) := (h5.trans q5).out (Nat.le_refl _) _
      have hql : S.length < S2.length := (List.getElem?_eq_some_iff.mp hl2).1
      have hth : Thing (S2.set S.length (.lst (l ++ [.str xx]))) (.str xx) := by
        refine ⟨show _ ≤ _ by rw [hsz]; omega, by simp [szD], fun y e => ?_⟩
        cases e
        refine ⟨?_, fun z => ?_⟩
        · unfold ascB
          rw [hx]
          exact List.all_eq_true.mpr fun c hc => decide_eq_true (lett_asc c (q2 c hc)).1
        · have : (111 : Nat) ∈ xx.cps.toList := by rw [z]; decide
          rw [hx] at this
          exact (lett_asc 111 (q2 111 this)).2 rfl
      have goal : In (k + 1) [some (.ref rf), some (.ref S.length), some (.str lettS), some (.int z), none] (S2.set S.length (.lst (l ++ [.str xx]))) := by
        refine ⟨l ++ [.str xx], some (.int z), rfl, List.getElem?_set_self hql, by simp; omega, ?_, (q4.put (by omega) (by omega) (by omega)).mono (by omega), kset⟩
        intro d hd
        rcases List.mem_append.mp hd with hd | hd
        · have t1 : Thing S2 d := (h3 d hd).keep q5 fun q hq o ho => by
            simp only [List.mem_cons, List.not_mem_nil, or_false] at hq
            obtain ⟨⟨l1, e1⟩, l2, e2⟩ := h4.lists
            obtain ⟨⟨l3, e3⟩, l4, e4⟩ := q4.lists
            rcases hq with rfl | rfl
            · rw [e1] at ho; cases ho; exact ⟨_, _, rfl, e3⟩
            · rw [e2] at ho; cases ho; exact ⟨_, _, rfl, e4⟩
          exact t1.keep (set_keep _) fun q hq o ho => by
            rw [List.mem_singleton.mp hq] at ho ⊢
            rw [hl2] at ho; cases ho
            exact ⟨_, _, rfl, List.getElem?_set_self hql⟩
        · rw [List.mem_singleton.mp hd]; exact hth
      simp [m1, m2, q1, hj, ha]
      exact goal
  have e0 : B01.b__law_things C i (env0 thgN [.ref rf]) S = (sFor C.fuel (L3.iRng1 (mC (.int 6))) (gVar 3) (sSeq (sExpr (mMeth C "append" (mVar 1) [mMeth C "join" (mC (.str "")) [mLc C.fuel [4] (L3.iRng1 (mBin .Add (mC (.int 1)) (mCall C i [mVar 0, mC (.int 11)]))) (gVar 4) L3.tYes (mIx (mVar 2) (mCall C i [mVar 0, mC (.int 11)]))]])) sNext) [some (.ref rf), some (.ref S.length), some (.str lettS), none, none] S0).seq fun e S => (sSeq (sRet (mVar 1)) sNext) e S := by
    have b1 : (S ++ [O.lst base1])[S.length]? = some (.lst base1) := by simp
    have n1 := meth_lst C "extend" [mLst [mC (.str "Abcdefghij"), mC (.str "abcdefghijk"), mC (.str "Abcdefghijk"), mC (.str "cell"), mC (.str "def"), mC (.str "do"), mC (.str "else"), mC (.str "give"), mC (.str "if"), mC (.str "kind"), mC (.str "let"), mC (.str "look"), mC (.str "match"), mC (.str "whole")]] [some (.ref rf), some (.ref S.length), none, none, none] (S ++ [O.lst base1]) S.length m1_extend (by simp) b1
    have x1 := extend_ok (S ++ [O.lst base1]) S.length base1 base2 (y := .fl base2) rfl b1 (by rw [hsz]; decide)
    have s1 : (S ++ [O.lst base1]).set S.length (.lst (base1 ++ base2)) = S ++ [O.lst (base1 ++ base2)] := by simp
    have b2 : (S ++ [O.lst (base1 ++ base2)])[S.length]? = some (.lst (base1 ++ base2)) := by simp
    have n2 := meth_lst C "extend" [mLst [mC (.str "Cell"), mC (.str "Whole"), mC (.str "wholes"), mC (.str "Row"), mC (.str "base"), mC (.str "a.b"), mC (.str "("), mC .non, mC (.bl true), mC (.int 0), mTup [mC (.str "a")], mLst [mC (.str "a")], mTup []]] [some (.ref rf), some (.ref S.length), none, none, none] (S ++ [O.lst (base1 ++ base2)]) S.length m1_extend (by simp) b2
    have b3 : ((S ++ [O.lst (base1 ++ base2)]) ++ [O.lst [.str "a"]])[S.length]? = some (.lst (base1 ++ base2)) := by simp
    have x2 := extend_ok ((S ++ [O.lst (base1 ++ base2)]) ++ [O.lst [.str "a"]]) S.length (base1 ++ base2) (base3 (S.length + 1)) (y := .fl (base3 (S.length + 1))) rfl b3 (by rw [hsz]; simp [base1, base2, base3])
    have s2 : ((S ++ [O.lst (base1 ++ base2)]) ++ [O.lst [.str "a"]]).set S.length (.lst (base1 ++ base2 ++ base3 (S.length + 1))) = S0 := by simp [S0]
    rw [s1] at x1
    rw [s2] at x2
    have st1 : (sAsg (mLst [mC (.str "a"), mC (.str "A"), mC (.str "z"), mC (.str "Z"), mC (.str "zz"), mC (.str "Zz"), mC (.str "zZ"), mC (.str "ZZ"), mC (.str "zza"), mC (.str "Zza"), mC (.str "az"), mC (.str "x1"), mC (.str "X1"), mC (.str "1x"), mC (.str "9"), mC (.str ""), mC (.str " "), mC (.str "a "), mC (.str "a-b"), mC (.str "a_b"), mC (.str "abcdefghij")]) (gVar 1)) (env0 thgN [.ref rf]) S = .next [some (.ref rf), some (.ref S.length), none, none, none] (S ++ [O.lst base1]) := by
      simp [env0, lk21, base1]
    have st2 : (sExpr (mMeth C "extend" (mVar 1) [mLst [mC (.str "Abcdefghij"), mC (.str "abcdefghijk"), mC (.str "Abcdefghijk"), mC (.str "cell"), mC (.str "def"), mC (.str "do"), mC (.str "else"), mC (.str "give"), mC (.str "if"), mC (.str "kind"), mC (.str "let"), mC (.str "look"), mC (.str "match"), mC (.str "whole")]])) [some (.ref rf), some (.ref S.length), none, none, none] (S ++ [O.lst base1]) = .next [some (.ref rf), some (.ref S.length), none, none, none] (S ++ [O.lst (base1 ++ base2)]) := by
      unfold base2 at x1 ⊢
      simp [n1, lk14, x1]
    have st3 : (sExpr (mMeth C "extend" (mVar 1) [mLst [mC (.str "Cell"), mC (.str "Whole"), mC (.str "wholes"), mC (.str "Row"), mC (.str "base"), mC (.str "a.b"), mC (.str "("), mC .non, mC (.bl true), mC (.int 0), mTup [mC (.str "a")], mLst [mC (.str "a")], mTup []]])) [some (.ref rf), some (.ref S.length), none, none, none] (S ++ [O.lst (base1 ++ base2)]) = .next [some (.ref rf), some (.ref S.length), none, none, none] S0 := by
      have l1 : (S ++ [O.lst (base1 ++ base2)]).length = S.length + 1 := by simp
      unfold base3 at x2
      generalize S ++ [O.lst (base1 ++ base2)] = S1 at *
      simp [n2, lk13, lk0, lk1, l1, x2]
    unfold B01.b__law_things
    rw [sSeq_ap, st1, Fl.seq_next, sSeq_ap, st2, Fl.seq_next, sSeq_ap, st3, Fl.seq_next, sSeq_ap, sAsg_ap]
    simp only [mD_ap, mC_ap, Out.bind_ok, sit_d, Out.fl_ok, gVar_ap, Fl.seq_next]
    rw [sSeq_ap]
    rfl
  rw [e0]
  rcases loop.out with ⟨e, S', q, l, x, rfl, h1, h2, h3, h4, h5⟩ | ⟨_, _, _, z⟩
  · rw [q]
    exact ⟨S', l, by simp, h1, by omega, h3, h4.mono (by omega), h5⟩
  · exact z.elim
end
end K01


/-! K01E: the plain law: what is judged of the law's programs. -/
namespace K01
open PySem PySem.Spec PyProof.Rows L2 L3
def sortsS : Str := "hhtlltllttlhllllhh"
def srtAt (s : Nat) : Str := ⟨#[sortsS.cps.toList.getD s 0]⟩
theorem srt_any : ∀ s, s < 18 → (srtAt s = "h" ∨ srtAt s = "l" ∨ srtAt s = "t") := by decide
theorem opF_ne {a : D} {r : List D} (h : a ≠ .str "op") : opF (a :: r) = true := by
  unfold opF
  split
  · rename_i w a' b c e
    cases e
    have : w ≠ "op" := fun z => h (by rw [z])
    simp [this]
  · rfl
section
variable {S : Store} {n : Nat → D} {d : D}
theorem prg_ok (h : ∀ i, i < 18 → okD S (n i)) (h3 : n 3 ≠ .str "op") (h6 : n 6 ≠ .str "op") (b : Bool) : okD S (prgT n b) := by
  have hsz := sizeLine_eq
  have l : ∀ x : Str, x.length ≤ 10 → x.length ≤ sizeLine := fun x hx => by rw [hsz]; omega
  have w1 := l "whole" (by decide); have w2 := l "let" (by decide); have w3 := l "num" (by decide); have w4 := l "look" (by decide); have w5 := l "match" (by decide); have w6 := l "make" (by decide)
  have w7 := l "Nil" (by decide); have w8 := l "give" (by decide); have w9 := l "op" (by decide); have w10 := l "+" (by decide); have w11 := l "name" (by decide); have w12 := l "call" (by decide); have w13 := l "Cons" (by decide); have w14 := l "t" (by decide)
  have o3 : ∀ r, opF (n 3 :: r) = true := fun r => opF_ne h3
  have o6 : ∀ r, opF (n 6 :: r) = true := fun r => opF_ne h6
  have c : ∀ m : Nat, m ≤ 10 → m < sizeLine := fun m hm => by rw [hsz]; omega
  have c0 := c 0 (by omega); have c1 := c 1 (by omega); have c2 := c 2 (by omega); have c3 := c 3 (by omega); have c4 := c 4 (by omega)
  have o2 : ∀ a b : D, opF [a, b] = true := fun a b => by unfold opF; split <;> first | rfl | (rename_i e; cases e)
  have o33 : ∀ a b c : D, opF [a, b, c] = true := fun a b c => by unfold opF; split <;> first | rfl | (rename_i e; cases e)
  have o1 : ∀ a : D, opF [a] = true := fun a => by unfold opF; split <;> first | rfl | (rename_i e; cases e)
  have o0 : opF [] = true := rfl
  have ol : ∀ r, opF (.str "let" :: r) = true := fun r => opF_ne (by simp)
  have oo : ∀ a b : D, opF [.str "op", .str "+", a, b] = true := fun a b => by simp [opF, flatD]
  cases b <;> simp [prgT, bodyT, okD, okDs, h, w1, w2, w3, w4, w5, w6, w7, w8, w9, w10, w11, w12, w13, w14, o3, o6, c0, c1, c2, c3, c4, o0, o1, o2, o33, ol, oo]
theorem prg_sz (h : ∀ i, i < 18 → szD (n i) ≤ 3) (b : Bool) : szD (prgT n b) ≤ 300 := by
  obtain ⟨z, e⟩ : ∃ z : Nat → Nat, ∀ i, szD (n i) = z i := ⟨_, fun _ => rfl⟩
  simp only [e] at h
  have h0 := h 0 (by omega)
  have h1 := h 1 (by omega)
  have h2 := h 2 (by omega)
  have h3 := h 3 (by omega)
  have h4 := h 4 (by omega)
  have h5 := h 5 (by omega)
  have h6 := h 6 (by omega)
  have h7 := h 7 (by omega)
  have h8 := h 8 (by omega)
  have h9 := h 9 (by omega)
  have h10 := h 10 (by omega)
  have h11 := h 11 (by omega)
  have h12 := h 12 (by omega)
  have h13 := h 13 (by omega)
  have h14 := h 14 (by omega)
  have h15 := h 15 (by omega)
  have h16 := h 16 (by omega)
  have h17 := h 17 (by omega)
  clear h
  cases b
  · simp only [prgT, bodyT, szD, szDs, Bool.false_eq_true, if_false, e]; clear e; simp +arith only; omega
  · simp only [prgT, bodyT, szD, szDs, if_true, e]; clear e; simp +arith only; omega
theorem nAt_cases (s i : Nat) (d : D) (hi : i < 18) : (i = s ∧ nAt s d i = d) ∨ nAt s d i = leaves.getD i .non := by
  unfold nAt
  by_cases h : i = s
  · subst h
    left
    refine ⟨rfl, ?_⟩
    rw [List.getD_eq_getElem?_getD, List.getElem?_set_self (by simpa [leaves] using hi)]
    rfl
  · right
    rw [List.getD_eq_getElem?_getD, List.getElem?_set_ne (fun e => h e.symm), List.getD_eq_getElem?_getD]
theorem leaves_thing : ∀ i, i < 18 → thingB (leaves.getD i .non) = true := by decide
theorem nAt_ok (s : Nat) (t : Thing S d) (b : Bool) : okD S (prgT (nAt s d) b) ∧ szD (prgT (nAt s d) b) ≤ 300 := by
  have hn : d ≠ .str "op" := fun e => (t.asc _ e).2 rfl
  refine ⟨prg_ok (fun i hi => ?_) ?_ ?_ b, prg_sz (fun i hi => ?_) b⟩
  · rcases nAt_cases s i d hi with ⟨_, e⟩ | e
    · rw [e]; exact t.ok
    · rw [e]; exact (thing_of (leaves_thing i hi)).ok
  · rcases nAt_cases s 3 d (by omega) with ⟨_, e⟩ | e
    · rw [e]; exact hn
    · rw [e]; simp [leaves]
  · rcases nAt_cases s 6 d (by omega) with ⟨_, e⟩ | e
    · rw [e]; exact hn
    · rw [e]; simp [leaves]
  · rcases nAt_cases s i d hi with ⟨_, e⟩ | e
    · rw [e]; exact t.sz
    · rw [e]; exact (thing_of (S := S) (leaves_thing i hi)).sz
theorem k_Row : highB (.str "Row") = true := by decide
theorem k_Row2 : toldB (.str "Row") = true := by decide
theorem k_Nil : highB (.str "Nil") = true := by decide
theorem k_Cons : highB (.str "Cons") = true := by decide
theorem k_whole : toldB (.str "whole") = true := by decide
theorem k_base : lowB (.str "base") = true := by decide
theorem k_k : lowB (.str "k") = true := by decide
theorem k_make1 : lowB (.str "make1") = true := by decide
theorem k_p : lowB (.str "p") = true := by decide
theorem k_x : lowB (.str "x") = true := by decide
theorem k_y : lowB (.str "y") = true := by decide
theorem srtB_h : sortB "h" d = highB d := by simp [sortB]
theorem srtB_l : sortB "l" d = lowB d := by simp [sortB]
theorem srtB_t : sortB "t" d = toldB d := by simp [sortB]
theorem all_f0 (d : D) : allB (nAt 0 d) false = highB d := by simp [allB, nAt, leaves, k_Row, k_Row2, k_Nil, k_Cons, k_whole, k_base, k_k, k_make1, k_p, k_x, k_y]
theorem all_t0 (d : D) : allB (nAt 0 d) true = highB d := by simp [allB, nAt, leaves, k_Row, k_Row2, k_Nil, k_Cons, k_whole, k_base, k_k, k_make1, k_p, k_x, k_y]
theorem all_f1 (d : D) : allB (nAt 1 d) false = highB d := by simp [allB, nAt, leaves, k_Row, k_Row2, k_Nil, k_Cons, k_whole, k_base, k_k, k_make1, k_p, k_x, k_y]
theorem all_t1 (d : D) : allB (nAt 1 d) true = highB d := by simp [allB, nAt, leaves, k_Row, k_Row2, k_Nil, k_Cons, k_whole, k_base, k_k, k_make1, k_p, k_x, k_y]
theorem all_f2 (d : D) : allB (nAt 2 d) false = toldB d := by simp [allB, nAt, leaves, k_Row, k_Row2, k_Nil, k_Cons, k_whole, k_base, k_k, k_make1, k_p, k_x, k_y]
theorem all_t2 (d : D) : allB (nAt 2 d) true = toldB d := by simp [allB, nAt, leaves, k_Row, k_Row2, k_Nil, k_Cons, k_whole, k_base, k_k, k_make1, k_p, k_x, k_y]
theorem all_f3 (d : D) : allB (nAt 3 d) false = lowB d := by simp [allB, nAt, leaves, k_Row, k_Row2, k_Nil, k_Cons, k_whole, k_base, k_k, k_make1, k_p, k_x, k_y]
theorem all_f4 (d : D) : allB (nAt 4 d) false = lowB d := by simp [allB, nAt, leaves, k_Row, k_Row2, k_Nil, k_Cons, k_whole, k_base, k_k, k_make1, k_p, k_x, k_y]
theorem all_f5 (d : D) : allB (nAt 5 d) false = toldB d := by simp [allB, nAt, leaves, k_Row, k_Row2, k_Nil, k_Cons, k_whole, k_base, k_k, k_make1, k_p, k_x, k_y]
theorem all_f6 (d : D) : allB (nAt 6 d) false = lowB d := by simp [allB, nAt, leaves, k_Row, k_Row2, k_Nil, k_Cons, k_whole, k_base, k_k, k_make1, k_p, k_x, k_y]
theorem all_t6 (d : D) : allB (nAt 6 d) true = lowB d := by simp [allB, nAt, leaves, k_Row, k_Row2, k_Nil, k_Cons, k_whole, k_base, k_k, k_make1, k_p, k_x, k_y]
theorem all_f7 (d : D) : allB (nAt 7 d) false = lowB d := by simp [allB, nAt, leaves, k_Row, k_Row2, k_Nil, k_Cons, k_whole, k_base, k_k, k_make1, k_p, k_x, k_y]
theorem all_t7 (d : D) : allB (nAt 7 d) true = lowB d := by simp [allB, nAt, leaves, k_Row, k_Row2, k_Nil, k_Cons, k_whole, k_base, k_k, k_make1, k_p, k_x, k_y]
theorem all_f8 (d : D) : allB (nAt 8 d) false = toldB d := by simp [allB, nAt, leaves, k_Row, k_Row2, k_Nil, k_Cons, k_whole, k_base, k_k, k_make1, k_p, k_x, k_y]
theorem all_t8 (d : D) : allB (nAt 8 d) true = toldB d := by simp [allB, nAt, leaves, k_Row, k_Row2, k_Nil, k_Cons, k_whole, k_base, k_k, k_make1, k_p, k_x, k_y]
theorem all_f9 (d : D) : allB (nAt 9 d) false = toldB d := by simp [allB, nAt, leaves, k_Row, k_Row2, k_Nil, k_Cons, k_whole, k_base, k_k, k_make1, k_p, k_x, k_y]
theorem all_t9 (d : D) : allB (nAt 9 d) true = toldB d := by simp [allB, nAt, leaves, k_Row, k_Row2, k_Nil, k_Cons, k_whole, k_base, k_k, k_make1, k_p, k_x, k_y]
theorem all_f10 (d : D) : allB (nAt 10 d) false = lowB d := by simp [allB, nAt, leaves, k_Row, k_Row2, k_Nil, k_Cons, k_whole, k_base, k_k, k_make1, k_p, k_x, k_y]
theorem all_t10 (d : D) : allB (nAt 10 d) true = lowB d := by simp [allB, nAt, leaves, k_Row, k_Row2, k_Nil, k_Cons, k_whole, k_base, k_k, k_make1, k_p, k_x, k_y]
theorem all_f11 (d : D) : allB (nAt 11 d) false = highB d := by simp [allB, nAt, leaves, k_Row, k_Row2, k_Nil, k_Cons, k_whole, k_base, k_k, k_make1, k_p, k_x, k_y]
theorem all_t11 (d : D) : allB (nAt 11 d) true = highB d := by simp [allB, nAt, leaves, k_Row, k_Row2, k_Nil, k_Cons, k_whole, k_base, k_k, k_make1, k_p, k_x, k_y]
theorem all_f12 (d : D) : allB (nAt 12 d) false = lowB d := by simp [allB, nAt, leaves, k_Row, k_Row2, k_Nil, k_Cons, k_whole, k_base, k_k, k_make1, k_p, k_x, k_y]
theorem all_t12 (d : D) : allB (nAt 12 d) true = lowB d := by simp [allB, nAt, leaves, k_Row, k_Row2, k_Nil, k_Cons, k_whole, k_base, k_k, k_make1, k_p, k_x, k_y]
theorem all_f13 (d : D) : allB (nAt 13 d) false = lowB d := by simp [allB, nAt, leaves, k_Row, k_Row2, k_Nil, k_Cons, k_whole, k_base, k_k, k_make1, k_p, k_x, k_y]
theorem all_t13 (d : D) : allB (nAt 13 d) true = lowB d := by simp [allB, nAt, leaves, k_Row, k_Row2, k_Nil, k_Cons, k_whole, k_base, k_k, k_make1, k_p, k_x, k_y]
theorem all_f14 (d : D) : allB (nAt 14 d) false = lowB d := by simp [allB, nAt, leaves, k_Row, k_Row2, k_Nil, k_Cons, k_whole, k_base, k_k, k_make1, k_p, k_x, k_y]
theorem all_t14 (d : D) : allB (nAt 14 d) true = lowB d := by simp [allB, nAt, leaves, k_Row, k_Row2, k_Nil, k_Cons, k_whole, k_base, k_k, k_make1, k_p, k_x, k_y]
theorem all_f15 (d : D) : allB (nAt 15 d) false = lowB d := by simp [allB, nAt, leaves, k_Row, k_Row2, k_Nil, k_Cons, k_whole, k_base, k_k, k_make1, k_p, k_x, k_y]
theorem all_f16 (d : D) : allB (nAt 16 d) false = highB d := by simp [allB, nAt, leaves, k_Row, k_Row2, k_Nil, k_Cons, k_whole, k_base, k_k, k_make1, k_p, k_x, k_y]
theorem all_t16 (d : D) : allB (nAt 16 d) true = highB d := by simp [allB, nAt, leaves, k_Row, k_Row2, k_Nil, k_Cons, k_whole, k_base, k_k, k_make1, k_p, k_x, k_y]
theorem all_f17 (d : D) : allB (nAt 17 d) false = highB d := by simp [allB, nAt, leaves, k_Row, k_Row2, k_Nil, k_Cons, k_whole, k_base, k_k, k_make1, k_p, k_x, k_y]
theorem all_t17 (d : D) : allB (nAt 17 d) true = highB d := by simp [allB, nAt, leaves, k_Row, k_Row2, k_Nil, k_Cons, k_whole, k_base, k_k, k_make1, k_p, k_x, k_y]
theorem all_f : ∀ (s : Nat) (d : D), s < 18 → allB (nAt s d) false = sortB (srtAt s) d
  | 0, d, _ => by rw [all_f0, show srtAt 0 = "h" by decide, srtB_h]
  | 1, d, _ => by rw [all_f1, show srtAt 1 = "h" by decide, srtB_h]
  | 2, d, _ => by rw [all_f2, show srtAt 2 = "t" by decide, srtB_t]
  | 3, d, _ => by rw [all_f3, show srtAt 3 = "l" by decide, srtB_l]
  | 4, d, _ => by rw [all_f4, show srtAt 4 = "l" by decide, srtB_l]
  | 5, d, _ => by rw [all_f5, show srtAt 5 = "t" by decide, srtB_t]
  | 6, d, _ => by rw [all_f6, show srtAt 6 = "l" by decide, srtB_l]
  | 7, d, _ => by rw [all_f7, show srtAt 7 = "l" by decide, srtB_l]
  | 8, d, _ => by rw [all_f8, show srtAt 8 = "t" by decide, srtB_t]
  | 9, d, _ => by rw [all_f9, show srtAt 9 = "t" by decide, srtB_t]
  | 10, d, _ => by rw [all_f10, show srtAt 10 = "l" by decide, srtB_l]
  | 11, d, _ => by rw [all_f11, show srtAt 11 = "h" by decide, srtB_h]
  | 12, d, _ => by rw [all_f12, show srtAt 12 = "l" by decide, srtB_l]
  | 13, d, _ => by rw [all_f13, show srtAt 13 = "l" by decide, srtB_l]
  | 14, d, _ => by rw [all_f14, show srtAt 14 = "l" by decide, srtB_l]
  | 15, d, _ => by rw [all_f15, show srtAt 15 = "l" by decide, srtB_l]
  | 16, d, _ => by rw [all_f16, show srtAt 16 = "h" by decide, srtB_h]
  | 17, d, _ => by rw [all_f17, show srtAt 17 = "h" by decide, srtB_h]
  | s + 18, d, h => by omega
theorem all_t : ∀ (s : Nat) (d : D), s < 18 → s ≠ 3 → s ≠ 4 → s ≠ 5 → s ≠ 15 → allB (nAt s d) true = sortB (srtAt s) d
  | 0, d, _, _, _, _, _ => by rw [all_t0, show srtAt 0 = "h" by decide, srtB_h]
  | 1, d, _, _, _, _, _ => by rw [all_t1, show srtAt 1 = "h" by decide, srtB_h]
  | 2, d, _, _, _, _, _ => by rw [all_t2, show srtAt 2 = "t" by decide, srtB_t]
  | 3, d, _, h3, h4, h5, h15 => by omega
  | 4, d, _, h3, h4, h5, h15 => by omega
  | 5, d, _, h3, h4, h5, h15 => by omega
  | 6, d, _, _, _, _, _ => by rw [all_t6, show srtAt 6 = "l" by decide, srtB_l]
  | 7, d, _, _, _, _, _ => by rw [all_t7, show srtAt 7 = "l" by decide, srtB_l]
  | 8, d, _, _, _, _, _ => by rw [all_t8, show srtAt 8 = "t" by decide, srtB_t]
  | 9, d, _, _, _, _, _ => by rw [all_t9, show srtAt 9 = "t" by decide, srtB_t]
  | 10, d, _, _, _, _, _ => by rw [all_t10, show srtAt 10 = "l" by decide, srtB_l]
  | 11, d, _, _, _, _, _ => by rw [all_t11, show srtAt 11 = "h" by decide, srtB_h]
  | 12, d, _, _, _, _, _ => by rw [all_t12, show srtAt 12 = "l" by decide, srtB_l]
  | 13, d, _, _, _, _, _ => by rw [all_t13, show srtAt 13 = "l" by decide, srtB_l]
  | 14, d, _, _, _, _, _ => by rw [all_t14, show srtAt 14 = "l" by decide, srtB_l]
  | 15, d, _, h3, h4, h5, h15 => by omega
  | 16, d, _, _, _, _, _ => by rw [all_t16, show srtAt 16 = "h" by decide, srtB_h]
  | 17, d, _, _, _, _, _ => by rw [all_t17, show srtAt 17 = "h" by decide, srtB_h]
  | s + 18, d, h, _, _, _, _ => by omega
theorem z_0 : keptS "Row" = false := by decide
theorem z_1 : keptS "Nil" = false := by decide
theorem z_2 : keptS "base" = false := by decide
theorem z_3 : keptS "k" = false := by decide
theorem z_4 : keptS "whole" = false := by decide
theorem z_5 : keptS "make1" = false := by decide
theorem z_6 : keptS "p" = false := by decide
theorem z_7 : keptS "x" = false := by decide
theorem z_8 : keptS "y" = false := by decide
theorem z_9 : keptS "Cons" = false := by decide
theorem z_10 : keptS "t" = false := by decide
theorem z_11 : keptS "give" = false := by decide
theorem z_12 : keptS "num" = false := by decide
theorem z_13 : keptS "op" = false := by decide
theorem z_14 : keptS "+" = false := by decide
theorem z_15 : keptS "name" = false := by decide
theorem z_16 : keptS "call" = false := by decide
theorem z_17 : keptS "make" = false := by decide
theorem z_18 : keptS "let" = false := by decide
theorem z_19 : keptS "look" = false := by decide
theorem z_20 : keptS "match" = false := by decide
theorem any_0 (x : Str) : anyS keptS (prgT (nAt 0 (.str x)) false) = keptS x := by simp [prgT, bodyT, anyS, anySs, nAt, leaves, z_0, z_1, z_2, z_3, z_4, z_5, z_6, z_7, z_8, z_9, z_10, z_11, z_12, z_13, z_14, z_15, z_16, z_17, z_18, z_19, z_20]
theorem any_1 (x : Str) : anyS keptS (prgT (nAt 1 (.str x)) false) = keptS x := by simp [prgT, bodyT, anyS, anySs, nAt, leaves, z_0, z_1, z_2, z_3, z_4, z_5, z_6, z_7, z_8, z_9, z_10, z_11, z_12, z_13, z_14, z_15, z_16, z_17, z_18, z_19, z_20]
theorem any_2 (x : Str) : anyS keptS (prgT (nAt 2 (.str x)) false) = keptS x := by simp [prgT, bodyT, anyS, anySs, nAt, leaves, z_0, z_1, z_2, z_3, z_4, z_5, z_6, z_7, z_8, z_9, z_10, z_11, z_12, z_13, z_14, z_15, z_16, z_17, z_18, z_19, z_20]
theorem any_3 (x : Str) : anyS keptS (prgT (nAt 3 (.str x)) false) = keptS x := by simp [prgT, bodyT, anyS, anySs, nAt, leaves, z_0, z_1, z_2, z_3, z_4, z_5, z_6, z_7, z_8, z_9, z_10, z_11, z_12, z_13, z_14, z_15, z_16, z_17, z_18, z_19, z_20]
theorem any_4 (x : Str) : anyS keptS (prgT (nAt 4 (.str x)) false) = keptS x := by simp [prgT, bodyT, anyS, anySs, nAt, leaves, z_0, z_1, z_2, z_3, z_4, z_5, z_6, z_7, z_8, z_9, z_10, z_11, z_12, z_13, z_14, z_15, z_16, z_17, z_18, z_19, z_20]
theorem any_5 (x : Str) : anyS keptS (prgT (nAt 5 (.str x)) false) = keptS x := by simp [prgT, bodyT, anyS, anySs, nAt, leaves, z_0, z_1, z_2, z_3, z_4, z_5, z_6, z_7, z_8, z_9, z_10, z_11, z_12, z_13, z_14, z_15, z_16, z_17, z_18, z_19, z_20]
theorem any_6 (x : Str) : anyS keptS (prgT (nAt 6 (.str x)) false) = keptS x := by simp [prgT, bodyT, anyS, anySs, nAt, leaves, z_0, z_1, z_2, z_3, z_4, z_5, z_6, z_7, z_8, z_9, z_10, z_11, z_12, z_13, z_14, z_15, z_16, z_17, z_18, z_19, z_20]
theorem any_7 (x : Str) : anyS keptS (prgT (nAt 7 (.str x)) false) = keptS x := by simp [prgT, bodyT, anyS, anySs, nAt, leaves, z_0, z_1, z_2, z_3, z_4, z_5, z_6, z_7, z_8, z_9, z_10, z_11, z_12, z_13, z_14, z_15, z_16, z_17, z_18, z_19, z_20]
theorem any_8 (x : Str) : anyS keptS (prgT (nAt 8 (.str x)) false) = keptS x := by simp [prgT, bodyT, anyS, anySs, nAt, leaves, z_0, z_1, z_2, z_3, z_4, z_5, z_6, z_7, z_8, z_9, z_10, z_11, z_12, z_13, z_14, z_15, z_16, z_17, z_18, z_19, z_20]
theorem any_9 (x : Str) : anyS keptS (prgT (nAt 9 (.str x)) false) = keptS x := by simp [prgT, bodyT, anyS, anySs, nAt, leaves, z_0, z_1, z_2, z_3, z_4, z_5, z_6, z_7, z_8, z_9, z_10, z_11, z_12, z_13, z_14, z_15, z_16, z_17, z_18, z_19, z_20]
theorem any_10 (x : Str) : anyS keptS (prgT (nAt 10 (.str x)) false) = keptS x := by simp [prgT, bodyT, anyS, anySs, nAt, leaves, z_0, z_1, z_2, z_3, z_4, z_5, z_6, z_7, z_8, z_9, z_10, z_11, z_12, z_13, z_14, z_15, z_16, z_17, z_18, z_19, z_20]
theorem any_11 (x : Str) : anyS keptS (prgT (nAt 11 (.str x)) false) = keptS x := by simp [prgT, bodyT, anyS, anySs, nAt, leaves, z_0, z_1, z_2, z_3, z_4, z_5, z_6, z_7, z_8, z_9, z_10, z_11, z_12, z_13, z_14, z_15, z_16, z_17, z_18, z_19, z_20]
theorem any_12 (x : Str) : anyS keptS (prgT (nAt 12 (.str x)) false) = keptS x := by simp [prgT, bodyT, anyS, anySs, nAt, leaves, z_0, z_1, z_2, z_3, z_4, z_5, z_6, z_7, z_8, z_9, z_10, z_11, z_12, z_13, z_14, z_15, z_16, z_17, z_18, z_19, z_20]
theorem any_13 (x : Str) : anyS keptS (prgT (nAt 13 (.str x)) false) = keptS x := by simp [prgT, bodyT, anyS, anySs, nAt, leaves, z_0, z_1, z_2, z_3, z_4, z_5, z_6, z_7, z_8, z_9, z_10, z_11, z_12, z_13, z_14, z_15, z_16, z_17, z_18, z_19, z_20]
theorem any_14 (x : Str) : anyS keptS (prgT (nAt 14 (.str x)) false) = keptS x := by simp [prgT, bodyT, anyS, anySs, nAt, leaves, z_0, z_1, z_2, z_3, z_4, z_5, z_6, z_7, z_8, z_9, z_10, z_11, z_12, z_13, z_14, z_15, z_16, z_17, z_18, z_19, z_20]
theorem any_15 (x : Str) : anyS keptS (prgT (nAt 15 (.str x)) false) = keptS x := by simp [prgT, bodyT, anyS, anySs, nAt, leaves, z_0, z_1, z_2, z_3, z_4, z_5, z_6, z_7, z_8, z_9, z_10, z_11, z_12, z_13, z_14, z_15, z_16, z_17, z_18, z_19, z_20]
theorem any_16 (x : Str) : anyS keptS (prgT (nAt 16 (.str x)) false) = keptS x := by simp [prgT, bodyT, anyS, anySs, nAt, leaves, z_0, z_1, z_2, z_3, z_4, z_5, z_6, z_7, z_8, z_9, z_10, z_11, z_12, z_13, z_14, z_15, z_16, z_17, z_18, z_19, z_20]
theorem any_17 (x : Str) : anyS keptS (prgT (nAt 17 (.str x)) false) = keptS x := by simp [prgT, bodyT, anyS, anySs, nAt, leaves, z_0, z_1, z_2, z_3, z_4, z_5, z_6, z_7, z_8, z_9, z_10, z_11, z_12, z_13, z_14, z_15, z_16, z_17, z_18, z_19, z_20]
theorem any_k : ∀ (s : Nat) (x : Str), s < 18 → anyS keptS (prgT (nAt s (.str x)) false) = keptS x
  | 0, x, _ => any_0 x
  | 1, x, _ => any_1 x
  | 2, x, _ => any_2 x
  | 3, x, _ => any_3 x
  | 4, x, _ => any_4 x
  | 5, x, _ => any_5 x
  | 6, x, _ => any_6 x
  | 7, x, _ => any_7 x
  | 8, x, _ => any_8 x
  | 9, x, _ => any_9 x
  | 10, x, _ => any_10 x
  | 11, x, _ => any_11 x
  | 12, x, _ => any_12 x
  | 13, x, _ => any_13 x
  | 14, x, _ => any_14 x
  | 15, x, _ => any_15 x
  | 16, x, _ => any_16 x
  | 17, x, _ => any_17 x
  | s + 18, x, h => by omega
theorem sort_str {srt : Str} (h : sortB srt d = true) : ∃ x, d = .str x := by
  cases d with
  | str x => exact ⟨x, rfl⟩
  | _ =>
    rw [sort_no (fun x => by simp)] at h
    cases h
def keptD : D → Bool
  | .str x => keptS x
  | _ => false
/-- WHAT IS JUDGED -/
theorem prog_at {s : Nat} (hs : s < 18) (d : D) : progB (prgT (nAt s d) false) = (sortB (srtAt s) d && !(sortB (srtAt s) d && keptD d)) := by
  unfold progB
  rw [tree_told, all_f s d hs]
  cases h : sortB (srtAt s) d with
  | false => rfl
  | true =>
    obtain ⟨x, rfl⟩ := sort_str h
    rw [any_k s x hs]
    rfl
theorem plain_at {s : Nat} (hs : s < 18) (h3 : s ≠ 3) (h4 : s ≠ 4) (h5 : s ≠ 5) (h15 : s ≠ 15) (d : D) : treeB L3.plain (prgT (nAt s d) true) = sortB (srtAt s) d := by
  rw [tree_plain, all_t s d hs h3 h4 h5 h15]
end
end K01


/-! K01F: the law's own def. -/
namespace K01
open PySem PySem.Spec PyProof.Rows L2 L3
abbrev lawN : List Str := ["script", "font", "sorts", "spot", "thing", "good", "kept"]
/-- what the calls of the law promise -/
structure CallsOk (C : Cfg) (things same plain prog program sort sorts font draw : Nat) : Prop where
  fuel : 100000000 ≤ C.fuel
  font_ar : Ar C font 1
  font_ok : ∀ (ns : List Int) (S : Store), ns.length ≤ 63 → ∃ S', C.calls font [.kl (ns.map D.int)] S = .ok (.ref (S.length + 2)) S' ∧ FontOk S' (S.length + 2) (S.length + 1) S.length 0 ∧ Keep [] S S' ∧ S'.length = S.length + 3
  sorts_ar : Ar C sorts 0
  sorts_ok : ∀ S : Store, C.calls sorts [] S = .ok (.str sortsS) S
  prog_ar : Ar C prog 3
  prog_ok : ∀ (s : Nat) (d : D) (b : Bool) (S : Store), s < 18 → noExn d = true → C.calls prog [.int s, d, .bl b] S = .ok (prgT (nAt s d) b) (S ++ [.lst (leaves.set s d)])
  sort_ar : Ar C sort 2
  sort_ok : ∀ (d : D) (srt : Str) (S : Store), okD S d → (srt = "h" ∨ srt = "l" ∨ srt = "t") → (∀ x, d = .str x → ascB x = true) → C.calls sort [d, .str srt] S = .ok (.bl (sortB srt d)) (S ++ [.lst wordsD])
  same_ar : Ar C same 2
  same_ok : ∀ (a b : Bool) (S : Store), ∃ S', C.calls same [.bl a, .bl b] S = .ok (.bl (a == b)) S' ∧ Keep [] S S'
  program_ok : JudgeOk C program progB
  plain_ok : JudgeOk C plain (treeB L3.plain)
  things_ar : Ar C things 1
  things_ok : ∀ (S : Store) (rf rg rs B : Nat), FontOk S rf rg rs B → B < 2 ^ 57 → ∃ S' l, C.calls things [.ref rf] S = .ok (.ref S.length) S' ∧ S'[S.length]? = some (.lst l) ∧ l.length ≤ 100 ∧ (∀ d ∈ l, Thing S' d) ∧ FontOk S' rf rg rs (B + 72) ∧ Keep [rf, rg] S S'
def b_turn (C : Cfg) (f__law_same : Nat) (f_is_plain : Nat) (f__law_program : Nat) (f_is_program : Nat) (f__law_is_sort : Nat) : DS := (sSeq (sAsg (mCall C f__law_is_sort [mVar 4, mIx (mVar 2) (mVar 3)]) (gVar 5)) (sSeq (sAsg (mAndV (mVar 5) (mCmp .In (mSl (mVar 4) oNone (oSome (mC (.int 2)))) (mTup [mC (.str "zz"), mC (.str "Zz")]))) (gVar 6)) (sSeq (sIf (tNot (tOf (mCall C f__law_same [mCall C f_is_program [mCall C f__law_program [mVar 3, mVar 4, mC (.bl false)]], mAndV (mVar 5) (ofT (tNot (tOf (mVar 6))))]))) (sSeq (sRet (mC (.bl false))) sNext) sNext) (sSeq (sIf (tOf (mCmp .IsNot (mCall C f_is_plain [mCall C f__law_program [mVar 3, mVar 4, mC (.bl false)]]) (mC (.bl false)))) (sSeq (sRet (mC (.bl false))) sNext) sNext) (sSeq (sIf (L3.tAnd (tOf (mCmp .NotIn (mVar 3) (mTup [mC (.int 3), mC (.int 4), mC (.int 5), mC (.int 15)]))) (tNot (tOf (mCall C f__law_same [mCall C f_is_plain [mCall C f__law_program [mVar 3, mVar 4, mC (.bl true)]], mVar 5])))) (sSeq (sRet (mC (.bl false))) sNext) sNext) sNext)))))
section
variable {C : Cfg} {things same plain prog program sort sorts font draw : Nat} (W : CallsOk C things same plain prog program sort sorts font draw) {S : Store} {d : D}
theorem keep0 {S S' : Store} (k : Keep [] S S') {d : D} (h : okD S d) : okD S' d := okD.keep k (fun q hq => by cases hq) h
theorem beq_tt (a : Bool) : (a == a) = true := by cases a <;> rfl
include W in
theorem turn_ok {s : Nat} (hs : s < 18) (t : Thing S d) (x0 x1 g0 k0 : Option D) :
    ∃ g k S', b_turn C same plain prog program sort [x0, x1, some (.str sortsS), some (.int s), some d, g0, k0] S = .next [x0, x1, some (.str sortsS), some (.int s), some d, some (.bl g), some (.bl k)] S' ∧ Keep [] S S' := by
  have hsz := sizeLine_eq
  have lk2 : lok 2 = true := by unfold lok; rw [hsz]; decide
  have lk4 : lok 4 = true := by unfold lok; rw [hsz]; decide
  have lks : lok sortsS.length = true := by decide
  have hno := t.ok.no
  have hat : atI sortsS.cps.toList (s : Int) = some (sortsS.cps.toList.getD s 0) := by
    rw [L3.atI_nat, List.getD_eq_getElem?_getD]
    have : s < sortsS.cps.toList.length := by have : sortsS.cps.toList.length = 18 := by decide
                                              omega
    rw [List.getElem?_eq_getElem this]; rfl
  have c1 := W.sort_ok d (srtAt s) S t.ok (srt_any s hs) (fun x e => (t.asc x e).1)
  have hkept : sortB (srtAt s) d = true → ∃ x, d = .str x ∧ lok x.length = true ∧ cmpOp .In (.d (.str (cutS x none (some 2)))) (.d (.tup [.str "zz", .str "Zz"])) (S ++ [.lst wordsD]) = some (keptS x) := by
    intro h
    obtain ⟨x, rfl⟩ := sort_str h
    refine ⟨x, rfl, decide_eq_true t.ok, ?_⟩
    rw [in_tup _ _ (by simp) rfl rfl]
    simp [keptS]
  have pa := prog_at hs d
  have pt := fun h3 h4 h5 h15 => plain_at hs h3 h4 h5 h15 d
  generalize hg : sortB (srtAt s) d = g at c1 hkept pa pt
  have k1 : Keep [] S (S ++ [O.lst wordsD]) := Keep.push _
  generalize S ++ [O.lst wordsD] = S1 at c1 hkept k1
  have st1 : (sAsg (mCall C sort [mVar 4, mIx (mVar 2) (mVar 3)]) (gVar 5)) [x0, x1, some (.str sortsS), some (.int s), some d, g0, k0] S = .next [x0, x1, some (.str sortsS), some (.int s), some d, some (.bl g), k0] S1 := by
    have c1' : C.calls sort [d, .str ⟨#[sortsS.cps.toList.getD s 0]⟩] S = .ok (.bl g) S1 := c1
    simp only [sAsg_ap, mD_ap, call2 _ _ _ _ W.sort_ar, mVar_ap, mIx_ap]
    simp [look_no _ hno, lks, hat, c1', -List.getD_eq_getElem?_getD]
  have st2 : (sAsg (mAndV (mVar 5) (mCmp .In (mSl (mVar 4) oNone (oSome (mC (.int 2)))) (mTup [mC (.str "zz"), mC (.str "Zz")]))) (gVar 6)) [x0, x1, some (.str sortsS), some (.int s), some d, some (.bl g), k0] S1 = .next [x0, x1, some (.str sortsS), some (.int s), some d, some (.bl g), some (.bl (g && keptD d))] S1 := by
    cases g with
    | false => simp
    | true =>
      obtain ⟨x, rfl, e1, e2⟩ := hkept rfl
      simp [lk2, e1, e2, keptD]
  have o2 := nAt_ok (S := S1) s (t.keep k1 (fun q hq => by cases hq)) false
  obtain ⟨S2, p1, p2⟩ := W.program_ok.ok (prgT (nAt s d) false) (S1 ++ [.lst (leaves.set s d)]) (keep0 (Keep.push _) o2.1) (by omega)
  rw [pa] at p1
  obtain ⟨S3, q1, q2⟩ := W.same_ok (g && !(g && keptD d)) (g && !(g && keptD d)) S2
  rw [beq_tt] at q1
  have k3 : Keep [] S S3 := (k1.trans ((Keep.push _).trans p2)).trans q2
  have st3 : (sIf (tNot (tOf (mCall C same [mCall C program [mCall C prog [mVar 3, mVar 4, mC (.bl false)]], mAndV (mVar 5) (ofT (tNot (tOf (mVar 6))))]))) (sSeq (sRet (mC (.bl false))) sNext) sNext) [x0, x1, some (.str sortsS), some (.int s), some d, some (.bl g), some (.bl (g && keptD d))] S1 = .next [x0, x1, some (.str sortsS), some (.int s), some d, some (.bl g), some (.bl (g && keptD d))] S3 := by
    have r1 := W.prog_ok s d false S1 hs hno
    cases g with
    | false =>
      simp only [Bool.false_and] at p1 q1 ⊢
      simp [call2 _ _ _ _ W.same_ar, call1 _ _ _ W.program_ok.ar, call3 _ _ _ _ _ W.prog_ar, look_no _ hno, r1, p1, q1]
    | true =>
      simp only [Bool.true_and] at p1 q1 ⊢
      simp [call2 _ _ _ _ W.same_ar, call1 _ _ _ W.program_ok.ar, call3 _ _ _ _ _ W.prog_ar, look_no _ hno, r1, p1, q1]
  have o3 := nAt_ok (S := S3) s (t.keep k3 (fun q hq => by cases hq)) false
  obtain ⟨S4, u1, u2⟩ := W.plain_ok.ok (prgT (nAt s d) false) (S3 ++ [.lst (leaves.set s d)]) (keep0 (Keep.push _) o3.1) (by omega)
  rw [tree_fam] at u1
  have k4 : Keep [] S S4 := k3.trans ((Keep.push _).trans u2)
  have st4 : (sIf (tOf (mCmp .IsNot (mCall C plain [mCall C prog [mVar 3, mVar 4, mC (.bl false)]]) (mC (.bl false)))) (sSeq (sRet (mC (.bl false))) sNext) sNext) [x0, x1, some (.str sortsS), some (.int s), some d, some (.bl g), some (.bl (g && keptD d))] S3 = .next [x0, x1, some (.str sortsS), some (.int s), some d, some (.bl g), some (.bl (g && keptD d))] S4 := by
    have r1 := W.prog_ok s d false S3 hs hno
    simp [call1 _ _ _ W.plain_ok.ar, call3 _ _ _ _ _ W.prog_ar, look_no _ hno, r1, u1]
  have hnin : cmpOp .NotIn (.d (.int s)) (.d (.tup [.int 3, .int 4, .int 5, .int 15])) S4 = some (!([D.int 3, .int 4, .int 5, .int 15].any fun e => eqD e (.int s))) := nin_tup _ _ rfl rfl
  have st5 : ∃ S5, (sIf (L3.tAnd (tOf (mCmp .NotIn (mVar 3) (mTup [mC (.int 3), mC (.int 4), mC (.int 5), mC (.int 15)]))) (tNot (tOf (mCall C same [mCall C plain [mCall C prog [mVar 3, mVar 4, mC (.bl true)]], mVar 5])))) (sSeq (sRet (mC (.bl false))) sNext) sNext) [x0, x1, some (.str sortsS), some (.int s), some d, some (.bl g), some (.bl (g && keptD d))] S4 = .next [x0, x1, some (.str sortsS), some (.int s), some d, some (.bl g), some (.bl (g && keptD d))] S5 ∧ Keep [] S4 S5 := by
    by_cases hin : s = 3 ∨ s = 4 ∨ s = 5 ∨ s = 15
    · have e1 : ([D.int 3, .int 4, .int 5, .int 15].any fun e => eqD e (.int s)) = true := by
        rcases hin with rfl | rfl | rfl | rfl <;> rfl
      rw [e1] at hnin
      exact ⟨S4, by simp [lk4, hnin], Keep.refl⟩
    · have e1 : ([D.int 3, .int 4, .int 5, .int 15].any fun e => eqD e (.int s)) = false := by
        simp only [List.any_cons, List.any_nil, eqD, Bool.or_false, Bool.or_eq_false_iff, beq_eq_false_iff_ne, ne_eq]
        omega
      rw [e1] at hnin
      have pt2 := pt (by omega) (by omega) (by omega) (by omega)
      have o4 := nAt_ok (S := S4) s (t.keep k4 (fun q hq => by cases hq)) true
      obtain ⟨S5, v1, v2⟩ := W.plain_ok.ok (prgT (nAt s d) true) (S4 ++ [.lst (leaves.set s d)]) (keep0 (Keep.push _) o4.1) (by omega)
      rw [pt2] at v1
      obtain ⟨S6, w1, w2⟩ := W.same_ok g g S5
      rw [beq_tt] at w1
      have r1 := W.prog_ok s d true S4 hs hno
      exact ⟨S6, by simp [lk4, hnin, call2 _ _ _ _ W.same_ar, call1 _ _ _ W.plain_ok.ar, call3 _ _ _ _ _ W.prog_ar, look_no _ hno, r1, v1, w1], ((Keep.push _).trans v2).trans w2⟩
  obtain ⟨S5, st5, k5⟩ := st5
  refine ⟨g, g && keptD d, S5, ?_, k4.trans k5⟩
  unfold b_turn
  rw [sSeq_ap, st1, Fl.seq_next, sSeq_ap, st2, Fl.seq_next, sSeq_ap, st3, Fl.seq_next, sSeq_ap, st4, Fl.seq_next, sSeq_ap, st5, Fl.seq_next]
  rfl
/-- the fonts and the list of things stay lists -/
structure Inn (S0 S : Store) (rf rg rs B q : Nat) (l : List D) : Prop where
  at_ : S[q]? = some (.lst l)
  th : ∀ d ∈ l, Thing S d
  font : FontOk S rf rg rs B
include W in
theorem law_ok {ns : List Int} (hn : ns.length ≤ 63) : ∃ S', endD (B01.b_law C things same plain prog program sort sorts font (env0 lawN [.kl (ns.map D.int)]) S) = .ok (.bl true) S' := by
  have hsz := sizeLine_eq
  have hf := W.fuel
  obtain ⟨S1, f1, f2, f3, f4⟩ := W.font_ok ns S hn
  generalize hrf : S.length + 2 = rf at f1 f2
  generalize hrg : S.length + 1 = rg at f1 f2
  generalize hrs : S.length = rs at f2
  have z := W.sorts_ok
  have t0 : Thing S1 (.str "Row") := thing_of (by decide)
  have o1 := nAt_ok (S := S1) 0 t0 false
  obtain ⟨S2, p1, p2⟩ := W.program_ok.ok (prgT (nAt 0 (.str "Row")) false) (S1 ++ [.lst (leaves.set 0 (.str "Row"))]) (keep0 (Keep.push _) o1.1) (by omega)
  have o2 := nAt_ok (S := S2) 0 (thing_of (S := S2) (d := .str "Row") (by decide)) true
  obtain ⟨S3, q1, q2⟩ := W.plain_ok.ok (prgT (nAt 0 (.str "Row")) true) (S2 ++ [.lst (leaves.set 0 (.str "Row"))]) (keep0 (Keep.push _) o2.1) (by omega)
  have pe : progB (prgT (nAt 0 (.str "Row")) false) = true := by rw [prog_at (by omega)]; decide
  have qe : treeB L3.plain (prgT (nAt 0 (.str "Row")) true) = true := by rw [plain_at (by omega) (by omega) (by omega) (by omega) (by omega)]; decide
  rw [pe] at p1
  rw [qe] at q1
  have k3 : Keep [] S1 S3 := ((Keep.push _).trans p2).trans ((Keep.push _).trans q2)
  have F3 : FontOk S3 rf rg rs 0 := f2.keep k3 (fun q hq => by cases hq)
  let outer : DS := sFor C.fuel (L3.iRng1 (mC (.int 18))) (gVar 3) (sSeq (sFor C.fuel (iOf (mCall C things [mVar 1])) (gVar 4) (b_turn C same plain prog program sort)) sNext)
  let In : Nat → L3.Env → Store → Prop := fun i e S' => ∃ x3 x4 x5 x6, e = [some (.kl (ns.map D.int)), some (.ref rf), some (.str sortsS), x3, x4, x5, x6] ∧ FontOk S' rf rg rs (72 * i)
  have loop : Fl.to (outer [some (.kl (ns.map D.int)), some (.ref rf), some (.str sortsS), none, none, none, none] S3) (In 18) (fun _ _ => False) := by
    have hr18 : rngOk 18 = true := rngOk_of (by omega)
    refine sFor_items In (ds := upto 0 18) (S1 := S3) (by unfold L3.iRng1; simp [hr18]) ⟨none, none, none, none, rfl, F3⟩ (fun _ _ h => h) ?_
    rintro i d e S' hd ⟨x3, x4, x5, x6, rfl, F⟩
    have hi : i < 18 := by
      have := (List.getElem?_eq_some_iff.mp hd).1
      unfold upto at this; simpa using this
    have hdi : d = .int i := by
      unfold upto at hd
      rw [List.getElem?_map, List.getElem?_range (by simpa using hi)] at hd
      simp at hd
      rw [← hd]
    subst hdi
    refine ⟨_, _, rfl, ?_⟩
    obtain ⟨S4, l, h1, h2, h3, h4, h5, h6⟩ := W.things_ok S' rf rg rs (72 * i) F (by omega)
    let Im : Nat → L3.Env → Store → Prop := fun j e S' => ∃ x4 x5 x6, e = [some (.kl (ns.map D.int)), some (.ref rf), some (.str sortsS), some (.int i), x4, x5, x6] ∧ Keep [] S4 S'
    have inner : Fl.to (sFor C.fuel (iOf (mCall C things [mVar 1])) (gVar 4) (b_turn C same plain prog program sort) [some (.kl (ns.map D.int)), some (.ref rf), some (.str sortsS), some (.int i), x4, x5, x6] S') (Im l.length) (fun _ _ => False) := by
      refine sFor_live Im (l := l) (q := S'.length) (S1 := S4) (by simp [call1 _ _ _ W.things_ar, h1, h2]) (by omega) ⟨x4, x5, x6, rfl, Keep.refl⟩ (fun _ _ h => h) (fun j e S5 h => ?_) ?_
      · obtain ⟨_, _, _, _, k⟩ := h
        exact k.at h2 (by simp)
      · rintro j d e S5 hd ⟨y4, y5, y6, rfl, k⟩
        refine ⟨_, _, rfl, ?_⟩
        have t : Thing S5 d := (h4 d (List.mem_of_getElem? hd)).keep k (fun q hq => by cases hq)
        obtain ⟨g, kk, S6, r1, r2⟩ := turn_ok W hi t (some (.kl (ns.map D.int))) (some (.ref rf)) y5 y6
        show Fl.to (b_turn C same plain prog program sort [some (.kl (ns.map D.int)), some (.ref rf), some (.str sortsS), some (.int i), some d, y5, y6] S5) _ _
        rw [r1]
        exact .nx ⟨some d, some (.bl g), some (.bl kk), rfl, k.trans r2⟩
    show Fl.to ((sSeq (sFor C.fuel (iOf (mCall C things [mVar 1])) (gVar 4) (b_turn C same plain prog program sort)) sNext) [some (.kl (ns.map D.int)), some (.ref rf), some (.str sortsS), some (.int i), x4, x5, x6] S') _ _
    rw [sSeq_ap]
    refine Fl.to_seq (inner.mono ?_ (fun _ _ h => h.elim))
    rintro e S5 ⟨y4, y5, y6, rfl, k⟩
    exact .nx ⟨some (.int i), y4, y5, y6, rfl, (h5.keep k (fun q hq => by cases hq)).mono (by omega)⟩
  have e0 : B01.b_law C things same plain prog program sort sorts font (env0 lawN [.kl (ns.map D.int)]) S = (outer [some (.kl (ns.map D.int)), some (.ref rf), some (.str sortsS), none, none, none, none] S3).seq fun e S => (sSeq (sRet (mC (.bl true))) sNext) e S := by
    have r1 := W.prog_ok 0 (.str "Row") false S1 (by omega) rfl
    have r2 := W.prog_ok 0 (.str "Row") true S2 (by omega) rfl
    have r1' : C.calls prog [.int 0, .str (Str.ofString "Row"), .bl false] S1 = _ := r1
    have r2' : C.calls prog [.int 0, .str (Str.ofString "Row"), .bl true] S2 = _ := r2
    unfold B01.b_law
    rw [sSeq_ap]
    have s1 : sAsg (mCall C font [mVar 0]) (gVar 1) (env0 lawN [.kl (ns.map D.int)]) S = .next [some (.kl (ns.map D.int)), some (.ref rf), none, none, none, none, none] S1 := by
      simp [env0, call1 _ _ _ W.font_ar, f1]
    rw [s1, Fl.seq_next, sSeq_ap]
    have s2 : sAsg (mCall C sorts []) (gVar 2) [some (.kl (ns.map D.int)), some (.ref rf), none, none, none, none, none] S1 = .next [some (.kl (ns.map D.int)), some (.ref rf), some (.str sortsS), none, none, none, none] S1 := by
      simp [call0 _ _ W.sorts_ar, z]
    rw [s2, Fl.seq_next, sSeq_ap]
    have s3 : sIf (L3.tOr (tOf (mCmp .IsNot (mCall C program [mCall C prog [mC (.int 0), mC (.str "Row"), mC (.bl false)]]) (mC (.bl true)))) (tOf (mCmp .IsNot (mCall C plain [mCall C prog [mC (.int 0), mC (.str "Row"), mC (.bl true)]]) (mC (.bl true))))) (sSeq (sRet (mC (.bl false))) sNext) sNext [some (.kl (ns.map D.int)), some (.ref rf), some (.str sortsS), none, none, none, none] S1 = .next [some (.kl (ns.map D.int)), some (.ref rf), some (.str sortsS), none, none, none, none] S3 := by
      simp [call1 _ _ _ W.program_ok.ar, call1 _ _ _ W.plain_ok.ar, call3 _ _ _ _ _ W.prog_ar, r1', r2', p1, q1]
    rw [s3, Fl.seq_next, sSeq_ap]
    rfl
  rw [e0]
  rcases loop.out with ⟨e, S', q, x3, x4, x5, x6, rfl, h⟩ | ⟨_, _, _, h⟩
  · rw [q]
    exact ⟨S', by simp⟩
  · exact h.elim
end
end K01


/-! K01G: the law holds. -/
namespace K01
open PySem PySem.Spec PyProof.Rows L2 L3
section
variable (fuel : Nat) (hf : 100000000 ≤ fuel) {k : Nat}
abbrev Ck (fuel k : Nat) : Cfg := cfgN (T01.tbl.C fuel) T01.tbl.F k
theorem drawK (hk : 1 ≤ k) : DrawOk (Ck fuel k) 27 where
  ar := (B01.pr__law_draw fuel).ark k
  ok S rf rg rs B many F h1 h2 h3 := by
    rw [(B01.pr__law_draw fuel).at hk]
    exact draw_ok _ F h1 h2 h3
include hf in
theorem callsK (hk : 212 ≤ k) : CallsOk (Ck fuel k) 33 29 25 30 24 32 31 26 27 where
  fuel := hf
  font_ar := (B01.pr__law_font fuel).ark k
  font_ok ns S h := by
    rw [(B01.pr__law_font fuel).at (by omega)]
    exact font_ok _ ns h
  sorts_ar := (B01.pr__law_sorts fuel).ark k
  sorts_ok S := by
    rw [(B01.pr__law_sorts fuel).at (by omega)]
    simp [B01.b__law_sorts, sortsS]
  prog_ar := (B01.pr__law_program fuel).ark k
  prog_ok s d b S hs hd := by
    rw [(B01.pr__law_program fuel).at (by omega)]
    exact lawprog_ok _ hs hd b
  sort_ar := (B01.pr__law_is_sort fuel).ark k
  sort_ok d srt S hd hs ha := by
    rw [(B01.pr__law_is_sort fuel).at (by omega)]
    exact is_sort_ok _ hd hs ha
  same_ar := (B01.pr__law_same fuel).ark k
  same_ok a b S := by
    rw [(B01.pr__law_same fuel).at (by omega)]
    obtain ⟨S', h1, h2, _⟩ := same_ok (cfgN (T01.tbl.C fuel) T01.tbl.F (k - 1)) (S := S) (g := .bl a) (d := .bl b) rfl rfl (by simp [szD])
    exact ⟨S', h1, h2⟩
  program_ok := (I01.fP fuel hf).program_k (I01.nP fuel) (B01.pr_is_program fuel) (B01.pr_is_tree fuel) (B01.pr_strings_in fuel) (by omega)
  plain_ok := (I01.fP fuel hf).plain_k (I01.nP fuel) (B01.pr_is_plain fuel) (B01.pr_is_tree fuel) (by omega)
  things_ar := (B01.pr__law_things fuel).ark k
  things_ok S rf rg rs B F hB := by
    rw [(B01.pr__law_things fuel).at (by omega)]
    exact things_ok _ (drawK fuel (k := k - 1) (by omega)) F hB
end
theorem holds : PySem.Challenge.rw_newinputs_k01_whole_names_at_all_places.Holds := by
  obtain ⟨fuel, hf⟩ : ∃ f : Nat, 100000000 ≤ f := ⟨_, Nat.le_refl _⟩
  refine T01.holds_of (fuel := fuel) (lv := 212) ⟨rfl, by decide, by decide⟩ fun ns hn => ?_
  rw [(B01.pr_law fuel).ok 212]
  exact law_ok (callsK fuel hf (by omega)) hn
end K01


theorem PySem.Challenge.cw_newinputs_k01_whole_names_at_all_places_holds : PySem.Challenge.rw_newinputs_k01_whole_names_at_all_places.Holds := by
  exact K01.holds
