import PyProof.Rows.All
import Wide.All
import OpenK.AllK
import Wide.FinOn
import HandS.ForMost
import HandS.ForExc
import HandS.TupAny
import HandS.TupMul
import HandS.Conv
import HandS.IsInst
import KE.DataFind
import HandS.Style
import HandS.TupLe
import HandS.Wide
import KE.KTupSum
import HandS.Walk
import HandS.Small
import HandS.Zip
import KE.GoesEnum
import HandS.Property
import HandS.Dict
import HandS.SortOrd
import KE.SortData
import HandS.SlotsOwn
import HandS.DictComp
import HandS.OwnEq
import KE.KExcSuper
import KE.KExcIs
import HandS.Exc
import HandS.ExcOwn
import HandS.ExcInit
import HandS.ExcField
import HandS.ExcIs
import HandS.SetFor
import PySem.Challenge.RW_heapleads_k09_whole_tables
set_option Elab.async false
set_option linter.all false
set_option maxRecDepth 100000
set_option autoImplicit false
namespace DL
open PySem L2

/-- pure data: tuples and settled lists by value, things that still change by their place in the store -/
inductive D where
  | dead | non | bl (b : Bool) | int (i : Int) | str (x : Str)
  | tup (xs : List D) | lst (xs : List D)
  | dic (ks : List Key) (xs : List D) | ins (c : Nat) (ns : List Str) (xs : List D)
  | ref (n : Nat) | scr (ns : List Int) | ty (n : String) | xc (a : Addr) (dd : Option Addr) (ns : List Str) (ds : List D)
inductive Ob where
  | lst (xs : List D) | dic (ks : List Key) (xs : List D) | ins (c : Nat) (ns : List Str) (xs : List D)
abbrev Sto := List Ob
abbrev Sl := List D
structure Ct where
  K : PySem.W.Frag
  G : Nat → Addr
  B : List Addr
  O : List Addr
/-- neither in the store nor held back -/
def Ct.av (c : Ct) (a : Addr) : Prop := a ∉ c.O ∧ a ∉ c.B
/-- a tuple that has no dict of its own -/
def TupAt (H : Hp) (a : Addr) (vs : List V) : Prop := ∃ o : Obj, H a = some (.frz o (.tup vs)) ∧ o.dict = none
theorem TupAt.sq {K : PySem.W.Frag} {H : Hp} {a : Addr} {vs : List V} (h : TupAt H a vs) : SqT K H a vs := let ⟨o, e, _⟩ := h; .inl (.inr ⟨o, e⟩)
def ScrK (K : PySem.W.Frag) (a : Addr) (xs : List V) : Prop :=
  ∃ (o : Obj) (its : Array Value) (n : Nat), K.lookup a = some o ∧ o.cls = .type "list" ∧ o.dict = none ∧ o.data = .seq its n ∧ its.size ≤ sizeLine ∧ Vals xs its.toList
mutual
def RD (c : Ct) (H : Hp) : D → V → Prop
  | .dead, _ => False
  | .non, v => v = .non
  | .bl b, v => v = .bl b
  | .int i, v => v = .int i
  | .str x, v => v = .str x
  | .tup ds, v => ∃ a vs, v = .ref a ∧ c.av a ∧ TupAt H a vs ∧ RDs c H ds vs
  | .lst ds, v => ∃ a vs, v = .ref a ∧ c.av a ∧ H a = some (.lst vs) ∧ RDs c H ds vs
  | .dic ks ds, v => ∃ a vs, v = .ref a ∧ c.av a ∧ H a = some (.dK (ks.zip vs)) ∧ ks.length = vs.length ∧ RDs c H ds vs
  | .ins k ns ds, v => ∃ a dx vs, v = .ref a ∧ c.av a ∧ H a = some (.ins (c.G k) dx (ns.zip vs)) ∧ ns.length = vs.length ∧ RDs c H ds vs
  | .ref n, v => ∃ a, c.O[n]? = some a ∧ v = .ref a
  | .scr ns, v => ∃ a, v = .ref a ∧ ((Rd H a (.lst (ns.map V.int)) ∧ c.av a) ∨ ScrK c.K a (ns.map V.int))
  | .ty n, v => v = .ty n
  | .xc a dd ns ds, v => v = .ref a ∧ ((ns = [] ∧ ds = [] ∧ dd = none) ∨ ∃ x vs, dd = some x ∧ c.av x ∧ H x = some (.xd (ns.zip vs)) ∧ ns.length = vs.length ∧ RDs c H ds vs)
def RDs (c : Ct) (H : Hp) : List D → List V → Prop
  | [], vs => vs = []
  | d :: ds, vs => ∃ v vs', vs = v :: vs' ∧ RD c H d v ∧ RDs c H ds vs'
end
def OO (c : Ct) (H : Hp) (a : Addr) : Ob → Prop
  | .lst ds => ∃ vs, H a = some (.lst vs) ∧ RDs c H ds vs
  | .dic ks ds => ∃ vs, H a = some (.dK (ks.zip vs)) ∧ ks.length = vs.length ∧ RDs c H ds vs
  | .ins k ns ds => ∃ dx vs, H a = some (.ins (c.G k) dx (ns.zip vs)) ∧ ns.length = vs.length ∧ RDs c H ds vs
structure Step (O : List Addr) (H : Hp) (O' : List Addr) (H' : Hp) : Prop where
  pre : ∃ t, O' = O ++ t
  kp : ∀ a o, a ∉ O → H a = some o → H' a = some o ∧ a ∉ O'
theorem Step.refl (O : List Addr) (H : Hp) : Step O H O H := ⟨⟨[], by simp⟩, fun _ _ h e => ⟨e, h⟩⟩
theorem Step.trans {O O1 O2 : List Addr} {H H1 H2 : Hp} (a : Step O H O1 H1) (b : Step O1 H1 O2 H2) : Step O H O2 H2 := by
  obtain ⟨t, ht⟩ := a.pre
  obtain ⟨u, hu⟩ := b.pre
  exact ⟨⟨t ++ u, by rw [hu, ht, List.append_assoc]⟩, fun x o h e => let ⟨e1, h1⟩ := a.kp x o h e; b.kp x o h1 e1⟩
abbrev Ct.at (c : Ct) (O : List Addr) : Ct := { c with O := O }
/-- from one state of the world to a later one: what is settled stays, places of the store stay -/
structure Mv (c c' : Ct) (H H' : Hp) : Prop where
  kp : ∀ a o, c.av a → H a = some o → c'.av a ∧ H' a = some o
  rf : ∀ (n : Nat) a, c.O[n]? = some a → c'.O[n]? = some a
  k : c'.K = c.K
  g : c'.G = c.G
mutual
theorem RD.mv {c c' : Ct} {H H' : Hp} (s : Mv c c' H H') : ∀ (d : D) (v : V), RD c H d v → RD c' H' d v
  | .dead, _, h => h
  | .non, _, h => h
  | .bl _, _, h => h
  | .int _, _, h => h
  | .str _, _, h => h
  | .tup ds, v, ⟨a, vs, e, h, ⟨o, ha, hd⟩, r⟩ => let ⟨h', ha'⟩ := s.kp a _ h ha; ⟨a, vs, e, h', ⟨o, ha', hd⟩, RDs.mv s ds vs r⟩
  | .lst ds, v, ⟨a, vs, e, h, ha, r⟩ => let ⟨h', ha'⟩ := s.kp a _ h ha; ⟨a, vs, e, h', ha', RDs.mv s ds vs r⟩
  | .dic ks ds, v, ⟨a, vs, e, h, ha, l, r⟩ => let ⟨h', ha'⟩ := s.kp a _ h ha; ⟨a, vs, e, h', ha', l, RDs.mv s ds vs r⟩
  | .ins k ns ds, v, ⟨a, dx, vs, e, h, ha, l, r⟩ => let ⟨h', ha'⟩ := s.kp a _ h ha; ⟨a, dx, vs, e, h', by rw [s.g]; exact ha', l, RDs.mv s ds vs r⟩
  | .ref n, v, ⟨a, h, e⟩ => ⟨a, s.rf n a h, e⟩
  | .scr ns, v, ⟨a, e, h⟩ => ⟨a, e, by
      rcases h with ⟨h | ⟨o, h⟩, q⟩ | h
      · obtain ⟨g', h'⟩ := s.kp a _ q h
        exact .inl ⟨.inl h', g'⟩
      · obtain ⟨g', h'⟩ := s.kp a _ q h
        exact .inl ⟨.inr ⟨o, h'⟩, g'⟩
      · exact .inr (by rw [s.k]; exact h)⟩
  | .ty _, _, h => h
  | .xc a dd ns ds, v, ⟨e, h⟩ => ⟨e, by
      rcases h with h | ⟨x, vs, e1, h1, h2, l, r⟩
      · exact .inl h
      · obtain ⟨h1', h2'⟩ := s.kp x _ h1 h2
        exact .inr ⟨x, vs, e1, h1', h2', l, RDs.mv s ds vs r⟩⟩
theorem RDs.mv {c c' : Ct} {H H' : Hp} (s : Mv c c' H H') : ∀ (ds : List D) (vs : List V), RDs c H ds vs → RDs c' H' ds vs
  | [], _, h => h
  | d :: ds, _, ⟨v, vs', e, r, t⟩ => ⟨v, vs', e, RD.mv s d v r, RDs.mv s ds vs' t⟩
end
theorem Step.mv {c : Ct} {H H' : Hp} {O' : List Addr} (s : Step c.O H O' H') : Mv c (c.at O') H H' :=
  ⟨fun a o h e => let ⟨e', n⟩ := s.kp a o h.1 e; ⟨⟨n, h.2⟩, e'⟩, fun n a h => by
    obtain ⟨t, ht⟩ := s.pre
    show O'[n]? = some a
    rw [ht]
    exact List.getElem?_append_left (List.getElem?_eq_some_iff.mp h).1 ▸ h, rfl, rfl⟩
theorem RD.step {c : Ct} {H H' : Hp} {O' : List Addr} (s : Step c.O H O' H') (d : D) (v : V) (h : RD c H d v) : RD (c.at O') H' d v := RD.mv s.mv d v h
theorem RDs.step {c : Ct} {H H' : Hp} {O' : List Addr} (s : Step c.O H O' H') (ds : List D) (vs : List V) (h : RDs c H ds vs) : RDs (c.at O') H' ds vs := RDs.mv s.mv ds vs h
theorem RDs.length {c : Ct} {H : Hp} : ∀ {ds : List D} {vs : List V}, RDs c H ds vs → ds.length = vs.length
  | [], _, h => by rw [show _ = _ from h]; rfl
  | d :: ds, _, ⟨v, vs', e, _, t⟩ => by rw [e]; simp [RDs.length t]
theorem RDs.get {c : Ct} {H : Hp} : ∀ {ds : List D} {vs : List V} {i : Nat} {d : D}, RDs c H ds vs → ds[i]? = some d → ∃ v, vs[i]? = some v ∧ RD c H d v
  | [], _, _, _, _, e => by simp at e
  | _ :: _, _, 0, _, ⟨v, vs', e, r, _⟩, h => by simp at h; subst h; exact ⟨v, by rw [e]; rfl, r⟩
  | _ :: ds, _, i + 1, d, ⟨v, vs', e, _, t⟩, h => by
    obtain ⟨u, h1, h2⟩ := RDs.get (i := i) (d := d) t (by simpa using h)
    exact ⟨u, by rw [e]; simpa using h1, h2⟩
theorem RDs.append {c : Ct} {H : Hp} : ∀ {ds es : List D} {vs ws : List V}, RDs c H ds vs → RDs c H es ws → RDs c H (ds ++ es) (vs ++ ws)
  | [], _, _, _, h, g => by rw [show _ = _ from h]; exact g
  | _ :: _, _, _, _, ⟨v, vs', e, r, t⟩, g => by subst e; exact ⟨v, _, rfl, r, RDs.append t g⟩
theorem RDs.take {c : Ct} {H : Hp} : ∀ {ds : List D} {vs : List V} (n : Nat), RDs c H ds vs → RDs c H (ds.take n) (vs.take n)
  | _, _, 0, _ => rfl
  | [], _, _ + 1, h => by rw [show _ = _ from h]; rfl
  | _ :: _, _, n + 1, ⟨v, vs', e, r, t⟩ => by subst e; exact ⟨v, _, rfl, r, RDs.take n t⟩
theorem RDs.drop {c : Ct} {H : Hp} : ∀ {ds : List D} {vs : List V} (n : Nat), RDs c H ds vs → RDs c H (ds.drop n) (vs.drop n)
  | _, _, 0, h => h
  | [], _, _ + 1, h => by rw [show _ = _ from h]; rfl
  | _ :: _, _, n + 1, ⟨v, vs', e, _, t⟩ => by subst e; exact RDs.drop n t
theorem RDs.set {c : Ct} {H : Hp} {d : D} {w : V} (q : RD c H d w) : ∀ {ds : List D} {vs : List V} (n : Nat), RDs c H ds vs → RDs c H (ds.set n d) (vs.set n w)
  | [], _, _, h => by rw [show _ = _ from h]; rfl
  | _ :: _, _, 0, ⟨v, vs', e, _, t⟩ => by subst e; exact ⟨w, _, rfl, q, t⟩
  | _ :: _, _, n + 1, ⟨v, vs', e, r, t⟩ => by subst e; exact ⟨v, _, rfl, r, RDs.set q n t⟩
theorem RDs.one {c : Ct} {H : Hp} {d : D} {v : V} (h : RD c H d v) : RDs c H [d] [v] := ⟨v, [], rfl, h, rfl⟩
theorem RDs.map_int {c : Ct} {H : Hp} : ∀ {ns : List Int} {vs : List V}, RDs c H (ns.map D.int) vs → vs = ns.map V.int
  | [], _, h => h
  | _ :: _, _, ⟨v, vs', e, r, t⟩ => by rw [e, RDs.map_int t, show v = _ from r]; rfl
theorem RDs.of_int {c : Ct} {H : Hp} : ∀ (ns : List Int), RDs c H (ns.map D.int) (ns.map V.int)
  | [] => rfl
  | n :: ns => ⟨_, _, rfl, rfl, RDs.of_int ns⟩

structure RelS (c : Ct) (S : Sto) (H : Hp) : Prop where
  ol : c.O.length = S.length
  nd : c.O.Nodup
  nb : ∀ a ∈ c.O, a ∉ c.B
  hb : ∀ a ∈ c.B, H a ≠ none
  ob : ∀ (n : Nat) (o : Ob) (a : Addr), S[n]? = some o → c.O[n]? = some a → OO c H a o
structure Rel (c : Ct) (S : Sto) (σd : Sl) (σ : L2.St) (H : Hp) : Prop extends RelS c S H where
  len : σd.length = σ.length
  sl : ∀ (i : Nat) d, σd[i]? = some d → d = .dead ∨ ∃ v, σ[i]? = some (some v) ∧ RD c H d v
theorem OO.there {c : Ct} {H : Hp} {a : Addr} {o : Ob} (h : OO c H a o) : ∃ u, H a = some u := by
  cases o with
  | lst _ => exact ⟨_, h.choose_spec.1⟩
  | dic _ _ => exact ⟨_, h.choose_spec.1⟩
  | ins _ _ _ => exact ⟨_, h.choose_spec.choose_spec.1⟩
theorem RelS.fresh {c : Ct} {S : Sto} {H : Hp} (r : RelS c S H) {p : Addr} (h : H p = none) : c.av p := by
  refine ⟨fun hp => ?_, fun hp => r.hb p hp h⟩
  obtain ⟨n, hn, e⟩ := List.getElem_of_mem hp
  have h1 : c.O[n]? = some p := by rw [List.getElem?_eq_getElem hn, e]
  have h2 : n < S.length := r.ol ▸ hn
  obtain ⟨u, hu⟩ := (r.ob n S[n] p (List.getElem?_eq_getElem h2) h1).there
  rw [h] at hu
  cases hu
theorem Step.new {O : List Addr} {H : Hp} {p : Addr} {o : HO} (h : H p = none) : Step O H O (upd H p o) :=
  ⟨⟨[], by simp⟩, fun a u n e => ⟨by rw [upd_ne (ne_of_none e h)]; exact e, n⟩⟩
theorem OO.mv {c c' : Ct} {H H' : Hp} (s : Mv c c' H H') {a : Addr} {o : Ob} (k : ∀ u, H a = some u → H' a = some u) (h : OO c H a o) : OO c' H' a o := by
  cases o with
  | lst ds => obtain ⟨vs, h1, h2⟩ := h; exact ⟨vs, k _ h1, RDs.mv s ds vs h2⟩
  | dic ks ds => obtain ⟨vs, h1, l, h2⟩ := h; exact ⟨vs, k _ h1, l, RDs.mv s ds vs h2⟩
  | ins x ns ds => obtain ⟨dx, vs, h1, l, h2⟩ := h; exact ⟨dx, vs, by rw [s.g]; exact k _ h1, l, RDs.mv s ds vs h2⟩
theorem OO.step {c : Ct} {H H' : Hp} {O' : List Addr} (s : Step c.O H O' H') {a : Addr} {o : Ob} (k : ∀ u, H a = some u → H' a = some u) (h : OO c H a o) : OO (c.at O') H' a o := OO.mv s.mv k h
/-- a new thing beside all -/
theorem RelS.new {c : Ct} {S : Sto} {H : Hp} (r : RelS c S H) {p : Addr} {o : HO} (h : H p = none) : RelS c S (upd H p o) :=
  ⟨r.ol, r.nd, r.nb, fun a ha e => r.hb a ha (by
      by_cases q : a = p
      · subst q; exact h
      · rw [upd_ne q] at e; exact e), fun n ob a h1 h2 => OO.step (c := c) (O' := c.O) (Step.new h) (fun u e => by rw [upd_ne (ne_of_none e h)]; exact e) (r.ob n ob a h1 h2)⟩
theorem Rel.step {c : Ct} {S S' : Sto} {σd : Sl} {σ : L2.St} {H H' : Hp} {O' : List Addr} (r : Rel c S σd σ H) (s : Step c.O H O' H') (r' : RelS (c.at O') S' H') : Rel (c.at O') S' σd σ H' :=
  { r' with len := r.len, sl := fun i d h => (r.sl i d h).imp id fun ⟨v, h1, h2⟩ => ⟨v, h1, RD.step s d v h2⟩ }
theorem Rel.new {c : Ct} {S : Sto} {σd : Sl} {σ : L2.St} {H : Hp} (r : Rel c S σd σ H) {p : Addr} {o : HO} (h : H p = none) : Rel c S σd σ (upd H p o) :=
  r.step (O' := c.O) (Step.new h) (r.toRelS.new h)
/-- a new thing of the store -/
theorem RelS.alloc {c : Ct} {S : Sto} {H : Hp} (r : RelS c S H) {p : Addr} {u : HO} {o : Ob} (h : H p = none) (ho : OO (c.at (c.O ++ [p])) (upd H p u) p o) : RelS (c.at (c.O ++ [p])) (S ++ [o]) (upd H p u) ∧ Step c.O H (c.O ++ [p]) (upd H p u) := by
  have fr := r.fresh h
  have st : Step c.O H (c.O ++ [p]) (upd H p u) := ⟨⟨[p], rfl⟩, fun a o n e => by
    have ne := ne_of_none e h
    exact ⟨by rw [upd_ne ne]; exact e, by simp [n, ne]⟩⟩
  refine ⟨⟨by simp [r.ol], ?_, ?_, ?_, ?_⟩, st⟩
  · exact List.nodup_append.mpr ⟨r.nd, by simp, fun a ha b hb e => by
      have hb' : b = p := by simpa using hb
      rw [hb'] at e
      rw [e] at ha
      exact fr.1 ha⟩
  · intro a ha
    rcases List.mem_append.mp ha with q | q
    · exact r.nb a q
    · have q' : a = p := by simpa using q
      rw [q']; exact fr.2
  · intro a ha e
    exact r.hb a ha (by
      by_cases q : a = p
      · subst q; exact h
      · rw [upd_ne q] at e; exact e)
  · intro n ob a h1 h2
    by_cases hn : n < S.length
    · rw [List.getElem?_append_left hn] at h1
      have h2' : c.O[n]? = some a := by
        rw [show (c.at (c.O ++ [p])).O = c.O ++ [p] from rfl, List.getElem?_append_left (r.ol ▸ hn)] at h2
        exact h2
      exact OO.step st (fun v e => by rw [upd_ne (ne_of_none e h)]; exact e) (r.ob n ob a h1 h2')
    · have hn' : S.length ≤ n := Nat.le_of_not_lt hn
      rw [List.getElem?_append_right hn'] at h1
      have e0 : n - S.length = 0 := by
        cases q : n - S.length with
        | zero => rfl
        | succ m => rw [q] at h1; simp at h1
      rw [e0] at h1
      have h1' : o = ob := by simpa using h1
      have h2' : a = p := by
        rw [show (c.at (c.O ++ [p])).O = c.O ++ [p] from rfl, List.getElem?_append_right (r.ol ▸ hn'), r.ol, e0] at h2
        simpa using h2.symm
      rw [← h1', h2']
      exact ho
theorem Step.write {O : List Addr} {H : Hp} {a : Addr} {u : HO} (h : a ∈ O) : Step O H O (upd H a u) :=
  ⟨⟨[], by simp⟩, fun b o n e => ⟨by
    have ne : b ≠ a := fun q => n (by rw [q]; exact h)
    rw [upd_ne ne]
    exact e, n⟩⟩
theorem mem_of_at {O : List Addr} {n : Nat} {a : Addr} (h : O[n]? = some a) : a ∈ O := List.mem_of_getElem? h
/-- a thing of the store is changed -/
theorem RelS.write {c : Ct} {S : Sto} {H : Hp} (r : RelS c S H) {n : Nat} {a : Addr} {u : HO} {o : Ob} (h : c.O[n]? = some a) (ho : OO c (upd H a u) a o) : RelS c (S.set n o) (upd H a u) ∧ Step c.O H c.O (upd H a u) := by
  have st : Step c.O H c.O (upd H a u) := Step.write (mem_of_at h)
  refine ⟨⟨by simp [r.ol], r.nd, r.nb, fun b hb e => ?_, fun m ob b h1 h2 => ?_⟩, st⟩
  · by_cases q : b = a
    · subst q; rw [upd_same] at e; cases e
    · rw [upd_ne q] at e; exact r.hb b hb e
  · by_cases q : m = n
    · subst q
      have e : b = a := Option.some.inj (h2.symm.trans h)
      subst e
      rw [List.getElem?_set_self (by have := (List.getElem?_eq_some_iff.mp h).1; rw [r.ol] at this; exact this)] at h1
      rw [← Option.some.inj h1]
      exact ho
    · rw [List.getElem?_set_ne (fun z => q z.symm)] at h1
      have ne : b ≠ a := fun z => by
        subst z
        exact q ((List.getElem?_inj (List.getElem?_eq_some_iff.mp h2).1 r.nd).mp (h2.trans h.symm))
      exact OO.step (c := c) (O' := c.O) st (fun v e => by rw [upd_ne ne]; exact e) (r.ob m ob b h1 h2)

inductive R (α : Type) where
  | ok (a : α) (S : Sto)
  | exc (k : Nat) (ns : List Str) (ds : List D) (S : Sto)
  | bad
abbrev E := Sl → Sto → R D
inductive RS where
  | nx (σ : Sl) (S : Sto) | rt (d : D) (S : Sto) | bk (σ : Sl) (S : Sto) | ct (σ : Sl) (S : Sto)
  | exc (k : Nat) (ns : List Str) (ds : List D) (σ : Sl) (S : Sto) | bad
abbrev MS := Sl → Sto → RS
/-- the dict of an exception -/
def XOk (c : Ct) (H : Hp) (ns : List Str) (ds : List D) (dd : Option Addr) : Prop :=
  (ns = [] ∧ ds = [] ∧ dd = none) ∨ ∃ a vs, dd = some a ∧ c.av a ∧ H a = some (.xd (ns.zip vs)) ∧ ns.length = vs.length ∧ RDs c H ds vs
/-- what stands behind a piece of code that gives an a, told by a b -/
def Post {α β : Type} (rel : Ct → Hp → α → β → Prop) (c : Ct) (W : WX) (σ : L2.St) (σd : Sl) (H : Hp) (r : R α) (Q : β → Hp → Prop) : Prop := match r with
  | .ok d S' => ∀ v O' H', Rel (c.at O') S' σd σ H' → rel (c.at O') H' d v → Step c.O H O' H' → Q v H'
  | .exc k ns ds S' => ∀ dd O' H', Rel (c.at O') S' σd σ H' → XOk (c.at O') H' ns ds dd → Step c.O H O' H' → W (.ref (c.G k)) dd σ H'
  | .bad => False
def PostS (c : Ct) (W : WX) (H : Hp) (r : RS) (J : Ends) : Prop := match r with
  | .nx σd' S' => ∀ σ' O' H', Rel (c.at O') S' σd' σ' H' → Step c.O H O' H' → J.nx σ' H'
  | .bk σd' S' => ∀ σ' O' H', Rel (c.at O') S' σd' σ' H' → Step c.O H O' H' → J.bk σ' H'
  | .ct σd' S' => ∀ σ' O' H', Rel (c.at O') S' σd' σ' H' → Step c.O H O' H' → J.ct σ' H'
  | .rt d S' => ∀ v O' H', RelS (c.at O') S' H' → RD (c.at O') H' d v → Step c.O H O' H' → J.rt v H'
  | .exc k ns ds σd' S' => ∀ dd σ' O' H', Rel (c.at O') S' σd' σ' H' → XOk (c.at O') H' ns ds dd → Step c.O H O' H' → W (.ref (c.G k)) dd σ' H'
  | .bad => False
/-- the fixed part: the written part, the classes -/
structure Gx where
  K : PySem.W.Frag
  G : Nat → Addr
abbrev M (α : Type) := Sl → Sto → R α
def rdG {α β : Type} (rel : Ct → Hp → α → β → Prop) (g : Gx) (W : WX) (m : M α) : L2.St → Hp → (β → Hp → Prop) → Prop :=
  fun σ H Q => ∃ B O S σd, Rel ⟨g.K, g.G, B, O⟩ S σd σ H ∧ Post rel ⟨g.K, g.G, B, O⟩ W σ σd H (m σd S) Q
abbrev same {α : Type} : Ct → Hp → α → α → Prop := fun _ _ a b => a = b
abbrev rdE (g : Gx) (W : WX) (m : M D) : TE := rdG RD g W m
abbrev rdA (g : Gx) (W : WX) (m : M (List D)) : TA := rdG RDs g W m
abbrev rdT (g : Gx) (W : WX) (m : M Bool) : TT := rdG same g W m
abbrev rdO (g : Gx) (W : WX) (m : M (Option Int)) : TO := rdG same g W m
def rdS (g : Gx) (W : WX) (m : MS) : TS := fun J σ H => ∃ B O S σd, Rel ⟨g.K, g.G, B, O⟩ S σd σ H ∧ PostS ⟨g.K, g.G, B, O⟩ W H (m σd S) J
def mB {α β : Type} (a : M α) (f : α → M β) : M β := fun σd S => match a σd S with
  | .ok x S1 => f x σd S1
  | .exc k ns ds S1 => .exc k ns ds S1
  | .bad => .bad
section
variable {α β α' β' : Type} {rel : Ct → Hp → α → β → Prop} {rel' : Ct → Hp → α' → β' → Prop} {g : Gx} {W : WX} {c : Ct} {S S1 : Sto} {σd : Sl} {σ : L2.St} {H H1 : Hp} {O1 : List Addr}
theorem Post.step {r : R α} {Q : β → Hp → Prop} (s : Step c.O H O1 H1) (p : Post rel c W σ σd H r Q) : Post rel (c.at O1) W σ σd H1 r Q := by
  cases r with
  | ok d S' => exact fun v O' H' h1 h2 h3 => p v O' H' h1 h2 (s.trans h3)
  | exc k ns ds S' => exact fun dd O' H' h1 h2 h3 => p dd O' H' h1 h2 (s.trans h3)
  | bad => exact p
theorem PostS.step {r : RS} {J : Ends} (s : Step c.O H O1 H1) (p : PostS c W H r J) : PostS (c.at O1) W H1 r J := by
  cases r with
  | nx d S' => exact fun v O' H' h1 h3 => p v O' H' h1 (s.trans h3)
  | bk d S' => exact fun v O' H' h1 h3 => p v O' H' h1 (s.trans h3)
  | ct d S' => exact fun v O' H' h1 h3 => p v O' H' h1 (s.trans h3)
  | rt d S' => exact fun v O' H' h1 h2 h3 => p v O' H' h1 h2 (s.trans h3)
  | exc k ns ds _ S' => exact fun dd σ' O' H' h1 h2 h3 => p dd σ' O' H' h1 h2 (s.trans h3)
  | bad => exact p
theorem rdG_mono {m : M α} {Q Q' : β → Hp → Prop} (h : rdG rel g W m σ H Q) (q : ∀ v H', Q v H' → Q' v H') : rdG rel g W m σ H Q' := by
  obtain ⟨B, O, S, σd, r, p⟩ := h
  refine ⟨B, O, S, σd, r, ?_⟩
  revert p
  cases m σd S with
  | ok d S' => exact fun p v O' H' h1 h2 h3 => q _ _ (p v O' H' h1 h2 h3)
  | exc k ns ds S' => exact fun p => p
  | bad => exact fun p => p
/-- a first part runs, then the rest -/
theorem rd_then {K : PySem.W.Frag} {G : Nat → Addr} {B O : List Addr} {a : M α} {f : α → M α'} {Q : β' → Hp → Prop} (r : Rel ⟨K, G, B, O⟩ S σd σ H) (p : Post rel' ⟨K, G, B, O⟩ W σ σd H (mB a f σd S) Q) :
    rdG rel ⟨K, G⟩ W a σ H fun v H1 => ∃ d O1 S1, Rel ⟨K, G, B, O1⟩ S1 σd σ H1 ∧ rel ⟨K, G, B, O1⟩ H1 d v ∧ Step O H O1 H1 ∧ Post rel' ⟨K, G, B, O1⟩ W σ σd H1 (f d σd S1) Q := by
  refine ⟨B, O, S, σd, r, ?_⟩
  unfold mB at p
  revert p
  cases a σd S with
  | ok d S' => exact fun p v O' H' h1 h2 h3 => ⟨d, O', S', h1, h2, h3, Post.step (c := ⟨K, G, B, O⟩) h3 p⟩
  | exc k ns ds S' => exact fun p dd O' H' h1 h2 h3 => p dd O' H' h1 h2 h3
  | bad => exact fun p => p.elim
theorem post_val {Q : β → Hp → Prop} {d : α} {v : β} (p : Post rel c W σ σd H (.ok d S) Q) (r : Rel c S σd σ H) (h : rel c H d v) : Q v H := p v c.O H r h (Step.refl _ _)
theorem post_new {Q : β → Hp → Prop} {d : α} {v : β} {a : Addr} {o : HO} (p : Post rel c W σ σd H (.ok d S) Q) (r : Rel c S σd σ H) (n : H a = none) (h : rel c (upd H a o) d v) : Q v (upd H a o) :=
  p v c.O _ (r.new n) h (Step.new n)
theorem post_newT {Q : VK} {ds : List D} {vs : List V} (p : Post RD c W σ σd H (.ok (.tup ds) S) Q) (r : Rel c S σd σ H) (h : RDs c H ds vs) : ∀ a o, o.dict = none → H a = none → Q (.ref a) (upd H a (.frz o (.tup vs))) :=
  fun a o e n => post_new p r n ⟨a, vs, rfl, r.fresh n, ⟨o, upd_same, e⟩, RDs.step (c := c) (O' := c.O) (Step.new n) ds vs h⟩
theorem post_newL {Q : VK} {ds : List D} {vs : List V} (p : Post RD c W σ σd H (.ok (.lst ds) S) Q) (r : Rel c S σd σ H) (h : RDs c H ds vs) : ∀ a, H a = none → Q (.ref a) (upd H a (.lst vs)) :=
  fun a n => post_new p r n ⟨a, vs, rfl, r.fresh n, upd_same, RDs.step (c := c) (O' := c.O) (Step.new n) ds vs h⟩
end
/-- a list that was made just now and that nothing else holds -/
def PostN (c : Ct) (W : WX) (σ : L2.St) (σd : Sl) (H : Hp) (r : R (List D)) (Q : VK) : Prop := match r with
  | .ok ds S' => ∀ p vs O' H', H p = none → Rel ⟨c.K, c.G, p :: c.B, O'⟩ S' σd σ H' → p ∉ c.B → H' p = some (.lst vs) → RDs ⟨c.K, c.G, p :: c.B, O'⟩ H' ds vs → Step c.O H O' H' → Q (.ref p) H'
  | .exc k ns ds S' => ∀ dd O' H', Rel (c.at O') S' σd σ H' → XOk (c.at O') H' ns ds dd → Step c.O H O' H' → W (.ref (c.G k)) dd σ H'
  | .bad => False
def rdN (g : Gx) (W : WX) (m : M (List D)) : TE := fun σ H Q => ∃ B O S σd, Rel ⟨g.K, g.G, B, O⟩ S σd σ H ∧ PostN ⟨g.K, g.G, B, O⟩ W σ σd H (m σd S) Q
section
variable {α β : Type} {rel : Ct → Hp → α → β → Prop} {g : Gx} {W : WX} {c : Ct} {S S1 : Sto} {σd : Sl} {σ : L2.St} {H H1 : Hp} {O1 : List Addr}
theorem mv_ban {p : Addr} {o : HO} (h : H p = none) : Mv c { c with B := p :: c.B } H (upd H p o) :=
  ⟨fun a u q e => ⟨⟨q.1, fun z => by
      rcases List.mem_cons.mp z with z | z
      · rw [z, h] at e; cases e
      · exact q.2 z⟩, by rw [upd_ne (ne_of_none e h)]; exact e⟩, fun _ _ e => e, rfl, rfl⟩
theorem Rel.ban (r : Rel c S σd σ H) {p : Addr} {o : HO} (h : H p = none) : Rel { c with B := p :: c.B } S σd σ (upd H p o) where
  ol := r.ol
  nd := r.nd
  nb := fun a ha z => by
    rcases List.mem_cons.mp z with z | z
    · rw [z] at ha; exact (r.fresh h).1 ha
    · exact r.nb a ha z
  hb := fun a ha e => by
    rcases List.mem_cons.mp ha with z | z
    · rw [z, upd_same] at e; cases e
    · refine r.hb a z ?_
      by_cases q : a = p
      · rw [q]; exact h
      · rw [upd_ne q] at e; exact e
  ob := fun n o' a h1 h2 => OO.mv (mv_ban h) (fun u e => by rw [upd_ne (ne_of_none e h)]; exact e) (r.ob n o' a h1 h2)
  len := r.len
  sl := fun i d e => (r.sl i d e).imp id fun ⟨v, h1, h2⟩ => ⟨v, h1, RD.mv (mv_ban h) d v h2⟩
theorem mv_unban {p : Addr} : Mv { c with B := p :: c.B } c H H :=
  ⟨fun a u q e => ⟨⟨q.1, fun z => q.2 (List.mem_cons_of_mem _ z)⟩, e⟩, fun _ _ e => e, rfl, rfl⟩
theorem Rel.unban {p : Addr} (r : Rel { c with B := p :: c.B } S σd σ H) : Rel c S σd σ H where
  ol := r.ol
  nd := r.nd
  nb := fun a ha z => r.nb a ha (List.mem_cons_of_mem _ z)
  hb := fun a ha e => r.hb a (List.mem_cons_of_mem _ ha) e
  ob := fun n o' a h1 h2 => OO.mv mv_unban (fun u e => e) (r.ob n o' a h1 h2)
  len := r.len
  sl := fun i d e => (r.sl i d e).imp id fun ⟨v, h1, h2⟩ => ⟨v, h1, RD.mv mv_unban d v h2⟩
theorem Step.back {S' : Sto} (s : Step c.O H O1 H1) (r : RelS (c.at O1) S' H1) {p : Addr} (h : H1 p = none) : H p = none := by
  cases e : H p with
  | none => rfl
  | some o =>
    by_cases q : p ∈ c.O
    · obtain ⟨t, ht⟩ := s.pre
      exact absurd (show p ∈ (c.at O1).O by rw [show (c.at O1).O = c.O ++ t from ht]; exact List.mem_append_left _ q) (r.fresh h).1
    · rw [(s.kp p o q e).1] at h; cases h
theorem PostN.step {r : R (List D)} {Q : VK} {S' : Sto} (s : Step c.O H O1 H1) (rl : RelS (c.at O1) S' H1) (p : PostN c W σ σd H r Q) : PostN (c.at O1) W σ σd H1 r Q := by
  cases r with
  | ok d S' => exact fun v vs O' H' h0 h1 h2 h3 h4 h5 => p v vs O' H' (s.back rl h0) h1 h2 h3 h4 (s.trans h5)
  | exc k ns ds S' => exact fun dd O' H' h1 h2 h3 => p dd O' H' h1 h2 (s.trans h3)
  | bad => exact p
theorem rdN_then {K : PySem.W.Frag} {G : Nat → Addr} {B O : List Addr} {a : M α} {f : α → M (List D)} {Q : VK} (r : Rel ⟨K, G, B, O⟩ S σd σ H) (p : PostN ⟨K, G, B, O⟩ W σ σd H (mB a f σd S) Q) :
    rdG rel ⟨K, G⟩ W a σ H fun v H1 => ∃ d O1 S1, Rel ⟨K, G, B, O1⟩ S1 σd σ H1 ∧ rel ⟨K, G, B, O1⟩ H1 d v ∧ Step O H O1 H1 ∧ PostN ⟨K, G, B, O1⟩ W σ σd H1 (f d σd S1) Q := by
  refine ⟨B, O, S, σd, r, ?_⟩
  unfold mB at p
  revert p
  cases a σd S with
  | ok d S' => exact fun p v O' H' h1 h2 h3 => ⟨d, O', S', h1, h2, h3, PostN.step (c := ⟨K, G, B, O⟩) h3 h1.toRelS p⟩
  | exc k ns ds S' => exact fun p dd O' H' h1 h2 h3 => p dd O' H' h1 h2 h3
  | bad => exact fun p => p.elim
theorem postN_new {Q : VK} {ds : List D} {vs : List V} (p : PostN c W σ σd H (.ok ds S) Q) (r : Rel c S σd σ H) (h : RDs c H ds vs) : ∀ a, H a = none → Q (.ref a) (upd H a (.lst vs)) :=
  fun a n => p a vs c.O _ n (r.ban n) (r.fresh n).2 upd_same (RDs.mv (mv_ban n) ds vs h) (Step.new n)
end
theorem PE.imp {X : Cx} {e : Expr} {t t' : TE} (h : PE X e t) (i : ∀ σ H Q, t' σ H Q → t σ H Q) : PE X e t' := ⟨fun pins s σ H Q I q => h.run pins s σ H Q I (i σ H Q q)⟩
theorem PA.imp {X : Cx} {e : List Expr} {t t' : TA} (h : PA X e t) (i : ∀ σ H Q, t' σ H Q → t σ H Q) : PA X e t' := ⟨fun pos pins s σ H Q I q => h.run pos pins s σ H Q I (i σ H Q q)⟩
theorem PS.imp {X : Cx} {e : Stmt} {t t' : TS} (h : PS X e t) (i : ∀ D σ H, t' D σ H → t D σ H) : PS X e t' := ⟨fun pins s σ H D I q => h.run pins s σ H D I (i D σ H q)⟩
theorem PSs.imp {X : Cx} {e : List Stmt} {t t' : TS} (h : PSs X e t) (i : ∀ D σ H, t' D σ H → t D σ H) : PSs X e t' := ⟨fun pins s σ H D I q => h.run pins s σ H D I (i D σ H q)⟩
theorem PT.imp {X : Cx} {e : Expr} {t t' : TT} (h : PT X e t) (i : ∀ σ H Q, t' σ H Q → t σ H Q) : PT X e t' := ⟨fun pins s σ H Q I q => h.run pins s σ H Q I (i σ H Q q)⟩
theorem PW.imp {X : Cx} {e : Expr} {t t' : TT} (h : PW X e t) (i : ∀ σ H Q, t' σ H Q → t σ H Q) : PW X e t' := ⟨fun wh pins s σ H Q I q => h.run wh pins s σ H Q I (i σ H Q q)⟩
theorem PO.imp {X : Cx} {e : Option Expr} {t t' : TO} (h : PO X e t) (i : ∀ σ H Q, t' σ H Q → t σ H Q) : PO X e t' := ⟨fun pins s σ H Q I q => h.run pins s σ H Q I (i σ H Q q)⟩
end DL

namespace DL
open PySem PySem.Spec PyProof.Rows L2
section
variable {X : Cx} {pins : List (Addr × Obj)} {σ : L2.St} {H : Hp} {s : Shared}
/-- what a rule that lays a tuple asks -/
abbrev NewT (xs : List V) (H : Hp) (Q : VK) : Prop := ∀ p o, o.dict = none → H p = none → Q (.ref p) (upd H p (.frz o (.tup xs)))
theorem laidT {its : List Value} {xs : List V} {t' : Nat} (I : Inv X pins σ H s) (r : Vals xs its) (hz : xs.length ≤ sizeLine) :
    Inv X pins σ (upd H s.heap.objs.size (.frz { cls := .type "tuple", data := .seq its.toArray } (.tup xs))) { s with heap := s.heap.push { cls := .type "tuple", data := .seq its.toArray }, toks := t' } :=
  I.laid (t' := t') (o := .frz { cls := .type "tuple", data := .seq its.toArray } (.tup xs)) (fun b u e => Heap.get?_push_of_some _ e) (Nat.le_refl _) ⟨Heap.get?_push_size _ rfl, hz, its, r, IsTup.new _ _⟩
theorem endT {its : List Value} {xs : List V} {Q : VK} (I : Inv X pins σ H s) (r : Vals xs its) (hz : xs.length ≤ sizeLine) (q : NewT xs H Q) :
    EP X pins σ Q (.ref s.heap.objs.size) { s with heap := s.heap.push { cls := .type "tuple", data := .seq its.toArray } } :=
  ⟨.ref s.heap.objs.size, _, laidT (t' := s.toks) I r hz, rfl, q _ _ rfl (I.hok.fresh (Nat.le_refl _))⟩
end
section
variable {X : Cx} {es : List Expr} {e : Expr} {pos : Pos} {ta : TA} {te : TE}
def tTupF (t : TA) : TE := fun σ H Q => t σ H fun xs H1 => xs.length ≤ sizeLine ∧ NewT xs H1 Q
theorem pe_tupF {x1} (h : PA X es ta) : PE X (.Tuple es x1 pos) (tTupF ta) :=
  ⟨fun pins s σ H Q I hq => wpAny_Tuple_spliced (thn (h.run pos pins s σ H _ I hq) fun us s1 ⟨xs, H1, I1, r, z, q⟩ => ⟨by rw [← r.length]; exact z, endT I1 r z q⟩)⟩
/-- tuple(x) -/
def rTupOf (K : PySem.W.Frag) : List V → Hp → VK → Prop := fun xs H Q => ∃ p ys, xs = [.ref p] ∧ ((SqL K H p ys ∧ NewT ys H Q) ∨ (SqT K H p ys ∧ Q (.ref p) H))
theorem call_tupF : CallR X (.type "tuple") (rTupOf X.K) := by
  intro pins s σ H xs us Q I r h
  obtain ⟨p, ys, rfl, h⟩ := h
  obtain ⟨u, rfl, rx⟩ := vals1 r
  cases rx
  rcases h with ⟨hq, q⟩ | ⟨hq, q⟩
  · obtain ⟨its, r', pl, hz⟩ := I.list hq
    refine call_tuple_list pl.isList (fun h' kp => ?_) (by rw [List.size_toArray, ← r'.length]; exact hz)
    exact endT (s := { s with heap := h' }) (I.kept (t' := s.toks) kp) r' hz q
  · obtain ⟨its, r', pl, hz⟩ := I.tuple hq
    exact call_tuple_same pl ⟨.ref p, H, I, rfl, q⟩
/-- t + u -/
def rCatF (K : PySem.W.Frag) : R2 := fun x y H Q => ∃ a b xs ys, x = .ref a ∧ y = .ref b ∧ SqT K H a xs ∧ SqT K H b ys ∧ xs.length + ys.length ≤ sizeLine ∧
  (xs = [] → Q (.ref b) H) ∧ (xs ≠ [] → ys = [] → Q (.ref a) H) ∧ (xs ≠ [] → ys ≠ [] → NewT (xs ++ ys) H Q)
theorem op_catF : OpR X (binaryOp .Add) (rCatF X.K) := by
  intro pins s σ H x y v u Q I rx ry h
  obtain ⟨a, b, xs, ys, rfl, rfl, ha, hb, hz, q0, q1, q2⟩ := h
  cases rx
  cases ry
  obtain ⟨its, r1, p1, _⟩ := I.tuple ha
  obtain ⟨its2, r2, p2, _⟩ := I.tuple hb
  by_cases hx : xs = []
  · subst hx
    cases r1
    exact cat_tup0 p1 p2 ⟨.ref b, H, I, rfl, q0 rfl⟩
  · refine HT.cat_tup p1 p2 (fun z => hx (r1.nil_iff.mp z)) (fun z => ⟨.ref a, H, I, rfl, q1 hx (r2.nil_iff.mp z)⟩) (fun z => ?_) (by rw [← r1.length, ← r2.length]; exact hz)
    exact endT I (r1.append r2) (by rw [List.length_append]; exact hz) (q2 hx fun w => z (r2.nil_iff.mpr w))
/-- t[lo:hi] -/
def rSlF (K : PySem.W.Frag) : V → Option Int → Option Int → Hp → VK → Prop := fun x lo hi H Q => ∃ a xs, x = .ref a ∧ SqT K H a xs ∧ (cutV xs lo hi = xs → Q (.ref a) H) ∧ NewT (cutV xs lo hi) H Q
theorem cut_whole {xs : List V} {lo hi : Option Int} (h : HT.sIx xs.length 0 lo = 0 ∧ HT.sIx xs.length xs.length hi = xs.length) : cutV xs lo hi = xs := by
  unfold cutV
  rw [h.1, h.2]
  simp
theorem sl_tupF : SlR X (rSlF X.K) := by
  intro pins s σ H x v vl vu lo hi sl Q I rx hs pl pu h
  obtain ⟨a, xs, rfl, hx, q1, q2⟩ := h
  cases rx
  obtain ⟨its, r, ht, hz⟩ := I.tuple hx
  have hlen : its.toArray.size = xs.length := by rw [List.size_toArray]; exact r.length.symm
  refine ⟨"tuple", _, PyProof.Rows.slot_tuple_getitem.lookup, ht.typeIs, ?_⟩
  by_cases hw : HT.sIx xs.length 0 lo = 0 ∧ HT.sIx xs.length xs.length hi = xs.length
  · exact getItem_tuple_whole ht hs pl pu (by rw [hlen]; exact hw) ⟨.ref a, H, I, rfl, q1 (cut_whole hw)⟩
  · refine HT.getItem_tuple_cut ht hs pl pu (by rw [hlen]; exact hw) ?_ (by rw [hlen]; exact hz)
    rw [hlen]
    exact endT I ((r.drop (HT.sIx xs.length 0 lo)).take (HT.sIx xs.length xs.length hi - HT.sIx xs.length 0 lo)) (Nat.le_trans (cutV_length xs lo hi) hz) q2
/-- tuple(range(..)) -/
def tTupRgF (te : L2.St → Hp → (Int → Int → Hp → Prop) → Prop) : TE := fun σ H Q => te σ H fun a b H1 => RgOk a b ∧ NewT (rgV a b) H1 Q
theorem pe_tupRgF {p : Pos} {te : L2.St → Hp → (Int → Int → Hp → Prop) → Prop} (hc : X.calm = true) (hg : Gl X "tuple") (hm : X.mg "tuple" = none) (he : PRg X e te) (na : starEach [e] X.env = (false, eval e X.env) :: starEach [] X.env := by rfl) : PE X (.Call (.Name "tuple" p) [e] [] pos) (tTupRgF te) := by
  refine ⟨fun pins s σ H Q I h => ?_⟩
  refine Call_ (ld_blt I hg hm boot_tuple (PyProof.Rows.callWith_type1 (args_cons (thn (he pins s σ H _ I h) fun x s1 ⟨r, a, b, t, u, v, H1, ex, hr, I1, ok, q⟩ => args_nil ?_) na) na))
  subst ex
  obtain ⟨b1, b2, b3, b4, b5⟩ := ok
  refine call_tuple_range (n := (b - a).toNat) (I1.ok.hd hc) hr (small_one b1 b2 b3 b4) (rangeSize_nat a b) b5 fun h' tk acc hk hi => ?_
  have e : acc = acc.toList.toArray := by rw [Array.toArray_toList]
  have I2 : Inv X pins σ H1 { s1 with heap := h', toks := tk } := I1.kept hk
  rw [e]
  exact endT (s := { s1 with heap := h', toks := tk }) I2 (vals_rg hi) (by rw [rgV_length, sizeLine_eq]; omega) q
/-- t.count(x), flat things: the method of a tuple of its own -/
def tCountT (to te : TE) : TE := fun σ H Q => to σ H fun x H1 => ∃ a xs, x = .ref a ∧ TupAt H1 a xs ∧ te σ H1 fun y H2 => TupAt H2 a xs ∧ flatV y = true ∧ xs.all flatV = true ∧ Q (.int ((xs.countP fun z => eqV z y) : Nat)) H2
theorem countP_vals {y : V} : ∀ {xs : List V} {us : List Value}, Vals xs us → xs.all flatV = true → us.countP (eqU y) = xs.countP fun z => eqV z y
  | _, _, .nil, _ => rfl
  | _, _, .cons r t, h => by
    rw [List.all_cons, Bool.and_eq_true] at h
    rw [List.countP_cons, List.countP_cons, countP_vals t h.2, eqU_of r h.1]
theorem pe_countT {o : Expr} {apos : Pos} {to : TE} (ho : PE X o to) (he : PE X e te)
    (hbase : attributeBase o "count" X.env (eval o X.env) = eval o X.env := by rfl) (hline : (apos.endLine == pos.line) = true := by rfl) (hs : starEach [e] X.env = [(false, eval e X.env)] := by rfl) :
    PE X (.Call (.Attribute o "count" apos) [e] [] pos) (tCountT to te) := by
  refine ⟨fun pins s σ H Q I h => ?_⟩
  refine wpAny_Call_method_late hbase (by rw [hs]; rfl) hline rfl (thn (ho.run pins s σ H _ I h) fun v s1 ⟨x, H1, I1, r1, a, xs, ex, ta, q1⟩ => ?_)
  subst ex
  cases r1
  obtain ⟨ob, hob, hdn⟩ := ta
  obtain ⟨hg, _⟩ := (show ObjOk X.prog X.w H1 s1.heap a (.frz ob (.tup xs)) from I1.hok a _ hob)
  obtain ⟨its, rv, ht, hz⟩ := I1.tuple (X := X) (.inl (.inr ⟨ob, hob⟩))
  refine ⟨"tuple", "tuple.count", PySem.F.plainAttrs_tuple, PySem.F.slot_tuple_count, PySem.F.type_tuple_count, ht.typeIs, fun b eb => ?_, ?_⟩
  · cases eb
    exact ⟨ob, hg, hdn⟩
  · rw [hs]
    refine Calls.callWith_builtin rfl (Calls.evalArgs_plain ?_)
    refine Calls.spliced_cons (thn (he.run pins s1 σ H1 _ I1 q1) fun w s2 ⟨y, H2, I2, r2, ta2, fy, fx, q2⟩ => Calls.spliced_nil ?_)
    obtain ⟨its2, rv2, ht2, hz2⟩ := I2.tuple (X := X) (ta2.sq)
    obtain ⟨⟨cls, dd, data, slo⟩, hgo, hcl, n, hda⟩ := ht2
    simp only at hcl hda
    subst hcl hda
    refine call_meets PySem.F.slot_tuple_count ⟨_, hgo, rfl⟩ PySem.F.entry_tuple_count (PySem.F.args_tuple_count_2 _ _) (SeqAt.tuple_countAt a its2.toArray n dd slo w (eqU y)) ⟨hgo, fun z hz => ?_, ?_⟩
    · exact mem_eqAt r2 fy rv2 fx z (by simpa using hz)
    · exact ⟨.int _, H2, I2.tok _, ⟨s2.toks, by rw [← countP_vals rv2 fx]⟩, q2⟩
end
end DL

namespace DL
open PySem PySem.Spec PyProof.Rows L2
def LIM : Nat := 100000
theorem lim_ok {n : Nat} (h : n ≤ LIM) : n ≤ sizeLine := Nat.le_trans h (by decide)
theorem lim_lt {n : Nat} (h : n < LIM) : n < sizeLine := Nat.lt_of_lt_of_le h (by decide)
def live : D → Bool | .dead => false | _ => true
def lstOf (S : Sto) : D → Option (List D)
  | .lst ds => some ds
  | .ref n => match S[n]? with | some (.lst ds) => some ds | _ => none
  | _ => none
def tupOf : D → Option (List D) | .tup ds => some ds | _ => none
def seqOf (S : Sto) (d : D) : Option (List D) := match tupOf d with | some ds => some ds | none => lstOf S d
section
variable {c : Ct} {S : Sto} {H : Hp} {d : D} {ds : List D} {v : V}
theorem lstOf_ok (r : RelS c S H) (h : RD c H d v) (e : lstOf S d = some ds) : ∃ a vs, v = .ref a ∧ H a = some (.lst vs) ∧ RDs c H ds vs := by
  cases d with
  | lst xs =>
    cases Option.some.inj e
    obtain ⟨a, vs, e, _, h1, h2⟩ := h
    exact ⟨a, vs, e, h1, h2⟩
  | ref n =>
    obtain ⟨a, ho, rfl⟩ := h
    unfold lstOf at e
    simp only at e
    split at e
    · next xs q =>
      cases Option.some.inj e
      obtain ⟨vs, h1, h2⟩ := r.ob n _ a q ho
      exact ⟨a, vs, rfl, h1, h2⟩
    · cases e
  | _ => cases e
theorem tupOf_ok (h : RD c H d v) (e : tupOf d = some ds) : ∃ a vs, v = .ref a ∧ TupAt H a vs ∧ RDs c H ds vs := by
  cases d with
  | tup xs =>
    cases Option.some.inj e
    obtain ⟨a, vs, e, _, h1, h2⟩ := h
    exact ⟨a, vs, e, h1, h2⟩
  | _ => cases e
theorem seqOf_ok {K : PySem.W.Frag} (r : RelS c S H) (h : RD c H d v) (e : seqOf S d = some ds) : ∃ a vs, v = .ref a ∧ (SqL K H a vs ∨ SqT K H a vs) ∧ RDs c H ds vs := by
  unfold seqOf at e
  split at e
  · next q =>
    cases Option.some.inj e
    obtain ⟨a, vs, e1, h1, h2⟩ := tupOf_ok h q
    exact ⟨a, vs, e1, .inr h1.sq, h2⟩
  · obtain ⟨a, vs, e1, h1, h2⟩ := lstOf_ok r h e
    exact ⟨a, vs, e1, .inl (SqL.of h1), h2⟩
end
mutual
def toPy : D → PyData
  | .bl b => .bool b
  | .int i => .int i
  | .str x => .str x
  | .tup ds => .tuple (toPys ds)
  | .lst ds => .list (toPys ds)
  | _ => .none
def toPys : List D → List PyData
  | [] => []
  | d :: ds => toPy d :: toPys ds
end
def eqD (x y : D) : Bool := PyData.eqv (toPy x) (toPy y)
def eqDs (x y : List D) : Bool := PyData.eqvAll (toPys x) (toPys y)
mutual
def pln : Nat → D → Bool
  | _, .non => true
  | _, .bl _ => true
  | _, .int _ => true
  | _, .str x => PyData.canLay0 (.str x)
  | n, .tup ds => match n with | 0 => false | m + 1 => plns m ds
  | n, .lst ds => match n with | 0 => false | m + 1 => plns m ds
  | _, _ => false
def plns : Nat → List D → Bool
  | _, [] => true
  | n, d :: ds => pln n d && plns n ds
end
mutual
theorem pln_lay : ∀ (n : Nat) (d : D), pln n d = true → (toPy d).canLay0 = true ∧ (toPy d).depth ≤ n
  | _, .non, _ => ⟨rfl, Nat.zero_le _⟩
  | _, .bl _, _ => ⟨rfl, Nat.zero_le _⟩
  | _, .int _, _ => ⟨rfl, Nat.zero_le _⟩
  | _, .str x, h => ⟨by simpa [toPy, pln] using h, Nat.zero_le _⟩
  | 0, .tup ds, h => by simp [pln] at h
  | n + 1, .tup ds, h => by
    have h' : plns n ds = true := by simpa [pln] using h
    obtain ⟨a, b⟩ := plns_lay n ds h'
    exact ⟨by simpa [toPy, PyData.canLay0] using a, by simpa [toPy, PyData.depth] using b⟩
  | 0, .lst ds, h => by simp [pln] at h
  | n + 1, .lst ds, h => by
    have h' : plns n ds = true := by simpa [pln] using h
    obtain ⟨a, b⟩ := plns_lay n ds h'
    exact ⟨by simpa [toPy, PyData.canLay0] using a, by simpa [toPy, PyData.depth] using b⟩
  | _, .dead, h => by simp [pln] at h
  | _, .dic _ _, h => by simp [pln] at h
  | _, .ins _ _ _, h => by simp [pln] at h
  | _, .ref _, h => by simp [pln] at h
  | _, .scr _, h => by simp [pln] at h
  | _, .ty _, h => by simp [pln] at h
  | _, .xc _ _ _ _, h => by simp [pln] at h
theorem plns_lay : ∀ (n : Nat) (ds : List D), plns n ds = true → PyData.canLayAll0 (toPys ds) = true ∧ PyData.depthAll (toPys ds) ≤ n
  | _, [], _ => ⟨rfl, Nat.zero_le _⟩
  | n, d :: ds, h => by
    have h' : pln n d = true ∧ plns n ds = true := by simpa [plns] using h
    obtain ⟨a, b⟩ := pln_lay n d h'.1
    obtain ⟨a2, b2⟩ := plns_lay n ds h'.2
    exact ⟨by simp [toPys, PyData.canLayAll0, a, a2], by simp [toPys, PyData.depthAll]; omega⟩
end
theorem pln_shaped {d : D} (h : pln 64 d = true) : SeqAt.shaped (toPy d) = true := by
  obtain ⟨a, b⟩ := pln_lay 64 d h
  unfold SeqAt.shaped
  rw [a, decide_eq_true b]
  rfl
mutual
theorem dp_of {c : Ct} {H : Hp} {K : PySem.W.Frag} : ∀ (n : Nat) (d : D) (v : V), pln n d = true → RD c H d v → Dp K H v (toPy d)
  | _, .non, _, _, h => by cases (show _ = _ from h); exact .non
  | _, .bl _, _, _, h => by cases (show _ = _ from h); exact .bl _
  | _, .int _, _, _, h => by cases (show _ = _ from h); exact .int _
  | _, .str _, _, _, h => by cases (show _ = _ from h); exact .str _
  | 0, .tup ds, _, h, _ => by simp [pln] at h
  | n + 1, .tup ds, _, h, ⟨a, vs, e, _, t, r⟩ => by
    have h' : plns n ds = true := by simpa [pln] using h
    subst e
    exact .tup t.sq (dps_of n ds vs h' r)
  | 0, .lst ds, _, h, _ => by simp [pln] at h
  | n + 1, .lst ds, _, h, ⟨a, vs, e, _, t, r⟩ => by
    have h' : plns n ds = true := by simpa [pln] using h
    subst e
    exact .lst (SqL.of t) (dps_of n ds vs h' r)
  | _, .dead, _, h, _ => by simp [pln] at h
  | _, .dic _ _, _, h, _ => by simp [pln] at h
  | _, .ins _ _ _, _, h, _ => by simp [pln] at h
  | _, .ref _, _, h, _ => by simp [pln] at h
  | _, .scr _, _, h, _ => by simp [pln] at h
  | _, .ty _, _, h, _ => by simp [pln] at h
  | _, .xc _ _ _ _, _, h, _ => by simp [pln] at h
theorem dps_of {c : Ct} {H : Hp} {K : PySem.W.Frag} : ∀ (n : Nat) (ds : List D) (vs : List V), plns n ds = true → RDs c H ds vs → DpAll K H vs (toPys ds)
  | _, [], _, _, h => by cases (show _ = _ from h); exact .nil
  | n, d :: ds, _, h, ⟨v, vs', e, r, t⟩ => by
    have h' : pln n d = true ∧ plns n ds = true := by simpa [plns] using h
    subst e
    exact .cons (dp_of n d v h'.1 r) (dps_of n ds vs' h'.2 t)
end
/-- a thing of the store seen as it stands now -/
def view (S : Sto) (d : D) : D := match d with
  | .ref n => match S[n]? with | some (.lst ds) => .lst ds | _ => .dead
  | d => d
theorem dp_view {c : Ct} {H : Hp} {K : PySem.W.Frag} {S : Sto} {d : D} {v : V} (r : RelS c S H) (h : RD c H d v) (p : pln 64 (view S d) = true) : Dp K H v (toPy (view S d)) := by
  cases d with
  | ref n =>
    unfold view at p ⊢
    simp only at p ⊢
    obtain ⟨a, ho, rfl⟩ := h
    split at p
    · next ds q =>
      obtain ⟨vs, h1, h2⟩ := r.ob n _ a q ho
      exact .lst (SqL.of h1) (dps_of 63 ds vs (by simpa [pln] using p) h2)
    · simp [pln] at p
  | _ => exact dp_of 64 _ v p h

section
variable {g : Gx} {W : WX} {X : Cx} {e a b : Expr} {pos : Pos}
def mVar (i : Nat) : M D := fun σd S => match σd[i]? with
  | some d => if live d then .ok d S else .bad
  | none => .bad
def mC (d : D) : M D := fun _ S => .ok d S
theorem se_var {i : Nat} (h : PE X e (tVar i)) : PE X e (rdE g W (mVar i)) := PE.imp h fun σ H Q ⟨B, O, S, σd, r, p⟩ => by
  unfold mVar at p
  split at p
  · next d q =>
    cases hl : live d with
    | false => rw [hl] at p; exact p.elim
    | true =>
      rw [hl] at p
      rcases r.sl i d q with z | ⟨v, h1, h2⟩
      · subst z; cases hl
      · exact ⟨v, h1, post_val p r h2⟩
  · exact p.elim
theorem se_c {d : D} {v : V} (h : PE X e (tC v)) (hd : ∀ c H, RD c H d v) : PE X e (rdE g W (mC d)) := PE.imp h fun σ H Q ⟨B, O, S, σd, r, p⟩ => post_val p r (hd _ _)
theorem se_int {i : Int} {j} : PE X (.Constant (.int i) j pos) (rdE g W (mC (.int i))) := se_c pe_int fun _ _ => rfl
theorem se_bl {i : Bool} {j} : PE X (.Constant (.bool i) j pos) (rdE g W (mC (.bl i))) := se_c pe_bl fun _ _ => rfl
theorem se_non {j} : PE X (.Constant .none j pos) (rdE g W (mC .non)) := se_c pe_non fun _ _ => rfl
theorem se_str {i : Str} {j} : PE X (.Constant (.str i) j pos) (rdE g W (mC (.str i))) := se_c pe_str fun _ _ => rfl
/-- a name of the module that holds an int -/
theorem se_glob {x : Str} {i : Int} {u : Value} (hg : Gl X x) (hm : X.mg x = some u) (r : RelV (.int i) u) (hd : (x == ("__debug__" : Str)) = false := by decide) : PE X (.Name x pos) (rdE g W (mC (.int i))) := se_c (pe_glob hg hm r hd) fun _ _ => rfl
def mOp (f : D → D → Sto → R D) (a b : M D) : M D := mB a fun x => mB b fun y => fun _ S => f x y S
def mUn (f : D → Sto → R D) (a : M D) : M D := mB a fun x => fun _ S => f x S
def OpS (g : Gx) (W : WX) (r : R2) (f : D → D → Sto → R D) : Prop := ∀ {B O : List Addr} {S : Sto} {σd : Sl} {σ : L2.St} {H : Hp} {x y : D} {v w : V} {Q : VK},
  Rel ⟨g.K, g.G, B, O⟩ S σd σ H → RD ⟨g.K, g.G, B, O⟩ H x v → RD ⟨g.K, g.G, B, O⟩ H y w → Post RD ⟨g.K, g.G, B, O⟩ W σ σd H (f x y S) Q → r v w H Q
def UnS (g : Gx) (W : WX) (r : V → Hp → VK → Prop) (f : D → Sto → R D) : Prop := ∀ {B O : List Addr} {S : Sto} {σd : Sl} {σ : L2.St} {H : Hp} {x : D} {v : V} {Q : VK},
  Rel ⟨g.K, g.G, B, O⟩ S σd σ H → RD ⟨g.K, g.G, B, O⟩ H x v → Post RD ⟨g.K, g.G, B, O⟩ W σ σd H (f x S) Q → r v H Q
theorem op_imp {r : R2} {f : D → D → Sto → R D} {ma mb : M D} (hs : OpS g W r f) (σ : L2.St) (H : Hp) (Q : VK) (h : rdE g W (mOp f ma mb) σ H Q) : tOp r (rdE g W ma) (rdE g W mb) σ H Q := by
  obtain ⟨B, O, S, σd, rel, p⟩ := h
  refine rdG_mono (rd_then (rel := RD) rel p) fun v H1 ⟨x, O1, S1, r1, rx, st1, p1⟩ => ?_
  refine rdG_mono (rd_then (rel := RD) r1 p1) fun w H2 ⟨y, O2, S2, r2, ry, st2, p2⟩ => ?_
  exact hs r2 (RD.step (c := ⟨g.K, g.G, B, O1⟩) st2 x v rx) ry p2
theorem un_imp {r : V → Hp → VK → Prop} {f : D → Sto → R D} {ma : M D} (hs : UnS g W r f) (σ : L2.St) (H : Hp) (Q : VK) (h : rdE g W (mUn f ma) σ H Q) : tUn r (rdE g W ma) σ H Q := by
  obtain ⟨B, O, S, σd, rel, p⟩ := h
  exact rdG_mono (rd_then (rel := RD) rel p) fun v H1 ⟨x, O1, S1, r1, rx, st1, p1⟩ => hs r1 rx p1
theorem se_op {op : Operator} {r : R2} {f : D → D → Sto → R D} {ma mb : M D} (ho : OpR X (binaryOp op) r) (hs : OpS g W r f) (ha : PE X a (rdE g W ma)) (hb : PE X b (rdE g W mb)) : PE X (.BinOp a op b pos) (rdE g W (mOp f ma mb)) :=
  PE.imp (pe_op ho ha hb) (op_imp hs)
theorem se_cmp {op : CmpOp} {r : R2} {f : D → D → Sto → R D} {ma mb : M D} (ho : OpR X (compareOp op) r) (hs : OpS g W r f) (ha : PE X a (rdE g W ma)) (hb : PE X b (rdE g W mb)) (hm : behindInMarks op b = false) : PE X (.Compare a [op] [b] pos) (rdE g W (mOp f ma mb)) :=
  PE.imp (pe_cmpR ho ha hb hm) (op_imp hs)
theorem se_un {op : UnaryOp} {r : V → Hp → VK → Prop} {f : D → Sto → R D} {ma : M D} (ho : UnR X (unaryOp op) r) (hs : UnS g W r f) (ha : PE X a (rdE g W ma)) : PE X (.UnaryOp op a pos) (rdE g W (mUn f ma)) :=
  PE.imp (pe_un ho ha) (un_imp hs)
theorem se_ix {r : R2} {f : D → D → Sto → R D} {ma mb : M D} (ho : IxR X r) (hs : OpS g W r f) (ha : PE X a (rdE g W ma)) (hb : PE X b (rdE g W mb)) (hx : PlainIx b := by exact fun _ _ => rfl) : PE X (.Subscript a b pos) (rdE g W (mOp f ma mb)) :=
  PE.imp (pe_ix ho ha hb hx) (op_imp hs)
def fInt (f : Int → Int → D) (x y : D) (S : Sto) : R D := match x with
  | .int i => match y with
    | .int j => .ok (f i j) S
    | _ => .bad
  | _ => .bad
def fIntC (C : Int → Int → Prop) [∀ i j, Decidable (C i j)] (f : Int → Int → D) (x y : D) (S : Sto) : R D := match x with
  | .int i => match y with
    | .int j => if C i j then .ok (f i j) S else .bad
    | _ => .bad
  | _ => .bad
theorem fInt_ok {f : Int → Int → D} {k : Int → Int → V} (hk : ∀ c H i j, RD c H (f i j) (k i j)) : OpS g W (rI0 k) (fInt f) := fun {B O S σd σ H x y v w Q} r hx hy p => by
  unfold fInt at p
  split at p
  · split at p
    · cases (show _ = _ from hx)
      cases (show _ = _ from hy)
      exact ⟨_, _, rfl, rfl, post_val p r (hk _ _ _ _)⟩
    · exact p.elim
  · exact p.elim
theorem fIntC_ok {C C' : Int → Int → Prop} [∀ i j, Decidable (C i j)] {f : Int → Int → D} {k : Int → Int → V} (hc : ∀ i j, C i j → C' i j) (hk : ∀ c H i j, C i j → RD c H (f i j) (k i j)) : OpS g W (rI C' k) (fIntC C f) := fun {B O S σd σ H x y v w Q} r hx hy p => by
  unfold fIntC at p
  split at p
  · split at p
    · cases (show _ = _ from hx)
      cases (show _ = _ from hy)
      split at p
      · next h => exact ⟨_, _, rfl, rfl, hc _ _ h, post_val p r (hk _ _ _ _ h)⟩
      · exact p.elim
    · exact p.elim
  · exact p.elim
theorem OpS.or {r r' : R2} {f : D → D → Sto → R D} (h : ∀ {B O : List Addr} {S : Sto} {σd : Sl} {σ : L2.St} {H : Hp} {x y : D} {v w : V} {Q : VK}, Rel ⟨g.K, g.G, B, O⟩ S σd σ H → RD ⟨g.K, g.G, B, O⟩ H x v → RD ⟨g.K, g.G, B, O⟩ H y w → Post RD ⟨g.K, g.G, B, O⟩ W σ σd H (f x y S) Q → r v w H Q ∨ r' v w H Q) :
    OpS g W (fun x y H Q => r x y H Q ∨ r' x y H Q) f := fun {B O S σd σ H x y v w Q} r hx hy p => h r hx hy p
end
end DL

namespace DL
open PySem PySem.Spec PyProof.Rows L2
section
variable {g : Gx} {W : WX} {X : Cx} {e a b : Expr} {pos : Pos}
def fAdd (x y : D) (S : Sto) : R D := match x with
  | .int i => match y with
    | .int j => .ok (.int (i + j)) S
    | _ => .bad
  | .str i => match y with
    | .str j => if i.length + j.length ≤ LIM then .ok (.str (i ++ j)) S else .bad
    | _ => .bad
  | .tup i => match y with
    | .tup j => if i.length + j.length ≤ LIM then .ok (.tup (i ++ j)) S else .bad
    | _ => .bad
  | x => match lstOf S x with
    | some i => match lstOf S y with
      | some j => if i.length + j.length ≤ LIM then .ok (.lst (i ++ j)) S else .bad
      | none => .bad
    | none => .bad
abbrev rAddAll (K : PySem.W.Frag) : R2 := fun x y H Q => (((rI0 fun i j => V.int (i + j)) x y H Q ∨ ∃ i j, x = .str i ∧ y = .str j ∧ i.length + j.length ≤ sizeLine ∧ Q (.str (i ++ j)) H) ∨ rCatF K x y H Q) ∨ rCat x y H Q
theorem op_addAll : OpR X (binaryOp .Add) (rAddAll X.K) := ((op_add.or op_add_str).or op_catF).or op_cat
theorem fAdd_lst {K : PySem.W.Frag} {B O : List Addr} {S : Sto} {σd : Sl} {σ : L2.St} {H : Hp} {x y : D} {v w : V} {Q : VK} (r : Rel ⟨g.K, g.G, B, O⟩ S σd σ H) (hx : RD ⟨g.K, g.G, B, O⟩ H x v) (hy : RD ⟨g.K, g.G, B, O⟩ H y w)
    (p : Post RD ⟨g.K, g.G, B, O⟩ W σ σd H (match lstOf S x with
    | some i => match lstOf S y with
      | some j => if i.length + j.length ≤ LIM then .ok (.lst (i ++ j)) S else .bad
      | none => .bad
    | none => .bad) Q) : rCat v w H Q := by
  split at p
  · next i qi =>
    split at p
    · next j qj =>
      split at p
      · next hl =>
        obtain ⟨l, xs, rfl, h1, r1⟩ := lstOf_ok r.toRelS hx qi
        obtain ⟨l2, ys, rfl, h2, r2⟩ := lstOf_ok r.toRelS hy qj
        exact ⟨l, l2, xs, ys, rfl, rfl, h1, h2, by rw [← r1.length, ← r2.length]; exact lim_ok hl, post_newL p r (r1.append r2)⟩
      · exact p.elim
    · exact p.elim
  · exact p.elim
theorem fAdd_ok {K : PySem.W.Frag} : OpS g W (rAddAll K) fAdd := fun {B O S σd σ H x y v w Q} r hx hy p => by
  unfold fAdd at p
  cases x with
  | int i =>
    cases y with
    | int j =>
      cases (show _ = _ from hx)
      cases (show _ = _ from hy)
      exact .inl (.inl (.inl ⟨_, _, rfl, rfl, post_val p r rfl⟩))
    | _ => exact p.elim
  | str i =>
    cases y with
    | str j =>
      cases (show _ = _ from hx)
      cases (show _ = _ from hy)
      simp only at p
      split at p
      · next hl => exact .inl (.inl (.inr ⟨_, _, rfl, rfl, lim_ok hl, post_val p r rfl⟩))
      · exact p.elim
    | _ => exact p.elim
  | tup i =>
    cases y with
    | tup j =>
      simp only at p
      split at p
      · next hl =>
        obtain ⟨t, xs, rfl, ht, h1, r1⟩ := id hx
        obtain ⟨u, ys, rfl, hu, h2, r2⟩ := id hy
        refine .inl (.inr ⟨t, u, xs, ys, rfl, rfl, h1.sq, h2.sq, by rw [← r1.length, ← r2.length]; exact lim_ok hl, fun ex => ?_, fun _ ey => ?_, fun _ _ => post_newT p r (r1.append r2)⟩)
        · have e0 : i = [] := List.eq_nil_of_length_eq_zero (by rw [r1.length, ex]; rfl)
          rw [e0] at p
          exact post_val p r hy
        · have e0 : j = [] := List.eq_nil_of_length_eq_zero (by rw [r2.length, ey]; rfl)
          rw [e0, List.append_nil] at p
          exact post_val p r hx
      · exact p.elim
    | _ => exact p.elim
  | lst i => exact .inr (fAdd_lst (K := K) r hx hy p)
  | ref n => exact .inr (fAdd_lst (K := K) r hx hy p)
  | _ => exact p.elim
theorem se_add {ma mb : M D} (ha : PE X a (rdE g W ma)) (hb : PE X b (rdE g W mb)) : PE X (.BinOp a .Add b pos) (rdE g W (mOp fAdd ma mb)) := se_op op_addAll fAdd_ok ha hb
def fSub : D → D → Sto → R D := fInt fun i j => .int (i - j)
theorem se_sub {ma mb : M D} (ha : PE X a (rdE g W ma)) (hb : PE X b (rdE g W mb)) : PE X (.BinOp a .Sub b pos) (rdE g W (mOp fSub ma mb)) := se_op op_sub (fInt_ok (by intros; rfl)) ha hb
def fMod : D → D → Sto → R D := fIntC (fun _ j => 0 < j) fun i j => .int (i % j)
theorem se_mod {ma mb : M D} (ha : PE X a (rdE g W ma)) (hb : PE X b (rdE g W mb)) : PE X (.BinOp a .Mod b pos) (rdE g W (mOp fMod ma mb)) := se_op op_mod (fIntC_ok (fun _ _ h => h) (by intros; rfl)) ha hb
/-- // by a positive divisor of at most 9000 bits -/
def fDiv : D → D → Sto → R D := fIntC (fun _ j => 0 < j ∧ j < 2 ^ 9000) fun i j => .int (i / j)
theorem cdivw {i j : Int} (h : 0 < j ∧ j < 2 ^ 9000) : CDivW i j := by
  refine wide_div (b := 9000) h.1 ?_ (by decide) (Nat.le_refl _)
  have h0 := h.1
  have h1 : ((j.natAbs : Nat) : Int) < ((2 ^ 9000 : Nat) : Int) := by
    rw [Int.natAbs_of_nonneg (by omega), Int.natCast_pow]
    exact h.2
  exact Int.ofNat_lt.mp h1
theorem se_div {ma mb : M D} (ha : PE X a (rdE g W ma)) (hb : PE X b (rdE g W mb)) : PE X (.BinOp a .FloorDiv b pos) (rdE g W (mOp fDiv ma mb)) := se_op op_fdivW (fIntC_ok (fun _ _ h => cdivw h) (by intros; rfl)) ha hb
def fPow : D → D → Sto → R D := fIntC (fun i j => 0 ≤ j ∧ j ≤ 1000 ∧ 0 ≤ i ∧ i < 1000) fun i j => .int (i ^ j.toNat)
theorem se_pow {ma mb : M D} (ha : PE X a (rdE g W ma)) (hb : PE X b (rdE g W mb)) : PE X (.BinOp a .Pow b pos) (rdE g W (mOp fPow ma mb)) :=
  se_op op_pow (fIntC_ok (fun i j h => ⟨h.1, by omega, by omega⟩) (by intros; rfl)) ha hb
def fLt0 : D → D → Sto → R D := fInt fun i j => .bl (decide (i < j))
def fLe : D → D → Sto → R D := fInt fun i j => .bl (decide (i ≤ j))
def fGt : D → D → Sto → R D := fInt fun i j => .bl (decide (j < i))
def fGe : D → D → Sto → R D := fInt fun i j => .bl (decide (j ≤ i))
theorem se_lt0 {ma mb : M D} (ha : PE X a (rdE g W ma)) (hb : PE X b (rdE g W mb)) : PE X (.Compare a [.Lt] [b] pos) (rdE g W (mOp fLt0 ma mb)) := se_cmp op_lt (fInt_ok (by intros; rfl)) ha hb (nomark _)
theorem se_le {ma mb : M D} (ha : PE X a (rdE g W ma)) (hb : PE X b (rdE g W mb)) : PE X (.Compare a [.LtE] [b] pos) (rdE g W (mOp fLe ma mb)) := se_cmp op_le (fInt_ok (by intros; rfl)) ha hb (nomark _)
theorem se_gt {ma mb : M D} (ha : PE X a (rdE g W ma)) (hb : PE X b (rdE g W mb)) : PE X (.Compare a [.Gt] [b] pos) (rdE g W (mOp fGt ma mb)) := se_cmp op_gt (fInt_ok (by intros; rfl)) ha hb (nomark _)
theorem se_ge {ma mb : M D} (ha : PE X a (rdE g W ma)) (hb : PE X b (rdE g W mb)) : PE X (.Compare a [.GtE] [b] pos) (rdE g W (mOp fGe ma mb)) := se_cmp op_ge (fInt_ok (by intros; rfl)) ha hb (nomark _)
def fEq (x y : D) (S : Sto) : R D := if pln 64 (view S x) && pln 64 (view S y) then .ok (.bl (eqD (view S x) (view S y))) S else .bad
def fNe (x y : D) (S : Sto) : R D := if pln 64 (view S x) && pln 64 (view S y) then .ok (.bl (!eqD (view S x) (view S y))) S else .bad
theorem fEq_ok {K : PySem.W.Frag} : OpS g W (rEqD K) fEq := fun {B O S σd σ H x y v w Q} r hx hy p => by
  unfold fEq at p
  split at p
  · next h =>
    obtain ⟨h1, h2⟩ := Bool.and_eq_true_iff.mp h
    exact ⟨_, _, dp_view r.toRelS hx h1, dp_view r.toRelS hy h2, pln_shaped h1, pln_shaped h2, post_val p r rfl⟩
  · exact p.elim
theorem fNe_ok {K : PySem.W.Frag} : OpS g W (rNeD K) fNe := fun {B O S σd σ H x y v w Q} r hx hy p => by
  unfold fNe at p
  split at p
  · next h =>
    obtain ⟨h1, h2⟩ := Bool.and_eq_true_iff.mp h
    exact ⟨_, _, dp_view r.toRelS hx h1, dp_view r.toRelS hy h2, pln_shaped h1, pln_shaped h2, post_val p r rfl⟩
  · exact p.elim
theorem se_eq {k : Nat} {ma mb : M D} (hr : Room k X.A) (ha : PE X a (rdE g W ma)) (hb : PE X b (rdE g W mb)) : PE X (.Compare a [.Eq] [b] pos) (rdE g W (mOp fEq ma mb)) := se_cmp (op_eqD hr.units) fEq_ok ha hb (nomark _)
theorem se_ne {k : Nat} {ma mb : M D} (hr : Room k X.A) (ha : PE X a (rdE g W ma)) (hb : PE X b (rdE g W mb)) : PE X (.Compare a [.NotEq] [b] pos) (rdE g W (mOp fNe ma mb)) := se_cmp (op_neD hr.units) fNe_ok ha hb (nomark _)
def isNon : D → Bool | .non => true | _ => false
def fIsN (x : D) (S : Sto) : R D := .ok (.bl (isNon x)) S
def fNotN (x : D) (S : Sto) : R D := .ok (.bl (!isNon x)) S
theorem isNon_ok {c : Ct} {H : Hp} {x : D} {v : V} (h : RD c H x v) : decide (v = .non) = isNon x := by
  cases x with
  | non => cases (show _ = _ from h); rfl
  | dead => exact h.elim
  | bl b => cases (show _ = _ from h); rfl
  | int b => cases (show _ = _ from h); rfl
  | str b => cases (show _ = _ from h); rfl
  | tup ds => obtain ⟨_, _, rfl, _⟩ := h; rfl
  | lst ds => obtain ⟨_, _, rfl, _⟩ := h; rfl
  | dic ks ds => obtain ⟨_, _, rfl, _⟩ := h; rfl
  | ins k ns ds => obtain ⟨_, _, _, rfl, _⟩ := h; rfl
  | ref n => obtain ⟨_, _, rfl⟩ := h; rfl
  | scr ns => obtain ⟨_, rfl, _⟩ := h; rfl
  | ty n => cases (show _ = _ from h); rfl
  | xc a dd ns ds => obtain ⟨rfl, _⟩ := h; rfl
theorem se_isN {j} {pos' : Pos} {ma : M D} (ha : PE X a (rdE g W ma)) : PE X (.Compare a [.Is] [.Constant .none j pos'] pos) (rdE g W (mUn fIsN ma)) :=
  PE.imp (pe_cmp (pc_isN ha)) fun σ H Q ⟨B, O, S, σd, rel, p⟩ => rdG_mono (rd_then (rel := RD) rel p) fun v H1 ⟨x, O1, S1, r1, rx, st1, p1⟩ => by
    rw [isNon_ok rx]
    exact post_val p1 r1 rfl
theorem se_notN {j} {pos' : Pos} {ma : M D} (ha : PE X a (rdE g W ma)) : PE X (.Compare a [.IsNot] [.Constant .none j pos'] pos) (rdE g W (mUn fNotN ma)) :=
  PE.imp (pe_cmp (pc_notN ha)) fun σ H Q ⟨B, O, S, σd, rel, p⟩ => rdG_mono (rd_then (rel := RD) rel p) fun v H1 ⟨x, O1, S1, r1, rx, st1, p1⟩ => by
    rw [isNon_ok rx]
    exact post_val p1 r1 rfl
def flatD : D → Bool | .non => true | .bl _ => true | .int _ => true | .str _ => true | _ => false
theorem flat_of {c : Ct} {H : Hp} {x : D} {v : V} (h : RD c H x v) (f : flatD x = true) : flatV v = true := by
  cases x with
  | non => cases (show _ = _ from h); rfl
  | bl b => cases (show _ = _ from h); rfl
  | int b => cases (show _ = _ from h); rfl
  | str b => cases (show _ = _ from h); rfl
  | _ => cases f
theorem flats_of {c : Ct} {H : Hp} : ∀ {ds : List D} {vs : List V}, RDs c H ds vs → ds.all flatD = true → vs.all flatV = true
  | [], _, h, _ => by rw [show _ = _ from h]; rfl
  | _ :: _, _, ⟨v, vs', e, r, t⟩, f => by
    rw [List.all_cons, Bool.and_eq_true] at f
    rw [e, List.all_cons, flat_of r f.1, flats_of t f.2]
    rfl
theorem eq_flat {c : Ct} {H : Hp} {x y : D} {v w : V} (hx : RD c H x v) (hy : RD c H y w) (fx : flatD x = true) (fy : flatD y = true) : eqV v w = eqD x y := by
  cases x with
  | non => cases (show _ = _ from hx); cases y with
    | non => cases (show _ = _ from hy); rfl
    | bl _ => cases (show _ = _ from hy); rfl
    | int _ => cases (show _ = _ from hy); rfl
    | str _ => cases (show _ = _ from hy); rfl
    | _ => cases fy
  | bl a => cases (show _ = _ from hx); cases y with
    | non => cases (show _ = _ from hy); rfl
    | bl _ => cases (show _ = _ from hy); rfl
    | int _ => cases (show _ = _ from hy); rfl
    | str _ => cases (show _ = _ from hy); rfl
    | _ => cases fy
  | int a => cases (show _ = _ from hx); cases y with
    | non => cases (show _ = _ from hy); rfl
    | bl _ => cases (show _ = _ from hy); rfl
    | int _ => cases (show _ = _ from hy); rfl
    | str _ => cases (show _ = _ from hy); rfl
    | _ => cases fy
  | str a => cases (show _ = _ from hx); cases y with
    | non => cases (show _ = _ from hy); rfl
    | bl _ => cases (show _ = _ from hy); rfl
    | int _ => cases (show _ = _ from hy); rfl
    | str _ => cases (show _ = _ from hy); rfl
    | _ => cases fy
  | _ => cases fx
def inD (x : D) (ds : List D) : Bool := ds.any fun y => eqD y x
theorem in_flat {c : Ct} {H : Hp} {x : D} {v : V} (hx : RD c H x v) (fx : flatD x = true) : ∀ {ds : List D} {vs : List V}, RDs c H ds vs → ds.all flatD = true → inV v vs = inD x ds
  | [], _, h, _ => by rw [show _ = _ from h]; rfl
  | _ :: _, _, ⟨w, vs', e, r, t⟩, f => by
    rw [List.all_cons, Bool.and_eq_true] at f
    subst e
    have ih := in_flat hx fx t f.2
    unfold inV inD at ih ⊢
    rw [List.any_cons, List.any_cons, ih, eq_flat r hx f.1 fx]
def fIn (neg : Bool) (x y : D) (S : Sto) : R D := match seqOf S y with
  | some ds => if flatD x && ds.all flatD then .ok (.bl (if neg then !inD x ds else inD x ds)) S else .bad
  | none => .bad
theorem fIn_ok {K : PySem.W.Frag} {neg : Bool} : OpS g W (rIn K neg) (fIn neg) := fun {B O S σd σ H x y v w Q} r hx hy p => by
  unfold fIn at p
  split at p
  · next ds q =>
    split at p
    · next f =>
      obtain ⟨f1, f2⟩ := Bool.and_eq_true_iff.mp f
      obtain ⟨a, vs, rfl, h1, h2⟩ := seqOf_ok (K := K) r.toRelS hy q
      refine ⟨a, vs, rfl, h1, flat_of hx f1, flats_of h2 f2, post_val p r ?_⟩
      rw [in_flat hx f1 h2 f2]
      rfl
    · exact p.elim
  · exact p.elim
theorem se_in {ma mb : M D} (ha : PE X a (rdE g W ma)) (hb : PE X b (rdE g W mb)) (hm : behindInMarks .In b = false := by rfl) : PE X (.Compare a [.In] [b] pos) (rdE g W (mOp (fIn false) ma mb)) := se_cmp op_in_seq fIn_ok ha hb hm
theorem se_notIn {ma mb : M D} (ha : PE X a (rdE g W ma)) (hb : PE X b (rdE g W mb)) (hm : behindInMarks .NotIn b = false := by rfl) : PE X (.Compare a [.NotIn] [b] pos) (rdE g W (mOp (fIn true) ma mb)) := se_cmp op_notIn_seq fIn_ok ha hb hm
theorem ixN_len {n : Nat} {i : Int} {j : Nat} (h : ixN n i = some j) : j < n := (ixN_seq h).2.1
def fIx (x y : D) (S : Sto) : R D := match y with
  | .int i => match seqOf S x with
    | some ds => match atI ds i with
      | some d => .ok d S
      | none => .bad
    | none => .bad
  | _ => .bad
theorem atI_rd {c : Ct} {H : Hp} {ds : List D} {vs : List V} {i : Int} {d : D} (h : RDs c H ds vs) (e : atI ds i = some d) : ∃ v, atI vs i = some v ∧ RD c H d v := by
  unfold atI at e ⊢
  rw [← h.length]
  cases q : ixN ds.length i with
  | none => rw [q] at e; cases e
  | some j =>
    rw [q] at e
    obtain ⟨v, h1, h2⟩ := h.get (show ds[j]? = some d from e)
    exact ⟨v, h1, h2⟩
theorem fIx_ok {K : PySem.W.Frag} : OpS g W (fun x y H Q => rIxL K x y H Q ∨ rIxT K x y H Q) fIx := fun {B O S σd σ H x y v w Q} r hx hy p => by
  unfold fIx at p
  split at p
  · next i =>
    cases (show _ = _ from hy)
    split at p
    · next ds q =>
      split at p
      · next d q2 =>
        obtain ⟨a, vs, rfl, h1, h2⟩ := seqOf_ok (K := K) r.toRelS hx q
        obtain ⟨u, e1, e2⟩ := atI_rd h2 q2
        rcases h1 with h1 | h1
        · exact .inl ⟨a, vs, i, u, rfl, rfl, h1, e1, post_val p r e2⟩
        · exact .inr ⟨a, vs, i, u, rfl, rfl, h1, e1, post_val p r e2⟩
      · exact p.elim
    · exact p.elim
  · exact p.elim
theorem se_sub1 {ma mb : M D} (ha : PE X a (rdE g W ma)) (hb : PE X b (rdE g W mb)) (hx : PlainIx b := by exact fun _ _ => rfl) : PE X (.Subscript a b pos) (rdE g W (mOp fIx ma mb)) := se_ix (ix_list.or ix_tup) fIx_ok ha hb hx
def mNoPart : M (Option Int) := fun _ S => .ok none S
def mPart (m : M D) : M (Option Int) := mB m fun d => fun _ S => match d with
  | .int i => .ok (some i) S
  | _ => .bad
theorem so_none : PO X none (rdO g W mNoPart) := PO.imp po_none fun σ H Q ⟨B, O, S, σd, r, p⟩ => post_val p r rfl
theorem so_some {m : M D} (h : PE X e (rdE g W m)) : PO X (some e) (rdO g W (mPart m)) := PO.imp (po_some h) fun σ H Q ⟨B, O, S, σd, rel, p⟩ => rdG_mono (rd_then (rel := RD) rel p) fun v H1 ⟨x, O1, S1, r1, rx, st1, p1⟩ => by
  cases x with
  | int i => exact ⟨i, rx, post_val p1 r1 rfl⟩
  | _ => exact p1.elim
def cutD (xs : List D) (lo hi : Option Int) : List D := (xs.drop (HT.sIx xs.length 0 lo)).take (HT.sIx xs.length xs.length hi - HT.sIx xs.length 0 lo)
theorem cut_rd {c : Ct} {H : Hp} {ds : List D} {vs : List V} (h : RDs c H ds vs) (lo hi : Option Int) : RDs c H (cutD ds lo hi) (cutV vs lo hi) := by
  unfold cutD cutV
  rw [← h.length]
  exact (h.drop _).take _
def fSl (x : D) (lo hi : Option Int) (S : Sto) : R D := match x with
  | .tup ds => .ok (.tup (cutD ds lo hi)) S
  | x => match lstOf S x with
    | some ds => .ok (.lst (cutD ds lo hi)) S
    | none => .bad
def mSl (m : M D) (l h : M (Option Int)) : M D := mB m fun x => mB l fun lo => mB h fun hi => fun _ S => fSl x lo hi S
theorem RDs.det {c : Ct} {H : Hp} {ds es : List D} {vs : List V} (h : RDs c H ds vs) (h2 : RDs c H es vs) : ds.length = es.length := h.length.trans h2.length.symm
theorem cut_len (ds : List D) (lo hi : Option Int) : (cutD ds lo hi).length ≤ ds.length := by
  unfold cutD
  rw [List.length_take, List.length_drop]
  omega
theorem cut_same {ds : List D} {lo hi : Option Int} (h : (cutD ds lo hi).length = ds.length) : cutD ds lo hi = ds := by
  unfold cutD at h ⊢
  rw [List.length_take, List.length_drop] at h
  by_cases q : ds = []
  · subst q; simp
  · have hp : 0 < ds.length := List.length_pos_iff.mpr q
    have e0 : HT.sIx ds.length 0 lo = 0 := by omega
    rw [e0] at h ⊢
    rw [List.drop_zero, List.take_of_length_le (by omega)]
theorem fSl_ok {K : PySem.W.Frag} {B O : List Addr} {S : Sto} {σd : Sl} {σ : L2.St} {H : Hp} {x : D} {v : V} {lo hi : Option Int} {Q : VK} (r : Rel ⟨g.K, g.G, B, O⟩ S σd σ H) (hx : RD ⟨g.K, g.G, B, O⟩ H x v)
    (p : Post RD ⟨g.K, g.G, B, O⟩ W σ σd H (fSl x lo hi S) Q) : rSlF K v lo hi H Q ∨ rSlL K v lo hi H Q := by
  have go : ∀ (p : Post RD ⟨g.K, g.G, B, O⟩ W σ σd H (match lstOf S x with
    | some ds => .ok (.lst (cutD ds lo hi)) S
    | none => .bad) Q), rSlF K v lo hi H Q ∨ rSlL K v lo hi H Q := fun p => by
    split at p
    · next ds q =>
      obtain ⟨a, vs, rfl, h1, h2⟩ := lstOf_ok r.toRelS hx q
      exact .inr ⟨a, vs, rfl, SqL.of h1, post_newL p r (cut_rd h2 lo hi)⟩
    · exact p.elim
  unfold fSl at p
  cases x with
  | tup ds =>
    simp only at p
    obtain ⟨a, vs, rfl, ht, h1, h2⟩ := id hx
    refine .inl ⟨a, vs, rfl, h1.sq, fun ew => ?_, post_newT p r (cut_rd h2 lo hi)⟩
    have e1 : (cutD ds lo hi).length = ds.length := by rw [(cut_rd h2 lo hi).length, ew, h2.length]
    rw [cut_same e1] at p
    exact post_val p r hx
  | lst ds => exact go p
  | ref n => exact go p
  | _ => exact go p
theorem se_slice {lo hi : Option Expr} {p2 : Pos} {m : M D} {l h : M (Option Int)} (he : PE X e (rdE g W m)) (hl : PO X lo (rdO g W l)) (hh : PO X hi (rdO g W h)) : PE X (.Subscript e (.Slice lo hi none p2) pos) (rdE g W (mSl m l h)) :=
  PE.imp (pe_slice (sl_tupF.or sl_list) he hl hh) fun σ H Q ⟨B, O, S, σd, rel, p⟩ => rdG_mono (rd_then (rel := RD) rel p) fun v H1 ⟨x, O1, S1, r1, rx, st1, p1⟩ =>
    rdG_mono (rd_then (rel := same) r1 p1) fun lo' H2 ⟨l', O2, S2, r2, e2, st2, p2⟩ => rdG_mono (rd_then (rel := same) r2 p2) fun hi' H3 ⟨h', O3, S3, r3, e3, st3, p3⟩ => by
      cases (show _ = _ from e2)
      cases (show _ = _ from e3)
      exact fSl_ok r3 (RD.step (c := ⟨g.K, g.G, B, O1⟩) (st2.trans st3) x v rx) p3
end
end DL

namespace DL
open PySem PySem.Spec PyProof.Rows L2
section
variable {g : Gx} {W : WX} {X : Cx} {e a b : Expr} {es : List Expr} {pos : Pos}
def mFz (m : M (List D)) : M D := fun σd S => match m σd S with
  | .ok ds S1 => .ok (.lst ds) S1
  | .exc k ns ds S1 => .exc k ns ds S1
  | .bad => .bad
def mLoc (m : M (List D)) : M D := fun σd S => match m σd S with
  | .ok ds S1 => .ok (.ref S1.length) (S1 ++ [.lst ds])
  | .exc k ns ds S1 => .exc k ns ds S1
  | .bad => .bad
theorem frz_imp {m : M (List D)} (σ : L2.St) (H : Hp) (Q : VK) (h : rdE g W (mFz m) σ H Q) : rdN g W m σ H Q := by
  obtain ⟨B, O, S, σd, r, p⟩ := h
  refine ⟨B, O, S, σd, r, ?_⟩
  unfold mFz at p
  revert p
  cases m σd S with
  | ok ds S' => exact fun p q vs O' H' h0 h1 h2 h3 h4 h5 => p (.ref q) O' H' (Rel.unban (c := ⟨g.K, g.G, B, O'⟩) h1) ⟨q, vs, rfl, ⟨fun z => h1.nb q z (List.mem_cons_self ..), h2⟩, h3, RDs.mv (mv_unban (c := ⟨g.K, g.G, B, O'⟩)) ds vs h4⟩ h5
  | exc k ns ds S' => exact fun p => p
  | bad => exact fun p => p
theorem sn_frz {m : M (List D)} (h : PE X e (rdN g W m)) : PE X e (rdE g W (mFz m)) := PE.imp h frz_imp
theorem mv_loc {c : Ct} {H : Hp} {p : Addr} : Mv { c with B := p :: c.B } { c with O := c.O ++ [p] } H H :=
  ⟨fun a u q e => ⟨⟨fun z => (List.mem_append.mp z).elim q.1 fun z => q.2 (by rw [List.mem_singleton.mp z]; exact List.mem_cons_self ..), fun z => q.2 (List.mem_cons_of_mem _ z)⟩, e⟩,
    fun n a h => by
      show (c.O ++ [p])[n]? = some a
      exact List.getElem?_append_left (List.getElem?_eq_some_iff.mp h).1 ▸ h, rfl, rfl⟩
theorem Rel.locate {c : Ct} {S : Sto} {σd : Sl} {σ : L2.St} {H : Hp} {p : Addr} {o : Ob} (r : Rel { c with B := p :: c.B } S σd σ H) (hb : p ∉ c.B) (ho : OO { c with B := p :: c.B } H p o) : Rel { c with O := c.O ++ [p] } (S ++ [o]) σd σ H where
  ol := by rw [List.length_append, List.length_append]; exact congrArg (· + 1) r.ol
  nd := List.nodup_append.mpr ⟨r.nd, by simp, fun a ha b hb' e => r.nb a ha (by rw [e, List.mem_singleton.mp hb']; exact List.mem_cons_self ..)⟩
  nb := fun a ha => (List.mem_append.mp ha).elim (fun z q => r.nb a z (List.mem_cons_of_mem _ q)) fun z => by rw [List.mem_singleton.mp z]; exact hb
  hb := fun a ha => r.hb a (List.mem_cons_of_mem _ ha)
  ob := fun n o' a h1 h2 => by
    have ol : c.O.length = S.length := r.ol
    by_cases hn : n < S.length
    · rw [List.getElem?_append_left hn] at h1
      rw [show ({ c with O := c.O ++ [p] } : Ct).O = c.O ++ [p] from rfl, List.getElem?_append_left (ol ▸ hn)] at h2
      exact OO.mv mv_loc (fun u e => e) (r.ob n o' a h1 h2)
    · have hn' : S.length ≤ n := Nat.le_of_not_lt hn
      rw [List.getElem?_append_right hn'] at h1
      rw [show ({ c with O := c.O ++ [p] } : Ct).O = c.O ++ [p] from rfl, List.getElem?_append_right (ol ▸ hn'), ol] at h2
      cases q : n - S.length with
      | zero =>
        rw [q] at h1 h2
        have e1 : o = o' := by simpa using h1
        have e2 : p = a := by simpa using h2
        rw [← e1, ← e2]
        exact OO.mv mv_loc (fun u e => e) ho
      | succ m => rw [q] at h1; simp at h1
  len := r.len
  sl := fun i d e => (r.sl i d e).imp id fun ⟨v, h1, h2⟩ => ⟨v, h1, RD.mv mv_loc d v h2⟩
theorem Step.loc {O O' : List Addr} {H H' : Hp} {p : Addr} (s : Step O H O' H') (h : H p = none) : Step O H (O' ++ [p]) H' := by
  obtain ⟨t, ht⟩ := s.pre
  refine ⟨⟨t ++ [p], by rw [ht, List.append_assoc]⟩, fun a o n e => ?_⟩
  obtain ⟨e', n'⟩ := s.kp a o n e
  refine ⟨e', fun z => (List.mem_append.mp z).elim n' fun z => ?_⟩
  have z' := List.mem_singleton.mp z
  rw [z', h] at e
  cases e
theorem loc_imp {m : M (List D)} (σ : L2.St) (H : Hp) (Q : VK) (h : rdE g W (mLoc m) σ H Q) : rdN g W m σ H Q := by
  obtain ⟨B, O, S, σd, r, p⟩ := h
  refine ⟨B, O, S, σd, r, ?_⟩
  unfold mLoc at p
  revert p
  cases m σd S with
  | ok ds S' =>
    intro p q vs O' H' h0 h1 h2 h3 h4 h5
    have hq : (O' ++ [q])[S'.length]? = some q := by
      rw [← show O'.length = S'.length from h1.ol]
      simp
    exact p (.ref q) (O' ++ [q]) H' (Rel.locate (c := ⟨g.K, g.G, B, O'⟩) h1 h2 ⟨vs, h3, h4⟩) ⟨q, hq, rfl⟩ (h5.loc h0)
  | exc k ns ds S' => exact fun p => p
  | bad => exact fun p => p
theorem sn_loc {m : M (List D)} (h : PE X e (rdN g W m)) : PE X e (rdE g W (mLoc m)) := PE.imp h loc_imp
def mTest (m : M D) : M Bool := mB m fun d => fun _ S => match d with
  | .bl b => .ok b S
  | _ => .bad
theorem test_imp {m : M D} (σ : L2.St) (H : Hp) (Q : Bool → Hp → Prop) (h : rdT g W (mTest m) σ H Q) : rdE g W m σ H fun x H1 => ∃ c, x = .bl c ∧ Q c H1 := by
  obtain ⟨B, O, S, σd, rel, p⟩ := h
  refine rdG_mono (rd_then (rel := RD) rel p) fun v H1 ⟨x, O1, S1, r1, rx, st1, p1⟩ => ?_
  cases x with
  | bl i => exact ⟨i, rx, post_val p1 r1 rfl⟩
  | _ => exact p1.elim
theorem st_val {m : M D} (h : PE X e (rdE g W m)) (he : ∀ whole, isTrue e X.env whole = (do let v ← whole; standAt e.pos; holding [v] (truthy v)) := by intro _; rfl) : PT X e (rdT g W (mTest m)) :=
  PT.imp (pt_val h he) fun σ H Q h => test_imp σ H Q h
def mNotT (m : M Bool) : M Bool := mB m fun b => fun _ S => .ok (!b) S
theorem st_not {m : M Bool} (h : PT X a (rdT g W m)) : PT X (.UnaryOp .Not a pos) (rdT g W (mNotT m)) := PT.imp (pt_not h) fun σ H Q ⟨B, O, S, σd, rel, p⟩ =>
  rdG_mono (rd_then (rel := same) rel p) fun v H1 ⟨x, O1, S1, r1, rx, st1, p1⟩ => by
    cases (show _ = _ from rx)
    exact post_val p1 r1 rfl
def mAndT (a b : M Bool) : M Bool := mB a fun c => if c = true then b else fun _ S => .ok false S
def mOrT (a b : M Bool) : M Bool := mB a fun c => if c = true then fun _ S => .ok true S else b
theorem sw_and1 {m : M Bool} (h : PT X a (rdT g W m)) : PW X (.BoolOp .And [a] pos) (rdT g W m) := pw_and1 h
theorem sw_or1 {m : M Bool} (h : PT X a (rdT g W m)) : PW X (.BoolOp .Or [a] pos) (rdT g W m) := pw_or1 h
theorem sw_and {rest : List Expr} {m n : M Bool} (ha : PT X a (rdT g W m)) (hb : PW X (.BoolOp .And (b :: rest) pos) (rdT g W n)) : PW X (.BoolOp .And (a :: b :: rest) pos) (rdT g W (mAndT m n)) :=
  PW.imp (pw_and ha hb) fun σ H Q ⟨B, O, S, σd, rel, p⟩ => rdG_mono (rd_then (rel := same) rel p) fun v H1 ⟨x, O1, S1, r1, rx, st1, p1⟩ => by
    cases (show _ = _ from rx)
    cases v with
    | true => exact ⟨B, O1, S1, σd, r1, p1⟩
    | false => exact post_val p1 r1 rfl
theorem sw_or {rest : List Expr} {m n : M Bool} (ha : PT X a (rdT g W m)) (hb : PW X (.BoolOp .Or (b :: rest) pos) (rdT g W n)) : PW X (.BoolOp .Or (a :: b :: rest) pos) (rdT g W (mOrT m n)) :=
  PW.imp (pw_or ha hb) fun σ H Q ⟨B, O, S, σd, rel, p⟩ => rdG_mono (rd_then (rel := same) rel p) fun v H1 ⟨x, O1, S1, r1, rx, st1, p1⟩ => by
    cases (show _ = _ from rx)
    cases v with
    | true => exact post_val p1 r1 rfl
    | false => exact ⟨B, O1, S1, σd, r1, p1⟩
def mAnd (a b : M D) : M D := mB (mTest a) fun c => if c = true then b else fun _ S => .ok (.bl false) S
def mOr (a b : M D) : M D := mB (mTest a) fun c => if c = true then fun _ S => .ok (.bl true) S else b
def mNot (a : M D) : M D := mB (mTest a) fun c => fun _ S => .ok (.bl (!c)) S
theorem se_one {op} {m : M D} (h : PE X a (rdE g W m)) : PE X (.BoolOp op [a] pos) (rdE g W m) := pe_one h
theorem val_then {α : Type} {β : Type} {rel' : Ct → Hp → α → β → Prop} {m : M D} {f : Bool → M α} {B O : List Addr} {S : Sto} {σd : Sl} {σ : L2.St} {H : Hp} {Q : β → Hp → Prop} (r : Rel ⟨g.K, g.G, B, O⟩ S σd σ H)
    (p : Post rel' ⟨g.K, g.G, B, O⟩ W σ σd H (mB (mTest m) f σd S) Q) :
    rdE g W m σ H fun v H1 => ∃ c, v = .bl c ∧ ∃ O1 S1, Rel ⟨g.K, g.G, B, O1⟩ S1 σd σ H1 ∧ Step O H O1 H1 ∧ Post rel' ⟨g.K, g.G, B, O1⟩ W σ σd H1 (f c σd S1) Q :=
  test_imp σ H _ (rdG_mono (rd_then (rel := same) r p) fun v H1 ⟨x, O1, S1, r1, rx, st1, p1⟩ => by
    cases (show _ = _ from rx)
    exact ⟨O1, S1, r1, st1, p1⟩)
theorem se_and {rest : List Expr} {m n : M D} (ha : PE X a (rdE g W m)) (hb : PE X (.BoolOp .And (b :: rest) pos) (rdE g W n)) : PE X (.BoolOp .And (a :: b :: rest) pos) (rdE g W (mAnd m n)) :=
  PE.imp (pe_and ha hb) fun σ H Q ⟨B, O, S, σd, rel, p⟩ => rdG_mono (val_then rel p) fun v H1 ⟨c, ev, O1, S1, r1, st1, p1⟩ => ⟨c, ev, by
    cases c with
    | true => exact ⟨B, O1, S1, σd, r1, p1⟩
    | false => exact post_val p1 r1 rfl⟩
theorem se_or {rest : List Expr} {m n : M D} (ha : PE X a (rdE g W m)) (hb : PE X (.BoolOp .Or (b :: rest) pos) (rdE g W n)) : PE X (.BoolOp .Or (a :: b :: rest) pos) (rdE g W (mOr m n)) :=
  PE.imp (pe_or ha hb) fun σ H Q ⟨B, O, S, σd, rel, p⟩ => rdG_mono (val_then rel p) fun v H1 ⟨c, ev, O1, S1, r1, st1, p1⟩ => ⟨c, ev, by
    cases c with
    | true => exact post_val p1 r1 rfl
    | false => exact ⟨B, O1, S1, σd, r1, p1⟩⟩
theorem se_not {m : M D} (ha : PE X a (rdE g W m)) : PE X (.UnaryOp .Not a pos) (rdE g W (mNot m)) :=
  PE.imp (pe_not ha) fun σ H Q ⟨B, O, S, σd, rel, p⟩ => rdG_mono (val_then rel p) fun v H1 ⟨c, ev, O1, S1, r1, st1, p1⟩ => ⟨c, ev, post_val p1 r1 rfl⟩
def mIf {α : Type} (t : M Bool) (a b : M α) : M α := mB t fun c => if c = true then a else b
theorem se_ifExp {c : Expr} {t : M Bool} {m n : M D} (hc : PT X c (rdT g W t)) (ha : PE X a (rdE g W m)) (hb : PE X b (rdE g W n)) : PE X (.IfExp c a b pos) (rdE g W (mIf t m n)) :=
  PE.imp (pe_ifExp hc ha hb) fun σ H Q ⟨B, O, S, σd, rel, p⟩ => rdG_mono (rd_then (rel := same) rel p) fun v H1 ⟨x, O1, S1, r1, rx, st1, p1⟩ => by
    cases (show _ = _ from rx)
    cases v with
    | true => exact ⟨B, O1, S1, σd, r1, p1⟩
    | false => exact ⟨B, O1, S1, σd, r1, p1⟩
/-- lo <= x <= hi -/
def mChain (f f' : D → D → Sto → R D) (a b c : M D) : M D := mB a fun x => mB b fun y => mB (mTest fun _ S => f x y S) fun k => if k = true then mB c fun z => fun _ S => f' y z S else fun _ S => .ok (.bl false) S
theorem se_chain {op op' : CmpOp} {r r' : R2} {c : Expr} {f f' : D → D → Sto → R D} {ma mb mc : M D} (ho : OpR X (compareOp op) r) (ho' : OpR X (compareOp op') r') (hs : OpS g W r f) (hs' : OpS g W r' f')
    (ha : PE X a (rdE g W ma)) (hb : PE X b (rdE g W mb)) (hc : PE X c (rdE g W mc)) (hm : lastMarks [op, op'] [b, c] = false) : PE X (.Compare a [op, op'] [b, c] pos) (rdE g W (mChain f f' ma mb mc)) := by
  refine PE.imp (pe_chain ho ho' ha hb hc hm) fun σ H Q ⟨B, O, S, σd, rel, p⟩ => ?_
  refine rdG_mono (rd_then (rel := RD) rel p) fun v H1 ⟨x, O1, S1, r1, rx, st1, p1⟩ => ?_
  refine rdG_mono (rd_then (rel := RD) r1 p1) fun w H2 ⟨y, O2, S2, r2, ry, st2, p2⟩ => ?_
  have rx2 := RD.step (c := ⟨g.K, g.G, B, O1⟩) st2 x v rx
  refine hs r2 rx2 ry ?_
  simp only [mB, mTest] at p2
  revert p2
  cases f x y S2 with
  | ok d S3 =>
    intro p2 v3 O3 H3 h1 h2 h3
    cases d with
    | bl k =>
      refine ⟨k, h2, ?_⟩
      cases k with
      | true =>
        have p3 : Post RD ⟨g.K, g.G, B, O3⟩ W σ σd H3 (mB mc (fun z => fun _ S => f' y z S) σd S3) Q := Post.step (c := ⟨g.K, g.G, B, O2⟩) h3 p2
        exact rdG_mono (rd_then (rel := RD) h1 p3) fun u H4 ⟨z, O4, S4, r4, rz, st4, p4⟩ => hs' r4 (RD.step (c := ⟨g.K, g.G, B, O2⟩) (h3.trans st4) y w ry) rz p4
      | false => exact p2 (.bl false) O3 H3 h1 rfl h3
    | _ => exact p2.elim
  | exc k ns ds S3 => exact fun p2 => p2
  | bad => exact fun p2 => p2.elim
def mNil : M (List D) := fun _ S => .ok [] S
def mCons (a : M D) (r : M (List D)) : M (List D) := mB a fun x => mB r fun xs => fun _ S => .ok (x :: xs) S
theorem sa_nil : PA X [] (rdA g W mNil) := PA.imp pa_nil fun σ H Q ⟨B, O, S, σd, rel, p⟩ => post_val p rel rfl
theorem sa_cons {m : M D} {n : M (List D)} (h : PE X e (rdE g W m)) (hr : PA X es (rdA g W n)) (hs : starEach (e :: es) X.env = (false, eval e X.env) :: starEach es X.env := by rfl) : PA X (e :: es) (rdA g W (mCons m n)) :=
  PA.imp (pa_cons h hr hs) fun σ H Q ⟨B, O, S, σd, rel, p⟩ => rdG_mono (rd_then (rel := RD) rel p) fun v H1 ⟨x, O1, S1, r1, rx, st1, p1⟩ =>
    rdG_mono (rd_then (rel := RDs) r1 p1) fun w H2 ⟨y, O2, S2, r2, ry, st2, p2⟩ => post_val p2 r2 ⟨v, w, rfl, RD.step (c := ⟨g.K, g.G, B, O1⟩) st2 x v rx, ry⟩
def mTup (m : M (List D)) : M D := mB m fun ds => fun _ S => if ds.length ≤ LIM then .ok (.tup ds) S else .bad
def mLst (m : M (List D)) : M (List D) := mB m fun ds => fun _ S => if ds.length ≤ LIM then .ok ds S else .bad
theorem se_tup {k : Nat} {m : M (List D)} (h : PA X es (rdA g W m)) : PE X (.Tuple es k pos) (rdE g W (mTup m)) := PE.imp (pe_tupF h) fun σ H Q ⟨B, O, S, σd, rel, p⟩ =>
  rdG_mono (rd_then (rel := RDs) rel p) fun vs H1 ⟨ds, O1, S1, r1, rx, st1, p1⟩ => by
    split at p1
    · next hl => exact ⟨by rw [← rx.length]; exact lim_ok hl, post_newT p1 r1 rx⟩
    · exact p1.elim
theorem sn_lst {m : M (List D)} (h : PA X es (rdA g W m)) : PE X (.List es pos) (rdN g W (mLst m)) := PE.imp (pe_lst h) fun σ H Q ⟨B, O, S, σd, rel, p⟩ =>
  rdG_mono (rdN_then (rel := RDs) rel p) fun vs H1 ⟨ds, O1, S1, r1, rx, st1, p1⟩ => by
    split at p1
    · next hl => exact ⟨by rw [← rx.length]; exact lim_ok hl, postN_new p1 r1 rx⟩
    · exact p1.elim
def mApp {α : Type} (f : List D → Sto → R α) (m : M (List D)) : M α := mB m fun ds => fun _ S => f ds S
def CallS (g : Gx) (W : WX) (r : List V → Hp → VK → Prop) (f : List D → Sto → R D) : Prop := ∀ {B O : List Addr} {S : Sto} {σd : Sl} {σ : L2.St} {H : Hp} {ds : List D} {vs : List V} {Q : VK},
  Rel ⟨g.K, g.G, B, O⟩ S σd σ H → RDs ⟨g.K, g.G, B, O⟩ H ds vs → Post RD ⟨g.K, g.G, B, O⟩ W σ σd H (f ds S) Q → r vs H Q
def CallSN (g : Gx) (W : WX) (r : List V → Hp → VK → Prop) (f : List D → Sto → R (List D)) : Prop := ∀ {B O : List Addr} {S : Sto} {σd : Sl} {σ : L2.St} {H : Hp} {ds : List D} {vs : List V} {Q : VK},
  Rel ⟨g.K, g.G, B, O⟩ S σd σ H → RDs ⟨g.K, g.G, B, O⟩ H ds vs → PostN ⟨g.K, g.G, B, O⟩ W σ σd H (f ds S) Q → r vs H Q
theorem app_imp {r : List V → Hp → VK → Prop} {f : List D → Sto → R D} {m : M (List D)} (hs : CallS g W r f) (σ : L2.St) (H : Hp) (Q : VK) (h : rdE g W (mApp f m) σ H Q) : tCB r (rdA g W m) σ H Q := by
  obtain ⟨B, O, S, σd, rel, p⟩ := h
  exact rdG_mono (rd_then (rel := RDs) rel p) fun v H1 ⟨x, O1, S1, r1, rx, st1, p1⟩ => hs r1 rx p1
theorem appN_imp {r : List V → Hp → VK → Prop} {f : List D → Sto → R (List D)} {m : M (List D)} (hs : CallSN g W r f) (σ : L2.St) (H : Hp) (Q : VK) (h : rdN g W (mApp f m) σ H Q) : tCB r (rdA g W m) σ H Q := by
  obtain ⟨B, O, S, σd, rel, p⟩ := h
  exact rdG_mono (rdN_then (rel := RDs) rel p) fun v H1 ⟨x, O1, S1, r1, rx, st1, p1⟩ => hs r1 rx p1
end
end DL

namespace DL
open PySem PySem.Spec PyProof.Rows L2
def intsOf : List D → Option (List Int)
  | [] => some []
  | .int i :: ds => (intsOf ds).map (i :: ·)
  | _ => none
def blsOf : List D → Option (List Bool)
  | [] => some []
  | .bl i :: ds => (blsOf ds).map (i :: ·)
  | _ => none
theorem intsOf_rd {c : Ct} {H : Hp} : ∀ {ds : List D} {vs : List V} {ns : List Int}, intsOf ds = some ns → RDs c H ds vs → vs = ns.map V.int
  | [], _, _, e, h => by cases Option.some.inj e; exact h
  | d :: ds, _, ns, e, ⟨v, vs', ev, r, t⟩ => by
    cases d with
    | int i =>
      obtain ⟨ms, h1, h2⟩ := Option.map_eq_some_iff.mp (show (intsOf ds).map (i :: ·) = some ns from e)
      rw [ev, intsOf_rd h1 t, ← h2, show v = _ from r]
      rfl
    | _ => cases e
theorem blsOf_rd {c : Ct} {H : Hp} : ∀ {ds : List D} {vs : List V} {ns : List Bool}, blsOf ds = some ns → RDs c H ds vs → vs = ns.map V.bl
  | [], _, _, e, h => by cases Option.some.inj e; exact h
  | d :: ds, _, ns, e, ⟨v, vs', ev, r, t⟩ => by
    cases d with
    | bl i =>
      obtain ⟨ms, h1, h2⟩ := Option.map_eq_some_iff.mp (show (blsOf ds).map (i :: ·) = some ns from e)
      rw [ev, blsOf_rd h1 t, ← h2, show v = _ from r]
      rfl
    | _ => cases e
@[simp] theorem intsOf_map : ∀ ns : List Int, intsOf (ns.map D.int) = some ns
  | [] => rfl
  | n :: ns => by show (intsOf (ns.map D.int)).map _ = _; rw [intsOf_map ns]; rfl
@[simp] theorem blsOf_map : ∀ ns : List Bool, blsOf (ns.map D.bl) = some ns
  | [] => rfl
  | n :: ns => by show (blsOf (ns.map D.bl)).map _ = _; rw [blsOf_map ns]; rfl
def minL (n : Int) (ns : List Int) : Int := ns.foldl (fun a b => if b < a then b else a) n
theorem minL_le : ∀ (ns : List Int) (n : Int), minL n ns ≤ n ∧ ∀ y ∈ ns, minL n ns ≤ y
  | [], n => ⟨Int.le_refl _, fun y h => by cases h⟩
  | m :: ns, n => by
    have ih := minL_le ns (if m < n then m else n)
    have h0 : (if m < n then m else n) ≤ n ∧ (if m < n then m else n) ≤ m := by split <;> omega
    refine ⟨?_, fun y h => ?_⟩
    · show minL (if m < n then m else n) ns ≤ n
      exact Int.le_trans ih.1 h0.1
    · show minL (if m < n then m else n) ns ≤ y
      rcases List.mem_cons.mp h with z | h
      · rw [z]; exact Int.le_trans ih.1 h0.2
      · exact ih.2 y h
theorem minL_mem : ∀ (ns : List Int) (n : Int), minL n ns ∈ n :: ns
  | [], n => List.mem_cons_self ..
  | m :: ns, n => by
    have ih := minL_mem ns (if m < n then m else n)
    show minL (if m < n then m else n) ns ∈ n :: m :: ns
    rcases List.mem_cons.mp ih with h | h
    · rw [h]; split <;> simp
    · exact List.mem_cons_of_mem _ (List.mem_cons_of_mem _ h)
section
variable {g : Gx} {W : WX} {X : Cx} {e a b : Expr} {es : List Expr} {pos p : Pos} {x : Str} {n : M (List D)}
theorem RDs.one_inv {c : Ct} {H : Hp} {d : D} {vs : List V} (h : RDs c H [d] vs) : ∃ v, vs = [v] ∧ RD c H d v := by
  obtain ⟨v, vs', e, r, t⟩ := h
  exact ⟨v, by rw [e, show vs' = _ from t], r⟩
theorem RDs.two_inv {c : Ct} {H : Hp} {d d' : D} {vs : List V} (h : RDs c H [d, d'] vs) : ∃ v w, vs = [v, w] ∧ RD c H d v ∧ RD c H d' w := by
  obtain ⟨v, vs', e, r, t⟩ := h
  obtain ⟨w, e2, r2⟩ := RDs.one_inv t
  exact ⟨v, w, by rw [e, e2], r, r2⟩
def fLen (ds : List D) (S : Sto) : R D := match ds with
  | [d] => match seqOf S d with
    | some xs => .ok (.int xs.length) S
    | none => match d with
      | .str x => if x.length ≤ LIM then .ok (.int x.length) S else .bad
      | _ => .bad
  | _ => .bad
theorem fLen_ok {K : PySem.W.Frag} : CallS g W (fun xs H Q => (∃ p ys, xs = [.ref p] ∧ (SqL K H p ys ∨ SqT K H p ys) ∧ Q (.int ys.length) H) ∨ ∃ z, xs = [.str z] ∧ z.length ≤ sizeLine ∧ Q (.int z.length) H) fLen := fun {B O S σd σ H ds vs Q} r h p => by
  unfold fLen at p
  split at p
  · next d =>
    obtain ⟨v, rfl, hd⟩ := RDs.one_inv h
    split at p
    · next xs q =>
      obtain ⟨a, ys, rfl, h1, h2⟩ := seqOf_ok (K := K) r.toRelS hd q
      exact .inl ⟨a, ys, rfl, h1, post_val p r (by rw [h2.length]; rfl)⟩
    · split at p
      · split at p
        · next hl =>
          cases (show _ = _ from hd)
          exact .inr ⟨_, rfl, lim_ok hl, post_val p r rfl⟩
        · exact p.elim
      · exact p.elim
  · exact p.elim
theorem se_len (hg : Gl X "len") (hm : X.mg "len" = none) (ha : PA X (e :: es) (rdA g W n)) (he : starEach (e :: es) X.env = (false, eval e X.env) :: starEach es X.env := by rfl) (hpl : (backTo pos (starEach es X.env)).any (·.1) = false := by rfl) :
    PE X (.Call (.Name "len" p) (e :: es) [] pos) (rdE g W (mApp fLen n)) := PE.imp (pe_callB (call_len_seq.or call_len_str) hg hm PySem.boot_len ha (by decide) (by decide) he hpl) (app_imp fLen_ok)
def rSumT (K : PySem.W.Frag) : List V → Hp → VK → Prop := fun vs H Q => ∃ (a : Addr) (ns : List Int), vs = [V.ref a] ∧ SqT K H a (ns.map V.int) ∧ Q (.int ns.sum) H
theorem cr_sumT (hc : X.calm = true) : CallR X (.builtin "sum") (rSumT X.K) := by
  intro pins s σ H vs us Q I r h
  obtain ⟨a, ns, rfl, hs, q⟩ := h
  obtain ⟨its, rv, hl, _⟩ := I.tuple hs
  rw [Vals.ref1 r]
  have hi := rv.ints
  obtain ⟨xs, hx⟩ := hi.allInts.items
  have hn : numsOf its.toArray.toList = ns := by rw [show its.toArray.toList = its from rfl, hi.numsOf]
  have hl' : s.heap.IsTuple a its.toArray := hl
  rw [hx] at hl' hn
  rw [nums_intItems] at hn
  refine PySem.W.ktm_sumG (I.ok.hd hc) hl' fun h' tk t' hk => ?_
  rw [preSum_eq, List.take_of_length_le (by simp), hn]
  exact ⟨.int _, H, I.kept hk, ⟨_, rfl⟩, q⟩
def fSum (ds : List D) (S : Sto) : R D := match ds with
  | [d] => match seqOf S d with
    | some xs => match intsOf xs with
      | some ns => .ok (.int ns.sum) S
      | none => .bad
    | none => .bad
  | _ => .bad
theorem fSum_ok {K : PySem.W.Frag} : CallS g W (fun xs H Q => rSum K xs H Q ∨ rSumT K xs H Q) fSum := fun {B O S σd σ H ds vs Q} r h p => by
  unfold fSum at p
  split at p
  · next d =>
    obtain ⟨v, rfl, hd⟩ := RDs.one_inv h
    split at p
    · next xs q =>
      split at p
      · next ns q2 =>
        obtain ⟨a, ys, rfl, h1, h2⟩ := seqOf_ok (K := K) r.toRelS hd q
        have e := intsOf_rd q2 h2
        subst e
        rcases h1 with h1 | h1
        · exact .inl ⟨a, ns, rfl, h1, post_val p r rfl⟩
        · exact .inr ⟨a, ns, rfl, h1, post_val p r rfl⟩
      · exact p.elim
    · exact p.elim
  · exact p.elim
theorem se_sum (hc : X.calm = true) (hg : Gl X "sum") (hm : X.mg "sum" = none) (ha : PA X (e :: es) (rdA g W n)) (he : starEach (e :: es) X.env = (false, eval e X.env) :: starEach es X.env := by rfl) (hpl : (backTo pos (starEach es X.env)).any (·.1) = false := by rfl) :
    PE X (.Call (.Name "sum" p) (e :: es) [] pos) (rdE g W (mApp fSum n)) := PE.imp (pe_callB ((cr_sum hc).or (cr_sumT hc)) hg hm (by decide +kernel) ha (by decide) (by decide) he hpl) (app_imp fSum_ok)
def fMin (ds : List D) (S : Sto) : R D := match ds with
  | [d] => match lstOf S d with
    | some xs => match intsOf xs with
      | some (m :: ns) => .ok (.int (minL m ns)) S
      | _ => .bad
    | none => .bad
  | [.int i, .int j] => .ok (.int (if j < i then j else i)) S
  | _ => .bad
theorem fMin_ok {K : PySem.W.Frag} : CallS g W (fun xs H Q => rMin K xs H Q ∨ ∃ i j, xs = [.int i, .int j] ∧ Q (.int (if j < i then j else i)) H) fMin := fun {B O S σd σ H ds vs Q} r h p => by
  unfold fMin at p
  split at p
  · next d =>
    obtain ⟨v, rfl, hd⟩ := RDs.one_inv h
    split at p
    · next xs q =>
      split at p
      · next m ns q2 =>
        obtain ⟨a, ys, rfl, h1, h2⟩ := lstOf_ok r.toRelS hd q
        have e := intsOf_rd q2 h2
        subst e
        refine .inl ⟨a, m :: ns, rfl, SqL.of h1, Nat.succ_pos _, fun k hk hle => ?_⟩
        have e1 : k = minL m ns := by
          have a1 := hle _ (minL_mem ns m)
          have a2 : minL m ns ≤ k := by
            rcases List.mem_cons.mp hk with z | z
            · rw [z]; exact (minL_le ns m).1
            · exact (minL_le ns m).2 k z
          omega
        rw [e1]
        exact post_val p r rfl
      · exact p.elim
    · exact p.elim
  · next i j =>
    obtain ⟨v, w, rfl, h1, h2⟩ := RDs.two_inv h
    cases (show _ = _ from h1)
    cases (show _ = _ from h2)
    exact .inr ⟨_, _, rfl, post_val p r rfl⟩
  · exact p.elim
theorem se_min (hc : X.calm = true) (hg : Gl X "min") (hm : X.mg "min" = none) (ha : PA X (e :: es) (rdA g W n)) (he : starEach (e :: es) X.env = (false, eval e X.env) :: starEach es X.env := by rfl) (hpl : (backTo pos (starEach es X.env)).any (·.1) = false := by rfl) :
    PE X (.Call (.Name "min" p) (e :: es) [] pos) (rdE g W (mApp fMin n)) := PE.imp (pe_callB ((cr_min hc).or (call_min2 hc)) hg hm (by decide +kernel) ha (by decide) (by decide) he hpl) (app_imp fMin_ok)
def fMax (ds : List D) (S : Sto) : R D := match ds with
  | [.int i, .int j] => .ok (.int (if j > i then j else i)) S
  | _ => .bad
theorem fMax_ok : CallS g W (fun xs H Q => ∃ i j, xs = [.int i, .int j] ∧ Q (.int (if j > i then j else i)) H) fMax := fun {B O S σd σ H ds vs Q} r h p => by
  unfold fMax at p
  split at p
  · next i j =>
    obtain ⟨v, w, rfl, h1, h2⟩ := RDs.two_inv h
    cases (show _ = _ from h1)
    cases (show _ = _ from h2)
    exact ⟨_, _, rfl, post_val p r rfl⟩
  · exact p.elim
theorem se_max (hc : X.calm = true) (hg : Gl X "max") (hm : X.mg "max" = none) (ha : PA X (e :: es) (rdA g W n)) (he : starEach (e :: es) X.env = (false, eval e X.env) :: starEach es X.env := by rfl) (hpl : (backTo pos (starEach es X.env)).any (·.1) = false := by rfl) :
    PE X (.Call (.Name "max" p) (e :: es) [] pos) (rdE g W (mApp fMax n)) := PE.imp (pe_callB (call_max2 hc) hg hm (by decide +kernel) ha (by decide) (by decide) he hpl) (app_imp fMax_ok)
def fAbs (ds : List D) (S : Sto) : R D := match ds with
  | [.int i] => .ok (.int (if i < 0 then -i else i)) S
  | _ => .bad
theorem fAbs_ok : CallS g W (fun xs H Q => ∃ i, xs = [.int i] ∧ Q (.int (if i < 0 then -i else i)) H) fAbs := fun {B O S σd σ H ds vs Q} r h p => by
  unfold fAbs at p
  split at p
  · next i =>
    obtain ⟨v, rfl, h1⟩ := RDs.one_inv h
    cases (show _ = _ from h1)
    exact ⟨_, rfl, post_val p r rfl⟩
  · exact p.elim
theorem se_abs (hg : Gl X "abs") (hm : X.mg "abs" = none) (ha : PA X (e :: es) (rdA g W n)) (he : starEach (e :: es) X.env = (false, eval e X.env) :: starEach es X.env := by rfl) (hpl : (backTo pos (starEach es X.env)).any (·.1) = false := by rfl) :
    PE X (.Call (.Name "abs" p) (e :: es) [] pos) (rdE g W (mApp fAbs n)) := PE.imp (pe_callB call_abs hg hm (by decide +kernel) ha (by decide) (by decide) he hpl) (app_imp fAbs_ok)
def fInt1 (ds : List D) (S : Sto) : R D := match ds with
  | [.int i] => .ok (.int i) S
  | [.bl k] => .ok (.int (if k then 1 else 0)) S
  | [.str z] => match PySem.intText? z with
    | some i => if z.length ≤ 640 then .ok (.int i) S else .bad
    | none => .bad
  | _ => .bad
theorem fInt1_ok : CallS g W (fun xs H Q => ((∃ i, xs = [.int i] ∧ Q (.int i) H) ∨ ∃ k, xs = [.bl k] ∧ Q (.int (if k then 1 else 0)) H) ∨ ∃ z i, xs = [.str z] ∧ PySem.intText? z = some i ∧ z.length ≤ 640 ∧ Q (.int i) H) fInt1 := fun {B O S σd σ H ds vs Q} r h p => by
  unfold fInt1 at p
  split at p
  · obtain ⟨v, rfl, h1⟩ := RDs.one_inv h
    cases (show _ = _ from h1)
    exact .inl (.inl ⟨_, rfl, post_val p r rfl⟩)
  · obtain ⟨v, rfl, h1⟩ := RDs.one_inv h
    cases (show _ = _ from h1)
    exact .inl (.inr ⟨_, rfl, post_val p r rfl⟩)
  · obtain ⟨v, rfl, h1⟩ := RDs.one_inv h
    cases (show _ = _ from h1)
    split at p
    · next q =>
      split at p
      · next hl => exact .inr ⟨_, _, rfl, q, hl, post_val p r rfl⟩
      · exact p.elim
    · exact p.elim
  · exact p.elim
theorem se_int1 (hg : Gl X "int") (hm : X.mg "int" = none) (ha : PA X (e :: es) (rdA g W n)) (he : starEach (e :: es) X.env = (false, eval e X.env) :: starEach es X.env := by rfl) (hpl : (backTo pos (starEach es X.env)).any (·.1) = false := by rfl) :
    PE X (.Call (.Name "int" p) (e :: es) [] pos) (rdE g W (mApp fInt1 n)) := PE.imp (pe_callTy (call_int1.or call_int_str) hg hm (by decide +kernel) ha (by decide) (by decide) he hpl) (app_imp fInt1_ok)
def fStr1 (ds : List D) (S : Sto) : R D := match ds with
  | [.int i] => if i.natAbs < 1000000 then .ok (.str (toString i)) S else .bad
  | _ => .bad
theorem fStr1_ok : CallS g W (fun xs H Q => ∃ i, xs = [.int i] ∧ i.natAbs.log2 < 1920 ∧ Q (.str (toString i)) H) fStr1 := fun {B O S σd σ H ds vs Q} r h p => by
  unfold fStr1 at p
  split at p
  · next i =>
    obtain ⟨v, rfl, h1⟩ := RDs.one_inv h
    cases (show _ = _ from h1)
    split at p
    · next hl =>
      refine ⟨_, rfl, ?_, post_val p r rfl⟩
      exact PySem.Flt.log2_lt_of (by decide) (Nat.lt_of_lt_of_le hl (Nat.le_trans (show 1000000 ≤ 2 ^ 20 by decide) (Nat.pow_le_pow_right (by decide) (by decide))))
    · exact p.elim
  · exact p.elim
theorem se_str1 (hg : Gl X "str") (hm : X.mg "str" = none) (ha : PA X (e :: es) (rdA g W n)) (he : starEach (e :: es) X.env = (false, eval e X.env) :: starEach es X.env := by rfl) (hpl : (backTo pos (starEach es X.env)).any (·.1) = false := by rfl) :
    PE X (.Call (.Name "str" p) (e :: es) [] pos) (rdE g W (mApp fStr1 n)) := PE.imp (pe_callTy call_str_int hg hm (by decide +kernel) ha (by decide) (by decide) he hpl) (app_imp fStr1_ok)
def fAll (ds : List D) (S : Sto) : R D := match ds with
  | [d] => match lstOf S d with
    | some xs => match blsOf xs with
      | some bs => .ok (.bl (bs.all id)) S
      | none => .bad
    | none => .bad
  | _ => .bad
def fAny (ds : List D) (S : Sto) : R D := match ds with
  | [d] => match lstOf S d with
    | some xs => match blsOf xs with
      | some bs => .ok (.bl (bs.any id)) S
      | none => .bad
    | none => .bad
  | _ => .bad
theorem fAll_ok {K : PySem.W.Frag} : CallS g W (rAll K) fAll := fun {B O S σd σ H ds vs Q} r h p => by
  unfold fAll at p
  split at p
  · next d =>
    obtain ⟨v, rfl, hd⟩ := RDs.one_inv h
    split at p
    · next xs q =>
      split at p
      · next bs q2 =>
        obtain ⟨a, ys, rfl, h1, h2⟩ := lstOf_ok r.toRelS hd q
        have e := blsOf_rd q2 h2
        subst e
        exact ⟨a, bs, rfl, SqL.of h1, post_val p r rfl⟩
      · exact p.elim
    · exact p.elim
  · exact p.elim
theorem fAny_ok {K : PySem.W.Frag} : CallS g W (rAny K) fAny := fun {B O S σd σ H ds vs Q} r h p => by
  unfold fAny at p
  split at p
  · next d =>
    obtain ⟨v, rfl, hd⟩ := RDs.one_inv h
    split at p
    · next xs q =>
      split at p
      · next bs q2 =>
        obtain ⟨a, ys, rfl, h1, h2⟩ := lstOf_ok r.toRelS hd q
        have e := blsOf_rd q2 h2
        subst e
        exact ⟨a, bs, rfl, SqL.of h1, post_val p r rfl⟩
      · exact p.elim
    · exact p.elim
  · exact p.elim
theorem se_all (hc : X.calm = true) (hg : Gl X "all") (hm : X.mg "all" = none) (ha : PA X (e :: es) (rdA g W n)) (he : starEach (e :: es) X.env = (false, eval e X.env) :: starEach es X.env := by rfl) (hpl : (backTo pos (starEach es X.env)).any (·.1) = false := by rfl) :
    PE X (.Call (.Name "all" p) (e :: es) [] pos) (rdE g W (mApp fAll n)) := PE.imp (pe_callB (cr_all hc) hg hm (by decide +kernel) ha (by decide) (by decide) he hpl) (app_imp fAll_ok)
theorem se_any (hc : X.calm = true) (hg : Gl X "any") (hm : X.mg "any" = none) (ha : PA X (e :: es) (rdA g W n)) (he : starEach (e :: es) X.env = (false, eval e X.env) :: starEach es X.env := by rfl) (hpl : (backTo pos (starEach es X.env)).any (·.1) = false := by rfl) :
    PE X (.Call (.Name "any" p) (e :: es) [] pos) (rdE g W (mApp fAny n)) := PE.imp (pe_callB (cr_any hc) hg hm (by decide +kernel) ha (by decide) (by decide) he hpl) (app_imp fAny_ok)
def fTuple (ds : List D) (S : Sto) : R D := match ds with
  | [d] => match seqOf S d with
    | some xs => .ok (.tup xs) S
    | none => .bad
  | _ => .bad
theorem fTuple_ok {K : PySem.W.Frag} : CallS g W (rTupOf K) fTuple := fun {B O S σd σ H ds vs Q} r h p => by
  unfold fTuple at p
  split at p
  · next d =>
    obtain ⟨v, rfl, hd⟩ := RDs.one_inv h
    split at p
    · next xs q =>
      unfold seqOf at q
      split at q
      · next ys q2 =>
        cases Option.some.inj q
        cases d with
        | tup zs =>
          cases Option.some.inj q2
          obtain ⟨a, us, rfl, h1, h2, h3⟩ := id hd
          exact ⟨a, us, rfl, .inr ⟨h2.sq, post_val p r hd⟩⟩
        | _ => cases q2
      · obtain ⟨a, us, rfl, h1, h2⟩ := lstOf_ok r.toRelS hd q
        exact ⟨a, us, rfl, .inl ⟨SqL.of h1, post_newT p r h2⟩⟩
    · exact p.elim
  · exact p.elim
theorem se_tuple (hg : Gl X "tuple") (hm : X.mg "tuple" = none) (ha : PA X (e :: es) (rdA g W n)) (he : starEach (e :: es) X.env = (false, eval e X.env) :: starEach es X.env := by rfl) (hpl : (backTo pos (starEach es X.env)).any (·.1) = false := by rfl) :
    PE X (.Call (.Name "tuple" p) (e :: es) [] pos) (rdE g W (mApp fTuple n)) := PE.imp (pe_callTy call_tupF hg hm boot_tuple ha (by decide) (by decide) he hpl) (app_imp fTuple_ok)
def fList (ds : List D) (S : Sto) : R (List D) := match ds with
  | [d] => match seqOf S d with
    | some xs => .ok xs S
    | none => match d with
      | .scr ns => .ok (ns.map D.int) S
      | _ => .bad
  | _ => .bad
theorem scr_sq {c : Ct} {H : Hp} {ns : List Int} {v : V} (h : RD c H (.scr ns) v) : ∃ a, v = .ref a ∧ SqL c.K H a (ns.map V.int) := by
  obtain ⟨a, e, h⟩ := h
  rcases h with ⟨h, _⟩ | h
  · exact ⟨a, e, .inl h⟩
  · exact ⟨a, e, .inr h⟩
theorem fList_ok : CallSN g W (fun xs H Q => ∃ p ys, xs = [.ref p] ∧ (SqL g.K H p ys ∨ SqT g.K H p ys) ∧ ∀ l, H l = none → Q (.ref l) (upd H l (.lst ys))) fList := fun {B O S σd σ H ds vs Q} r h p => by
  unfold fList at p
  split at p
  · next d =>
    obtain ⟨v, rfl, hd⟩ := RDs.one_inv h
    split at p
    · next xs q =>
      obtain ⟨a, us, rfl, h1, h2⟩ := seqOf_ok (K := g.K) r.toRelS hd q
      exact ⟨a, us, rfl, h1, postN_new p r h2⟩
    · split at p
      · next ns =>
        obtain ⟨a, rfl, h1⟩ := scr_sq hd
        exact ⟨a, _, rfl, .inl h1, postN_new p r (RDs.of_int _)⟩
      · exact p.elim
  · exact p.elim
theorem sn_list (hk : X.K = g.K) (hg : Gl X "list") (hm : X.mg "list" = none) (ha : PA X (e :: es) (rdA g W n)) (he : starEach (e :: es) X.env = (false, eval e X.env) :: starEach es X.env := by rfl) (hpl : (backTo pos (starEach es X.env)).any (·.1) = false := by rfl) :
    PE X (.Call (.Name "list" p) (e :: es) [] pos) (rdN g W (mApp fList n)) := PE.imp (pe_callTy call_list_of hg hm boot_list ha (by decide) (by decide) he hpl) (by rw [hk]; exact appN_imp fList_ok)
def mRg1 (m : M D) : M (Int × Int) := mB m fun d => fun _ S => match d with
  | .int n => .ok (0, n) S
  | _ => .bad
def mRg2 (m n : M D) : M (Int × Int) := mB m fun d => mB n fun e => fun _ S => match d, e with
  | .int i, .int j => .ok (i, j) S
  | _, _ => .bad
def rdR (g : Gx) (W : WX) (m : M (Int × Int)) : L2.St → Hp → (Int → Int → Hp → Prop) → Prop := fun σ H Q => rdG same g W m σ H fun p H1 => Q p.1 p.2 H1
theorem PRg.imp {X : Cx} {e : Expr} {t t' : L2.St → Hp → (Int → Int → Hp → Prop) → Prop} (h : PRg X e t) (i : ∀ σ H Q, t' σ H Q → t σ H Q) : PRg X e t' := fun pins s σ H Q I q => h pins s σ H Q I (i σ H Q q)
theorem sr_1 {m : M D} (hg : Gl X "range") (hm : X.mg "range" = none) (ha : PE X a (rdE g W m)) (na : starEach [a] X.env = (false, eval a X.env) :: starEach [] X.env := by rfl) : PRg X (.Call (.Name "range" p) [a] [] pos) (rdR g W (mRg1 m)) :=
  PRg.imp (prg_1 hg hm ha na) fun σ H Q ⟨B, O, S, σd, rel, q⟩ => rdG_mono (rd_then (rel := RD) rel q) fun v H1 ⟨x, O1, S1, r1, rx, st1, p1⟩ => by
    cases x with
    | int i => exact ⟨i, rx, post_val (rel := same) (d := ((0 : Int), i)) (v := ((0 : Int), i)) p1 r1 rfl⟩
    | _ => exact p1.elim
theorem sr_2 {m n : M D} (hg : Gl X "range") (hm : X.mg "range" = none) (ha : PE X a (rdE g W m)) (hb : PE X b (rdE g W n)) (na : starEach [a, b] X.env = (false, eval a X.env) :: starEach [b] X.env := by rfl)
    (nb : starEach [b] X.env = (false, eval b X.env) :: starEach [] X.env := by rfl) (hp : (backTo pos (starEach [b] X.env)).any (·.1) = false := by rfl) : PRg X (.Call (.Name "range" p) [a, b] [] pos) (rdR g W (mRg2 m n)) :=
  PRg.imp (prg_2 hg hm ha hb na nb hp) fun σ H Q ⟨B, O, S, σd, rel, q⟩ => rdG_mono (rd_then (rel := RD) rel q) fun v H1 ⟨x, O1, S1, r1, rx, st1, p1⟩ =>
    rdG_mono (rd_then (rel := RD) r1 p1) fun w H2 ⟨y, O2, S2, r2, ry, st2, p2⟩ => by
      cases x with
      | int i =>
        cases y with
        | int j => exact ⟨i, j, rx, ry, post_val (rel := same) (d := (i, j)) (v := (i, j)) p2 r2 rfl⟩
        | _ => exact p2.elim
      | _ => cases y <;> exact p2.elim
def rgD (a b : Int) : List D := (List.range (b - a).toNat).map fun i => D.int (a + (i : Nat))
theorem rg_rd {c : Ct} {H : Hp} (a b : Int) : RDs c H (rgD a b) (rgV a b) := by
  have e1 : rgD a b = ((List.range (b - a).toNat).map fun i => a + (i : Nat)).map D.int := by unfold rgD; rw [List.map_map]; rfl
  have e2 : rgV a b = ((List.range (b - a).toNat).map fun i => a + (i : Nat)).map V.int := by unfold rgV; rw [List.map_map]; rfl
  rw [e1, e2]
  exact RDs.of_int _
def okRg (r : Int × Int) : Bool := decide (0 ≤ r.1) && decide (r.1 ≤ 100000) && decide (-100000 ≤ r.2) && decide (r.2 ≤ 100000)
theorem okRg_ok {r : Int × Int} (h : okRg r = true) : RgOk r.1 r.2 := by
  unfold okRg at h
  simp only [Bool.and_eq_true, decide_eq_true_eq] at h
  exact ⟨by omega, by omega, by omega, by omega, by omega⟩
def mLstRg (m : M (Int × Int)) : M (List D) := mB m fun r => fun _ S => if okRg r then .ok (rgD r.1 r.2) S else .bad
def mTupRg (m : M (Int × Int)) : M D := mB m fun r => fun _ S => if okRg r then .ok (.tup (rgD r.1 r.2)) S else .bad
theorem sn_listRg {m : M (Int × Int)} (hc : X.calm = true) (hg : Gl X "list") (hm : X.mg "list" = none) (h : PRg X e (rdR g W m)) (na : starEach [e] X.env = (false, eval e X.env) :: starEach [] X.env := by rfl) : PE X (.Call (.Name "list" p) [e] [] pos) (rdN g W (mLstRg m)) :=
  PE.imp (pe_listRg hc hg hm h na) fun σ H Q ⟨B, O, S, σd, rel, q⟩ => rdG_mono (rdN_then (rel := same) rel q) fun v H1 ⟨x, O1, S1, r1, rx, st1, p1⟩ => by
    cases (show _ = _ from rx)
    split at p1
    · next h => exact ⟨okRg_ok h, postN_new p1 r1 (rg_rd _ _)⟩
    · exact p1.elim
theorem se_tupRg {m : M (Int × Int)} (hc : X.calm = true) (hg : Gl X "tuple") (hm : X.mg "tuple" = none) (h : PRg X e (rdR g W m)) (na : starEach [e] X.env = (false, eval e X.env) :: starEach [] X.env := by rfl) : PE X (.Call (.Name "tuple" p) [e] [] pos) (rdE g W (mTupRg m)) :=
  PE.imp (pe_tupRgF hc hg hm h na) fun σ H Q ⟨B, O, S, σd, rel, q⟩ => rdG_mono (rd_then (rel := same) rel q) fun v H1 ⟨x, O1, S1, r1, rx, st1, p1⟩ => by
    cases (show _ = _ from rx)
    split at p1
    · next h => exact ⟨okRg_ok h, post_newT p1 r1 (rg_rd _ _)⟩
    · exact p1.elim
inductive Ty where | int | bool | str | tuple | list | dict | none
  deriving DecidableEq
def Ty.s : Ty → String | .int => "int" | .bool => "bool" | .str => "str" | .tuple => "tuple" | .list => "list" | .dict => "dict" | .none => "NoneType"
def tyOf (S : Sto) : D → Option Ty
  | .non => some .none
  | .bl _ => some .bool
  | .int _ => some .int
  | .str _ => some .str
  | .tup _ => some .tuple
  | .lst _ => some .list
  | .dic _ _ => some .dict
  | .ref n => match S[n]? with
    | some (.lst _) => some .list
    | some (.dic _ _) => some .dict
    | _ => Option.none
  | _ => Option.none
def isT (a t : Ty) : Bool := a = t || (a = .bool && t = .int)
theorem isT_ok (a t : Ty) (h : t ≠ .none) : kitB a.s t.s = some (isT a t) := by
  cases a <;> cases t <;> first | exact absurd rfl h | decide +kernel
theorem tyOf_ok {c : Ct} {K : PySem.W.Frag} {S : Sto} {H : Hp} {d : D} {v : V} {t : Ty} (r : RelS c S H) (h : RD c H d v) (e : tyOf S d = some t) : TyX K H v (.type t.s) := by
  cases d with
  | non => cases Option.some.inj e; cases (show _ = _ from h); exact .base .non
  | bl b => cases Option.some.inj e; cases (show _ = _ from h); exact .base (.bl b)
  | int b => cases Option.some.inj e; cases (show _ = _ from h); exact .base (.int b)
  | str b => cases Option.some.inj e; cases (show _ = _ from h); exact .base (.str b)
  | tup ds => cases Option.some.inj e; obtain ⟨a, vs, rfl, _, ⟨o, h1, _⟩, _⟩ := h; exact .fTuple h1
  | lst ds => cases Option.some.inj e; obtain ⟨a, vs, rfl, _, h1, _⟩ := h; exact .base (.lst h1)
  | dic ks ds => cases Option.some.inj e; obtain ⟨a, vs, rfl, _, h1, _⟩ := h; exact .base (.dK h1)
  | ref n =>
    obtain ⟨a, ho, rfl⟩ := h
    unfold tyOf at e
    simp only at e
    split at e
    · next q => cases Option.some.inj e; obtain ⟨vs, h1, _⟩ := r.ob n _ a q ho; exact .base (.lst h1)
    · next q => cases Option.some.inj e; obtain ⟨vs, h1, _⟩ := r.ob n _ a q ho; exact .base (.dK h1)
    · cases e
  | _ => cases e
def mIsi (t : Ty) (m : M D) : M D := mB m fun d => fun _ S => match tyOf S d with
  | some a => .ok (.bl (isT a t)) S
  | Option.none => .bad
def mIsi2 (t u : Ty) (m : M D) : M D := mB m fun d => fun _ S => match tyOf S d with
  | some a => .ok (.bl (isT a t || isT a u)) S
  | Option.none => .bad
theorem se_isi (t : Ty) (ht : t ≠ .none := by decide) {m : M D} {T : Str} {p2 : Pos} (hg : Gl X "isinstance") (hm : X.mg "isinstance" = none) (ha : PE X a (rdE g W m)) (hT : PE X (.Name T p2) (tC (.ty t.s)))
    (na : starEach [a, .Name T p2] X.env = (false, eval a X.env) :: starEach [.Name T p2] X.env := by rfl) (nb : starEach [.Name T p2] X.env = (false, eval (.Name T p2) X.env) :: starEach [] X.env := by rfl) (hp : (backTo pos (starEach [.Name T p2] X.env)).any (·.1) = false := by rfl) :
    PE X (.Call (.Name "isinstance" p) [a, .Name T p2] [] pos) (rdE g W (mIsi t m)) :=
  PE.imp (pe_callB call_isi hg hm (by decide +kernel) (pa_cons ha (pa_cons hT pa_nil nb) na) (by decide) (by decide) na hp) fun σ H Q ⟨B, O, S, σd, rel, q⟩ => rdG_mono (rd_then (rel := RD) rel q) fun v H1 ⟨x, O1, S1, r1, rx, st1, p1⟩ => by
    split at p1
    · next y q => exact ⟨v, .ty t.s, .type y.s, .type t.s, isT y t, rfl, .ty _, tyOf_ok r1.toRelS rx q, kit_ty (isT_ok y t ht), post_val p1 r1 rfl⟩
    · exact p1.elim
theorem se_isi2 (t u : Ty) (ht : t ≠ .none := by decide) (hu : u ≠ .none := by decide) {m : M D} {T U : Str} {p2 p3 p4 : Pos} {k : Nat} (hg : Gl X "isinstance") (hm : X.mg "isinstance" = none) (ha : PE X a (rdE g W m)) (hT : PE X (.Name T p2) (tC (.ty t.s))) (hU : PE X (.Name U p3) (tC (.ty u.s)))
    (na : starEach [a, .Tuple [.Name T p2, .Name U p3] k p4] X.env = (false, eval a X.env) :: starEach [.Tuple [.Name T p2, .Name U p3] k p4] X.env := by rfl)
    (nb : starEach [.Tuple [.Name T p2, .Name U p3] k p4] X.env = (false, eval (.Tuple [.Name T p2, .Name U p3] k p4) X.env) :: starEach [] X.env := by rfl) (hp : (backTo pos (starEach [.Tuple [.Name T p2, .Name U p3] k p4] X.env)).any (·.1) = false := by rfl)
    (nc : starEach [.Name T p2, .Name U p3] X.env = (false, eval (.Name T p2) X.env) :: starEach [.Name U p3] X.env := by rfl) (nd : starEach [.Name U p3] X.env = (false, eval (.Name U p3) X.env) :: starEach [] X.env := by rfl) :
    PE X (.Call (.Name "isinstance" p) [a, .Tuple [.Name T p2, .Name U p3] k p4] [] pos) (rdE g W (mIsi2 t u m)) :=
  PE.imp (pe_callB call_isiT hg hm (by decide +kernel) (pa_cons ha (pa_cons (pe_tup (pa_cons hT (pa_cons hU pa_nil nd) nc)) pa_nil nb) na) (by decide) (by decide) na hp) fun σ H Q ⟨B, O, S, σd, rel, q⟩ => rdG_mono (rd_then (rel := RD) rel q) fun v H1 ⟨x, O1, S1, r1, rx, st1, p1⟩ => by
    refine ⟨by show 2 ≤ sizeLine; decide, fun tp hn => ?_⟩
    split at p1
    · next y q =>
      have rel2 := r1.new (o := .tup [.ty t.s, .ty u.s]) hn
      refine ⟨v, tp, [.ty t.s, .ty u.s], .type y.s, [.type t.s, .type u.s], isT y t || isT y u, rfl, upd_same, .cons (.ty _) (.cons (.ty _) .nil), tyOf_ok rel2.toRelS (RD.step (c := ⟨g.K, g.G, B, O1⟩) (O' := O1) (Step.new hn) x v rx) q, ?_, post_new p1 r1 hn rfl⟩
      refine kitAny_cons (kit_ty (isT_ok y t ht)) (fun e1 => kitAny_cons (kit_ty (isT_ok y u hu)) (fun e2 => ?_) fun e2 => ?_) fun e1 => ?_
      · rw [e1, e2]; rfl
      · rw [e2, Bool.or_true]
      · rw [e1, Bool.true_or]
    · exact p1.elim
end
end DL

namespace DL
open PySem PySem.Spec PyProof.Rows L2
mutual
/-- all places of the store in it lie below n -/
def cl (n : Nat) : D → Bool
  | .ref m => decide (m < n)
  | .tup ds => cll n ds
  | .lst ds => cll n ds
  | .dic _ ds => cll n ds
  | .ins _ _ ds => cll n ds
  | .xc _ _ _ ds => cll n ds
  | _ => true
def cll (n : Nat) : List D → Bool
  | [] => true
  | d :: ds => cl n d && cll n ds
end
def clO (n : Nat) : Ob → Bool
  | .lst ds => cll n ds
  | .dic _ ds => cll n ds
  | .ins _ _ ds => cll n ds
structure Tk (c c' : Ct) (n : Nat) : Prop where
  av : ∀ a, c.av a → c'.av a
  rf : ∀ (m : Nat) a, m < n → c.O[m]? = some a → c'.O[m]? = some a
  k : c'.K = c.K
  g : c'.G = c.G
mutual
theorem RD.tk {c c' : Ct} {n : Nat} {H : Hp} (s : Tk c c' n) : ∀ (d : D) (v : V), cl n d = true → RD c H d v → RD c' H d v
  | .dead, _, _, h => h
  | .non, _, _, h => h
  | .bl _, _, _, h => h
  | .int _, _, _, h => h
  | .str _, _, _, h => h
  | .tup ds, v, q, ⟨a, vs, e, h, t, r⟩ => ⟨a, vs, e, s.av a h, t, RDs.tk s ds vs (by simpa [cl] using q) r⟩
  | .lst ds, v, q, ⟨a, vs, e, h, t, r⟩ => ⟨a, vs, e, s.av a h, t, RDs.tk s ds vs (by simpa [cl] using q) r⟩
  | .dic ks ds, v, q, ⟨a, vs, e, h, t, l, r⟩ => ⟨a, vs, e, s.av a h, t, l, RDs.tk s ds vs (by simpa [cl] using q) r⟩
  | .ins k ns ds, v, q, ⟨a, dx, vs, e, h, t, l, r⟩ => ⟨a, dx, vs, e, s.av a h, by rw [s.g]; exact t, l, RDs.tk s ds vs (by simpa [cl] using q) r⟩
  | .ref m, v, q, ⟨a, h, e⟩ => ⟨a, s.rf m a (by simpa [cl] using q) h, e⟩
  | .scr ns, v, _, ⟨a, e, h⟩ => ⟨a, e, by
      rcases h with ⟨h, q⟩ | h
      · exact .inl ⟨h, s.av a q⟩
      · exact .inr (by rw [s.k]; exact h)⟩
  | .ty _, _, _, h => h
  | .xc a dd ns ds, v, q, ⟨e, h⟩ => ⟨e, by
      rcases h with h | ⟨x, vs, e1, h1, h2, l, r⟩
      · exact .inl h
      · exact .inr ⟨x, vs, e1, s.av x h1, h2, l, RDs.tk s ds vs (by simpa [cl] using q) r⟩⟩
theorem RDs.tk {c c' : Ct} {n : Nat} {H : Hp} (s : Tk c c' n) : ∀ (ds : List D) (vs : List V), cll n ds = true → RDs c H ds vs → RDs c' H ds vs
  | [], _, _, h => h
  | d :: ds, _, q, ⟨v, vs', e, r, t⟩ => by
    have q' : cl n d = true ∧ cll n ds = true := by simpa [cll] using q
    exact ⟨v, vs', e, RD.tk s d v q'.1 r, RDs.tk s ds vs' q'.2 t⟩
end
mutual
theorem RD.closed {c : Ct} {H : Hp} : ∀ (d : D) (v : V), RD c H d v → cl c.O.length d = true
  | .dead, _, _ => rfl
  | .non, _, _ => rfl
  | .bl _, _, _ => rfl
  | .int _, _, _ => rfl
  | .str _, _, _ => rfl
  | .tup ds, v, ⟨a, vs, e, h, t, r⟩ => by simpa [cl] using RDs.closed ds vs r
  | .lst ds, v, ⟨a, vs, e, h, t, r⟩ => by simpa [cl] using RDs.closed ds vs r
  | .dic ks ds, v, ⟨a, vs, e, h, t, l, r⟩ => by simpa [cl] using RDs.closed ds vs r
  | .ins k ns ds, v, ⟨a, dx, vs, e, h, t, l, r⟩ => by simpa [cl] using RDs.closed ds vs r
  | .ref m, v, ⟨a, h, e⟩ => by simpa [cl] using (List.getElem?_eq_some_iff.mp h).1
  | .scr ns, v, _ => rfl
  | .ty _, _, _ => rfl
  | .xc a dd ns ds, v, ⟨e, h⟩ => by
      rcases h with ⟨_, e2, _⟩ | ⟨x, vs, e1, h1, h2, l, r⟩
      · subst e2; rfl
      · simpa [cl] using RDs.closed ds vs r
theorem RDs.closed {c : Ct} {H : Hp} : ∀ (ds : List D) (vs : List V), RDs c H ds vs → cll c.O.length ds = true
  | [], _, _ => rfl
  | d :: ds, _, ⟨v, vs', e, r, t⟩ => by simp [cll, RD.closed d v r, RDs.closed ds vs' t]
end
theorem OO.closed {c : Ct} {H : Hp} {a : Addr} {o : Ob} (h : OO c H a o) : clO c.O.length o = true := by
  cases o with
  | lst ds => obtain ⟨vs, _, r⟩ := h; exact RDs.closed ds vs r
  | dic ks ds => obtain ⟨vs, _, _, r⟩ := h; exact RDs.closed ds vs r
  | ins k ns ds => obtain ⟨dx, vs, _, _, r⟩ := h; exact RDs.closed ds vs r
theorem OO.tk {c c' : Ct} {n : Nat} {H : Hp} {a : Addr} {o : Ob} (s : Tk c c' n) (q : clO n o = true) (h : OO c H a o) : OO c' H a o := by
  cases o with
  | lst ds => obtain ⟨vs, h1, r⟩ := h; exact ⟨vs, h1, RDs.tk s ds vs q r⟩
  | dic ks ds => obtain ⟨vs, h1, l, r⟩ := h; exact ⟨vs, h1, l, RDs.tk s ds vs q r⟩
  | ins k ns ds => obtain ⟨dx, vs, h1, l, r⟩ := h; exact ⟨dx, vs, by rw [s.g]; exact h1, l, RDs.tk s ds vs q r⟩
def optAll {α β : Type} (f : α → Option β) : List α → Option (List β)
  | [] => some []
  | x :: xs => match f x with
    | some y => (optAll f xs).map (y :: ·)
    | none => none
/-- what a def hands back: its own things of the store become settled -/
def fz (n : Nat) (S : Sto) : Nat → D → Option D
  | 0, d => if cl n d then some d else none
  | k + 1, d => if cl n d then some d else match d with
    | .ref m => match S[m]? with
      | some (.lst ds) => (optAll (fz n S k) ds).map .lst
      | some (.dic ks ds) => (optAll (fz n S k) ds).map (.dic ks)
      | some (.ins c ns ds) => (optAll (fz n S k) ds).map (.ins c ns)
      | none => none
    | .tup ds => (optAll (fz n S k) ds).map .tup
    | .lst ds => (optAll (fz n S k) ds).map .lst
    | _ => none
theorem tk_take {c : Ct} {n : Nat} : Tk c (c.at (c.O.take n)) n :=
  ⟨fun a h => ⟨fun z => h.1 (List.mem_of_mem_take z), h.2⟩, fun m a hm h => by
    show (c.O.take n)[m]? = some a
    rw [List.getElem?_take, if_pos hm]
    exact h, rfl, rfl⟩
theorem not_take {O : List Addr} (nd : O.Nodup) {n m : Nat} {a : Addr} (h : O[m]? = some a) (hm : n ≤ m) : a ∉ O.take n := fun z => by
  obtain ⟨i, hi, e⟩ := List.getElem_of_mem z
  have hi' : i < n := Nat.lt_of_lt_of_le hi (by rw [List.length_take]; omega)
  have e1 : O[i]? = some a := by
    have := List.getElem?_eq_getElem hi
    rw [e, List.getElem?_take, if_pos hi'] at this
    exact this
  have := (List.getElem?_inj (List.getElem?_eq_some_iff.mp h).1 nd).mp (h.trans e1.symm)
  omega
theorem optAll_rd {c c' : Ct} {H : Hp} {f : D → Option D} (hf : ∀ d d' v, f d = some d' → RD c H d v → RD c' H d' v) : ∀ (ds es : List D) (vs : List V), optAll f ds = some es → RDs c H ds vs → RDs c' H es vs
  | [], _, _, e, h => by cases Option.some.inj e; exact h
  | d :: ds, es, _, e, ⟨v, vs', ev, r, t⟩ => by
    unfold optAll at e
    split at e
    · next y q =>
      obtain ⟨ys, h1, h2⟩ := Option.map_eq_some_iff.mp e
      rw [← h2]
      exact ⟨v, vs', ev, hf d y v q r, optAll_rd hf ds ys vs' h1 t⟩
    · cases e
theorem fz_ok {c : Ct} {S : Sto} {H : Hp} {n : Nat} (r : RelS c S H) : ∀ (k : Nat) (d d' : D) (v : V), fz n S k d = some d' → RD c H d v → RD (c.at (c.O.take n)) H d' v
  | 0, d, d', v, e, h => by
    unfold fz at e
    split at e
    · next q => cases Option.some.inj e; exact RD.tk tk_take d v q h
    · cases e
  | k + 1, d, d', v, e, h => by
    unfold fz at e
    split at e
    · next q => cases Option.some.inj e; exact RD.tk tk_take d v q h
    · next q =>
      cases d with
      | ref m =>
        obtain ⟨a, ho, rfl⟩ := h
        have hm : n ≤ m := by
          have : ¬ m < n := fun z => q (by simpa [cl] using z)
          omega
        have av : (c.at (c.O.take n)).av a := ⟨not_take r.nd ho hm, r.nb a (mem_of_at ho)⟩
        simp only at e
        split at e
        · next ds qs =>
          obtain ⟨es, h1, h2⟩ := Option.map_eq_some_iff.mp e
          obtain ⟨vs, g1, g2⟩ := r.ob m _ a qs ho
          rw [← h2]
          exact ⟨a, vs, rfl, av, g1, optAll_rd (fz_ok r k) ds es vs h1 g2⟩
        · next ks ds qs =>
          obtain ⟨es, h1, h2⟩ := Option.map_eq_some_iff.mp e
          obtain ⟨vs, g1, l, g2⟩ := r.ob m _ a qs ho
          rw [← h2]
          exact ⟨a, vs, rfl, av, g1, l, optAll_rd (fz_ok r k) ds es vs h1 g2⟩
        · next kk ns ds qs =>
          obtain ⟨es, h1, h2⟩ := Option.map_eq_some_iff.mp e
          obtain ⟨dx, vs, g1, l, g2⟩ := r.ob m _ a qs ho
          rw [← h2]
          exact ⟨a, dx, vs, rfl, av, g1, l, optAll_rd (fz_ok r k) ds es vs h1 g2⟩
        · cases e
      | tup ds =>
        simp only at e
        obtain ⟨es, h1, h2⟩ := Option.map_eq_some_iff.mp e
        obtain ⟨a, vs, rfl, av, g1, g2⟩ := h
        rw [← h2]
        exact ⟨a, vs, rfl, (tk_take (n := n)).av a av, g1, optAll_rd (fz_ok r k) ds es vs h1 g2⟩
      | lst ds =>
        simp only at e
        obtain ⟨es, h1, h2⟩ := Option.map_eq_some_iff.mp e
        obtain ⟨a, vs, rfl, av, g1, g2⟩ := h
        rw [← h2]
        exact ⟨a, vs, rfl, (tk_take (n := n)).av a av, g1, optAll_rd (fz_ok r k) ds es vs h1 g2⟩
      | _ => cases e
/-- what stood in the store ahead stands, or holds none of the def's own things -/
def OkSt (S S' : Sto) : Prop := S.length ≤ S'.length ∧ ∀ (k : Nat) o, k < S.length → S'[k]? = some o → S[k]? = some o ∨ clO S.length o = true
open Classical in
noncomputable def fin (S S' : Sto) (d : D) : R D := if OkSt S S' then match fz S.length S' 4 d with
    | some d' => .ok d' (S'.take S.length)
    | none => .bad
  else .bad
open Classical in
noncomputable def finX (S S' : Sto) (k : Nat) (ns : List Str) (ds : List D) : R D := if OkSt S S' ∧ cll S.length ds = true then .exc k ns ds (S'.take S.length) else .bad
noncomputable def mFun (slots n : Nat) (m : MS) (ds : List D) (S : Sto) : R D := if ds.length = n then
    match m (ds ++ List.replicate (slots - n) .dead) S with
    | .rt d S' => fin S S' d
    | .nx _ S' => fin S S' .non
    | .exc k ns es _ S' => finX S S' k ns es
    | _ => .bad
  else .bad
/-- behind a call of a def -/
def PostF (c : Ct) (E : XK) (H : Hp) (r : R D) (Q : VK) : Prop := match r with
  | .ok d S' => ∀ v O' H', RelS (c.at O') S' H' → RD (c.at O') H' d v → Step c.O H O' H' → Q v H'
  | .exc k ns ds S' => ∀ dd O' H', RelS (c.at O') S' H' → XOk (c.at O') H' ns ds dd → Step c.O H O' H' → E (.ref (c.G k)) dd H'
  | .bad => False
def spD (g : Gx) (f : List D → Sto → R D) : Sp := fun vs H Q E => ∃ B O S ds, RelS ⟨g.K, g.G, B, O⟩ S H ∧ RDs ⟨g.K, g.G, B, O⟩ H ds vs ∧ PostF ⟨g.K, g.G, B, O⟩ E H (f ds S) Q
theorem relS_take {c : Ct} {S S' : Sto} {H H' : Hp} {O' : List Addr} (r : RelS c S H) (r' : RelS (c.at O') S' H') (st : Step c.O H O' H') (ok : OkSt S S') : RelS c (S'.take S.length) H' ∧ Step c.O H c.O H' ∧ O'.take S.length = c.O := by
  obtain ⟨t, ht⟩ := st.pre
  have e0 : O'.take S.length = c.O := by rw [ht, ← r.ol]; exact List.take_left ..
  refine ⟨⟨by rw [List.length_take]; have := r.ol; have := ok.1; omega, r.nd, r.nb, r'.hb, fun n o a h1 h2 => ?_⟩, ⟨⟨[], by simp⟩, fun a o n e => ⟨(st.kp a o n e).1, n⟩⟩, e0⟩
  have hn : n < S.length := by rw [← r.ol]; exact (List.getElem?_eq_some_iff.mp h2).1
  rw [List.getElem?_take, if_pos hn] at h1
  have h2' : O'[n]? = some a := by rw [ht]; exact List.getElem?_append_left (List.getElem?_eq_some_iff.mp h2).1 ▸ h2
  have ho := r'.ob n o a h1 h2'
  have q : clO S.length o = true := by
    rcases ok.2 n o hn h1 with z | z
    · rw [← r.ol]; exact (r.ob n o a z h2).closed
    · exact z
  have tk : Tk (c.at O') c S.length := by
    have := tk_take (c := c.at O') (n := S.length)
    rw [show (c.at O').O.take S.length = c.O from e0] at this
    exact this
  exact OO.tk tk q ho
theorem rel_start {c : Ct} {S : Sto} {H : Hp} {ds : List D} {vs : List V} {N : List Str} (r : RelS c S H) (h : RDs c H ds vs) : Rel c S (ds ++ List.replicate (N.length - ds.length) .dead) (L2.start N vs) H :=
  { r with
    len := by unfold L2.start; simp [h.length]
    sl := fun i d e => by
      by_cases hi : i < ds.length
      · rw [List.getElem?_append_left hi] at e
        obtain ⟨v, h1, h2⟩ := h.get e
        refine .inr ⟨v, ?_, h2⟩
        unfold L2.start
        rw [List.getElem?_append_left (by rw [List.length_map, ← h.length]; exact hi), List.getElem?_map, h1]
        rfl
      · rw [List.getElem?_append_right (Nat.le_of_not_lt hi)] at e
        exact .inl (List.eq_of_mem_replicate (List.mem_of_getElem? e)) }
theorem fn_okD {P : Program} {w : World} {K : PySem.W.Frag} {mg : Str → Option Value} {base : Heap} {x qual : Str} {st : Stmt} {f : Addr} {fd : FuncData} {N ps : List Str} {k : Nat} {G : Nat → Addr} {m : MS} (F : Fun K x qual st f fd) (Sc : FnScope N ps (defScope st))
    (hbody : ∀ (cdv : Value) (A : Around) (outer : List Env) (s : Shared) (H : Hp) (E : XK), Room k (A.deeper (envOfC qual (defScope st) s.heap.objs.size f cdv)) →
      PSs (cxOf (L2.CX P w) P w K mg base N qual (defScope st) f cdv A outer s H E) (defBody st) (rdS ⟨K, G⟩ (fun cls d _ H => E cls d H) m)) :
    FnOk P w K mg base (L2.CX P w) (k + 1) f fd ps (spD ⟨K, G⟩ (mFun N.length ps.length m)) := by
  refine F.okX Sc (fun vs H Q E h => ?_) (fun cdv A outer s H vs Q E hr h => ⟨_, hbody cdv A outer s H E hr, ?_⟩)
  · obtain ⟨B, O, S, ds, r, rd, p⟩ := h
    unfold mFun at p
    split at p
    · next e => rw [← rd.length]; exact e
    · exact p.elim
  · obtain ⟨B, O, S, ds, r, rd, p⟩ := h
    unfold mFun at p
    split at p
    · next e =>
      rw [← e] at p
      refine ⟨B, O, S, _, rel_start (N := N) r rd, ?_⟩
      revert p
      cases m (ds ++ List.replicate (N.length - ds.length) .dead) S with
      | rt d S' =>
        intro p v O' H' h1 h2 h3
        simp only [fin] at p
        split at p
        · next ok =>
          split at p
          · next d' q =>
            obtain ⟨a1, a2, a3⟩ := relS_take (c := ⟨K, G, B, O⟩) r h1 h3 ok
            have := fz_ok h1 4 d d' v q h2
            rw [show ((⟨K, G, B, O⟩ : Ct).at O').O.take S.length = O from a3] at this
            exact p v O H' a1 this a2
          · exact p.elim
        · exact p.elim
      | nx σ' S' =>
        intro p σ2 O' H' h1 h3
        simp only [fin] at p
        split at p
        · next ok =>
          obtain ⟨a1, a2, a3⟩ := relS_take (c := ⟨K, G, B, O⟩) r h1.toRelS h3 ok
          have e1 : fz S.length S' 4 .non = some .non := rfl
          rw [e1] at p
          exact p .non O H' a1 rfl a2
        · exact p.elim
      | exc k ns es σ' S' =>
        intro p dd σ2 O' H' h1 hx h3
        simp only [finX] at p
        split at p
        · next ok =>
          obtain ⟨a1, a2, a3⟩ := relS_take (c := ⟨K, G, B, O⟩) r h1.toRelS h3 ok.1
          have tk : Tk (⟨K, G, B, O'⟩ : Ct) ⟨K, G, B, O⟩ S.length := by
            have := tk_take (c := ⟨K, G, B, O'⟩) (n := S.length)
            rw [show (⟨K, G, B, O'⟩ : Ct).O.take S.length = O from a3] at this
            exact this
          refine p dd O H' a1 ?_ a2
          rcases hx with hx | ⟨a, vs, e1, av, e2, l, e3⟩
          · exact .inl hx
          · exact .inr ⟨a, vs, e1, tk.av a av, e2, l, RDs.tk tk es vs ok.2 e3⟩
        · exact p.elim
      | bk σ' S' => exact fun p => p.elim
      | ct σ' S' => exact fun p => p.elim
      | bad => exact fun p => p.elim
    · exact p.elim
section
variable {g : Gx} {W : WX} {X : Cx} {e a b : Expr} {es : List Expr} {pos p : Pos} {x : Str} {n : M (List D)}
theorem postF_of {B O : List Addr} {S : Sto} {σd : Sl} {σ : L2.St} {H : Hp} {r : R D} {Q : VK} (rl : Rel ⟨g.K, g.G, B, O⟩ S σd σ H) (p : Post RD ⟨g.K, g.G, B, O⟩ W σ σd H r Q) : PostF ⟨g.K, g.G, B, O⟩ (WE W σ) H r Q := by
  cases r with
  | ok d S' => exact fun v O' H' h1 h2 h3 => p v O' H' (rl.step h3 h1) h2 h3
  | exc k ns ds S' => exact fun dd O' H' h1 h2 h3 => p dd O' H' (rl.step h3 h1) h2 h3
  | bad => exact p
theorem se_call {k : Nat} {f : Addr} {fd : FuncData} {ps : List Str} {fn : List D → Sto → R D} (tk : Takes X W) (F : FnOk X.prog X.w X.K X.mg X.base (L2.CX X.prog X.w) k f fd ps (spD g fn)) (hr : Room k X.A) (hg : Gl X x) (hm : X.mg x = some (.ref f))
    (hk : PySem.W.keepIn X.K (.ref f) = true) (hb : Binds X.K fd ps []) (ha : PA X (e :: es) (rdA g W n)) (hdb : (x == ("__debug__" : Str)) = false := by decide)
    (he : starEach (e :: es) X.env = (false, eval e X.env) :: starEach es X.env := by rfl) (hpl : (backTo pos (starEach es X.env)).any (·.1) = false := by rfl) : PE X (.Call (.Name x p) (e :: es) [] pos) (rdE g W (mApp fn n)) :=
  PE.imp (pe_callS (E := WE W) F hr hg hm hk hb (fun σ => passAt tk σ) ha hdb he hpl) fun σ H Q ⟨B, O, S, σd, rel, q⟩ => rdG_mono (rd_then (rel := RDs) rel q) fun v H1 ⟨ds, O1, S1, r1, rx, st1, p1⟩ =>
    ⟨B, O1, S1, ds, r1.toRelS, rx, postF_of r1 p1⟩
end
end DL

namespace DL
open PySem PySem.Spec PyProof.Rows L2
def mBS {α : Type} (a : M α) (f : α → MS) : MS := fun σd S => match a σd S with
  | .ok x S1 => f x σd S1
  | .exc k ns ds S1 => .exc k ns ds σd S1
  | .bad => .bad
theorem rdS_then {α β : Type} {rel : Ct → Hp → α → β → Prop} {W : WX} {S : Sto} {σd : Sl} {σ : L2.St} {H : Hp} {K : PySem.W.Frag} {G : Nat → Addr} {B O : List Addr} {a : M α} {f : α → MS} {J : Ends} (r : Rel ⟨K, G, B, O⟩ S σd σ H)
    (p : PostS ⟨K, G, B, O⟩ W H (mBS a f σd S) J) :
    rdG rel ⟨K, G⟩ W a σ H fun v H1 => ∃ d O1 S1, Rel ⟨K, G, B, O1⟩ S1 σd σ H1 ∧ rel ⟨K, G, B, O1⟩ H1 d v ∧ Step O H O1 H1 ∧ PostS ⟨K, G, B, O1⟩ W H1 (f d σd S1) J := by
  refine ⟨B, O, S, σd, r, ?_⟩
  unfold mBS at p
  revert p
  cases a σd S with
  | ok d S' => exact fun p v O' H' h1 h2 h3 => ⟨d, O', S', h1, h2, h3, PostS.step (c := ⟨K, G, B, O⟩) h3 p⟩
  | exc k ns ds S' => exact fun p dd O' H' h1 h2 h3 => p dd σ O' H' h1 h2 h3
  | bad => exact fun p => p.elim
theorem postS_nx {c : Ct} {W : WX} {S : Sto} {σd : Sl} {σ : L2.St} {H : Hp} {J : Ends} (p : PostS c W H (.nx σd S) J) (r : Rel c S σd σ H) : J.nx σ H := p σ c.O H r (Step.refl _ _)
theorem Rel.set {c : Ct} {S : Sto} {σd : Sl} {σ : L2.St} {H : Hp} {d : D} {v : V} (r : Rel c S σd σ H) (i : Nat) (h : RD c H d v) : Rel c S (σd.set i d) (σ.set i (some v)) H :=
  { r.toRelS with
    len := by rw [List.length_set, List.length_set]; exact r.len
    sl := fun j e q => by
      by_cases hj : i = j
      · subst hj
        by_cases hl : i < σd.length
        · rw [List.getElem?_set_self hl] at q
          rw [← Option.some.inj q]
          exact .inr ⟨v, List.getElem?_set_self (r.len ▸ hl), h⟩
        · rw [List.getElem?_eq_none (by rw [List.length_set]; omega)] at q
          cases q
      · rw [List.getElem?_set_ne hj] at q
        rcases r.sl j e q with z | ⟨u, h1, h2⟩
        · exact .inl z
        · exact .inr ⟨u, by rw [List.getElem?_set_ne hj]; exact h1, h2⟩ }
def setAll (σ : Sl) (is : List Nat) (ds : List D) : Sl := match is with
  | [] => σ
  | i :: is => match ds with
    | [] => σ
    | d :: ds => setAll (σ.set i d) is ds
termination_by structural is
def setVs (σ : L2.St) (is : List Nat) (vs : List V) : L2.St := match is with
  | [] => σ
  | i :: is => match vs with
    | [] => σ
    | v :: vs => setVs (σ.set i (some v)) is vs
termination_by structural is
theorem Rel.setAll {c : Ct} {S : Sto} {H : Hp} : ∀ (is : List Nat) {ds : List D} {vs : List V} {σd : Sl} {σ : L2.St}, Rel c S σd σ H → RDs c H ds vs → Rel c S (setAll σd is ds) (setVs σ is vs) H
  | [], _, _, _, _, r, _ => r
  | i :: is, [], _, _, _, r, h => by rw [show _ = _ from h]; exact r
  | i :: is, d :: ds, _, _, _, r, ⟨v, vs', e, h1, h2⟩ => by rw [e]; exact Rel.setAll is (r.set i h1) h2
/-- targets: a name, names of a tuple -/
inductive Tgt where | nm (i : Nat) | tp (is : List Nat)
def Tgt.slots : Tgt → List Nat | .nm i => [i] | .tp is => is
def gNs : List Nat → TGs
  | [] => gNil
  | i :: is => gCons (gName i) (gNs is)
def Tgt.g (K : PySem.W.Frag) : Tgt → TG
  | .nm i => gName i
  | .tp is => gTup K is.length (gNs is)
theorem gNs_of : ∀ (is : List Nat) {vs : List V} {σ : L2.St} {H : Hp} {Q : L2.St → Hp → Prop}, vs.length = is.length → Q (setVs σ is vs) H → gNs is vs σ H Q
  | [], [], _, _, _, _, q => ⟨rfl, q⟩
  | i :: is, v :: vs, σ, H, Q, h, q => ⟨v, vs, rfl, gNs_of is (by simpa using h) q⟩
  | [], _ :: _, _, _, _, h, _ => by cases h
  | _ :: _, [], _, _, _, h, _ => by cases h
/-- what is stored: a thing, or the things of a tuple -/
def Tgt.ds (t : Tgt) (d : D) : Option (List D) := match t with
  | .nm _ => some [d]
  | .tp is => match tupOf d with
    | some ds => if ds.length = is.length then some ds else none
    | none => none
theorem tgt_ok {c : Ct} {K : PySem.W.Frag} {H : Hp} {t : Tgt} {d : D} {ds : List D} {v : V} {σ : L2.St} {Q : L2.St → Hp → Prop} (h : RD c H d v) (e : t.ds d = some ds) : ∃ vs, RDs c H ds vs ∧ (Q (setVs σ t.slots vs) H → t.g K v σ H Q) := by
  cases t with
  | nm i => cases Option.some.inj e; exact ⟨[v], RDs.one h, fun q => q⟩
  | tp is =>
    unfold Tgt.ds at e
    simp only at e
    split at e
    · next xs q =>
      split at e
      · next hl =>
        cases Option.some.inj e
        obtain ⟨a, vs, rfl, h1, h2⟩ := tupOf_ok h q
        exact ⟨vs, h2, fun q => ⟨a, vs, rfl, h1.sq, by rw [← h2.length]; exact hl, gNs_of is (by rw [← h2.length]; exact hl) q⟩⟩
      · cases e
    · cases e
section
variable {g : Gx} {W : WX} {X : Cx} {e a b : Expr} {es : List Expr} {pos p : Pos} {st : Stmt} {sts : List Stmt}
def mPass : MS := fun σd S => .nx σd S
def mSeq (a b : MS) : MS := fun σd S => match a σd S with
  | .nx σ1 S1 => b σ1 S1
  | r => r
theorem ss_nil : PSs X [] (rdS g W mPass) := PSs.imp pss_nil fun J σ H ⟨B, O, S, σd, r, p⟩ => postS_nx p r
theorem ss_pass : PS X (.Pass pos) (rdS g W mPass) := PS.imp ps_pass fun J σ H ⟨B, O, S, σd, r, p⟩ => postS_nx p r
theorem ss_one {m : MS} (h : PS X st (rdS g W m)) : PSs X [st] (rdS g W m) := pss_one h
theorem ss_cons {m n : MS} (h : PS X st (rdS g W m)) (h2 : PSs X sts (rdS g W n)) : PSs X (st :: sts) (rdS g W (mSeq m n)) := PSs.imp (pss_cons h h2) fun J σ H ⟨B, O, S, σd, r, p⟩ => by
  refine ⟨B, O, S, σd, r, ?_⟩
  unfold mSeq at p
  revert p
  cases m σd S with
  | nx σ1 S1 => exact fun p σ' O' H' h1 h3 => ⟨B, O', S1, σ1, h1, PostS.step (c := ⟨g.K, g.G, B, O⟩) h3 p⟩
  | rt d S1 => exact fun p => p
  | bk d S1 => exact fun p => p
  | ct d S1 => exact fun p => p
  | exc k ns ds σ1 S1 => exact fun p => p
  | bad => exact fun p => p
def mDrop (m : M D) : MS := mBS m fun _ => mPass
theorem ss_expr {m : M D} (h : PE X e (rdE g W m)) (hs : swapsWith e none pos.line X.env = pure false := by rfl) : PS X (.Expr e pos) (rdS g W (mDrop m)) := PS.imp (ps_expr h hs) fun J σ H ⟨B, O, S, σd, r, p⟩ =>
  rdG_mono (rdS_then (rel := RD) r p) fun v H1 ⟨x, O1, S1, r1, rx, st1, p1⟩ => postS_nx p1 r1
def mRet (m : M D) : MS := mBS m fun d => fun _ S => .rt d S
theorem ss_ret {m : M D} (h : PE X e (rdE g W m)) : PS X (.Return (some e) pos) (rdS g W (mRet m)) := PS.imp (ps_ret h) fun J σ H ⟨B, O, S, σd, r, p⟩ =>
  rdG_mono (rdS_then (rel := RD) r p) fun v H1 ⟨x, O1, S1, r1, rx, st1, p1⟩ => p1 v O1 H1 r1.toRelS rx (Step.refl _ _)
def mSet (i : Nat) (m : M D) : MS := mBS m fun d => fun σd S => .nx (σd.set i d) S
theorem ss_set {i : Nat} {x : Str} {pos' : Pos} {m : M D} (hN : X.N.Nodup) (hi : X.N[i]? = some x) (hx : Loc X.env.scope x) (h : PE X e (rdE g W m)) (hs : swapsWith e (some (.Name x pos')) pos.line X.env = pure false := by rfl) (hf : X.fn x = true ∨ X.env.scope.names.lookup x = some .local := by first | exact .inl rfl | exact .inr rfl | assumption) :
    PS X (.Assign [.Name x pos'] e pos) (rdS g W (mSet i m)) := PS.imp (ps_set hN hi hx h hs hf) fun J σ H ⟨B, O, S, σd, r, p⟩ =>
  rdG_mono (rdS_then (rel := RD) r p) fun v H1 ⟨x, O1, S1, r1, rx, st1, p1⟩ => postS_nx p1 (r1.set i rx)
/-- a target, a value -/
def mAsg (t : Tgt) (m : M D) : MS := mBS m fun d => fun σd S => match t.ds d with
  | some ds => .nx (setAll σd t.slots ds) S
  | none => .bad
theorem ss_asg {tg : Expr} {t : Tgt} {m : M D} (h : PE X e (rdE g W m)) (hg : PG X tg (t.g X.K)) (hs : swapsWithSole [tg] e pos.line X.env = pure false := by rfl) (hw : swappedStores [tg] e X.env = pure none := by rfl) (h1 : (assignEach [tg] X.env).map (·.2) = [assign tg X.env] := by rfl) : PS X (.Assign [tg] e pos) (rdS g W (mAsg t m)) :=
  PS.imp (ps_asg h hg hs hw h1) fun J σ H ⟨B, O, S, σd, r, p⟩ => rdG_mono (rdS_then (rel := RD) r p) fun v H1 ⟨x, O1, S1, r1, rx, st1, p1⟩ => by
    split at p1
    · next ds q =>
      obtain ⟨vs, h1, h2⟩ := tgt_ok (K := X.K) (σ := σ) (Q := J.nx) rx q
      exact h2 (postS_nx p1 (Rel.setAll t.slots r1 h1))
    · exact p1.elim
/-- a, b = e1, e2 by names alone -/
def mPar (is : List Nat) (m : M (List D)) : MS := mBS m fun ds => fun σd S => if ds.length = is.length then .nx (setAll σd is ds) S else .bad
theorem ss_par {i j : Nat} {x y : Str} {px py pt : Pos} {kt k2 pt2} {m : M (List D)} (hc : X.calm = true) (hN : X.N.Nodup) (hi : X.N[i]? = some x) (hj : X.N[j]? = some y) (hij : i ≠ j)
    (hx : X.env.scope.names.lookup x = some .local) (hy : X.env.scope.names.lookup y = some .local) (ha : PA X [a, b] (rdA g W m))
    (hw : swappedStores [.Tuple [.Name x px, .Name y py] kt pt] (.Tuple [a, b] k2 pt2) X.env = pure (some [x, y]) := by rfl)
    (hs : swapsWithSole [.Tuple [.Name x px, .Name y py] kt pt] (.Tuple [a, b] k2 pt2) pos.line X.env = pure false := by rfl) :
    PS X (.Assign [.Tuple [.Name x px, .Name y py] kt pt] (.Tuple [a, b] k2 pt2) pos) (rdS g W (mPar [i, j] m)) :=
  PS.imp (ps_par hc hN hi hj hij hx hy ha hw hs) fun J σ H ⟨B, O, S, σd, r, p⟩ => rdG_mono (rdS_then (rel := RDs) r p) fun vs H1 ⟨ds, O1, S1, r1, rx, st1, p1⟩ => by
    split at p1
    · next hl =>
      have hl2 : vs.length = 2 := by rw [← rx.length]; exact hl
      match vs, hl2, rx with
      | [v, w], _, rx => exact ⟨v, w, rfl, postS_nx p1 (Rel.setAll [i, j] r1 rx)⟩
    · exact p1.elim
theorem ss_par3 {i j l : Nat} {x y z : Str} {c : Expr} {px py pz pt : Pos} {kt k2 pt2} {m : M (List D)} (hc : X.calm = true) (hN : X.N.Nodup) (hi : X.N[i]? = some x) (hj : X.N[j]? = some y) (hl : X.N[l]? = some z) (hij : i ≠ j) (hil : i ≠ l) (hjl : j ≠ l)
    (hx : X.env.scope.names.lookup x = some .local) (hy : X.env.scope.names.lookup y = some .local) (hz : X.env.scope.names.lookup z = some .local) (ha : PA X [a, b, c] (rdA g W m))
    (hw : swappedStores [.Tuple [.Name x px, .Name y py, .Name z pz] kt pt] (.Tuple [a, b, c] k2 pt2) X.env = pure (some [x, y, z]) := by rfl)
    (hs : swapsWithSole [.Tuple [.Name x px, .Name y py, .Name z pz] kt pt] (.Tuple [a, b, c] k2 pt2) pos.line X.env = pure false := by rfl) :
    PS X (.Assign [.Tuple [.Name x px, .Name y py, .Name z pz] kt pt] (.Tuple [a, b, c] k2 pt2) pos) (rdS g W (mPar [i, j, l] m)) :=
  PS.imp (ps_par3 hc hN hi hj hl hij hil hjl hx hy hz ha hw hs) fun J σ H ⟨B, O, S, σd, r, p⟩ => rdG_mono (rdS_then (rel := RDs) r p) fun vs H1 ⟨ds, O1, S1, r1, rx, st1, p1⟩ => by
    split at p1
    · next hl =>
      have hl2 : vs.length = 3 := by rw [← rx.length]; exact hl
      match vs, hl2, rx with
      | [u, v, w], _, rx => exact ⟨u, v, w, rfl, postS_nx p1 (Rel.setAll [i, j, l] r1 rx)⟩
    · exact p1.elim
def mIfS (t : M Bool) (a b : MS) : MS := mBS t fun c => if c = true then a else b
theorem ss_if {c : Expr} {s1 s2 : List Stmt} {t : M Bool} {m n : MS} (hc : PT X c (rdT g W t)) (ha : PSs X s1 (rdS g W m)) (hb : PSs X s2 (rdS g W n)) : PS X (.If c s1 s2 pos) (rdS g W (mIfS t m n)) :=
  PS.imp (ps_if hc ha hb) fun J σ H ⟨B, O, S, σd, r, p⟩ => rdG_mono (rdS_then (rel := same) r p) fun v H1 ⟨x, O1, S1, r1, rx, st1, p1⟩ => by
    cases (show _ = _ from rx)
    cases v with
    | true => exact ⟨B, O1, S1, σd, r1, p1⟩
    | false => exact ⟨B, O1, S1, σd, r1, p1⟩
def mBrk : MS := fun σd S => .bk σd S
def mCnt : MS := fun σd S => .ct σd S
theorem ss_break : PS X (.Break pos) (rdS g W mBrk) := PS.imp ps_break fun J σ H ⟨B, O, S, σd, r, p⟩ => p σ O H r (Step.refl _ _)
theorem ss_continue : PS X (.Continue pos) (rdS g W mCnt) := PS.imp ps_continue fun J σ H ⟨B, O, S, σd, r, p⟩ => p σ O H r (Step.refl _ _)
theorem ss_never : PS X st (rdS g W fun _ _ => .bad) := PS.imp ps_never fun J σ H ⟨B, O, S, σd, r, p⟩ => p
theorem post_write {α β : Type} {rel : Ct → Hp → α → β → Prop} {c : Ct} {S : Sto} {σd : Sl} {σ : L2.St} {H : Hp} {Q : β → Hp → Prop} {d : α} {v : β} {n : Nat} {l : Addr} {u : HO} {o : Ob} (p : Post rel c W σ σd H (.ok d (S.set n o)) Q) (r : Rel c S σd σ H)
    (hl : c.O[n]? = some l) (ho : OO c (upd H l u) l o) (hv : rel c (upd H l u) d v) : Q v (upd H l u) := by
  obtain ⟨r2, s2⟩ := r.toRelS.write hl ho
  exact p v c.O _ (Rel.step (O' := c.O) r s2 r2) hv s2
theorem postS_write {c : Ct} {S : Sto} {σd : Sl} {σ : L2.St} {H : Hp} {J : Ends} {n : Nat} {l : Addr} {u : HO} {o : Ob} (p : PostS c W H (.nx σd (S.set n o)) J) (r : Rel c S σd σ H)
    (hl : c.O[n]? = some l) (ho : OO c (upd H l u) l o) : J.nx σ (upd H l u) := by
  obtain ⟨r2, s2⟩ := r.toRelS.write hl ho
  exact p σ c.O _ (Rel.step (O' := c.O) r s2 r2) s2
theorem oo_lst {c : Ct} {S : Sto} {H : Hp} {n : Nat} {l : Addr} {ds : List D} {vs : List V} (r : RelS c S H) (hl : c.O[n]? = some l) (h : RDs c H ds vs) : OO c (upd H l (.lst vs)) l (.lst ds) :=
  ⟨vs, upd_same, RDs.step (c := c) (O' := c.O) (Step.write (mem_of_at hl)) ds vs h⟩
/-- o.m(..) of a list of the store or a settled one -/
def mMeth (f : D → List D → Sto → R D) (o : M D) (m : M (List D)) : M D := mB o fun x => fun σd S => match lstOf S x with
  | some _ => mB m (fun ds => fun _ S' => f x ds S') σd S
  | none => .bad
def MethS (g : Gx) (W : WX) (r : V → List V → Hp → VK → Prop) (f : D → List D → Sto → R D) : Prop := ∀ {B O : List Addr} {S : Sto} {σd : Sl} {σ : L2.St} {H : Hp} {x : D} {v : V} {ds : List D} {vs : List V} {Q : VK},
  Rel ⟨g.K, g.G, B, O⟩ S σd σ H → RD ⟨g.K, g.G, B, O⟩ H x v → RDs ⟨g.K, g.G, B, O⟩ H ds vs → Post RD ⟨g.K, g.G, B, O⟩ W σ σd H (f x ds S) Q → r v vs H Q
theorem meth_imp {K : PySem.W.Frag} {r : V → List V → Hp → VK → Prop} {f : D → List D → Sto → R D} {o : M D} {m : M (List D)} (hs : MethS g W r f) (σ : L2.St) (H : Hp) (Q : VK) (h : rdE g W (mMeth f o m) σ H Q) : tBM K "list" r (rdE g W o) (rdA g W m) σ H Q := by
  obtain ⟨B, O, S, σd, rel, q⟩ := h
  refine rdG_mono (rd_then (rel := RD) rel q) fun v H1 ⟨x, O1, S1, r1, rx, st1, p1⟩ => ?_
  split at p1
  · next ds q =>
    obtain ⟨l, vs, rfl, h1, h2⟩ := lstOf_ok r1.toRelS rx q
    refine ⟨.inl ⟨rfl, vs, SqL.of h1⟩, rdG_mono (rd_then (rel := RDs) r1 p1) fun w H2 ⟨ds, O2, S2, r2, rs, st2, p2⟩ => ?_⟩
    exact hs r2 (RD.step (c := ⟨g.K, g.G, B, O1⟩) st2 x _ rx) rs p2
  · exact p1.elim
theorem meth0_imp {K : PySem.W.Frag} {r : V → List V → Hp → VK → Prop} {f : D → List D → Sto → R D} {o : M D} (hs : MethS g W r f) (σ : L2.St) (H : Hp) (Q : VK) (h : rdE g W (mMeth f o mNil) σ H Q) : tBM0 K "list" r (rdE g W o) σ H Q := by
  obtain ⟨B, O, S, σd, rel, q⟩ := h
  refine rdG_mono (rd_then (rel := RD) rel q) fun v H1 ⟨x, O1, S1, r1, rx, st1, p1⟩ => ?_
  split at p1
  · next ds q =>
    obtain ⟨l, vs, rfl, h1, h2⟩ := lstOf_ok r1.toRelS rx q
    exact ⟨.inl ⟨rfl, vs, SqL.of h1⟩, hs r1 rx (show RDs _ H1 [] [] from rfl) p1⟩
  · exact p1.elim
def fAppend (x : D) (ds : List D) (S : Sto) : R D := match x with
  | .ref n => match ds with
    | [d] => match S[n]? with
      | some (.lst xs) => if xs.length < LIM then .ok .non (S.set n (.lst (xs ++ [d]))) else .bad
      | _ => .bad
    | _ => .bad
  | _ => .bad
theorem fAppend_ok : MethS g W rAppend fAppend := fun {B O S σd σ H x v ds vs Q} r hx hs p => by
  unfold fAppend at p
  split at p
  · next n =>
    split at p
    · next d =>
      split at p
      · next xs q =>
        split at p
        · next hl =>
          obtain ⟨l, ho, rfl⟩ := hx
          obtain ⟨w, rfl, hd⟩ := RDs.one_inv hs
          obtain ⟨us, h1, h2⟩ := r.ob n _ l q ho
          exact ⟨l, us, w, rfl, rfl, h1, by rw [← h2.length]; exact lim_lt hl, post_write p r ho (oo_lst r.toRelS ho (h2.append (RDs.one hd))) rfl⟩
        · exact p.elim
      · exact p.elim
    · exact p.elim
  · exact p.elim
theorem se_append {apos : Pos} {mo : M D} {m : M (List D)} (ho : PE X a (rdE g W mo)) (ha : PA X [e] (rdA g W m)) (hbase : attributeBase a "append" X.env (eval a X.env) = eval a X.env := by rfl)
    (hline : (apos.endLine == pos.line) = true := by rfl) (hs : starEach [e] X.env = (false, eval e X.env) :: starEach [] X.env := by rfl) :
    PE X (.Call (.Attribute a "append" apos) [e] [] pos) (rdE g W (mMeth fAppend mo m)) :=
  PE.imp (pe_bm PySem.F.plainAttrs_list PySem.F.slot_list_append PySem.F.type_list_append mt_append ho ha hbase (by rw [hs]; rfl) hline hs rfl) (meth_imp fAppend_ok)
def fPopAt (x : D) (ds : List D) (S : Sto) : R D := match x with
  | .ref n => match ds with
    | [.int i] => match S[n]? with
      | some (.lst xs) => if 0 ≤ i ∧ i < 100000 then match xs[i.toNat]? with
          | some d => .ok d (S.set n (.lst (xs.eraseIdx i.toNat)))
          | none => .bad
        else .bad
      | _ => .bad
    | _ => .bad
  | _ => .bad
theorem RDs.erase {c : Ct} {H : Hp} : ∀ {ds : List D} {vs : List V} (n : Nat), RDs c H ds vs → RDs c H (ds.eraseIdx n) (vs.eraseIdx n)
  | [], _, _, h => by rw [show _ = _ from h]; rfl
  | _ :: _, _, 0, ⟨v, vs', e, _, t⟩ => by subst e; exact t
  | _ :: _, _, n + 1, ⟨v, vs', e, r, t⟩ => by subst e; exact ⟨v, _, rfl, r, RDs.erase n t⟩
theorem seqIx_nat {i : Int} {n : Nat} (h0 : 0 ≤ i) (h : i.toNat < n) : seqIndex? i n = some i.toNat := by
  have e : ixN n i = some i.toNat := by unfold ixN; rw [if_pos h0, if_pos (by omega)]
  exact (ixN_seq e).1
theorem fPopAt_ok : MethS g W rPopAt fPopAt := fun {B O S σd σ H x v ds vs Q} r hx hs p => by
  unfold fPopAt at p
  split at p
  · next n =>
    split at p
    · next i =>
      split at p
      · next xs q =>
        split at p
        · next hi =>
          split at p
          · next d qd =>
            obtain ⟨l, ho, rfl⟩ := hx
            obtain ⟨w, rfl, hw⟩ := RDs.one_inv hs
            cases (show _ = _ from hw)
            obtain ⟨us, h1, h2⟩ := r.ob n _ l q ho
            obtain ⟨y, h3, h4⟩ := h2.get qd
            have hlt : i.toNat < us.length := (List.getElem?_eq_some_iff.mp h3).1
            exact ⟨l, us, i, i.toNat, y, rfl, rfl, h1, by omega, by omega, seqIx_nat hi.1 hlt, h3, post_write p r ho (oo_lst r.toRelS ho (h2.erase i.toNat)) (RD.step (c := ⟨g.K, g.G, B, O⟩) (O' := O) (Step.write (mem_of_at ho)) d y h4)⟩
          · exact p.elim
        · exact p.elim
      · exact p.elim
    · exact p.elim
  · exact p.elim
theorem se_popAt {apos : Pos} {mo : M D} {m : M (List D)} (ho : PE X a (rdE g W mo)) (ha : PA X [e] (rdA g W m)) (hbase : attributeBase a "pop" X.env (eval a X.env) = eval a X.env := by rfl)
    (hline : (apos.endLine == pos.line) = true := by rfl) (hs : starEach [e] X.env = (false, eval e X.env) :: starEach [] X.env := by rfl) :
    PE X (.Call (.Attribute a "pop" apos) [e] [] pos) (rdE g W (mMeth fPopAt mo m)) :=
  PE.imp (pe_bm PySem.F.plainAttrs_list PySem.F.slot_list_pop PySem.F.type_list_pop mt_popAt ho ha hbase (by rw [hs]; rfl) hline hs rfl) (meth_imp fPopAt_ok)
def fCount (x : D) (y : D) (S : Sto) : R D := match tupOf x with
  | some xs => if flatD y && xs.all flatD then .ok (.int (xs.countP fun z => eqD z y)) S else .bad
  | none => .bad
def mCount (o m : M D) : M D := mB o fun x => fun σd S => match tupOf x with
  | some _ => mB m (fun y => fun _ S' => fCount x y S') σd S
  | none => .bad
theorem countP_flat {c : Ct} {H : Hp} {y : D} {w : V} (hy : RD c H y w) (fy : flatD y = true) : ∀ {ds : List D} {vs : List V}, RDs c H ds vs → ds.all flatD = true → (vs.countP fun z => eqV z w) = ds.countP fun z => eqD z y
  | [], _, h, _ => by rw [show _ = _ from h]; rfl
  | _ :: _, _, ⟨u, vs', e, r, t⟩, f => by
    rw [List.all_cons, Bool.and_eq_true] at f
    subst e
    rw [List.countP_cons, List.countP_cons, countP_flat hy fy t f.2, eq_flat r hy f.1 fy]
theorem se_count {apos : Pos} {mo m : M D} (ho : PE X a (rdE g W mo)) (he : PE X e (rdE g W m)) (hbase : attributeBase a "count" X.env (eval a X.env) = eval a X.env := by rfl) (hline : (apos.endLine == pos.line) = true := by rfl)
    (hs : starEach [e] X.env = [(false, eval e X.env)] := by rfl) : PE X (.Call (.Attribute a "count" apos) [e] [] pos) (rdE g W (mCount mo m)) :=
  PE.imp (pe_countT ho he hbase hline hs) fun σ H Q ⟨B, O, S, σd, rel, q⟩ => rdG_mono (rd_then (rel := RD) rel q) fun v H1 ⟨x, O1, S1, r1, rx, st1, p1⟩ => by
    split at p1
    · next xs q =>
      obtain ⟨l, vs, rfl, h1, h2⟩ := tupOf_ok rx q
      refine ⟨l, vs, rfl, h1, rdG_mono (rd_then (rel := RD) r1 p1) fun w H2 ⟨y, O2, S2, r2, ry, st2, p2⟩ => ?_⟩
      unfold fCount at p2
      rw [q] at p2
      simp only at p2
      split at p2
      · next hf =>
        obtain ⟨f1, f2⟩ := Bool.and_eq_true_iff.mp hf
        obtain ⟨l', vs', e', h3, h4⟩ := tupOf_ok (RD.step (c := ⟨g.K, g.G, B, O1⟩) st2 x _ rx) q
        have el : l = l' := V.ref.inj e'
        subst el
        obtain ⟨o, ho, hd⟩ := h1
        obtain ⟨_, _, _, av, _, _⟩ := (show RD ⟨g.K, g.G, B, O1⟩ H1 (.tup xs) (.ref l) by
          cases x with
          | tup zs => cases Option.some.inj q; exact rx
          | _ => cases q)
        obtain ⟨o2, ho2, hd2⟩ := h3
        have hne : vs = vs' := by
          have av' : l ∉ O1 := by
            cases x with
            | tup zs =>
              obtain ⟨b, us, eb, avb, _⟩ := rx
              rw [V.ref.inj eb]
              exact avb.1
            | _ => cases q
          have := (st2.kp l _ av' ho).1
          rw [this] at ho2
          injection ho2 with z
          injection z with z1 z2
          injection z2
        subst hne
        refine ⟨⟨o2, ho2, hd2⟩, flat_of ry f1, flats_of h4 f2, post_val p2 r2 ?_⟩
        rw [countP_flat ry f1 h4 f2]
        rfl
      · exact p2.elim
    · exact p1.elim
def fSetIx (o i v : D) (σd : Sl) (S : Sto) : RS := match o with
  | .ref n => match i with
    | .int k => match S[n]? with
      | some (.lst xs) => match ixN xs.length k with
        | some j => .nx σd (S.set n (.lst (xs.set j v)))
        | none => .bad
      | _ => .bad
    | _ => .bad
  | _ => .bad
theorem fSetIx_ok {B O : List Addr} {S : Sto} {σd : Sl} {σ : L2.St} {H : Hp} {x y z : D} {v u w : V} {J : Ends} (r : Rel ⟨g.K, g.G, B, O⟩ S σd σ H) (hx : RD ⟨g.K, g.G, B, O⟩ H x v) (hy : RD ⟨g.K, g.G, B, O⟩ H y u) (hz : RD ⟨g.K, g.G, B, O⟩ H z w)
    (p : PostS ⟨g.K, g.G, B, O⟩ W H (fSetIx x y z σd S) J) : rSetL v u w H fun H4 => J.nx σ H4 := by
  unfold fSetIx at p
  split at p
  · next n =>
    split at p
    · next k =>
      split at p
      · next xs q =>
        split at p
        · next j qj =>
          obtain ⟨l, ho, rfl⟩ := hx
          cases (show _ = _ from hy)
          obtain ⟨us, h1, h2⟩ := r.ob n _ l q ho
          exact ⟨l, us, k, j, rfl, rfl, h1, by rw [← h2.length]; exact qj, postS_write p r ho (oo_lst r.toRelS ho (h2.set hz j))⟩
        · exact p.elim
      · exact p.elim
    · exact p.elim
  · exact p.elim
def mSetIx (o i v : M D) : MS := mBS v fun z => mBS o fun x => mBS i fun y => fSetIx x y z
theorem ss_setIx {o i v : Expr} {tpos : Pos} {mo mi mv : M D} (ho : PE X o (rdE g W mo)) (hi : PE X i (rdE g W mi)) (hv : PE X v (rdE g W mv)) (hg : ∀ {to ti : TE}, PE X o to → PE X i ti → PG X (.Subscript o i tpos) (gSub to ti rSetL))
    (hs : swapsWithSole [.Subscript o i tpos] v pos.line X.env = pure false := by rfl) (hw : swappedStores [.Subscript o i tpos] v X.env = pure none := by rfl) : PS X (.Assign [.Subscript o i tpos] v pos) (rdS g W (mSetIx mo mi mv)) :=
  PS.imp (ps_asg hv (hg ho hi) hs hw) fun J σ H ⟨B, O, S, σd, r, p⟩ => rdG_mono (rdS_then (rel := RD) r p) fun w H1 ⟨z, O1, S1, r1, rz, st1, p1⟩ =>
    rdG_mono (rdS_then (rel := RD) r1 p1) fun v H2 ⟨x, O2, S2, r2, rx, st2, p2⟩ => rdG_mono (rdS_then (rel := RD) r2 p2) fun u H3 ⟨y, O3, S3, r3, ry, st3, p3⟩ =>
      fSetIx_ok r3 (RD.step (c := ⟨g.K, g.G, B, O2⟩) st3 x v rx) ry (RD.step (c := ⟨g.K, g.G, B, O1⟩) (st2.trans st3) z w rz) p3
/-- x op= e -/
def mAug (i : Nat) (f : D → D → Sto → R D) (m : M D) : MS := mBS (mVar i) fun x => mBS m fun y => mBS (fun _ S => f x y S) fun z => fun σd S => .nx (σd.set i z) S
theorem ss_aug {i : Nat} {x : Str} {pos' : Pos} {op : Operator} {r : R2} {f : D → D → Sto → R D} {m : M D} (hN : X.N.Nodup) (hi : X.N[i]? = some x) (hx : Loc X.env.scope x) (h : PE X e (rdE g W m)) (ho : PIp X op r) (hs : OpS g W r f)
    (hf : X.fn x = true ∨ X.env.scope.names.lookup x = some .local := by first | exact .inl rfl | exact .inr rfl | assumption) : PS X (.AugAssign (.Name x pos') op e pos) (rdS g W (mAug i f m)) :=
  PS.imp (ps_aug hN hi hx h ho hf) fun J σ H ⟨B, O, S, σd, r, p⟩ => by
    unfold mAug mBS mVar at p
    simp only at p
    cases q : σd[i]? with
    | none => rw [q] at p; exact p.elim
    | some d =>
      rw [q] at p
      simp only at p
      cases hl : live d with
      | false => rw [hl] at p; exact p.elim
      | true =>
        rw [hl] at p
        rcases r.sl i d q with z | ⟨v, h1, h2⟩
        · subst z; cases hl
        · refine ⟨v, h1, ?_⟩
          have p' : PostS ⟨g.K, g.G, B, O⟩ W H (mBS m (fun y => mBS (fun _ S => f d y S) fun z => fun σd S => .nx (σd.set i z) S) σd S) J := p
          refine rdG_mono (rdS_then (rel := RD) r p') fun w H1 ⟨y, O1, S1, r1, ry, st1, p1⟩ => ?_
          refine hs r1 (RD.step (c := ⟨g.K, g.G, B, O⟩) st1 d v h2) ry ?_
          unfold mBS at p1
          revert p1
          simp only
          cases f d y S1 with
          | ok z S2 => exact fun p1 u O2 H2 h5 h6 h7 => p1 (σ.set i (some u)) O2 H2 (h5.set i h6) h7
          | exc k ns ds S2 => exact fun p1 dd O2 H2 h5 h6 h7 => p1 dd σ O2 H2 h5 h6 h7
          | bad => exact fun p1 => p1.elim
end
end DL

namespace DL
open PySem PySem.Spec PyProof.Rows L2
/-- a tuple (true) or a list -/
def SqQ (t : Bool) (K : PySem.W.Frag) (H : Hp) (a : Addr) (xs : List V) : Prop := match t with
  | true => SqT K H a xs
  | false => SqL K H a xs
def ItAt (t : Bool) (h : Heap) (it a : Addr) (i : Nat) : Prop := match t with
  | true => h.IsTupleIter it a i
  | false => h.IsListIter it a i
def IsSq (t : Bool) (h : Heap) (a : Addr) (items : Array Value) : Prop := match t with
  | true => h.IsTuple a items
  | false => h.IsList a items
def itObj (t : Bool) (a : Addr) : Obj := { cls := .type (match t with | true => "tuple_iterator" | false => "list_iterator"), data := .fields #[.ref a, .int 0 0] }
theorem drawsQ {prog : Program} {w : World} {A : Around} (t : Bool) (hh : A.handled = none) (it l : Addr) (hne : l ≠ it) (items : Array Value) :
    Draws prog w A it [it, l] items.size (fun i v => items[i]? = some v) (fun i h => ItAt t h it l i ∧ IsSq t h l items) := by
  cases t with
  | true => exact Draws.tuple hh it l hne items
  | false => exact Draws.list hh it l hne items
theorem beginsQ (t : Bool) (l : Addr) (items : Array Value) : Begins (.ref l) (itObj t l) fun h => IsSq t h l items := by
  cases t with
  | true => exact begins_tuple l items
  | false => exact begins_list l items
theorem itAt_new {t : Bool} {h : Heap} {it a : Addr} (e : h.get? it = some (itObj t a)) : ItAt t h it a 0 := by
  cases t with
  | true => exact ⟨_, e, rfl, rfl⟩
  | false => exact ⟨_, e, rfl, rfl⟩
theorem itAt_obj {t : Bool} {h : Heap} {it a : Addr} {i : Nat} (st : ItAt t h it a i) : ∃ o, h.get? it = some o ∧ ∀ v, o.data ≠ .cell v := by
  cases t with
  | true => obtain ⟨o, e, c, d⟩ := st; exact ⟨o, e, fun v z => by rw [d] at z; cases z⟩
  | false => obtain ⟨o, e, c, d⟩ := st; exact ⟨o, e, fun v z => by rw [d] at z; cases z⟩
theorem itAt_at {t : Bool} {h h' : Heap} {it a : Addr} {i : Nat} (st : ItAt t h it a i) (k : ∀ o, h.get? it = some o → h'.get? it = some o) : ItAt t h' it a i := by
  cases t with
  | true => exact Heap.IsTupleIter.at st k
  | false => exact Heap.IsListIter.at st k
theorem sqQ_is {X : Cx} {pins : List (Addr × Obj)} {σ : L2.St} {H : Hp} {s : Shared} {t : Bool} {a : Addr} {xs : List V} (I : Inv X pins σ H s) (h : SqQ t X.K H a xs) : ∃ its : List Value, Vals xs its ∧ IsSq t s.heap a its.toArray ∧ a < s.heap.objs.size := by
  cases t with
  | true => obtain ⟨its, r, p, _⟩ := I.tuple h; exact ⟨its, r, p, p.lt⟩
  | false => obtain ⟨its, r, p, _⟩ := I.list h; exact ⟨its, r, p.isList, p.lt⟩
theorem sqQ_inj {X : Cx} {pins : List (Addr × Obj)} {σ : L2.St} {H : Hp} {s : Shared} {t : Bool} {a : Addr} {xs ys : List V} (I : Inv X pins σ H s) (h : SqQ t X.K H a xs) (h2 : SqQ t X.K H a ys) : xs = ys := by
  cases t with
  | true => exact I.tuple_inj h h2
  | false => exact I.list_inj h h2
def IteQ (t : Bool) (K : PySem.W.Frag) (a : Addr) (k : Int) : It :=
  ⟨fun i H => ∃ (xs : List V) (x : V), SqQ t K H a xs ∧ xs[i]? = some x,
   fun i H v H' => ∃ T x, v = .ref T ∧ H T = none ∧ H' = upd H T (.tup [.int (k + (i : Nat)), x]) ∧ ∀ xs, SqQ t K H a xs → xs[i]? = some x,
   fun i H => ∃ xs : List V, SqQ t K H a xs ∧ xs.length = i⟩
theorem turn_enumQ {P : Program} {w : World} {K : PySem.W.Frag} {elts : List Expr} {kk : Nat} {tpos : Pos} (t : Bool) (k : Int) (a e it : Addr) (hei : e ≠ it) (hea : e ≠ a) (hia : a ≠ it) :
    Turn P w K (.Tuple elts kk tpos) (IteQ t K a k) [e, it] e (fun i h => (∃ old, IsEnum h e it (k + (i : Nat)) old) ∧ ItAt t h it a i) where
  mem := by simp
  obj := fun i h st b hb => by
    obtain ⟨⟨old, he⟩, hi⟩ := st
    have e' : b = e ∨ b = it := by simpa using hb
    rcases e' with z | z
    · rw [z]; exact ⟨_, he, fun v q => nomatch q⟩
    · rw [z]; exact itAt_obj hi
  keep := fun i h h' st kp => let ⟨⟨old, he⟩, hi⟩ := st; ⟨⟨old, kp e (by simp) _ he⟩, itAt_at hi fun o q => kp it (by simp) o q⟩
  item := by
    intro X hP hw hK hc i pins s σ H E I hf st hg
    subst hP hw hK
    obtain ⟨⟨old, he⟩, hit⟩ := st
    obtain ⟨xs, x, hq, hx⟩ := hg
    obtain ⟨its, rv, hs, hal⟩ := sqQ_is I hq
    obtain ⟨u, hu, ru⟩ := rv.get hx
    have hel : e < s.heap.objs.size := Heap.lt_size he
    have hil : it < s.heap.objs.size := by obtain ⟨_, q, _⟩ := itAt_obj hit; exact Heap.lt_size q
    have hii : i < its.toArray.size := by rw [List.size_toArray]; exact (List.getElem?_eq_some_iff.mp hu).1
    refine wpAny_pyNext_enum_itemC (drawsQ t (A := X.A.in1) (I.ok.hd hc) it a hia its.toArray) he ⟨hit, hs⟩ hii hei (by simp [hei, hea]) fun y h' tk hy ho hst hT hsz hk => ?_
    have ey : y = u := by
      have hy' : its[i]? = some y := by simpa using hy
      exact Option.some.inj (hy'.symm.trans hu)
    subst ey
    refine ⟨_, rfl, wpAny_letOwnedTupleGo_enum (s := { s with heap := h', toks := tk + 1 }) ho fun h'' he' sb => ?_⟩
    have hT2 : h''.get? s.heap.objs.size = some { cls := .type "tuple", data := .seq #[.int (k + (i : Nat)) tk, y] } := (sb.2 _ (Nat.ne_of_gt hel)).trans hT
    have new : ObjOk X.prog X.w (upd H s.heap.objs.size (.tup [.int (k + (i : Nat)), x])) h'' s.heap.objs.size (.tup [.int (k + (i : Nat)), x]) :=
      ⟨by show 2 ≤ sizeLine; decide, [.int (k + (i : Nat)) tk, y], .cons ⟨_, rfl⟩ (.cons ru .nil), ⟨_, hT2, rfl, _, rfl⟩⟩
    have I1 : Inv X pins σ (upd H s.heap.objs.size (.tup [.int (k + (i : Nat)), x])) { s with heap := h'', toks := tk + 1 } :=
      I.turnedNew (ch := [e, it]) (fun b ob hb q => (sb.2 b (fun z => hb (by simp [z]))).trans (hk b ob (fun z => hb (by simp [z])) (fun z => hb (by simp [z])) q)) hf (Nat.le_refl _) new
    refine ⟨.ref s.heap.objs.size, _, I1, rfl, ⟨_, x, rfl, I.hok.fresh (Nat.le_refl _), rfl, fun ys hy => by rw [sqQ_inj I hy hq]; exact hx⟩, ⟨⟨y, ?_⟩, itAt_at hst.1 fun o q => (sb.2 it (Ne.symm hei)).trans q⟩, fun b hb => ?_⟩
    · have e1 : k + ((i + 1 : Nat) : Int) = k + (i : Int) + 1 := by omega
      rw [e1]
      exact he'
    · have hb' : b < s.heap.objs.size := by
        have e' : b = e ∨ b = it := by simpa using hb
        rcases e' with z | z
        · rw [z]; exact hel
        · rw [z]; exact hil
      rw [upd_ne (Nat.ne_of_lt hb')]
      exact (hf b hb).1
  done := by
    intro X hP hw hK hc i pins s σ H E I hf st hg
    subst hP hw hK
    obtain ⟨⟨old, he⟩, hit⟩ := st
    obtain ⟨xs, hq, hx⟩ := hg
    obtain ⟨its, rv, hs, hal⟩ := sqQ_is I hq
    obtain ⟨f0, f1, f2, f3, f4, f5⟩ := hf it (by simp)
    have hl := rv.length
    have hn : its.toArray.size = i := by rw [List.size_toArray]; omega
    exact wpAny_pyNext_enum_endD (drawsQ t (A := X.A.in1) (I.ok.hd hc) it a hia its.toArray) he (by rw [hn]; exact ⟨hit, hs⟩) fun h' eb => ⟨rfl, I.turned (t' := s.toks) (fun b o hb q => eb b o hb q) f0 f1 f3 f4 f5⟩
  self := fun A i s Q E st h => let ⟨⟨_, he⟩, _⟩ := st; wpAny_pyIter_enum he h
/-- enumerate(v): its two new cells -/
theorem meets_enumerate_new1 {v : Value} {o : Obj} {H : Heap → Prop} (B : Begins v o H) :
    Meets (Builtin.«enumerate.__new__» ⟨[.type "enumerate", v], []⟩) (fun _ R s => H s.heap ∧
      R (.ok (.ret (.ref (s.heap.push o).objs.size))) { s with heap := (s.heap.push o).push { cls := .type "enumerate", data := .fields #[.none, .bool false, .ref s.heap.objs.size, rawInt 0, .none, .none] } }) :=
  .of_wp fun prog w A R s h => by
    obtain ⟨hp, g, d, tk, os⟩ := s
    obtain ⟨h1, h⟩ := h
    have hsub := sub_enumerate
    have q1 : ∀ {A' : Around} {E : Value → Shared → Prop} {Q : Value → Shared → Prop}, Q (.ref hp.objs.size) ⟨hp.push o, g, d, tk, os⟩ → wpAny (model prog w) A' (pyIter v) Q E ⟨hp, g, d, tk, os⟩ := fun q => B.iter prog w _ _ ⟨hp, g, d, tk, os⟩ _ h1 q
    wp_walk using q1
    refine wpAny_stack_any fun st => wpAny_pure ?_
    split
    · rename_i c _ _ _ _ _
      cases (c == Value.type "enumerate")
      · wp_walk using q1
        exact ⟨_, rfl, h⟩
      · wp_walk using q1
        exact ⟨_, rfl, h⟩
    · wp_walk using q1
      exact ⟨_, rfl, h⟩
theorem enum_begins1 {prog : Program} {w : World} {A : Around} {E : Value → Shared → Prop} {s : Shared} {v : Value} {o : Obj} {H : Heap → Prop} {Q : Value → Shared → Prop} (B : Begins v o H) (h1 : H s.heap)
    (h : ∀ h', IsEnum h' (s.heap.objs.size + 1) s.heap.objs.size 0 .none → h'.get? s.heap.objs.size = some o → (∀ b o, s.heap.get? b = some o → h'.get? b = some o) → Q (.ref (s.heap.objs.size + 1)) { s with heap := h' }) :
    wpAny (model prog w) A (call (.type "enumerate") [v]) Q E s := by
  refine callType_new F.called_enumerate (by decide) (F.typeCall_enumerate_1 _) (F.newCall_enumerate_1 _) (fun obj => F.args_object_init_2 obj _) F.entry_enumerate_new (meets_enumerate_new1 B) ⟨h1, ?_⟩
  have hz : (s.heap.push o).objs.size = s.heap.objs.size + 1 := Heap.size_push ..
  have he := Heap.get?_push_size (s.heap.push o) (o := { cls := .type "enumerate", data := .fields #[.none, .bool false, .ref s.heap.objs.size, rawInt 0, .none, .none] }) rfl
  rw [hz] at he
  show _ ∧ _
  rw [hz]
  exact ⟨⟨_, he, rfl⟩, h _ he (Heap.get?_push_of_some _ (Heap.get?_push_size _ B.free)) fun b o x => Heap.get?_push_of_some _ (Heap.get?_push_of_some _ x)⟩
def iEnumQ (K : PySem.W.Frag) (k : Int) (ta : TA) : TI := fun σ H R => ta σ H fun vs H1 => ∃ t a xs, vs = [.ref a] ∧ SqQ t K H1 a xs ∧ R (IteQ t K a k) H1
def iEnumQ2 (K : PySem.W.Frag) (ta : TA) : TI := fun σ H R => ta σ H fun vs H1 => ∃ t a xs k, vs = [.ref a, .int k] ∧ 0 ≤ k ∧ k ≤ 1000 ∧ SqQ t K H1 a xs ∧ R (IteQ t K a k) H1
section
variable {X : Cx} {e e2 : Expr} {ta : TA} {p pos tpos : Pos} {elts : List Expr} {kk : Nat}
theorem pi_enumQ (hg : Gl X "enumerate") (hm : X.mg "enumerate" = none) (ha : PA X [e] ta) (hs : starEach [e] X.env = [(false, eval e X.env)] := by rfl) : PI X (.Tuple elts kk tpos) (.Call (.Name "enumerate" p) [e] [] pos) (iEnumQ X.K 0 ta) := by
  refine ⟨fun pins s σ H R I h => ?_⟩
  refine Call_ (ld_blt I hg hm boot_enumerate (PyProof.Rows.callWith_type1 (thn (ha.run pos pins s σ H _ I h) fun us s1 ⟨vs, H1, I1, r1, q1⟩ => ?_) hs rfl))
  obtain ⟨t, a, xs, ex, hq, q⟩ := q1
  subst ex
  obtain ⟨u, rfl, ru⟩ := vals1 r1
  cases ru
  obtain ⟨its, rv, hsq, hal⟩ := sqQ_is I1 hq
  refine enum_begins1 (beginsQ t a its.toArray) hsq fun h' he hit hk => wpAny_pyIter_enum he ?_
  have I2 : Inv X pins σ H1 { s1 with heap := h' } := I1.kept (t' := s1.toks) hk
  refine ⟨s1.heap.objs.size + 1, [s1.heap.objs.size + 1, s1.heap.objs.size], _, _, H1, rfl, I2, turn_enumQ t 0 a (s1.heap.objs.size + 1) s1.heap.objs.size (Nat.succ_ne_self _) (Nat.ne_of_gt (Nat.lt_succ_of_lt hal)) (Nat.ne_of_lt hal), ⟨⟨.none, he⟩, itAt_new hit⟩, fun b hb => ?_, q⟩
  have hle : s1.heap.objs.size ≤ b := by
    have e' : b = s1.heap.objs.size + 1 ∨ b = s1.heap.objs.size := by simpa using hb
    rcases e' with z | z
    · rw [z]; exact Nat.le_add_right _ _
    · rw [z]; exact Nat.le_refl _
  exact I1.fpOk hle (I1.hok.fresh hle)
theorem pi_enumQ2 (hg : Gl X "enumerate") (hm : X.mg "enumerate" = none) (ha : PA X [e, e2] ta) (hs : starEach [e, e2] X.env = (false, eval e X.env) :: starEach [e2] X.env := by rfl) (hpl : (backTo pos (starEach [e2] X.env)).any (·.1) = false := by rfl) :
    PI X (.Tuple elts kk tpos) (.Call (.Name "enumerate" p) [e, e2] [] pos) (iEnumQ2 X.K ta) := by
  refine ⟨fun pins s σ H R I h => ?_⟩
  refine Call_ (ld_blt I hg hm boot_enumerate (PyProof.Rows.callWith_type1 (thn (ha.run pos pins s σ H _ I h) fun us s1 ⟨vs, H1, I1, r1, q1⟩ => ?_) hs hpl))
  obtain ⟨t, a, xs, k, ex, k0, k1, hq, q⟩ := q1
  subst ex
  obtain ⟨u, u2, rfl, ru, ru2⟩ := vals2 r1
  cases ru
  obtain ⟨tk, rfl⟩ := ru2
  obtain ⟨its, rv, hsq, hal⟩ := sqQ_is I1 hq
  refine enum_begins (beginsQ t a its.toArray) hsq (by omega) (by omega) fun h' he hit _ hk => wpAny_pyIter_enum he ?_
  have I2 : Inv X pins σ H1 { s1 with heap := h' } := I1.kept (t' := s1.toks) hk
  refine ⟨s1.heap.objs.size + 1, [s1.heap.objs.size + 1, s1.heap.objs.size], _, _, H1, rfl, I2, turn_enumQ t k a (s1.heap.objs.size + 1) s1.heap.objs.size (Nat.succ_ne_self _) (Nat.ne_of_gt (Nat.lt_succ_of_lt hal)) (Nat.ne_of_lt hal), ⟨⟨.none, by simpa using he⟩, itAt_new hit⟩, fun b hb => ?_, q⟩
  have hle : s1.heap.objs.size ≤ b := by
    have e' : b = s1.heap.objs.size + 1 ∨ b = s1.heap.objs.size := by simpa using hb
    rcases e' with z | z
    · rw [z]; exact Nat.le_add_right _ _
    · rw [z]; exact Nat.le_refl _
  exact I1.fpOk hle (I1.hok.fresh hle)
end
def ItzQ (t u : Bool) (K : PySem.W.Frag) (a b : Addr) : It :=
  ⟨fun i H => ∃ (xs ys : List V) (x y : V), SqQ t K H a xs ∧ SqQ u K H b ys ∧ xs[i]? = some x ∧ ys[i]? = some y,
   fun i H v H' => ∃ T x y, v = .ref T ∧ H T = none ∧ H' = upd H T (.tup [x, y]) ∧ (∀ xs, SqQ t K H a xs → xs[i]? = some x) ∧ ∀ ys, SqQ u K H b ys → ys[i]? = some y,
   fun i H => ∃ xs ys : List V, SqQ t K H a xs ∧ SqQ u K H b ys ∧ min xs.length ys.length = i⟩
theorem turn_zipQ {P : Program} {w : World} {K : PySem.W.Frag} {elts : List Expr} {kk : Nat} {tpos : Pos} {t u : Bool} {a b z TI TO i1 i2 : Addr} (S : ZipSep2 z TI TO i1 i2 [i1, a] [i2, b]) (h1a : a ≠ i1) (h2b : b ≠ i2) :
    Turn P w K (.Tuple elts kk tpos) (ItzQ t u K a b) [z, TI, TO, i1, i2] z (fun i h => IsZip h z TI TO .none ∧ IsTupOf2 h TI (.ref i1) (.ref i2) ∧ (∃ x y, IsTupOf2 h TO x y) ∧ ItAt t h i1 a i ∧ ItAt u h i2 b i) where
  mem := by simp
  obj := fun i h st c hc => by
    obtain ⟨hz, hTI, ⟨x, y, hTO⟩, h1, h2⟩ := st
    have e' : c = z ∨ c = TI ∨ c = TO ∨ c = i1 ∨ c = i2 := by simpa using hc
    rcases e' with q | q | q | q | q
    · rw [q]; exact ⟨_, hz, fun v q => nomatch q⟩
    · rw [q]; exact ⟨_, hTI, fun v q => nomatch q⟩
    · rw [q]; exact ⟨_, hTO, fun v q => nomatch q⟩
    · rw [q]; exact itAt_obj h1
    · rw [q]; exact itAt_obj h2
  keep := fun i h h' st k => by
    obtain ⟨hz, hTI, ⟨x, y, hTO⟩, h1, h2⟩ := st
    exact ⟨k z (by simp) _ hz, k TI (by simp) _ hTI, ⟨x, y, k TO (by simp) _ hTO⟩, itAt_at h1 fun o q => k i1 (by simp) o q, itAt_at h2 fun o q => k i2 (by simp) o q⟩
  item := by
    intro X hP hw hK hc i pins s σ H E I hf st hg
    subst hP hw hK
    obtain ⟨hz, hTI, ⟨x0, y0, hTO⟩, h1, h2⟩ := st
    obtain ⟨xs, ys, x, y, hqx, hqy, hx, hy⟩ := hg
    obtain ⟨its, rv, p1, _⟩ := sqQ_is I hqx
    obtain ⟨its2, rv2, p2, _⟩ := sqQ_is I hqy
    obtain ⟨v1, hu, ru⟩ := rv.get hx
    obtain ⟨v2, hu2, ru2⟩ := rv2.get hy
    have hzl : z < s.heap.objs.size := Heap.lt_size hz
    have l1 : i < its.toArray.size := by rw [List.size_toArray]; exact (List.getElem?_eq_some_iff.mp hu).1
    have l2 : i < its2.toArray.size := by rw [List.size_toArray]; exact (List.getElem?_eq_some_iff.mp hu2).1
    refine wpAny_pyNext_zipD2_item S (drawsQ t (A := X.A.in1) (I.ok.hd hc) i1 a h1a its.toArray) (drawsQ u (A := X.A.in1) (I.ok.hd hc) i2 b h2b its2.toArray) hz hTI hTO ⟨h1, p1⟩ ⟨h2, p2⟩ l1 l2 fun w1 w2 h' tk e1 e2 b1 b2 d1 d2 b5 b6 hk => ?_
    have ew1 : w1 = v1 := Option.some.inj ((show its[i]? = some w1 by simpa using e1).symm.trans hu)
    have ew2 : w2 = v2 := Option.some.inj ((show its2[i]? = some w2 by simpa using e2).symm.trans hu2)
    subst ew1 ew2
    refine ⟨_, rfl, wpAny_letOwnedTupleGo_zip (s := { s with heap := h', toks := tk }) b1 fun h'' z'' sb => ?_⟩
    have hT2 : h''.get? s.heap.objs.size = some { cls := .type "tuple", data := .seq #[w1, w2] } := (sb.2 _ (Nat.ne_of_gt hzl)).trans b5
    have new : ObjOk X.prog X.w (upd H s.heap.objs.size (.tup [x, y])) h'' s.heap.objs.size (.tup [x, y]) :=
      ⟨by show 2 ≤ sizeLine; decide, [w1, w2], .cons ru (.cons ru2 .nil), ⟨_, hT2, rfl, _, rfl⟩⟩
    have I1 : Inv X pins σ (upd H s.heap.objs.size (.tup [x, y])) { s with heap := h'', toks := tk } :=
      I.turnedNew (t' := tk) (ch := [z, TI, TO, i1, i2]) (fun c o hb q => (sb.2 c (fun q' => hb (by simp [q']))).trans (hk c o (fun q' => hb (by simp [q'])) (fun q' => hb (by simp [q'])) (fun q' => hb (by simp [q'])) (fun q' => hb (by simp [q'])) q)) hf (Nat.le_refl _) new
    refine ⟨.ref s.heap.objs.size, _, I1, rfl, ⟨_, x, y, rfl, I.hok.fresh (Nat.le_refl _), rfl, fun l hl => by rw [sqQ_inj I hl hqx]; exact hx, fun l hl => by rw [sqQ_inj I hl hqy]; exact hy⟩, ⟨z'', ?_, ⟨w1, w2, ?_⟩, ?_, ?_⟩, fun c hcm => ?_⟩
    · exact (sb.2 _ S.TIz).trans (hk _ _ S.TIz S.TITO S.TIi1 S.TIi2 hTI)
    · exact (sb.2 _ S.TOz).trans b2
    · exact itAt_at d1.1 fun o q => (sb.2 _ (Ne.symm S.zi1)).trans q
    · exact itAt_at d2.1 fun o q => (sb.2 _ (Ne.symm S.zi2)).trans q
    · have hlt : c < s.heap.objs.size := by
        have e' : c = z ∨ c = TI ∨ c = TO ∨ c = i1 ∨ c = i2 := by simpa using hcm
        rcases e' with q | q | q | q | q
        · rw [q]; exact hzl
        · rw [q]; exact Heap.lt_size hTI
        · rw [q]; exact Heap.lt_size hTO
        · rw [q]; obtain ⟨_, e1, _⟩ := itAt_obj h1; exact Heap.lt_size e1
        · rw [q]; obtain ⟨_, e2, _⟩ := itAt_obj h2; exact Heap.lt_size e2
      rw [upd_ne (Nat.ne_of_lt hlt)]
      exact (hf c hcm).1
  done := by
    intro X hP hw hK hc i pins s σ H E I hf st hg
    subst hP hw hK
    obtain ⟨hz, hTI, ⟨x0, y0, hTO⟩, h1, h2⟩ := st
    obtain ⟨xs, ys, hqx, hqy, hend⟩ := hg
    obtain ⟨its, rv, p1, _⟩ := sqQ_is I hqx
    obtain ⟨its2, rv2, p2, _⟩ := sqQ_is I hqy
    have l1 := rv.length
    have l2 := rv2.length
    have m1 : its.toArray.size = its.length := List.size_toArray
    have m2 : its2.toArray.size = its2.length := List.size_toArray
    exact wpAny_pyNext_zipD2_end S (drawsQ t (A := X.A.in1) (I.ok.hd hc) i1 a h1a its.toArray) (drawsQ u (A := X.A.in1) (I.ok.hd hc) i2 b h2b its2.toArray) hz hTI hTO ⟨h1, p1⟩ ⟨h2, p2⟩ (by omega) (by omega) (by omega) fun h' tk hk =>
      ⟨rfl, I.turnedL (t' := tk) (ch := [z, TI, TO, i1, i2]) (fun c o hb q => hk c o (fun q' => hb (by simp [q'])) (fun q' => hb (by simp [q'])) (fun q' => hb (by simp [q'])) (fun q' => hb (by simp [q'])) q) hf⟩
  self := fun A i s Q E st h => wpAny_pyIter_zip st.1 h
theorem zsep (n a b : Nat) (ha : a < n) (hb : b < n) : ZipSep2 (n + 4) (n + 2) (n + 3) n (n + 1) [n, a] [n + 1, b] := by
  exact ⟨(show (n + 2 : Nat) ≠ n + 4 by omega), (show (n + 3 : Nat) ≠ n + 4 by omega), (show (n + 2 : Nat) ≠ n + 3 by omega), (show (n + 2 : Nat) ≠ n by omega), List.mem_cons_self .., (show (n + 4 : Nat) ∉ [n, a] by simp; omega), (show (n + 3 : Nat) ∉ [n, a] by simp; omega),
    (show (n + 2 : Nat) ≠ n + 1 by omega), List.mem_cons_self .., (show (n + 4 : Nat) ∉ [n + 1, b] by simp; omega), (show (n + 3 : Nat) ∉ [n + 1, b] by simp; omega), (show (n : Nat) ∉ [n + 1, b] by simp; omega), (show (n + 1 : Nat) ∉ [n, a] by simp; omega)⟩
def iZipQ (K : PySem.W.Frag) (ta : TA) : TI := fun σ H R => ta σ H fun vs H1 => ∃ t u a b xs ys, vs = [.ref a, .ref b] ∧ SqQ t K H1 a xs ∧ SqQ u K H1 b ys ∧ R (ItzQ t u K a b) H1
theorem pi_zipQ {X : Cx} {e e2 : Expr} {ta : TA} {p pos tpos : Pos} {elts : List Expr} {kk : Nat} (hg : Gl X "zip") (hm : X.mg "zip" = none) (ha : PA X [e, e2] ta)
    (hs : starEach [e, e2] X.env = (false, eval e X.env) :: starEach [e2] X.env := by rfl) (hpl : (backTo pos (starEach [e2] X.env)).any (·.1) = false := by rfl) :
    PI X (.Tuple elts kk tpos) (.Call (.Name "zip" p) [e, e2] [] pos) (iZipQ X.K ta) := by
  refine ⟨fun pins s σ H R I h => ?_⟩
  refine Call_ (ld_blt I hg hm PyProof.Rows.boot_zip (PyProof.Rows.callWith_type1 (thn (ha.run pos pins s σ H _ I h) fun us s1 ⟨vs, H1, I1, r1, q1⟩ => ?_) hs hpl))
  obtain ⟨t, u, a, b, xs, ys, ex, hqx, hqy, q⟩ := q1
  subst ex
  obtain ⟨u1, u2, rfl, r1, r2⟩ := vals2 r1
  cases r1
  cases r2
  obtain ⟨its, rv, p1, la⟩ := sqQ_is I1 hqx
  obtain ⟨its2, rv2, p2, lb⟩ := sqQ_is I1 hqy
  refine zip_begins2 (beginsQ t a its.toArray) (beginsQ u b its2.toArray) p1 p2 fun h' hz hTI hTO g1 g2 _ hk => wpAny_pyIter_zip hz ?_
  have I2 : Inv X pins σ H1 { s1 with heap := h' } := I1.kept (t' := s1.toks) hk
  have S : ZipSep2 (s1.heap.objs.size + 4) (s1.heap.objs.size + 2) (s1.heap.objs.size + 3) s1.heap.objs.size (s1.heap.objs.size + 1) [s1.heap.objs.size, a] [s1.heap.objs.size + 1, b] := zsep _ a b la lb
  refine ⟨s1.heap.objs.size + 4, [s1.heap.objs.size + 4, s1.heap.objs.size + 2, s1.heap.objs.size + 3, s1.heap.objs.size, s1.heap.objs.size + 1], _, _, H1, rfl, I2, turn_zipQ S (Nat.ne_of_lt la) (Nat.ne_of_lt (Nat.lt_succ_of_lt lb)), ⟨hz, hTI, ⟨_, _, hTO⟩, itAt_new g1, itAt_new g2⟩, fun c hcm => ?_, q⟩
  have hle : s1.heap.objs.size ≤ c := by
    have e' : c = s1.heap.objs.size + 4 ∨ c = s1.heap.objs.size + 2 ∨ c = s1.heap.objs.size + 3 ∨ c = s1.heap.objs.size ∨ c = s1.heap.objs.size + 1 := by simpa using hcm
    rcases e' with z | z | z | z | z
    · rw [z]; exact Nat.le_add_right _ _
    · rw [z]; exact Nat.le_add_right _ _
    · rw [z]; exact Nat.le_add_right _ _
    · rw [z]; exact Nat.le_refl _
    · rw [z]; exact Nat.le_add_right _ _
  exact I1.fpOk hle (I1.hok.fresh hle)
end DL

namespace DL
open PySem PySem.Spec PyProof.Rows L2
/-- one turn's body, then the rest -/
def mThen (b k : MS) : MS := fun σd S => match b σd S with
  | .nx σ1 S1 => k σ1 S1
  | .ct σ1 S1 => k σ1 S1
  | .bk σ1 S1 => .nx σ1 S1
  | r => r
def mWhile (t : M Bool) (b : MS) : Nat → MS
  | 0 => fun _ _ => .bad
  | n + 1 => mBS t fun c => if c = true then mThen b (mWhile t b n) else mPass
section
variable {g : Gx} {W : WX} {X : Cx} {e a b : Expr} {es : List Expr} {pos p : Pos} {sts : List Stmt}
theorem then_post {B O : List Addr} {S : Sto} {σd : Sl} {H : Hp} {mb k : MS} {J : Ends} {N : L2.St → Hp → Prop} (p : PostS ⟨g.K, g.G, B, O⟩ W H (mThen mb k σd S) J)
    (hN : ∀ σ1 S1 σ' O' H', Rel ⟨g.K, g.G, B, O'⟩ S1 σ1 σ' H' → Step O H O' H' → PostS ⟨g.K, g.G, B, O'⟩ W H' (k σ1 S1) J → N σ' H') : PostS ⟨g.K, g.G, B, O⟩ W H (mb σd S) { J with nx := N, ct := N, bk := J.nx } := by
  unfold mThen at p
  revert p
  cases mb σd S with
  | nx σ1 S1 => exact fun p σ' O' H' h1 h3 => hN σ1 S1 σ' O' H' h1 h3 (PostS.step (c := ⟨g.K, g.G, B, O⟩) h3 p)
  | ct σ1 S1 => exact fun p σ' O' H' h1 h3 => hN σ1 S1 σ' O' H' h1 h3 (PostS.step (c := ⟨g.K, g.G, B, O⟩) h3 p)
  | bk σ1 S1 => exact fun p => p
  | rt d S1 => exact fun p => p
  | exc k ns ds σ1 S1 => exact fun p => p
  | bad => exact fun p => p
theorem ss_while (n : Nat) {c : Expr} {t : M Bool} {m : MS} (hp : PassesOwn (model X.prog X.w) X.A X.env X.xe) (hc : PT X c (rdT g W t)) (hb : PSs X sts (rdS g W m)) : PS X (.While c sts [] pos) (rdS g W (mWhile t m n)) :=
  PS.imp (ps_while hp hc hb) fun J σ H ⟨B, O, S, σd, r, p⟩ => by
    refine ⟨fun k σ H => ∃ O1 S1 σd1, Rel ⟨g.K, g.G, B, O1⟩ S1 σd1 σ H ∧ PostS ⟨g.K, g.G, B, O1⟩ W H (mWhile t m k σd1 S1) J, ⟨n, O, S, σd, r, p⟩, fun k σ1 H1 hw => ?_⟩
    obtain ⟨O1, S1, σd1, r1, p1⟩ := hw
    cases k with
    | zero => exact p1.elim
    | succ k =>
      refine rdG_mono (rdS_then (rel := same) r1 p1) fun v H2 ⟨x, O2, S2, r2, rx, st2, p2⟩ => ?_
      cases (show _ = _ from rx)
      cases v with
      | true =>
        show ∃ N : L2.St → Hp → Prop, _
        exact ⟨fun σ' H' => ∃ O1 S1 σd1, Rel ⟨g.K, g.G, B, O1⟩ S1 σd1 σ' H' ∧ PostS ⟨g.K, g.G, B, O1⟩ W H' (mWhile t m k σd1 S1) J, fun σ' H' q => ⟨k, Nat.lt_succ_self k, q⟩,
          B, O2, S2, σd1, r2, then_post p2 fun σ3 S3 σ' O' H' h1 h3 hp => ⟨O', S3, σ3, h1, hp⟩⟩
      | false =>
        show J.nx σ1 H2
        exact postS_nx p2 r2
theorem Mv.refl (c : Ct) (H : Hp) : Mv c c H H := ⟨fun _ _ h e => ⟨h, e⟩, fun _ _ e => e, rfl, rfl⟩
theorem Mv.trans {c c1 c2 : Ct} {H H1 H2 : Hp} (a : Mv c c1 H H1) (b : Mv c1 c2 H1 H2) : Mv c c2 H H2 :=
  ⟨fun x o h e => let ⟨h1, e1⟩ := a.kp x o h e; b.kp x o h1 e1, fun n x e => b.rf n x (a.rf n x e), b.k.trans a.k, b.g.trans a.g⟩
structure Its where
  items : List D
  src : List Nat
  pair : Bool
/-- the things of the store that are walked stand as they stood -/
def Gd (S0 : Sto) (src : List Nat) (S : Sto) : Prop := ∀ n ∈ src, S[n]? = S0[n]?
/-- what is handed out at a turn -/
def YD (c : Ct) (H : Hp) (pair : Bool) (d : D) (x : V) (H' : Hp) : Prop := match pair with
  | false => H' = H ∧ RD c H d x
  | true => ∃ T d1 d2 v1 v2, d = .tup [d1, d2] ∧ x = .ref T ∧ H T = none ∧ H' = upd H T (.tup [v1, v2]) ∧ RD c H d1 v1 ∧ RD c H d2 v2
structure ItOk (c : Ct) (S0 : Sto) (H0 : Hp) (it : Its) (J : It) : Prop where
  go : ∀ c' S H, RelS c' S H → Mv c c' H0 H → Gd S0 it.src S → ∀ i, i < it.items.length → J.go i H ∧ ∀ x H', J.yld i H x H' → ∃ d, it.items[i]? = some d ∧ YD c' H it.pair d x H'
  stop : ∀ c' S H, RelS c' S H → Mv c c' H0 H → Gd S0 it.src S → J.stop it.items.length H
def PostI (c : Ct) (W : WX) (σ : L2.St) (σd : Sl) (H : Hp) (r : R Its) (Q : It → Hp → Prop) : Prop := match r with
  | .ok it S' => ∀ J O' H', Rel (c.at O') S' σd σ H' → ItOk (c.at O') S' H' it J → Step c.O H O' H' → Q J H'
  | .exc k ns ds S' => ∀ dd O' H', Rel (c.at O') S' σd σ H' → XOk (c.at O') H' ns ds dd → Step c.O H O' H' → W (.ref (c.G k)) dd σ H'
  | .bad => False
def rdI (g : Gx) (W : WX) (m : M Its) : TI := fun σ H Q => ∃ B O S σd, Rel ⟨g.K, g.G, B, O⟩ S σd σ H ∧ PostI ⟨g.K, g.G, B, O⟩ W σ σd H (m σd S) Q
theorem PI.imp {tg it : Expr} {w w' : TI} (h : PI X tg it w) (i : ∀ σ H R, w' σ H R → w σ H R) : PI X tg it w' := ⟨fun pins s σ H R I q => h.run pins s σ H R I (i σ H R q)⟩
theorem PI.or {tg it : Expr} {w w' : TI} (h : PI X tg it w) (h' : PI X tg it w') : PI X tg it (fun σ H R => w σ H R ∨ w' σ H R) := ⟨fun pins s σ H R I q => q.elim (h.run pins s σ H R I) (h'.run pins s σ H R I)⟩
theorem rdI_then {α β : Type} {rel : Ct → Hp → α → β → Prop} {S : Sto} {σd : Sl} {σ : L2.St} {H : Hp} {B O : List Addr} {a : M α} {f : α → M Its} {Q : It → Hp → Prop} (r : Rel ⟨g.K, g.G, B, O⟩ S σd σ H) (p : PostI ⟨g.K, g.G, B, O⟩ W σ σd H (mB a f σd S) Q) :
    rdG rel g W a σ H fun v H1 => ∃ d O1 S1, Rel ⟨g.K, g.G, B, O1⟩ S1 σd σ H1 ∧ rel ⟨g.K, g.G, B, O1⟩ H1 d v ∧ Step O H O1 H1 ∧ PostI ⟨g.K, g.G, B, O1⟩ W σ σd H1 (f d σd S1) Q := by
  refine ⟨B, O, S, σd, r, ?_⟩
  unfold mB at p
  revert p
  cases a σd S with
  | ok d S' =>
    intro p v O' H' h1 h2 h3
    refine ⟨d, O', S', h1, h2, h3, ?_⟩
    revert p
    show PostI _ W σ σd H (f d σd S') Q → _
    cases f d σd S' with
    | ok it S2 => exact fun p J O2 H2 g1 g2 g3 => p J O2 H2 g1 g2 (h3.trans g3)
    | exc k ns ds S2 => exact fun p dd O2 H2 g1 g2 g3 => p dd O2 H2 g1 g2 (h3.trans g3)
    | bad => exact fun p => p
  | exc k ns ds S' => exact fun p dd O' H' h1 h2 h3 => p dd O' H' h1 h2 h3
  | bad => exact fun p => p.elim
/-- the items of a list or tuple, and whether they lie in the store -/
def srcOf : D → List Nat | .ref n => [n] | _ => []
def itsOf (S : Sto) (d : D) : Option (List D) := match d with
  | .scr ns => some (ns.map D.int)
  | d => seqOf S d
/-- what stands of it while its guard holds -/
theorem its_stays {c : Ct} {S0 : Sto} {H0 : Hp} {d : D} {ds : List D} {v : V} (r0 : RelS c S0 H0) (h : RD c H0 d v) (e : itsOf S0 d = some ds) :
    ∃ t a, v = .ref a ∧ ∀ c' S H, RelS c' S H → Mv c c' H0 H → Gd S0 (srcOf d) S → ∃ vs, SqQ t c.K H a vs ∧ RDs c' H ds vs := by
  cases d with
  | scr ns =>
    cases Option.some.inj e
    obtain ⟨a, rfl, _⟩ := id h
    refine ⟨false, a, rfl, fun c' S H r st _ => ⟨_, ?_, RDs.of_int ns⟩⟩
    obtain ⟨a', ea, h1⟩ := scr_sq (RD.mv st _ _ h)
    cases ea
    rw [st.k] at h1
    exact h1
  | tup xs =>
    cases Option.some.inj (show some xs = some ds from e)
    obtain ⟨a, vs, rfl, h1⟩ := id h
    refine ⟨true, a, rfl, fun c' S H r st _ => ?_⟩
    obtain ⟨b, us, eb, h2, h3, h4⟩ := RD.mv st _ _ h
    cases eb
    exact ⟨us, h3.sq, h4⟩
  | lst xs =>
    cases Option.some.inj (show some xs = some ds from e)
    obtain ⟨a, vs, rfl, h1⟩ := id h
    refine ⟨false, a, rfl, fun c' S H r st _ => ?_⟩
    obtain ⟨b, us, eb, h2, h3, h4⟩ := RD.mv st _ _ h
    cases eb
    exact ⟨us, SqL.of h3, h4⟩
  | ref n =>
    obtain ⟨a, ho, rfl⟩ := id h
    refine ⟨false, a, rfl, fun c' S H r st gd => ?_⟩
    have e' : lstOf S0 (.ref n) = some ds := e
    have e2 : lstOf S (.ref n) = some ds := by
      unfold lstOf at e' ⊢
      simp only at e' ⊢
      rw [gd n (List.mem_singleton.mpr rfl)]
      exact e'
    obtain ⟨b, us, eb, h3, h4⟩ := lstOf_ok r (RD.mv st _ _ h) e2
    cases eb
    exact ⟨us, SqL.of h3, h4⟩
  | _ => cases e
theorem sqQ_fun {t : Bool} {K : PySem.W.Frag} {a : Addr} {xs : List V} : Walk (match t with | true => Itt K a | false => Itl K a) xs.length (fun H => SqQ t K H a xs) (YAt xs) := by
  cases t with
  | true => exact walk_tup
  | false => exact walk_list
def mSeqI (m : M D) : M Its := mB m fun d => fun _ S => match itsOf S d with
  | some ds => .ok ⟨ds, srcOf d, false⟩ S
  | none => .bad
abbrev itQ (t : Bool) (K : PySem.W.Frag) (a : Addr) : It := match t with | true => Itt K a | false => Itl K a
theorem pi_seqQ {tg l : Expr} {tl : TE} (hl : PE X l tl) : PI X tg l (fun σ H R => tl σ H fun x H1 => ∃ t a, x = .ref a ∧ (∃ xs, SqQ t X.K H1 a xs) ∧ R (itQ t X.K a) H1) := by
  refine ⟨fun pins s σ H R I h => ?_⟩
  refine thn (hl.run pins s σ H _ I h) fun v s1 ⟨x, H1, I1, r1, q1⟩ => ?_
  obtain ⟨t, a, e, ⟨xs, hq⟩, q⟩ := q1
  have fp : ∀ b, b ∈ [s1.heap.objs.size] → FpOk X pins H1 b := fun b hb => by
    have e : b = s1.heap.objs.size := by simpa using hb
    subst e
    exact I1.fpOk (Nat.le_refl _) (I1.hok.fresh (Nat.le_refl _))
  subst e
  cases r1
  cases t with
  | false =>
    obtain ⟨its, rv, p, hz⟩ := I1.list hq
    refine wpAny_pyIter_list p.isList ?_
    exact ⟨s1.heap.objs.size, [s1.heap.objs.size], _, _, H1, rfl, I1.kept (t' := s1.toks) fun b o e => Heap.get?_push_of_some _ e, turn_list a _, ⟨_, Heap.get?_push_size _ rfl, rfl, rfl⟩, fp, q⟩
  | true =>
    obtain ⟨its, rv, p, hz⟩ := I1.tuple hq
    refine wpAny_pyIter_tuple (show s1.heap.IsTuple a its.toArray from p) ?_
    exact ⟨s1.heap.objs.size, [s1.heap.objs.size], _, _, H1, rfl, I1.kept (t' := s1.toks) fun b o e => Heap.get?_push_of_some _ e, turn_tuple a _, ⟨_, Heap.get?_push_size _ rfl, rfl, rfl⟩, fp, q⟩
theorem si_seq {tg : Expr} {m : M D} (hk : X.K = g.K) (h : PE X e (rdE g W m)) : PI X tg e (rdI g W (mSeqI m)) := PI.imp (pi_seqQ h) fun σ H R ⟨B, O, S, σd, rel, p⟩ =>
  rdG_mono (rdI_then (rel := RD) rel p) fun v H1 ⟨d, O1, S1, r1, rx, st1, p1⟩ => by
    rw [hk]
    split at p1
    · next ds e =>
      obtain ⟨t, a, ev, st⟩ := its_stays r1.toRelS rx e
      obtain ⟨xs, h1, _⟩ := st _ S1 H1 r1.toRelS (Mv.refl _ _) fun n _ => rfl
      refine ⟨t, a, ev, ⟨xs, h1⟩, p1 _ O1 H1 r1 ⟨fun O2 S2 H2 r2 s2 gd i hi => ?_, fun O2 S2 H2 r2 s2 gd => ?_⟩ (Step.refl _ _)⟩
      · obtain ⟨vs, q1, q2⟩ := st O2 S2 H2 r2 s2 gd
        have w := sqQ_fun (t := t) (K := g.K) (a := a) (xs := vs)
        have hi' : i < vs.length := by rw [← q2.length]; exact hi
        refine ⟨w.goes i H2 hi' q1, fun x H' y => ?_⟩
        obtain ⟨e1, e2⟩ := w.yields i H2 x H' hi' q1 y
        refine ⟨ds[i], List.getElem?_eq_getElem hi, e1, ?_⟩
        obtain ⟨u, g1, g2⟩ := q2.get (List.getElem?_eq_getElem hi)
        cases Option.some.inj (g1.symm.trans e2)
        exact g2
      · obtain ⟨vs, q1, q2⟩ := st O2 S2 H2 r2 s2 gd
        have w := sqQ_fun (t := t) (K := g.K) (a := a) (xs := vs)
        have := w.stops H2 q1
        rw [← q2.length] at this
        exact this
    · exact p1.elim
def mRgI (m : M (List D)) : M Its := mB m fun ds => fun _ S => match ds with
  | [.int n] => if okRg (0, n) then .ok ⟨rgD 0 n, [], false⟩ S else .bad
  | _ => .bad
def mRgI2 (m : M (List D)) : M Its := mB m fun ds => fun _ S => match ds with
  | [.int i, .int n] => if okRg (i, n) then .ok ⟨rgD i n, [], false⟩ S else .bad
  | _ => .bad
theorem it_range {c : Ct} {S : Sto} {H : Hp} (i n : Int) : ItOk c S H ⟨rgD i n, [], false⟩ (Itr i (n - i).toNat) := by
  have hl : (rgD i n).length = (n - i).toNat := by unfold rgD; rw [List.length_map, List.length_range]
  refine ⟨fun O2 S2 H2 r2 s2 gd j hj => ?_, fun O2 S2 H2 r2 s2 gd => ?_⟩
  · have hj' : j < (n - i).toNat := hl ▸ hj
    refine ⟨hj', fun x H' y => ⟨.int (i + (j : Nat)), ?_, y.1, y.2⟩⟩
    show (rgD i n)[j]? = _
    unfold rgD
    rw [List.getElem?_map, List.getElem?_range hj']
    rfl
  · show (n - i).toNat ≤ (rgD i n).length
    rw [hl]
    exact Nat.le_refl _
theorem si_range1 {tg : Expr} {m : M (List D)} (hg : Gl X "range") (hm : X.mg "range" = none) (ha : PA X [a] (rdA g W m)) (hs : starEach [a] X.env = [(false, eval a X.env)] := by rfl) : PI X tg (.Call (.Name "range" p) [a] [] pos) (rdI g W (mRgI m)) :=
  PI.imp (pi_range1 hg hm ha hs) fun σ H R ⟨B, O, S, σd, rel, q⟩ => rdG_mono (rdI_then (rel := RDs) rel q) fun vs H1 ⟨ds, O1, S1, r1, rx, st1, p1⟩ => by
    split at p1
    · next n =>
      obtain ⟨v, rfl, hv⟩ := RDs.one_inv rx
      cases (show _ = _ from hv)
      split at p1
      · next hr =>
        obtain ⟨b1, b2, b3, b4, _⟩ := okRg_ok hr
        refine ⟨n, rfl, b3, b4, ?_⟩
        have := p1 _ O1 H1 r1 (it_range 0 n) (Step.refl _ _)
        rw [Int.sub_zero] at this
        exact this
      · exact p1.elim
    · exact p1.elim
theorem si_range2 {tg : Expr} {m : M (List D)} (hg : Gl X "range") (hm : X.mg "range" = none) (ha : PA X [a, b] (rdA g W m)) (hs : starEach [a, b] X.env = [(false, eval a X.env), (false, eval b X.env)] := by rfl) (hs2 : starEach [b] X.env = [(false, eval b X.env)] := by rfl) :
    PI X tg (.Call (.Name "range" p) [a, b] [] pos) (rdI g W (mRgI2 m)) :=
  PI.imp (pi_range2 hg hm ha hs hs2) fun σ H R ⟨B, O, S, σd, rel, q⟩ => rdG_mono (rdI_then (rel := RDs) rel q) fun vs H1 ⟨ds, O1, S1, r1, rx, st1, p1⟩ => by
    split at p1
    · next i n =>
      obtain ⟨v, w, rfl, hv, hw⟩ := RDs.two_inv rx
      cases (show _ = _ from hv)
      cases (show _ = _ from hw)
      split at p1
      · next hr =>
        obtain ⟨b1, b2, b3, b4, _⟩ := okRg_ok hr
        exact ⟨i, n, rfl, ⟨b1, b2, b3, b4⟩, p1 _ O1 H1 r1 (it_range i n) (Step.refl _ _)⟩
      · exact p1.elim
    · exact p1.elim
def enumD (k : Int) : List D → List D
  | [] => []
  | d :: ds => .tup [.int k, d] :: enumD (k + 1) ds
theorem enumD_len (k : Int) (ds : List D) : (enumD k ds).length = ds.length := by
  induction ds generalizing k with
  | nil => rfl
  | cons d ds ih => show (enumD (k + 1) ds).length + 1 = _; rw [ih]; rfl
theorem enumD_get : ∀ (k : Int) (ds : List D) (i : Nat) (d : D), ds[i]? = some d → (enumD k ds)[i]? = some (.tup [.int (k + (i : Nat)), d])
  | _, [], i, d, h => by simp at h
  | k, _ :: _, 0, d, h => by simp at h; subst h; simp [enumD]
  | k, _ :: ds, i + 1, d, h => by
    have := enumD_get (k + 1) ds i d (by simpa using h)
    show (enumD (k + 1) ds)[i]? = _
    rw [this, show k + 1 + (i : Int) = k + ((i + 1 : Nat) : Int) by omega]
def mEnum (m : M (List D)) : M Its := mB m fun ds => fun _ S => match ds with
  | [d] => match itsOf S d with
    | some xs => .ok ⟨enumD 0 xs, srcOf d, true⟩ S
    | none => .bad
  | _ => .bad
def mEnum2 (m : M (List D)) : M Its := mB m fun ds => fun _ S => match ds with
  | [d, .int k] => if 0 ≤ k ∧ k ≤ 1000 then match itsOf S d with
      | some xs => .ok ⟨enumD k xs, srcOf d, true⟩ S
      | none => .bad
    else .bad
  | _ => .bad
theorem it_enum {c : Ct} {S : Sto} {H : Hp} {d : D} {ds : List D} {a : Addr} {t : Bool} {k : Int} (st : ∀ c' S2 H2, RelS c' S2 H2 → Mv c c' H H2 → Gd S (srcOf d) S2 → ∃ vs, SqQ t c.K H2 a vs ∧ RDs c' H2 ds vs) :
    ItOk c S H ⟨enumD k ds, srcOf d, true⟩ (IteQ t c.K a k) := by
  refine ⟨fun O2 S2 H2 r2 s2 gd i hi => ?_, fun O2 S2 H2 r2 s2 gd => ?_⟩
  · obtain ⟨vs, q1, q2⟩ := st O2 S2 H2 r2 s2 gd
    have hi' : i < ds.length := by rw [← enumD_len k ds]; exact hi
    obtain ⟨u, g1, g2⟩ := q2.get (List.getElem?_eq_getElem hi')
    refine ⟨⟨vs, u, q1, g1⟩, fun x H' y => ?_⟩
    obtain ⟨T, x', e1, e2, e3, e4⟩ := y
    have ex : x' = u := Option.some.inj ((e4 vs q1).symm.trans g1)
    subst ex
    exact ⟨_, enumD_get k ds i _ (List.getElem?_eq_getElem hi'), T, _, _, _, _, rfl, e1, e2, e3, rfl, g2⟩
  · obtain ⟨vs, q1, q2⟩ := st O2 S2 H2 r2 s2 gd
    exact ⟨vs, q1, by show vs.length = (enumD k ds).length; rw [enumD_len, q2.length]⟩
theorem si_enum {elts : List Expr} {kk : Nat} {tpos : Pos} {m : M (List D)} (hk : X.K = g.K) (hg : Gl X "enumerate") (hm : X.mg "enumerate" = none) (ha : PA X [a] (rdA g W m)) (hs : starEach [a] X.env = [(false, eval a X.env)] := by rfl) :
    PI X (.Tuple elts kk tpos) (.Call (.Name "enumerate" p) [a] [] pos) (rdI g W (mEnum m)) :=
  PI.imp (pi_enumQ hg hm ha hs) fun σ H R ⟨B, O, S, σd, rel, q⟩ => rdG_mono (rdI_then (rel := RDs) rel q) fun vs H1 ⟨ds, O1, S1, r1, rx, st1, p1⟩ => by
    split at p1
    · next d =>
      obtain ⟨v, rfl, hv⟩ := RDs.one_inv rx
      split at p1
      · next xs e =>
        obtain ⟨t, l, ev, st⟩ := its_stays r1.toRelS hv e
        obtain ⟨us, h1, _⟩ := st _ S1 H1 r1.toRelS (Mv.refl _ _) fun n _ => rfl
        rw [hk]
        exact ⟨t, l, us, by rw [ev], h1, p1 _ O1 H1 r1 (it_enum st) (Step.refl _ _)⟩
      · exact p1.elim
    · exact p1.elim
theorem si_enum2 {elts : List Expr} {kk : Nat} {tpos : Pos} {m : M (List D)} (hk : X.K = g.K) (hg : Gl X "enumerate") (hm : X.mg "enumerate" = none) (ha : PA X [a, b] (rdA g W m)) (hs : starEach [a, b] X.env = (false, eval a X.env) :: starEach [b] X.env := by rfl) (hpl : (backTo pos (starEach [b] X.env)).any (·.1) = false := by rfl) :
    PI X (.Tuple elts kk tpos) (.Call (.Name "enumerate" p) [a, b] [] pos) (rdI g W (mEnum2 m)) :=
  PI.imp (pi_enumQ2 hg hm ha hs hpl) fun σ H R ⟨B, O, S, σd, rel, q⟩ => rdG_mono (rdI_then (rel := RDs) rel q) fun vs H1 ⟨ds, O1, S1, r1, rx, st1, p1⟩ => by
    split at p1
    · next d k =>
      obtain ⟨v, w, rfl, hv, hw⟩ := RDs.two_inv rx
      cases (show _ = _ from hw)
      split at p1
      · next hb =>
        split at p1
        · next xs e =>
          obtain ⟨t, l, ev, st⟩ := its_stays r1.toRelS hv e
          obtain ⟨us, h1, _⟩ := st _ S1 H1 r1.toRelS (Mv.refl _ _) fun n _ => rfl
          rw [hk]
          exact ⟨t, l, us, k, by rw [ev], hb.1, hb.2, h1, p1 _ O1 H1 r1 (it_enum st) (Step.refl _ _)⟩
        · exact p1.elim
      · exact p1.elim
    · exact p1.elim
def zipD : List D → List D → List D
  | x :: xs, y :: ys => .tup [x, y] :: zipD xs ys
  | _, _ => []
theorem zipD_len : ∀ xs ys : List D, (zipD xs ys).length = min xs.length ys.length
  | [], ys => by simp [zipD]
  | _ :: _, [] => by simp [zipD]
  | x :: xs, y :: ys => by show (zipD xs ys).length + 1 = _; rw [zipD_len xs ys, List.length_cons, List.length_cons]; omega
theorem zipD_get : ∀ (xs ys : List D) (i : Nat) (x y : D), xs[i]? = some x → ys[i]? = some y → (zipD xs ys)[i]? = some (.tup [x, y])
  | [], _, _, _, _, h, _ => by simp at h
  | _ :: _, [], _, _, _, _, h => by simp at h
  | _ :: _, _ :: _, 0, x, y, h, h2 => by simp at h h2; subst h h2; simp [zipD]
  | _ :: xs, _ :: ys, i + 1, x, y, h, h2 => zipD_get xs ys i x y (by simpa using h) (by simpa using h2)
def mZip (m : M (List D)) : M Its := mB m fun ds => fun _ S => match ds with
  | [d, e] => match itsOf S d with
    | some xs => match itsOf S e with
      | some ys => .ok ⟨zipD xs ys, srcOf d ++ srcOf e, true⟩ S
      | none => .bad
    | none => .bad
  | _ => .bad
theorem si_zip {elts : List Expr} {kk : Nat} {tpos : Pos} {m : M (List D)} (hk : X.K = g.K) (hg : Gl X "zip") (hm : X.mg "zip" = none) (ha : PA X [a, b] (rdA g W m)) (hs : starEach [a, b] X.env = (false, eval a X.env) :: starEach [b] X.env := by rfl) (hpl : (backTo pos (starEach [b] X.env)).any (·.1) = false := by rfl) :
    PI X (.Tuple elts kk tpos) (.Call (.Name "zip" p) [a, b] [] pos) (rdI g W (mZip m)) :=
  PI.imp (pi_zipQ hg hm ha hs hpl) fun σ H R ⟨B, O, S, σd, rel, q⟩ => rdG_mono (rdI_then (rel := RDs) rel q) fun vs H1 ⟨ds, O1, S1, r1, rx, st1, p1⟩ => by
    split at p1
    · next d d' =>
      obtain ⟨v, w, rfl, hv, hw⟩ := RDs.two_inv rx
      split at p1
      · next xs e =>
        split at p1
        · next ys e2 =>
          obtain ⟨t, l, ev, st⟩ := its_stays r1.toRelS hv e
          obtain ⟨t2, l2, ev2, sq2⟩ := its_stays r1.toRelS hw e2
          obtain ⟨us, h1, _⟩ := st _ S1 H1 r1.toRelS (Mv.refl _ _) fun n _ => rfl
          obtain ⟨us2, h2, _⟩ := sq2 _ S1 H1 r1.toRelS (Mv.refl _ _) fun n _ => rfl
          rw [hk]
          refine ⟨t, t2, l, l2, us, us2, by rw [ev, ev2], h1, h2, p1 _ O1 H1 r1 ⟨fun O2 S2 H2 r2 s2 gd i hi => ?_, fun O2 S2 H2 r2 s2 gd => ?_⟩ (Step.refl _ _)⟩
          · obtain ⟨as, q1, q2⟩ := st O2 S2 H2 r2 s2 fun n hn => gd n (List.mem_append_left _ hn)
            obtain ⟨bs, q3, q4⟩ := sq2 O2 S2 H2 r2 s2 fun n hn => gd n (List.mem_append_right _ hn)
            have hi2 : i < min xs.length ys.length := by rw [← zipD_len]; exact hi
            obtain ⟨u, g1, g2⟩ := q2.get (List.getElem?_eq_getElem (show i < xs.length by omega))
            obtain ⟨u2, g3, g4⟩ := q4.get (List.getElem?_eq_getElem (show i < ys.length by omega))
            refine ⟨⟨as, bs, u, u2, q1, q3, g1, g3⟩, fun x H' y => ?_⟩
            obtain ⟨T, x1, x2, e1, e2, e3, e4, e5⟩ := y
            have ex1 : x1 = u := Option.some.inj ((e4 as q1).symm.trans g1)
            have ex2 : x2 = u2 := Option.some.inj ((e5 bs q3).symm.trans g3)
            subst ex1 ex2
            exact ⟨_, zipD_get xs ys i _ _ (List.getElem?_eq_getElem (show i < xs.length by omega)) (List.getElem?_eq_getElem (show i < ys.length by omega)), T, _, _, _, _, rfl, e1, e2, e3, g2, g4⟩
          · obtain ⟨as, q1, q2⟩ := st O2 S2 H2 r2 s2 fun n hn => gd n (List.mem_append_left _ hn)
            obtain ⟨bs, q3, q4⟩ := sq2 O2 S2 H2 r2 s2 fun n hn => gd n (List.mem_append_right _ hn)
            exact ⟨as, bs, q1, q3, by show min as.length bs.length = (zipD xs ys).length; rw [zipD_len, q2.length, q4.length]⟩
        · exact p1.elim
      · exact p1.elim
    · exact p1.elim
/-- a name takes no pair that is handed out -/
def Tgt.st (t : Tgt) (pair : Bool) (d : D) : Option (List D) := match t with
  | .nm _ => if pair then none else some [d]
  | .tp _ => t.ds d
theorem yd_ok {c : Ct} {K : PySem.W.Frag} {S : Sto} {H H' : Hp} {t : Tgt} {pair : Bool} {d : D} {ds : List D} {v : V} {σ : L2.St} {σd : Sl} {Q : L2.St → Hp → Prop} (r : Rel c S σd σ H) (y : YD c H pair d v H') (e : t.st pair d = some ds) :
    ∃ vs, RDs c H' ds vs ∧ Rel c S σd σ H' ∧ Step c.O H c.O H' ∧ ∀ σ' : L2.St, (Q (setVs σ' t.slots vs) H' → t.g K v σ' H' Q) := by
  cases pair with
  | false =>
    obtain ⟨rfl, hd⟩ := y
    have e' : t.ds d = some ds := by cases t <;> exact e
    cases t with
    | nm i => cases Option.some.inj e'; exact ⟨[v], RDs.one hd, r, Step.refl _ _, fun σ' q => q⟩
    | tp is =>
      unfold Tgt.ds at e'
      simp only at e'
      split at e'
      · next xs q =>
        split at e'
        · next hl =>
          cases Option.some.inj e'
          obtain ⟨a, vs, rfl, h1, h2⟩ := tupOf_ok hd q
          exact ⟨vs, h2, r, Step.refl _ _, fun σ' q => ⟨a, vs, rfl, h1.sq, by rw [← h2.length]; exact hl, gNs_of is (by rw [← h2.length]; exact hl) q⟩⟩
        · cases e'
      · cases e'
  | true =>
    obtain ⟨T, d1, d2, v1, v2, rfl, rfl, hT, rfl, h1, h2⟩ := y
    cases t with
    | nm i => cases e
    | tp is =>
      have e' : (if [d1, d2].length = is.length then some [d1, d2] else none) = some ds := e
      split at e'
      · next hl =>
        cases Option.some.inj e'
        have s1 : Step c.O H c.O (upd H T (.tup [v1, v2])) := Step.new hT
        refine ⟨[v1, v2], ⟨v1, [v2], rfl, RD.step (c := c) (O' := c.O) s1 d1 v1 h1, RDs.one (RD.step (c := c) (O' := c.O) s1 d2 v2 h2)⟩, r.new hT, s1, fun σ' q => ⟨T, [v1, v2], rfl, SqT.of upd_same, hl, gNs_of is hl q⟩⟩
      · cases e'
open Classical in
noncomputable def forL (S0 : Sto) (src : List Nat) (pair : Bool) (t : Tgt) (b : MS) : List D → MS
  | [] => fun σd S => if Gd S0 src S then .nx σd S else .bad
  | d :: ds => fun σd S => if Gd S0 src S then match t.st pair d with
      | some xs => mThen b (forL S0 src pair t b ds) (setAll σd t.slots xs) S
      | none => .bad
    else .bad
noncomputable def mFor (m : M Its) (t : Tgt) (b : MS) : MS := mBS m fun it => fun σd S => forL S it.src it.pair t b it.items σd S
theorem rdSI_then {S : Sto} {σd : Sl} {σ : L2.St} {H : Hp} {B O : List Addr} {a : M Its} {f : Its → MS} {J : Ends} (r : Rel ⟨g.K, g.G, B, O⟩ S σd σ H) (p : PostS ⟨g.K, g.G, B, O⟩ W H (mBS a f σd S) J) {R : It → Hp → Prop}
    (hR : ∀ it S1 I O1 H1, Rel ⟨g.K, g.G, B, O1⟩ S1 σd σ H1 → ItOk ⟨g.K, g.G, B, O1⟩ S1 H1 it I → Step O H O1 H1 → PostS ⟨g.K, g.G, B, O1⟩ W H1 (f it σd S1) J → R I H1) : rdI g W a σ H R := by
  refine ⟨B, O, S, σd, r, ?_⟩
  unfold mBS at p
  revert p
  cases a σd S with
  | ok it S' => exact fun p I O' H' h1 h2 h3 => hR it S' I O' H' h1 h2 h3 (PostS.step (c := ⟨g.K, g.G, B, O⟩) h3 p)
  | exc k ns ds S' => exact fun p dd O' H' h1 h2 h3 => p dd σ O' H' h1 h2 h3
  | bad => exact fun p => p.elim
theorem ss_for {tg iter : Expr} {t : Tgt} {mi : M Its} {m : MS} (hp : PassesOwn (model X.prog X.w) X.A X.env X.xe) (hc : X.calm = true) (hi : PI X tg iter (rdI g W mi)) (hg : PG X tg (t.g X.K)) (hb : PSs X sts (rdS g W m))
    (hs : ∀ x, foldedSetIterable iter X.env x = pure x := by intro _; rfl) : PS X (.For tg iter sts [] pos) (rdS g W (mFor mi t m)) :=
  PS.imp (ps_for hp hc hi hg hb hs) fun J σ H ⟨B, O, S, σd, r, p⟩ => rdSI_then r p fun it S1 I O1 H1 r1 iok st1 p1 => by
    refine ⟨fun i k σ H => k = it.items.length - i ∧ i ≤ it.items.length ∧ ∃ O2 S2 σ2, Rel ⟨g.K, g.G, B, O2⟩ S2 σ2 σ H ∧ Step O1 H1 O2 H ∧ PostS ⟨g.K, g.G, B, O2⟩ W H (forL S1 it.src it.pair t m (it.items.drop i) σ2 S2) J,
      ⟨it.items.length, rfl, Nat.zero_le _, O1, S1, σd, r1, Step.refl _ _, p1⟩, fun i k σ2 H2 hw => ?_⟩
    obtain ⟨rfl, hle, O2, S2, σd2, r2, st2, p2⟩ := hw
    by_cases hlt : i < it.items.length
    · rw [List.drop_eq_getElem_cons hlt] at p2
      unfold forL at p2
      split at p2
      · next gd =>
        obtain ⟨hgo, hy⟩ := iok.go _ S2 H2 r2.toRelS (Step.mv (c := ⟨g.K, g.G, B, O1⟩) st2) gd i hlt
        refine .inr ⟨hgo, fun σ' H' => i + 1 ≤ it.items.length ∧ ∃ O2 S2 σ2, Rel ⟨g.K, g.G, B, O2⟩ S2 σ2 σ' H' ∧ Step O1 H1 O2 H' ∧ PostS ⟨g.K, g.G, B, O2⟩ W H' (forL S1 it.src it.pair t m (it.items.drop (i + 1)) σ2 S2) J, fun σ' H' q => ⟨it.items.length - (i + 1), by omega, rfl, q.1, q.2⟩, fun x H' y => ?_⟩
        obtain ⟨d, ed, yd⟩ := hy x H' y
        have edd : d = it.items[i] := Option.some.inj (ed.symm.trans (List.getElem?_eq_getElem hlt))
        subst edd
        split at p2
        · next xs ex =>
          obtain ⟨vs, h1, h2, h3, h4⟩ := yd_ok (K := X.K) (Q := fun σ2 H2 => rdS g W m { J with nx := _, ct := _, bk := J.nx } σ2 H2) r2 yd ex
          refine h4 σ2 ⟨B, O2, S2, _, Rel.setAll t.slots h2 h1, ?_⟩
          have p3 := PostS.step (c := ⟨g.K, g.G, B, O2⟩) h3 p2
          exact then_post p3 fun σ3 S3 σ' O' H3 g1 g2 g3 => ⟨hlt, O', S3, σ3, g1, (st2.trans h3).trans g2, g3⟩
        · exact p2.elim
      · exact p2.elim
    · have ei : i = it.items.length := by omega
      subst ei
      rw [List.drop_length] at p2
      unfold forL at p2
      split at p2
      · next gd => exact .inl ⟨iok.stop _ S2 H2 r2.toRelS (Step.mv (c := ⟨g.K, g.G, B, O1⟩) st2) gd, postS_nx p2 r2⟩
      · exact p2.elim
end
end DL

namespace DL
open PySem PySem.Spec PyProof.Rows L2
abbrev W0 : WX := fun _ _ _ _ => False
def wipeD (σ : Sl) : List Nat → Sl
  | [] => σ
  | v :: vs => (wipeD σ vs).set v .dead
theorem Rel.kill {c : Ct} {S : Sto} {σd : Sl} {σ : L2.St} {H : Hp} (r : Rel c S σd σ H) (i : Nat) : Rel c S (σd.set i .dead) (σ.set i none) H :=
  { r.toRelS with
    len := by rw [List.length_set, List.length_set]; exact r.len
    sl := fun j e q => by
      by_cases hj : i = j
      · subst hj
        by_cases hl : i < σd.length
        · rw [List.getElem?_set_self hl] at q
          exact .inl (Option.some.inj q).symm
        · rw [List.getElem?_eq_none (by rw [List.length_set]; omega)] at q
          cases q
      · rw [List.getElem?_set_ne hj] at q
        rcases r.sl j e q with z | ⟨u, h1, h2⟩
        · exact .inl z
        · exact .inr ⟨u, by rw [List.getElem?_set_ne hj]; exact h1, h2⟩ }
theorem Rel.wipe {c : Ct} {S : Sto} {σd : Sl} {σ : L2.St} {H : Hp} (r : Rel c S σd σ H) : ∀ vs : List Nat, Rel c S (wipeD σd vs) (L2.wipe σ vs) H
  | [] => r
  | v :: vs => (Rel.wipe r vs).kill v
theorem wipe_get (σ : L2.St) (vs : List Nat) (i : Nat) (h : i ∈ vs) (hl : i < σ.length) : (L2.wipe σ vs)[i]? = some none := by
  induction vs with
  | nil => cases h
  | cons v vs ih =>
    unfold L2.wipe
    by_cases e : v = i
    · subst e
      rw [List.getElem?_set_self (by rw [wipe_length]; exact hl)]
    · rw [List.getElem?_set_ne e]
      exact ih ((List.mem_cons.mp h).elim (fun z => absurd z.symm e) id)
theorem wipe_out' (σ : L2.St) (vs : List Nat) (i : Nat) (h : i ∉ vs) : (L2.wipe σ vs)[i]? = σ[i]? := wipe_out h
theorem wipe_ext {σ τ : L2.St} {vs : List Nat} (hl : σ.length = τ.length) (h : ∀ i, i ∉ vs → σ[i]? = τ[i]?) : L2.wipe σ vs = L2.wipe τ vs := by
  apply List.ext_getElem?
  intro i
  by_cases hi : i ∈ vs
  · by_cases hb : i < σ.length
    · rw [wipe_get σ vs i hi hb, wipe_get τ vs i hi (hl ▸ hb)]
    · rw [List.getElem?_eq_none (by rw [wipe_length]; omega), List.getElem?_eq_none (by rw [wipe_length]; omega)]
  · rw [wipe_out' σ vs i hi, wipe_out' τ vs i hi]
    exact h i hi
theorem setVs_len : ∀ (is : List Nat) (σ : L2.St) (vs : List V), (setVs σ is vs).length = σ.length
  | [], _, _ => rfl
  | _ :: _, _, [] => rfl
  | i :: is, σ, v :: vs => by show (setVs (σ.set i (some v)) is vs).length = _; rw [setVs_len is, List.length_set]
theorem setVs_out : ∀ (is : List Nat) (σ : L2.St) (vs : List V) (j : Nat), j ∉ is → (setVs σ is vs)[j]? = σ[j]?
  | [], _, _, _, _ => rfl
  | _ :: _, _, [], _, _ => rfl
  | i :: is, σ, v :: vs, j, h => by
    show (setVs (σ.set i (some v)) is vs)[j]? = _
    rw [setVs_out is _ vs j (fun z => h (List.mem_cons_of_mem _ z)), List.getElem?_set_ne (fun z => h (by rw [z]; exact List.mem_cons_self ..))]
theorem wipe_set {σ : L2.St} {vs is : List Nat} {ws : List V} (h : ∀ i ∈ is, i ∈ vs) : L2.wipe (setVs (L2.wipe σ vs) is ws) vs = L2.wipe σ vs := by
  refine wipe_ext (by rw [setVs_len, wipe_length]) fun i hi => ?_
  rw [setVs_out is _ ws i fun z => hi (h i z), wipe_out' σ vs i hi]
open Classical in
noncomputable def compL (S0 : Sto) (src : List Nat) (pair : Bool) (t : Tgt) (wσ : Sl) (c : M Bool) (e : M D) : List D → List D → Sto → R (List D)
  | [], acc, S => if Gd S0 src S then .ok acc S else .bad
  | d :: ds, acc, S => if Gd S0 src S then match t.st pair d with
      | some xs => match c (setAll wσ t.slots xs) S with
        | .ok b S1 => if b = true then match e (setAll wσ t.slots xs) S1 with
            | .ok x S2 => if acc.length < LIM then compL S0 src pair t wσ c e ds (acc ++ [x]) S2 else .bad
            | _ => .bad
          else compL S0 src pair t wσ c e ds acc S1
        | _ => .bad
      | none => .bad
    else .bad
noncomputable def mComp (m : M Its) (t : Tgt) (vs : List Nat) (c : M Bool) (e : M D) : M (List D) := mB m fun it => fun σd S => compL S it.src it.pair t (wipeD σd vs) c e it.items [] S
/-- the list at p grows -/
def PostP (K : PySem.W.Frag) (G : Nat → Addr) (B O : List Addr) (p : Addr) (σ : L2.St) (σd : Sl) (H : Hp) (r : R (List D)) (Q : VK) : Prop := match r with
  | .ok ds S' => ∀ vs O' H', Rel ⟨K, G, p :: B, O'⟩ S' σd σ H' → H' p = some (.lst vs) → RDs ⟨K, G, p :: B, O'⟩ H' ds vs → Step O H O' H' → Q (.ref p) H'
  | _ => False
theorem mv_pwrite {c : Ct} {H : Hp} {p : Addr} {o : HO} (h : p ∈ c.B) : Mv c c H (upd H p o) :=
  ⟨fun a u q e => ⟨q, by
    have ne : a ≠ p := fun z => q.2 (by rw [z]; exact h)
    rw [upd_ne ne]; exact e⟩, fun _ _ e => e, rfl, rfl⟩
theorem Rel.pwrite {c : Ct} {S : Sto} {σd : Sl} {σ : L2.St} {H : Hp} {p : Addr} {o : HO} (r : Rel c S σd σ H) (h : p ∈ c.B) : Rel c S σd σ (upd H p o) where
  ol := r.ol
  nd := r.nd
  nb := r.nb
  hb := fun a ha e => by
    by_cases q : a = p
    · subst q; rw [upd_same] at e; cases e
    · rw [upd_ne q] at e; exact r.hb a ha e
  ob := fun n o' a h1 h2 => OO.mv (mv_pwrite h) (fun u e => by
    have ne : a ≠ p := fun z => r.nb a (mem_of_at h2) (by rw [z]; exact h)
    rw [upd_ne ne]; exact e) (r.ob n o' a h1 h2)
  len := r.len
  sl := fun i d e => (r.sl i d e).imp id fun ⟨v, h1, h2⟩ => ⟨v, h1, RD.mv (mv_pwrite h) d v h2⟩
section
variable {g : Gx} {W : WX} {X : Cx} {elt tg iter : Expr} {ifs : List Expr} {scope : Scope} {own : List (Str × Nat)} {pos : Pos}
theorem st_yes : PTs X [] (rdT g W fun _ S => .ok true S) := ⟨fun pins s σ H Q I ⟨B, O, S, σd, r, p⟩ => pts_nil.run pins s σ H Q I (post_val p r rfl)⟩
theorem st_ifs {c : Expr} {m : M Bool} (h : PT X c (rdT g W m)) : PTs X [c] (rdT g W m) := pts_one h
theorem compL_ne {S0 : Sto} {src : List Nat} {pair : Bool} {t : Tgt} {wσ : Sl} {c : M Bool} {e : M D} {k : Nat} {ns : List Str} {es : List D} {S' : Sto} : ∀ (ds acc : List D) (S : Sto), compL S0 src pair t wσ c e ds acc S ≠ .exc k ns es S'
  | [], acc, S => by
    unfold compL
    split <;> (intro h; cases h)
  | d :: ds, acc, S => by
    unfold compL
    split
    · split
      · split
        · split
          · split
            · split
              · exact compL_ne ds _ _
              · intro h; cases h
            · intro h; cases h
          · exact compL_ne ds _ _
        · intro h; cases h
      · intro h; cases h
    · intro h; cases h
theorem Step.pwrite {O O' : List Addr} {H H' : Hp} {p : Addr} {o : HO} (s : Step O H O' H') (h : H p = none) : Step O H O' (upd H' p o) :=
  ⟨s.pre, fun a u n e => ⟨by rw [upd_ne (ne_of_none e h)]; exact (s.kp a u n e).1, (s.kp a u n e).2⟩⟩
theorem lc_imp {mi : M Its} {t : Tgt} {vs : List Nat} {mc : M Bool} {me : M D} (hsub : ∀ i ∈ t.slots, i ∈ vs) (σ : L2.St) (H : Hp) (Q : VK) (h : rdN g W (mComp mi t vs mc me) σ H Q) :
    tLc (rdI g W mi) (t.g X.K) (rdT g W0 mc) (rdE g W0 me) vs σ H Q := by
  obtain ⟨B, O, S, σd, r, p⟩ := h
  have main : rdI g W mi σ H fun J H1 => ∃ it O1 S1, Rel ⟨g.K, g.G, B, O1⟩ S1 σd σ H1 ∧ ItOk ⟨g.K, g.G, B, O1⟩ S1 H1 it J ∧ Step O H O1 H1 ∧ PostN ⟨g.K, g.G, B, O1⟩ W σ σd H1 (compL S1 it.src it.pair t (wipeD σd vs) mc me it.items [] S1) Q := by
    refine ⟨B, O, S, σd, r, ?_⟩
    unfold mComp mB at p
    revert p
    cases mi σd S with
    | ok it S' => exact fun p I O' H' h1 h2 h3 => ⟨it, O', S', h1, h2, h3, PostN.step (c := ⟨g.K, g.G, B, O⟩) h3 h1.toRelS p⟩
    | exc k ns ds S' => exact fun p dd O' H' h1 h2 h3 => p dd O' H' h1 h2 h3
    | bad => exact fun p => p.elim
  obtain ⟨B', O', S', σd', r', p'⟩ := main
  refine ⟨B', O', S', σd', r', ?_⟩
  revert p'
  cases mi σd' S' with
  | exc k ns ds S2 => exact fun p => p
  | bad => exact fun p => p
  | ok it0 S2 =>
    intro p' J O2 H2 a1 a2 a3
    obtain ⟨it, O1, S1, r1, iok, st1, pn⟩ := p' J O2 H2 a1 a2 a3
    intro D hD
    have av := r1.fresh hD
    have pp : PostP g.K g.G B O1 D σ σd H2 (compL S1 it.src it.pair t (wipeD σd vs) mc me it.items [] S1) Q := by
      revert pn
      cases hq : compL S1 it.src it.pair t (wipeD σd vs) mc me it.items [] S1 with
      | ok ds S3 => exact fun pn us O' H' h1 h2 h3 h4 => pn D us O' H' hD h1 av.2 h2 h3 h4
      | exc k ns ds S3 => exact absurd hq (compL_ne _ _ _)
      | bad => exact fun pn => pn.elim
    refine ⟨fun i k H => k = it.items.length - i ∧ i ≤ it.items.length ∧ ∃ O3 S3 acc accV, Rel ⟨g.K, g.G, D :: B, O3⟩ S3 σd σ H ∧ Mv ⟨g.K, g.G, B, O1⟩ ⟨g.K, g.G, D :: B, O3⟩ H2 H ∧ Step O1 H2 O3 H ∧ H D = some (.lst accV) ∧ RDs ⟨g.K, g.G, D :: B, O3⟩ H acc accV ∧ PostP g.K g.G B O1 D σ σd H2 (compL S1 it.src it.pair t (wipeD σd vs) mc me (it.items.drop i) acc S3) Q,
      ⟨it.items.length, rfl, Nat.zero_le _, O1, S1, [], [], r1.ban hD, mv_ban hD, Step.new hD, upd_same, rfl, pp⟩, fun i k H3 hw => ?_⟩
    obtain ⟨rfl, hle, O3, S3, acc, accV, r3, mv3, st3, hD3, rd3, pp3⟩ := hw
    have hDB : D ∈ (⟨g.K, g.G, D :: B, O3⟩ : Ct).B := List.mem_cons_self ..
    by_cases hlt : i < it.items.length
    · rw [List.drop_eq_getElem_cons hlt] at pp3
      unfold compL at pp3
      split at pp3
      · next gd =>
        obtain ⟨hgo, hy⟩ := iok.go _ S3 H3 r3.toRelS mv3 gd i hlt
        refine .inr ⟨hgo, fun H => i + 1 ≤ it.items.length ∧ ∃ O3 S3 acc accV, Rel ⟨g.K, g.G, D :: B, O3⟩ S3 σd σ H ∧ Mv ⟨g.K, g.G, B, O1⟩ ⟨g.K, g.G, D :: B, O3⟩ H2 H ∧ Step O1 H2 O3 H ∧ H D = some (.lst accV) ∧ RDs ⟨g.K, g.G, D :: B, O3⟩ H acc accV ∧ PostP g.K g.G B O1 D σ σd H2 (compL S1 it.src it.pair t (wipeD σd vs) mc me (it.items.drop (i + 1)) acc S3) Q,
          fun H' q => ⟨it.items.length - (i + 1), by omega, rfl, q.1, q.2⟩, fun x H' y => ?_⟩
        obtain ⟨d, ed, yd⟩ := hy x H' y
        have edd : d = it.items[i] := Option.some.inj (ed.symm.trans (List.getElem?_eq_getElem hlt))
        subst edd
        split at pp3
        · next xs ex =>
          obtain ⟨ws, h1, h2, h3, h4⟩ := yd_ok (K := X.K) (Q := fun σ2 H2 => L2.wipe σ2 vs = L2.wipe σ vs ∧ rdT g W0 mc σ2 H2 _) (Rel.wipe r3 vs) yd ex
          refine h4 (L2.wipe σ vs) ⟨wipe_set hsub, D :: B, O3, S3, _, Rel.setAll t.slots h2 h1, ?_⟩
          have r3' : Rel ⟨g.K, g.G, D :: B, O3⟩ S3 σd σ H' := Rel.step (c := ⟨g.K, g.G, D :: B, O3⟩) (O' := O3) r3 h3 h2.toRelS
          have carry : ∀ {O4 S4 H4 σd4 σ4}, Rel ⟨g.K, g.G, D :: B, O4⟩ S4 σd4 σ4 H4 → Step O3 H' O4 H4 → Rel ⟨g.K, g.G, D :: B, O4⟩ S4 σd σ H4 ∧ Mv ⟨g.K, g.G, B, O1⟩ ⟨g.K, g.G, D :: B, O4⟩ H2 H4 ∧ Step O1 H2 O4 H4 ∧ H4 D = some (.lst accV) ∧ RDs ⟨g.K, g.G, D :: B, O4⟩ H4 acc accV := fun {O4 S4 H4 σd4 σ4} q1 q2 => by
            have q3 : Step O3 H3 O4 H4 := Step.trans (show Step O3 H3 O3 H' from h3) q2
            have nD : D ∉ O3 := fun z => r3.nb D z hDB
            exact ⟨Rel.step (c := ⟨g.K, g.G, D :: B, O3⟩) r3' q2 q1.toRelS, mv3.trans (Step.mv (c := ⟨g.K, g.G, D :: B, O3⟩) q3), st3.trans q3, (q3.kp D _ nD hD3).1, RDs.step (c := ⟨g.K, g.G, D :: B, O3⟩) q3 acc accV rd3⟩
          revert pp3
          cases mc (setAll (wipeD σd vs) t.slots xs) S3 with
          | exc k ns ds S4 => exact fun pp3 => pp3.elim
          | bad => exact fun pp3 => pp3.elim
          | ok b S4 =>
            intro pp3 v O4 H4 q1 q2 q3
            have ev : b = v := q2
            subst ev
            simp only at pp3
            cases b with
            | false =>
              obtain ⟨c1, c2, c3, c4, c5⟩ := carry q1 q3
              exact ⟨hlt, O4, S4, acc, accV, c1, c2, c3, c4, c5, pp3⟩
            | true =>
              refine ⟨D :: B, O4, S4, _, q1, ?_⟩
              revert pp3
              simp only [if_true]
              cases me (setAll (wipeD σd vs) t.slots xs) S4 with
              | exc k ns ds S5 => exact fun pp3 => pp3.elim
              | bad => exact fun pp3 => pp3.elim
              | ok z S5 =>
                intro pp3 u O5 H5 q4 q5 q6
                simp only at pp3
                split at pp3
                · next hl =>
                  obtain ⟨c1, c2, c3, c4, c5⟩ := carry q4 (q3.trans q6)
                  have hDB5 : D ∈ (⟨g.K, g.G, D :: B, O5⟩ : Ct).B := List.mem_cons_self ..
                  refine ⟨accV, c4, by rw [← c5.length]; exact lim_lt hl, hlt, O5, S5, acc ++ [z], accV ++ [u], c1.pwrite hDB5, c2.trans (mv_pwrite hDB5), c3.pwrite hD, upd_same, RDs.mv (mv_pwrite hDB5) _ _ (c5.append (RDs.one q5)), pp3⟩
                · exact pp3.elim
        · exact pp3.elim
      · exact pp3.elim
    · have ei : i = it.items.length := by omega
      subst ei
      rw [List.drop_length] at pp3
      unfold compL at pp3
      split at pp3
      · next gd => exact .inl ⟨iok.stop _ S3 H3 r3.toRelS mv3 gd, pp3 accV O3 H3 r3 hD3 rd3 st3⟩
      · exact pp3.elim
abbrev Blk (X : Cx) (scope : Scope) (P : Cx → Prop) : Prop := ∀ (s : Shared) (H : Hp) (C : Addr) (cl : List (Str × Addr)) (fp : List Addr), P (X.blk s H scope (compEnvC scope cl C X.env) fp)
theorem sn_comp {mi : M Its} {t : Tgt} {mc : M Bool} {me : M D} (hc : X.calm = true) (hN : X.N.Nodup) (hi : PI X tg iter (rdI g W mi)) (ok : BlkOk X.N X.env.scope scope own) (hg : Blk X scope fun Y => PG Y tg (t.g X.K)) (ht : Blk X scope fun Y => PTs Y ifs (rdT g W0 mc))
    (he : Blk X scope fun Y => PE Y elt (rdE g W0 me)) (hsub : ∀ i ∈ t.slots, i ∈ own.map (·.2)) (hs : ∀ x, foldedSetIterable iter X.env x = pure x := by intro _; rfl) :
    PE X (.ListComp elt [⟨tg, iter, ifs, 0⟩] scope pos) (rdN g W (mComp mi t (own.map (·.2)) mc me)) := PE.imp (pe_lc hc hN hi ok hg ht he hs) (lc_imp hsub)
/-- y = [..], y a local name -/
theorem ss_setComp {i : Nat} {y : Str} {py spos : Pos} {mi : M Its} {t : Tgt} {mc : M Bool} {me : M D} {f : M (List D) → M D} (hf : ∀ (m : M (List D)) σ H Q, rdE g W (f m) σ H Q → rdN g W m σ H Q) (hc : X.calm = true) (hN : X.N.Nodup) (hy : X.N[i]? = some y) (hyl : X.env.scope.names.lookup y = some .local)
    (hsw : swapsWith (.ListComp elt [⟨tg, iter, ifs, 0⟩] scope pos) (some (.Name y py)) spos.line X.env = pure true)
    (hi : PI X tg iter (rdI g W mi)) (ok : BlkOk X.N X.env.scope scope own) (hg : Blk X scope fun Y => PG Y tg (t.g X.K)) (ht : Blk X scope fun Y => PTs Y ifs (rdT g W0 mc))
    (he : Blk X scope fun Y => PE Y elt (rdE g W0 me)) (hsub : ∀ i ∈ t.slots, i ∈ own.map (·.2)) (hs : ∀ x, foldedSetIterable iter X.env x = pure x := by intro _; rfl) :
    PS X (.Assign [.Name y py] (.ListComp elt [⟨tg, iter, ifs, 0⟩] scope pos) spos) (rdS g W (mSet i (f (mComp mi t (own.map (·.2)) mc me)))) :=
  PS.imp (ps_setLc hc hN hy hyl hsw hi ok hg ht he hs) fun J σ H ⟨B, O, S, σd, r, p⟩ => by
    refine lc_imp hsub σ H _ (hf _ σ H _ (rdG_mono (rdS_then (rel := RD) r p) fun v H1 ⟨x, O1, S1, r1, rx, st1, p1⟩ => ?_))
    exact postS_nx p1 (r1.set i rx)
end
end DL

namespace DL
open PySem PySem.Spec PyProof.Rows L2
open AutoSeq1 (wpAny_loadPart')
theorem tuple_mulS (l : Addr) (items : Array Value) (n : Nat) (dd : Option Addr) (sl : Array (Option Value)) (x : Int) (u : Tok) (c0 : (decide (x < -(2 ^ 63)) || decide (x ≥ 2 ^ 63)) = false) (c1 : (items.isEmpty || x == 1) = true) :
    Meets (Builtin.«tuple.__mul__» ⟨[.ref l, .int x u], []⟩) (fun _ R s => s.heap.get? l = some { cls := .type "tuple", dict := dd, data := .seq items n, slots := sl } ∧ R (.ok (.ret (Value.ref l))) s) :=
  .of_wp fun prog w A R s h => by
    obtain ⟨hp, g, d, tk, os⟩ := s
    obtain ⟨hl, h⟩ := h
    have f1 := AutoSeq1.idx_int
    wp_walk using wpAny_loadPart' hl
    repeat (first
      | (refine wpAny_ite_false (decide_eq_false (by rw [c0]; exact Bool.false_ne_true)) ?_; wp_walk using wpAny_loadPart' hl)
      | (refine wpAny_ite_true (decide_eq_true c1) ?_; wp_walk using wpAny_loadPart' hl))
    exact ⟨_, rfl, h⟩
theorem tuple_mul0 (l : Addr) (items : Array Value) (n : Nat) (dd : Option Addr) (sl : Array (Option Value)) (x : Int) (u : Tok) (c0 : (decide (x < -(2 ^ 63)) || decide (x ≥ 2 ^ 63)) = false) (c1 : (items.isEmpty || x == 1) = false) (c2 : (decide (x ≤ 0) || items.isEmpty) = true) :
    Meets (Builtin.«tuple.__mul__» ⟨[.ref l, .int x u], []⟩) (fun _ R s => s.heap.get? l = some { cls := .type "tuple", dict := dd, data := .seq items n, slots := sl } ∧
      R (.ok (.ret (Value.ref s.heap.objs.size))) { s with heap := s.heap.push { cls := Value.type "tuple", data := Data.seq #[] }, toks := s.toks }) :=
  .of_wp fun prog w A R s h => by
    obtain ⟨hp, g, d, tk, os⟩ := s
    obtain ⟨hl, h⟩ := h
    have f1 := AutoSeq1.idx_int
    wp_walk using wpAny_loadPart' hl
    repeat (first
      | (refine wpAny_ite_false (decide_eq_false (by rw [c0]; exact Bool.false_ne_true)) ?_; wp_walk using wpAny_loadPart' hl)
      | (refine wpAny_ite_false (decide_eq_false (by rw [c1]; exact Bool.false_ne_true)) ?_; wp_walk using wpAny_loadPart' hl)
      | (refine wpAny_ite_true (decide_eq_true c2) ?_; wp_walk using wpAny_loadPart' hl))
    exact ⟨_, rfl, h⟩
/-- t * k -/
def rRepF (K : PySem.W.Frag) : R2 := fun x y H Q => ∃ l k xs, x = .ref l ∧ y = .int k ∧ SqT K H l xs ∧ -1000 ≤ k ∧ k ≤ 1000 ∧ xs.length ≤ 1000 ∧ ((xs = [] ∨ k = 1) → Q (.ref l) H) ∧ NewT (List.replicate k.toNat xs).flatten H Q
theorem op_repF {X : Cx} : OpR X (binaryOp .Mult) (rRepF X.K) := by
  intro pins s σ H x y v u Q I rx ry h
  obtain ⟨l, k, xs, rfl, rfl, hT, k0, k1, hz, qs, qn⟩ := h
  cases rx
  obtain ⟨t, rfl⟩ := ry
  obtain ⟨its, r, ⟨⟨cls, dd, data, sl⟩, ho, hc, n, hd⟩, hs⟩ := I.tuple hT
  simp only at hc hd
  subst hc hd
  have hle : its.length = xs.length := r.length.symm
  have c0 : (decide (k < -(2 ^ 63)) || decide (k ≥ 2 ^ 63)) = false := by
    rw [decide_eq_false (by omega), decide_eq_false (by omega)]
    rfl
  have road : ∀ {W : Value → Shared → Prop}, wpAny (model X.prog X.w) X.A.in1 (call (.builtin "tuple.__mul__") [.ref l, .int k t]) W X.xe s → True := fun _ => trivial
  by_cases h1 : (its.toArray.isEmpty || k == 1) = true
  · have hq : xs = [] ∨ k = 1 := by
      rcases Bool.or_eq_true_iff.mp h1 with z | z
      · left
        have z2 : its = [] := by simpa using z
        rw [z2] at hle
        exact List.eq_nil_of_length_eq_zero hle.symm
      · right
        exact eq_of_beq z
    refine wpAny_binaryOp_repeat_ref (T := "tuple") (U := "int") (by decide) ⟨_, ho, rfl⟩ (fun s' => typeIs_int s' k t) noFill_tuple_mul F.fills_int_mul F.slot_int_rmul repeat_tuple F.slot_int_index.lookup
      (call_meets F.slot_int_rmul (typeIs_int s k t) F.entry_int_rmul (F.args_int_rmul_2 _ _) (int_rmul_tuple k t l its.toArray n dd sl)
        ⟨ho, rfl, ⟨_, ho, rfl⟩, call_meets F.slot_tuple_mul ⟨_, ho, rfl⟩ F.entry_tuple_mul (F.args_tuple_mul_2 _ _) (tuple_mulS l its.toArray n dd sl k t c0 h1) ⟨ho, ⟨.ref l, H, I, rfl, qs hq⟩⟩⟩)
  · have h1' : (its.toArray.isEmpty || k == 1) = false := by simpa using h1
    by_cases h2 : k ≤ 0
    · have c2 : (decide (k ≤ 0) || its.toArray.isEmpty) = true := by rw [decide_eq_true h2]; rfl
      have e0 : k.toNat = 0 := by omega
      rw [e0] at qn
      refine wpAny_binaryOp_repeat_ref (T := "tuple") (U := "int") (by decide) ⟨_, ho, rfl⟩ (fun s' => typeIs_int s' k t) noFill_tuple_mul F.fills_int_mul F.slot_int_rmul repeat_tuple F.slot_int_index.lookup
        (call_meets F.slot_int_rmul (typeIs_int s k t) F.entry_int_rmul (F.args_int_rmul_2 _ _) (int_rmul_tuple k t l its.toArray n dd sl)
          ⟨ho, rfl, ⟨_, ho, rfl⟩, call_meets F.slot_tuple_mul ⟨_, ho, rfl⟩ F.entry_tuple_mul (F.args_tuple_mul_2 _ _) (tuple_mul0 l its.toArray n dd sl k t c0 h1' c2) ⟨ho, endT (its := []) I .nil (Nat.zero_le _) qn⟩⟩)
    · have hi : its.toArray.isEmpty = false := (Bool.or_eq_false_iff.mp h1').1
      have c2 : (decide (k ≤ 0) || its.toArray.isEmpty) = false := by rw [hi, decide_eq_false h2]; rfl
      have hsz0 : its.toArray.size = xs.length := by rw [List.size_toArray, hle]
      have hm : ((its.toArray.size : Nat) : Int) * k ≤ 1000000 := by
        rw [hsz0]
        have a1 : ((xs.length : Nat) : Int) * k ≤ 1000 * k := Int.mul_le_mul_of_nonneg_right (by omega) (by omega)
        omega
      have fl : (List.replicate k.toNat xs).flatten.length ≤ sizeLine := by
        rw [PyProof.Rows.lm_len_rep_flat, sizeLine_eq]
        have a1 : k.toNat * xs.length ≤ 1000 * 1000 := Nat.mul_le_mul (by omega) hz
        omega
      have fl2 : (List.replicate k.toNat its).flatten.length ≤ sizeLine := by
        rw [PyProof.Rows.lm_len_rep_flat, hle, sizeLine_eq]
        have a1 : k.toNat * xs.length ≤ 1000 * 1000 := Nat.mul_le_mul (by omega) hz
        omega
      have c4 : Builtin.Tuple.tupleTooMany (((its.toArray.size : Nat) : Int) * k) = false := by
        unfold Builtin.Tuple.tupleTooMany
        rw [sizeLine_eq]
        exact decide_eq_false (by omega)
      refine wpAny_binaryOp_repeat_ref (T := "tuple") (U := "int") (by decide) ⟨_, ho, rfl⟩ (fun s' => typeIs_int s' k t) noFill_tuple_mul F.fills_int_mul F.slot_int_rmul repeat_tuple F.slot_int_index.lookup
        (call_meets F.slot_int_rmul (typeIs_int s k t) F.entry_int_rmul (F.args_int_rmul_2 _ _) (int_rmul_tuple k t l its.toArray n dd sl)
          ⟨ho, rfl, ⟨_, ho, rfl⟩, call_meets F.slot_tuple_mul ⟨_, ho, rfl⟩ F.entry_tuple_mul (F.args_tuple_mul_2 _ _) (tuple_mulW l its.toArray n dd sl k t c0 h1' c2 (by omega) c4 (by rw [size_rep, List.size_toArray]; exact fl2)) ⟨ho, ?_⟩⟩)
      rw [size_rep]
      exact endT I (r.rep k.toNat) fl qn
section
variable {g : Gx} {W : WX} {X : Cx} {e a b : Expr} {es : List Expr} {pos p : Pos}
def repD (k : Int) (xs : List D) : List D := (List.replicate k.toNat xs).flatten
theorem rep_rd {c : Ct} {H : Hp} {ds : List D} {vs : List V} (h : RDs c H ds vs) : ∀ n : Nat, RDs c H (List.replicate n ds).flatten (List.replicate n vs).flatten
  | 0 => rfl
  | n + 1 => by rw [List.replicate_succ, List.replicate_succ, List.flatten_cons, List.flatten_cons]; exact h.append (rep_rd h n)
def okMul (i j : Int) : Bool := decide (i.natAbs < 2 ^ 64) || decide (j.natAbs < 2 ^ 64) || (decide (i.natAbs < 2 ^ 20000) && decide (j.natAbs < 2 ^ 20000))
theorem okMul_ok {i j : Int} (h : okMul i j = true) : CMulW i j ∨ CMul i j := by
  unfold okMul at h
  rw [Bool.or_eq_true, Bool.or_eq_true, Bool.and_eq_true] at h
  rcases h with (h | h) | h
  · have := of_decide_eq_true h
    right; left
    constructor <;> omega
  · have := of_decide_eq_true h
    right; right
    constructor <;> omega
  · exact .inl (wide_mul (of_decide_eq_true h.1) (of_decide_eq_true h.2) (by decide) (by decide) (by decide))
/-- ints, a tuple times an int -/
def fMul (x y : D) (S : Sto) : R D := match x with
  | .int i => match y with
    | .int j => if okMul i j then .ok (.int (i * j)) S else .bad
    | _ => .bad
  | .tup ds => match y with
    | .int k => if -1000 ≤ k ∧ k ≤ 1000 ∧ ds.length ≤ 1000 then .ok (.tup (repD k ds)) S else .bad
    | _ => .bad
  | _ => .bad
abbrev rMulAll (K : PySem.W.Frag) : R2 := fun x y H Q => ((rI CMulW fun i j => V.int (i * j)) x y H Q ∨ (rI CMul fun i j => V.int (i * j)) x y H Q) ∨ rRepF K x y H Q
theorem fMul_ok {K : PySem.W.Frag} : OpS g W (rMulAll K) fMul := fun {B O S σd σ H x y v w Q} r hx hy p => by
  unfold fMul at p
  cases x with
  | int i =>
    cases y with
    | int j =>
      cases (show _ = _ from hx)
      cases (show _ = _ from hy)
      simp only at p
      split at p
      · next h =>
        rcases okMul_ok h with h | h
        · exact .inl (.inl ⟨_, _, rfl, rfl, h, post_val p r rfl⟩)
        · exact .inl (.inr ⟨_, _, rfl, rfl, h, post_val p r rfl⟩)
      · exact p.elim
    | _ => exact p.elim
  | tup ds =>
    cases y with
    | int k =>
      cases (show _ = _ from hy)
      simp only at p
      split at p
      · next h =>
        obtain ⟨a, vs, rfl, h1, h2, h3⟩ := id hx
        refine .inr ⟨a, k, vs, rfl, rfl, h2.sq, h.1, h.2.1, by rw [← h3.length]; exact h.2.2, fun z => ?_, post_newT p r (rep_rd h3 _)⟩
        have e0 : repD k ds = ds := by
          rcases z with z | z
          · have : ds = [] := List.eq_nil_of_length_eq_zero (by rw [h3.length, z]; rfl)
            subst this
            unfold repD
            simp
          · subst z
            unfold repD
            simp
        rw [e0] at p
        exact post_val p r hx
      · exact p.elim
    | _ => exact p.elim
  | _ => exact p.elim
theorem se_mul {ma mb : M D} (ha : PE X a (rdE g W ma)) (hb : PE X b (rdE g W mb)) : PE X (.BinOp a .Mult b pos) (rdE g W (mOp fMul ma mb)) := se_op ((op_mulW.or op_mul).or op_repF) fMul_ok ha hb
/-- a list times an int, a new list -/
def fMulL (x y : D) (S : Sto) : R (List D) := match y with
  | .int k => match lstOf S x with
    | some ds => if -1000 ≤ k ∧ k ≤ 1000 ∧ ds.length ≤ 100 then .ok (repD k ds) S else .bad
    | none => .bad
  | _ => .bad
def mOpN (f : D → D → Sto → R (List D)) (a b : M D) : M (List D) := mB a fun x => mB b fun y => fun _ S => f x y S
theorem sn_mul {ma mb : M D} (ha : PE X a (rdE g W ma)) (hb : PE X b (rdE g W mb)) : PE X (.BinOp a .Mult b pos) (rdN g W (mOpN fMulL ma mb)) :=
  PE.imp (pe_op op_rep ha hb) fun σ H Q ⟨B, O, S, σd, rel, p⟩ => rdG_mono (rdN_then (rel := RD) rel p) fun v H1 ⟨x, O1, S1, r1, rx, st1, p1⟩ =>
    rdG_mono (rdN_then (rel := RD) r1 p1) fun w H2 ⟨y, O2, S2, r2, ry, st2, p2⟩ => by
      unfold fMulL at p2
      split at p2
      · next k =>
        cases (show _ = _ from ry)
        split at p2
        · next ds q =>
          split at p2
          · next h =>
            obtain ⟨l, vs, rfl, h1, h2⟩ := lstOf_ok r2.toRelS (RD.step (c := ⟨g.K, g.G, B, O1⟩) st2 x v rx) q
            refine ⟨l, k, vs, rfl, rfl, h1, by omega, by omega, ?_, postN_new p2 r2 (rep_rd h2 _)⟩
            rw [← h2.length, sizeLine_eq]
            have a1 : ds.length * k.toNat ≤ 100 * 1000 := Nat.mul_le_mul h.2.2 (by omega)
            omega
          · exact p2.elim
        · exact p2.elim
      · exact p2.elim
/-- lists, + and slices, as new lists -/
def fAddL (x y : D) (S : Sto) : R (List D) := match lstOf S x with
  | some i => match lstOf S y with
    | some j => if i.length + j.length ≤ LIM then .ok (i ++ j) S else .bad
    | none => .bad
  | none => .bad
theorem sn_add {ma mb : M D} (ha : PE X a (rdE g W ma)) (hb : PE X b (rdE g W mb)) : PE X (.BinOp a .Add b pos) (rdN g W (mOpN fAddL ma mb)) :=
  PE.imp (pe_op op_cat ha hb) fun σ H Q ⟨B, O, S, σd, rel, p⟩ => rdG_mono (rdN_then (rel := RD) rel p) fun v H1 ⟨x, O1, S1, r1, rx, st1, p1⟩ =>
    rdG_mono (rdN_then (rel := RD) r1 p1) fun w H2 ⟨y, O2, S2, r2, ry, st2, p2⟩ => by
      unfold fAddL at p2
      split at p2
      · next i q =>
        split at p2
        · next j q2 =>
          split at p2
          · next h =>
            obtain ⟨l, vs, rfl, h1, h2⟩ := lstOf_ok r2.toRelS (RD.step (c := ⟨g.K, g.G, B, O1⟩) st2 x v rx) q
            obtain ⟨l2, ws, rfl, h3, h4⟩ := lstOf_ok r2.toRelS ry q2
            exact ⟨l, l2, vs, ws, rfl, rfl, h1, h3, by rw [← h2.length, ← h4.length]; exact lim_ok h, postN_new p2 r2 (h2.append h4)⟩
          · exact p2.elim
        · exact p2.elim
      · exact p2.elim
def mSlL (m : M D) (l h : M (Option Int)) : M (List D) := mB m fun x => mB l fun lo => mB h fun hi => fun _ S => match lstOf S x with
  | some ds => .ok (cutD ds lo hi) S
  | none => .bad
theorem sn_slice {lo hi : Option Expr} {p2 : Pos} {m : M D} {l h : M (Option Int)} (he : PE X e (rdE g W m)) (hl : PO X lo (rdO g W l)) (hh : PO X hi (rdO g W h)) : PE X (.Subscript e (.Slice lo hi none p2) pos) (rdN g W (mSlL m l h)) :=
  PE.imp (pe_slice sl_list he hl hh) fun σ H Q ⟨B, O, S, σd, rel, p⟩ => rdG_mono (rdN_then (rel := RD) rel p) fun v H1 ⟨x, O1, S1, r1, rx, st1, p1⟩ =>
    rdG_mono (rdN_then (rel := same) r1 p1) fun lo' H2 ⟨l', O2, S2, r2, e2, st2, p2⟩ => rdG_mono (rdN_then (rel := same) r2 p2) fun hi' H3 ⟨h', O3, S3, r3, e3, st3, p3⟩ => by
      cases (show _ = _ from e2)
      cases (show _ = _ from e3)
      split at p3
      · next ds q =>
        obtain ⟨a, vs, rfl, h1, h2⟩ := lstOf_ok r3.toRelS (RD.step (c := ⟨g.K, g.G, B, O1⟩) (st2.trans st3) x v rx) q
        exact ⟨a, vs, rfl, SqL.of h1, postN_new p3 r3 (cut_rd h2 _ _)⟩
      · exact p3.elim
end
end DL

namespace DL
open PySem PySem.Spec PyProof.Rows L2
section
variable {g : Gx} {W : WX} {X : Cx} {e a b c : Expr} {es : List Expr} {pos p : Pos} {sts : List Stmt}
def CmpS (g : Gx) (W : WX) (X : Cx) (op : CmpOp) (f : D → D → Sto → R D) : Prop := ∃ r, OpR X (compareOp op) r ∧ OpS g W r f
theorem sc_lt : CmpS g W X .Lt fLt0 := ⟨_, op_lt, fInt_ok (by intros; rfl)⟩
theorem sc_le : CmpS g W X .LtE fLe := ⟨_, op_le, fInt_ok (by intros; rfl)⟩
theorem sc_gt : CmpS g W X .Gt fGt := ⟨_, op_gt, fInt_ok (by intros; rfl)⟩
theorem sc_ge : CmpS g W X .GtE fGe := ⟨_, op_ge, fInt_ok (by intros; rfl)⟩
theorem sc_eq {k : Nat} (hr : Room k X.A) : CmpS g W X .Eq fEq := ⟨_, op_eqD hr.units, fEq_ok⟩
theorem sc_ne {k : Nat} (hr : Room k X.A) : CmpS g W X .NotEq fNe := ⟨_, op_neD hr.units, fNe_ok⟩
theorem sc_in : CmpS g W X .In (fIn false) := ⟨_, op_in_seq, fIn_ok⟩
theorem sc_notIn : CmpS g W X .NotIn (fIn true) := ⟨_, op_notIn_seq, fIn_ok⟩
theorem se_c1 {op : CmpOp} {f : D → D → Sto → R D} {ma mb : M D} (h : CmpS g W X op f) (ha : PE X a (rdE g W ma)) (hb : PE X b (rdE g W mb)) (hm : behindInMarks op b = false := by first | exact nomark _ | rfl) : PE X (.Compare a [op] [b] pos) (rdE g W (mOp f ma mb)) :=
  let ⟨_, ho, hs⟩ := h
  se_cmp ho hs ha hb hm
theorem st_c1 {op : CmpOp} {f : D → D → Sto → R D} {ma mb : M D} (h : CmpS g W X op f) (ha : PE X a (rdE g W ma)) (hb : PE X b (rdE g W mb)) (hm : behindInMarks op b = false := by first | exact nomark _ | rfl) : PT X (.Compare a [op] [b] pos) (rdT g W (mTest (mOp f ma mb))) :=
  let ⟨_, ho, hs⟩ := h
  PT.imp (pt_cmpR ho ha hb hm) fun σ H Q q => op_imp hs σ H _ (test_imp σ H Q q)
theorem chain_imp {r r' : R2} {f f' : D → D → Sto → R D} {ma mb mc : M D} (hs : OpS g W r f) (hs' : OpS g W r' f') (σ : L2.St) (H : Hp) (Q : VK) (h : rdE g W (mChain f f' ma mb mc) σ H Q) : tChain r r' (rdE g W ma) (rdE g W mb) (rdE g W mc) σ H Q := by
  obtain ⟨B, O, S, σd, rel, p⟩ := h
  refine rdG_mono (rd_then (rel := RD) rel p) fun v H1 ⟨x, O1, S1, r1, rx, st1, p1⟩ => ?_
  refine rdG_mono (rd_then (rel := RD) r1 p1) fun w H2 ⟨y, O2, S2, r2, ry, st2, p2⟩ => ?_
  have rx2 := RD.step (c := ⟨g.K, g.G, B, O1⟩) st2 x v rx
  refine hs r2 rx2 ry ?_
  simp only [mB, mTest] at p2
  revert p2
  cases f x y S2 with
  | ok d S3 =>
    intro p2 v3 O3 H3 h1 h2 h3
    cases d with
    | bl k =>
      refine ⟨k, h2, ?_⟩
      cases k with
      | true =>
        have p3 : Post RD ⟨g.K, g.G, B, O3⟩ W σ σd H3 (mB mc (fun z => fun _ S => f' y z S) σd S3) Q := Post.step (c := ⟨g.K, g.G, B, O2⟩) h3 p2
        exact rdG_mono (rd_then (rel := RD) h1 p3) fun u H4 ⟨z, O4, S4, r4, rz, st4, p4⟩ => hs' r4 (RD.step (c := ⟨g.K, g.G, B, O2⟩) (h3.trans st4) y w ry) rz p4
      | false => exact p2 (.bl false) O3 H3 h1 rfl h3
    | _ => exact p2.elim
  | exc k ns ds S3 => exact fun p2 => p2
  | bad => exact fun p2 => p2.elim
theorem se_c2 {op op' : CmpOp} {f f' : D → D → Sto → R D} {ma mb mc : M D} (h : CmpS g W X op f) (h' : CmpS g W X op' f') (ha : PE X a (rdE g W ma)) (hb : PE X b (rdE g W mb)) (hc : PE X c (rdE g W mc)) (hm : lastMarks [op, op'] [b, c] = false := by with_unfolding_all rfl) :
    PE X (.Compare a [op, op'] [b, c] pos) (rdE g W (mChain f f' ma mb mc)) :=
  let ⟨_, ho, hs⟩ := h
  let ⟨_, ho', hs'⟩ := h'
  PE.imp (pe_chain ho ho' ha hb hc hm) (chain_imp hs hs')
theorem st_c2 {op op' : CmpOp} {f f' : D → D → Sto → R D} {ma mb mc : M D} (h : CmpS g W X op f) (h' : CmpS g W X op' f') (ha : PE X a (rdE g W ma)) (hb : PE X b (rdE g W mb)) (hc : PE X c (rdE g W mc)) (hm : lastMarks [op, op'] [b, c] = false := by with_unfolding_all rfl) :
    PT X (.Compare a [op, op'] [b, c] pos) (rdT g W (mTest (mChain f f' ma mb mc))) :=
  let ⟨_, ho, hs⟩ := h
  let ⟨_, ho', hs'⟩ := h'
  PT.imp (pt_chain ho ho' ha hb hc hm) fun σ H Q q => chain_imp hs hs' σ H _ (test_imp σ H Q q)
theorem isN_imp {ma : M D} (σ : L2.St) (H : Hp) (Q : VK) (h : rdE g W (mUn fIsN ma) σ H Q) : tIsN (rdE g W ma) σ H Q := by
  obtain ⟨B, O, S, σd, rel, p⟩ := h
  refine rdG_mono (rd_then (rel := RD) rel p) fun v H1 ⟨x, O1, S1, r1, rx, st1, p1⟩ => ?_
  rw [isNon_ok rx]
  exact post_val p1 r1 rfl
theorem notN_imp {ma : M D} (σ : L2.St) (H : Hp) (Q : VK) (h : rdE g W (mUn fNotN ma) σ H Q) : tNotN (rdE g W ma) σ H Q := by
  obtain ⟨B, O, S, σd, rel, p⟩ := h
  refine rdG_mono (rd_then (rel := RD) rel p) fun v H1 ⟨x, O1, S1, r1, rx, st1, p1⟩ => ?_
  rw [isNon_ok rx]
  exact post_val p1 r1 rfl
theorem st_isN {j} {pos' : Pos} {ma : M D} (ha : PE X a (rdE g W ma)) : PT X (.Compare a [.Is] [.Constant .none j pos'] pos) (rdT g W (mTest (mUn fIsN ma))) :=
  PT.imp (pt_cmp (pc_isN ha)) fun σ H Q q => isN_imp σ H _ (test_imp σ H Q q)
theorem st_notN {j} {pos' : Pos} {ma : M D} (ha : PE X a (rdE g W ma)) : PT X (.Compare a [.IsNot] [.Constant .none j pos'] pos) (rdT g W (mTest (mUn fNotN ma))) :=
  PT.imp (pt_cmp (pc_notN ha)) fun σ H Q q => notN_imp σ H _ (test_imp σ H Q q)
def fNeg (x : D) (S : Sto) : R D := match x with
  | .int i => .ok (.int (-i)) S
  | _ => .bad
theorem se_neg {ma : M D} (ha : PE X a (rdE g W ma)) : PE X (.UnaryOp .USub a pos) (rdE g W (mUn fNeg ma)) := se_un un_neg (fun {B O S σd σ H x v Q} r hx p => by
  unfold fNeg at p
  split at p
  · cases (show _ = _ from hx)
    exact ⟨_, rfl, post_val p r rfl⟩
  · exact p.elim) ha
open Classical in
noncomputable def mW (t : M Bool) (b : MS) : MS := fun σd S => if h : ∃ n, mWhile t b n σd S ≠ .bad then mWhile t b h.choose σd S else .bad
theorem ss_w {c : Expr} {t : M Bool} {m : MS} (hp : PassesOwn (model X.prog X.w) X.A X.env X.xe) (hc : PT X c (rdT g W t)) (hb : PSs X sts (rdS g W m)) : PS X (.While c sts [] pos) (rdS g W (mW t m)) :=
  ⟨fun pins s σ H J I ⟨B, O, S, σd, r, p⟩ => by
    unfold mW at p
    split at p
    · next h => exact (ss_while h.choose hp hc hb).run pins s σ H J I ⟨B, O, S, σd, r, p⟩
    · exact p.elim⟩
theorem pget_list : PGet X (rIxL X.K) := by
  intro pins s σ H o i ov iv Q I ro ri h
  obtain ⟨p, xs, k, z, rfl, rfl, hq, he, q⟩ := h
  cases ro
  obtain ⟨t, rfl⟩ := ri
  obtain ⟨its, r, pl, hz⟩ := I.list hq
  obtain ⟨j, h1, h2, h3, h4, h5⟩ := atI_get he
  obtain ⟨w, ew, rw'⟩ := r.get h2
  have hl := r.length
  have hn := line63
  have fin : EP X pins σ Q w s := ⟨z, H, I, rw', q⟩
  by_cases h0 : 0 ≤ k
  · have hj : k.toNat = j := by
      rw [seqIndex_of h0 h5] at h1
      exact Option.some.inj h1
    exact wpAny_getItem_list pl.isList h0 (by omega) (by rw [hj]; simpa using ew) fin
  · have hj : (k + (its.toArray.size : Int)).toNat = j := by
      rw [seqIndex_neg (by omega) h4] at h1
      rw [List.size_toArray, ← hl]
      exact Option.some.inj h1
    exact wpAny_getItem_list_neg pl.isList (by omega) (by rw [List.size_toArray] <;> omega) (by omega) (by rw [hj]; simpa using ew) fin
def fIxL (x y : D) (S : Sto) : R D := match y with
  | .int i => match lstOf S x with
    | some ds => match atI ds i with
      | some d => .ok d S
      | none => .bad
    | none => .bad
  | _ => .bad
theorem fIxL_ok {K : PySem.W.Frag} : OpS g W (rIxL K) fIxL := fun {B O S σd σ H x y v w Q} r hx hy p => by
  unfold fIxL at p
  split at p
  · next i =>
    cases (show _ = _ from hy)
    split at p
    · next ds q =>
      split at p
      · next d q2 =>
        obtain ⟨a, vs, rfl, h1, h2⟩ := lstOf_ok r.toRelS hx q
        obtain ⟨u, e1, e2⟩ := atI_rd h2 q2
        exact ⟨a, vs, i, u, rfl, rfl, SqL.of h1, e1, post_val p r e2⟩
      · exact p.elim
    · exact p.elim
  · exact p.elim
def mAugIx (o i : M D) (f : D → D → Sto → R D) (m : M D) : MS := mBS o fun x => mBS i fun y => mBS (fun _ S => fIxL x y S) fun old => mBS m fun z => mBS (fun _ S => f old z S) fun new => fSetIx x y new
theorem fn_post {B O : List Addr} {S : Sto} {σd : Sl} {σ : L2.St} {H : Hp} {F : Sto → R D} {k : D → MS} {J : Ends} {Q : VK} (p : PostS ⟨g.K, g.G, B, O⟩ W H (mBS (fun _ S => F S) k σd S) J)
    (hq : ∀ d v O1 S1 H1, Rel ⟨g.K, g.G, B, O1⟩ S1 σd σ H1 → RD ⟨g.K, g.G, B, O1⟩ H1 d v → Step O H O1 H1 → PostS ⟨g.K, g.G, B, O1⟩ W H1 (k d σd S1) J → Q v H1) : Post RD ⟨g.K, g.G, B, O⟩ W σ σd H (F S) Q := by
  unfold mBS at p
  simp only at p
  revert p
  cases F S with
  | ok d S' => exact fun p v O' H' h1 h2 h3 => hq d v O' S' H' h1 h2 h3 (PostS.step (c := ⟨g.K, g.G, B, O⟩) h3 p)
  | exc k ns ds S' => exact fun p dd O' H' h1 h2 h3 => p dd σ O' H' h1 h2 h3
  | bad => exact fun p => p.elim
theorem ss_augIx {o i : Expr} {tpos : Pos} {op : Operator} {r : R2} {f : D → D → Sto → R D} {mo mi m : M D} (ho : PE X o (rdE g W mo)) (hi : PE X i (rdE g W mi)) (he : PE X e (rdE g W m)) (hp : PIp X op r) (hs : OpS g W r f)
    (ha : ∀ ov iv new, augStore i ov iv new = (do holding [new, ov, iv] (setItem ov iv new); release [new, ov, iv] []; pure .next) := by intros; rfl) : PS X (.AugAssign (.Subscript o i tpos) op e pos) (rdS g W (mAugIx mo mi f m)) :=
  PS.imp (ps_augS ho hi pget_list he hp set_list ha) fun J σ H ⟨B, O, S, σd, r, p⟩ => rdG_mono (rdS_then (rel := RD) r p) fun v H1 ⟨x, O1, S1, r1, rx, st1, p1⟩ =>
    rdG_mono (rdS_then (rel := RD) r1 p1) fun u H2 ⟨y, O2, S2, r2, ry, st2, p2⟩ => by
      have rx2 := RD.step (c := ⟨g.K, g.G, B, O1⟩) st2 x v rx
      refine fIxL_ok r2 rx2 ry (fn_post p2 fun old ov O3 S3 H3 r3 rz st3 p3 => ?_)
      have rx3 := RD.step (c := ⟨g.K, g.G, B, O2⟩) st3 x v rx2
      have ry3 := RD.step (c := ⟨g.K, g.G, B, O2⟩) st3 y u ry
      refine rdG_mono (rdS_then (rel := RD) r3 p3) fun w H4 ⟨zz, O4, S4, r4, rw4, st4, p4⟩ => ?_
      refine hs r4 (RD.step (c := ⟨g.K, g.G, B, O3⟩) st4 _ _ rz) rw4 (fn_post p4 fun new nv O5 S5 H5 r5 rn st5 p5 => ?_)
      exact fSetIx_ok r5 (RD.step (c := ⟨g.K, g.G, B, O3⟩) (st4.trans st5) x v rx3) (RD.step (c := ⟨g.K, g.G, B, O3⟩) (st4.trans st5) y u ry3) rn p5
theorem ip_addS : OpS g W (ipI fun i j => i + j) (fInt fun i j => .int (i + j)) := fInt_ok (k := fun i j => V.int (i + j)) (by intros; rfl)
theorem ip_subS : OpS g W (ipI fun i j => i - j) (fInt fun i j => .int (i - j)) := fInt_ok (k := fun i j => V.int (i - j)) (by intros; rfl)
noncomputable def mFr (m : M D) : M D := fun σd S => match m σd S with
  | .ok d S1 => fin S S1 d
  | .exc k ns ds S1 => finX S S1 k ns ds
  | .bad => .bad
theorem fr_imp {m : M D} (σ : L2.St) (H : Hp) (Q : VK) (h : rdE g W (mFr m) σ H Q) : rdE g W m σ H Q := by
  obtain ⟨B, O, S, σd, r, p⟩ := h
  refine ⟨B, O, S, σd, r, ?_⟩
  unfold mFr at p
  revert p
  cases m σd S with
  | ok d S' =>
    intro p v O' H' h1 h2 h3
    simp only [fin] at p
    split at p
    · next ok =>
      split at p
      · next d' q =>
        obtain ⟨a1, a2, a3⟩ := relS_take (c := ⟨g.K, g.G, B, O⟩) r.toRelS h1.toRelS h3 ok
        have := fz_ok h1.toRelS 4 d d' v q h2
        rw [show ((⟨g.K, g.G, B, O⟩ : Ct).at O').O.take S.length = O from a3] at this
        exact p v O H' (Rel.step (c := ⟨g.K, g.G, B, O⟩) (O' := O) r a2 a1) this a2
      · exact p.elim
    · exact p.elim
  | exc k ns es S' =>
    intro p dd O' H' h1 hx h3
    simp only [finX] at p
    split at p
    · next ok =>
      obtain ⟨a1, a2, a3⟩ := relS_take (c := ⟨g.K, g.G, B, O⟩) r.toRelS h1.toRelS h3 ok.1
      have tk : Tk (⟨g.K, g.G, B, O'⟩ : Ct) ⟨g.K, g.G, B, O⟩ S.length := by
        have := tk_take (c := ⟨g.K, g.G, B, O'⟩) (n := S.length)
        rw [show (⟨g.K, g.G, B, O'⟩ : Ct).O.take S.length = O from a3] at this
        exact this
      refine p dd O H' (Rel.step (c := ⟨g.K, g.G, B, O⟩) (O' := O) r a2 a1) ?_ a2
      rcases hx with hx | ⟨a, vs, e1, av, e2, l, e3⟩
      · exact .inl hx
      · exact .inr ⟨a, vs, e1, tk.av a av, e2, l, RDs.tk tk es vs ok.2 e3⟩
    · exact p.elim
  | bad => exact fun p => p.elim
theorem se_fr {m : M D} (h : PE X e (rdE g W m)) : PE X e (rdE g W (mFr m)) := PE.imp h fr_imp
end
/-- a def whose own things stay in the store -/
def mFunK (slots n : Nat) (m : MS) (ds : List D) (S : Sto) : R D := if ds.length = n then
    match m (ds ++ List.replicate (slots - n) .dead) S with
    | .rt d S' => .ok d S'
    | .nx _ S' => .ok .non S'
    | .exc k ns es _ S' => .exc k ns es S'
    | _ => .bad
  else .bad
theorem fn_okK {P : Program} {w : World} {K : PySem.W.Frag} {mg : Str → Option Value} {base : Heap} {x qual : Str} {st : Stmt} {f : Addr} {fd : FuncData} {N ps : List Str} {k : Nat} {G : Nat → Addr} {m : MS} (F : Fun K x qual st f fd) (Sc : FnScope N ps (defScope st))
    (hbody : ∀ (cdv : Value) (A : Around) (outer : List Env) (s : Shared) (H : Hp) (E : XK), Room k (A.deeper (envOfC qual (defScope st) s.heap.objs.size f cdv)) →
      PSs (cxOf (L2.CX P w) P w K mg base N qual (defScope st) f cdv A outer s H E) (defBody st) (rdS ⟨K, G⟩ (fun cls d _ H => E cls d H) m)) :
    FnOk P w K mg base (L2.CX P w) (k + 1) f fd ps (spD ⟨K, G⟩ (mFunK N.length ps.length m)) := by
  refine F.okX Sc (fun vs H Q E h => ?_) (fun cdv A outer s H vs Q E hr h => ⟨_, hbody cdv A outer s H E hr, ?_⟩)
  · obtain ⟨B, O, S, ds, r, rd, p⟩ := h
    unfold mFunK at p
    split at p
    · next e => rw [← rd.length]; exact e
    · exact p.elim
  · obtain ⟨B, O, S, ds, r, rd, p⟩ := h
    unfold mFunK at p
    split at p
    · next e =>
      rw [← e] at p
      refine ⟨B, O, S, _, rel_start (N := N) r rd, ?_⟩
      revert p
      cases m (ds ++ List.replicate (N.length - ds.length) .dead) S with
      | rt d S' => exact fun p v O' H' h1 h2 h3 => p v O' H' h1 h2 h3
      | nx σ' S' => exact fun p σ2 O' H' h1 h3 => p .non O' H' h1.toRelS rfl h3
      | exc k ns es σ' S' => exact fun p dd σ2 O' H' h1 hx h3 => p dd O' H' h1.toRelS hx h3
      | bk σ' S' => exact fun p => p.elim
      | ct σ' S' => exact fun p => p.elim
      | bad => exact fun p => p.elim
    · exact p.elim
def insOf (S : Sto) : D → Option (Nat × List Str × List D)
  | .ins k ns ds => some (k, ns, ds)
  | .ref n => match S[n]? with | some (.ins k ns ds) => some (k, ns, ds) | _ => none
  | _ => none
theorem insOf_ok {c : Ct} {S : Sto} {H : Hp} {d : D} {v : V} {k : Nat} {ns : List Str} {ds : List D} (r : RelS c S H) (h : RD c H d v) (e : insOf S d = some (k, ns, ds)) : ∃ a dx vs, v = .ref a ∧ H a = some (.ins (c.G k) dx (ns.zip vs)) ∧ ns.length = vs.length ∧ RDs c H ds vs := by
  cases d with
  | ins k' ns' ds' =>
    cases Option.some.inj e
    obtain ⟨a, dx, vs, e, _, h1, l, h2⟩ := h
    exact ⟨a, dx, vs, e, h1, l, h2⟩
  | ref n =>
    obtain ⟨a, ho, rfl⟩ := h
    unfold insOf at e
    simp only at e
    split at e
    · next q =>
      cases Option.some.inj e
      obtain ⟨dx, vs, h1, l, h2⟩ := r.ob n _ a q ho
      exact ⟨a, dx, vs, rfl, h1, l, h2⟩
    · cases e
  | _ => cases e
/-- the part of that name -/
def fldD (f : Str) : List Str → List D → Option D
  | n :: ns, d :: ds => if n = f then some d else fldD f ns ds
  | _, _ => none
theorem fldD_ok {c : Ct} {H : Hp} {f : Str} : ∀ {ns : List Str} {ds : List D} {vs : List V} {d : D}, RDs c H ds vs → fldD f ns ds = some d → ∃ v, (ns.zip vs).lookup f = some v ∧ RD c H d v
  | [], _, _, _, _, e => by cases e
  | _ :: _, [], _, _, _, e => by cases e
  | n :: ns, x :: ds, _, d, ⟨v, vs', ev, r, t⟩, e => by
    subst ev
    unfold fldD at e
    show ∃ w, ((n, v) :: ns.zip vs').lookup f = some w ∧ _
    by_cases h : n = f
    · rw [if_pos h] at e
      cases Option.some.inj e
      refine ⟨v, ?_, r⟩
      rw [List.lookup_cons, h]
      simp
    · rw [if_neg h] at e
      obtain ⟨w, h1, h2⟩ := fldD_ok t e
      refine ⟨w, ?_, h2⟩
      rw [List.lookup_cons, beq_eq_false_iff_ne.mpr (fun z => h z.symm)]
      exact h1
def putN (f : Str) : List Str → List Str
  | [] => [f]
  | n :: ns => if n = f then n :: ns else n :: putN f ns
def putX {α : Type} (f : Str) (y : α) : List Str → List α → List α
  | n :: ns, x :: xs => if n = f then y :: xs else x :: putX f y ns xs
  | _, _ => [y]
theorem putF_zip {f : Str} {y : V} : ∀ {ns : List Str} {vs : List V}, ns.length = vs.length → putF f y (ns.zip vs) = (putN f ns).zip (putX f y ns vs) ∧ (putN f ns).length = (putX f y ns vs).length
  | [], [], _ => ⟨rfl, rfl⟩
  | n :: ns, v :: vs, h => by
    have h' : ns.length = vs.length := by simpa using h
    obtain ⟨a, b⟩ := putF_zip (f := f) (y := y) h'
    show (if n = f then (n, y) :: ns.zip vs else (n, v) :: putF f y (ns.zip vs)) = (if n = f then n :: ns else n :: putN f ns).zip (if n = f then y :: vs else v :: putX f y ns vs) ∧ (if n = f then n :: ns else n :: putN f ns).length = (if n = f then y :: vs else v :: putX f y ns vs).length
    by_cases q : n = f
    · rw [if_pos q, if_pos q, if_pos q]
      exact ⟨rfl, by simpa using h'⟩
    · rw [if_neg q, if_neg q, if_neg q, a]
      exact ⟨rfl, by simpa using b⟩
  | [], _ :: _, h => by cases h
  | _ :: _, [], h => by cases h
theorem putX_rd {c : Ct} {H : Hp} {f : Str} {d : D} {v : V} (q : RD c H d v) : ∀ {ns : List Str} {ds : List D} {vs : List V}, RDs c H ds vs → RDs c H (putX f d ns ds) (putX f v ns vs)
  | [], _, _, h => by cases h2 : ‹List D› <;> exact RDs.one q
  | n :: ns, [], _, h => by cases (show _ = _ from h); exact RDs.one q
  | n :: ns, x :: ds, _, ⟨w, vs', ev, r, t⟩ => by
    subst ev
    show RDs c H (if n = f then d :: ds else x :: putX f d ns ds) (if n = f then v :: vs' else w :: putX f v ns vs')
    by_cases z : n = f
    · rw [if_pos z, if_pos z]; exact ⟨v, vs', rfl, q, t⟩
    · rw [if_neg z, if_neg z]; exact ⟨w, _, rfl, r, putX_rd q t⟩
section
variable {g : Gx} {W : WX} {X : Cx} {e a b c o : Expr} {es : List Expr} {pos p apos : Pos} {sts : List Stmt}
/-- o.f of an instance of the class k -/
def mFld (k : Nat) (f : Str) (m : M D) : M D := mB m fun x => fun _ S => match insOf S x with
  | some (k', ns, ds) => if k' = k then match fldD f ns ds with
      | some d => .ok d S
      | none => .bad
    else .bad
  | none => .bad
theorem se_fld {k : Nat} {f : Str} {m : M D} (hk : X.K = g.K) (hc : Cls g.K (g.G k)) (hn : NoAttr g.K (g.G k) f) (h : PE X e (rdE g W m)) (hb : attributeBase e f X.env (eval e X.env) = eval e X.env := by rfl) : PE X (.Attribute e f pos) (rdE g W (mFld k f m)) :=
  PE.imp (pe_fld h hb) fun σ H Q ⟨B, O, S, σd, rel, p⟩ => rdG_mono (rd_then (rel := RD) rel p) fun v H1 ⟨x, O1, S1, r1, rx, st1, p1⟩ => by
    split at p1
    · next k' ns ds q =>
      split at p1
      · next ek =>
        subst ek
        split at p1
        · next d qd =>
          obtain ⟨a, dx, vs, ev, h1, l, h2⟩ := insOf_ok r1.toRelS rx q
          obtain ⟨w, h3, h4⟩ := fldD_ok h2 qd
          rw [hk]
          exact ⟨a, g.G k', dx, _, w, ev, h1, hc, hn, h3, post_val p1 r1 h4⟩
        · exact p1.elim
      · exact p1.elim
    · exact p1.elim
/-- o.f = e -/
def mSetFld (k : Nat) (f : Str) (mo mv : M D) : MS := mBS mv fun y => mBS mo fun x => fun σd S => match x with
  | .ref n => match S[n]? with
    | some (.ins k' ns ds) => if k' = k ∧ ns.length < 100 then .nx σd (S.set n (.ins k (putN f ns) (putX f y ns ds))) else .bad
    | _ => .bad
  | _ => .bad
theorem ss_fld {k : Nat} {f : Str} {mo mv : M D} (hk : X.K = g.K) (hc : Cls g.K (g.G k)) (hn : NoAttr g.K (g.G k) f) (ho : PE X o (rdE g W mo)) (hv : PE X e (rdE g W mv)) (hs : swapsWith e (some (.Attribute o f apos)) pos.line X.env = pure false := by rfl) :
    PS X (.Assign [.Attribute o f apos] e pos) (rdS g W (mSetFld k f mo mv)) :=
  PS.imp (ps_fld ho hv hs) fun J σ H ⟨B, O, S, σd, r, p⟩ => rdG_mono (rdS_then (rel := RD) r p) fun v H1 ⟨y, O1, S1, r1, ry, st1, p1⟩ =>
    rdG_mono (rdS_then (rel := RD) r1 p1) fun u H2 ⟨x, O2, S2, r2, rx, st2, p2⟩ => by
      split at p2
      · next n =>
        split at p2
        · next k' ns ds q =>
          split at p2
          · next ek =>
            obtain ⟨ek, el⟩ := ek
            subst ek
            obtain ⟨l, hol, rfl⟩ := rx
            obtain ⟨dx, vs, h1, hl, h2⟩ := r2.ob n _ l q hol
            have ry2 := RD.step (c := ⟨g.K, g.G, B, O1⟩) st2 y v ry
            obtain ⟨e1, e2⟩ := putF_zip (f := f) (y := v) hl
            rw [hk]
            refine ⟨l, g.G k', dx, _, rfl, h1, hc, hn, by rw [List.length_zip]; omega, ?_⟩
            rw [e1]
            exact postS_write p2 r2 hol ⟨dx, _, upd_same, e2, RDs.step (c := ⟨g.K, g.G, B, O2⟩) (O' := O2) (Step.write (mem_of_at hol)) _ _ (putX_rd ry2 h2)⟩
          · exact p2.elim
        · exact p2.elim
      · exact p2.elim
end
end DL

namespace DL
open PySem PySem.Spec PyProof.Rows L2
section
variable {X : Cx} {CX : CXT} {k : Nat} {f C : Addr} {fd : FuncData} {ps : List Str} {sp : Sp} {E : L2.St → XK} {x m : Str} {p pos apos : Pos} {e o : Expr} {es : List Expr} {ta : TE} {t : TA}
def tMakeS (C : Addr) (sp : Sp) (E : L2.St → XK) (t : TA) : TE := fun σ H Q => t σ H fun vs H1 => ∀ x dx, H1 x = none → H1 dx = none → dx ≠ x → sp (.ref x :: vs) (upd (upd H1 dx (.own x)) x (.ins C dx [])) (fun v H2 => v = .non ∧ Q (.ref x) H2) (E σ)
theorem pe_makeS (M : Mk X.K C f) (F : FnOk X.prog X.w X.K X.mg X.base CX k f fd ps sp) (hr : Room (k + 1) X.A) (hg : Gl X x) (hm : X.mg x = some (.ref C)) (hb : Binds X.K fd ps []) (hx : ∀ σ, PassesAt CX X σ (E σ)) (ha : PA X (e :: es) t)
    (hdb : (x == ("__debug__" : Str)) = false := by decide) (he : starEach (e :: es) X.env = (false, eval e X.env) :: starEach es X.env := by rfl) (hpl : (backTo pos (starEach es X.env)).any (·.1) = false := by rfl) : PE X (.Call (.Name x p) (e :: es) [] pos) (tMakeS C sp E t) :=
  ⟨fun pins s σ H Q I h => wpAny_Call_Name_kw (ld_glob I hg hm (PySem.W.callWith_K (h₀ := X.base) I.ok.mod.kin M.kp (thn (ha.run pos pins s σ H _ I h) fun us s1 ⟨vs, H1, I1, r, q⟩ => ⟨I1.kIn, by
    have hq := q (s1.heap.objs.size + 1) s1.heap.objs.size (I1.hok.fresh (Nat.le_succ _)) (I1.hok.fresh (Nat.le_refl _)) (Nat.ne_of_lt (Nat.lt_succ_self _))
    have I2 := Inv.made (C := C) I1
    have r2 : Vals (V.ref (s1.heap.objs.size + 1) :: vs) (Value.ref (s1.heap.objs.size + 1) :: us) := .cons rfl r
    have hl : (Value.ref (s1.heap.objs.size + 1) :: us).length = ps.length := by rw [← r2.length]; exact F.len _ _ _ _ hq
    have bd := hb _ (Value.ref (s1.heap.objs.size + 1) :: us) I2.kIn (by rw [List.append_nil]; exact hl)
    rw [List.append_nil] at bd
    refine wpAny_call (make_map (f := f) I1.kIn M.makes M.init (beq_iff_eq.mp M.fn) (codeAny_mono (F.run _ X.stack _ _ ⟨Value.ref (s1.heap.objs.size + 1) :: us, []⟩ (Value.ref (s1.heap.objs.size + 1) :: us) _ _ (E σ) (hr.make C us []) (I2.env0.make C us []) bd r2 hq) fun r s' hq' => ?_))
    cases r with
    | error er => exact hx σ pins _ _ er s' I2 hq'
    | ok fl =>
      cases fl with
      | ret u =>
        obtain ⟨v, H', I3, rv, ev, q3⟩ := I2.after hq'
        subst ev
        exact ⟨rv, ⟨V.ref (s1.heap.objs.size + 1), H', I3, rfl, q3⟩⟩
      | next => exact hq'.elim
      | brk => exact hq'.elim
      | cont => exact hq'.elim⟩) he hpl) hdb)⟩
end
section
variable {g : Gx} {W : WX} {X : Cx} {e a b c o : Expr} {es : List Expr} {pos p apos : Pos} {n : M (List D)} {x : Str}
/-- C(..): a new thing of the store, then __init__ -/
def mNew (k : Nat) (fn : List D → Sto → R D) (m : M (List D)) : M D := mB m fun ds => fun _ S => match fn (.ref S.length :: ds) (S ++ [.ins k [] []]) with
  | .ok d S' => match d with
    | .non => .ok (.ref S.length) S'
    | _ => .bad
  | .exc k ns es S' => .exc k ns es S'
  | .bad => .bad
theorem se_new {k j : Nat} {f : Addr} {fd : FuncData} {ps : List Str} {fn : List D → Sto → R D} (tk : Takes X W) (M : Mk X.K (g.G k) f) (F : FnOk X.prog X.w X.K X.mg X.base (L2.CX X.prog X.w) j f fd ps (spD g fn)) (hr : Room (j + 1) X.A) (hg : Gl X x) (hm : X.mg x = some (.ref (g.G k)))
    (hb : Binds X.K fd ps []) (ha : PA X (e :: es) (rdA g W n)) (hdb : (x == ("__debug__" : Str)) = false := by decide)
    (he : starEach (e :: es) X.env = (false, eval e X.env) :: starEach es X.env := by rfl) (hpl : (backTo pos (starEach es X.env)).any (·.1) = false := by rfl) : PE X (.Call (.Name x p) (e :: es) [] pos) (rdE g W (mNew k fn n)) :=
  PE.imp (pe_makeS (E := WE W) M F hr hg hm hb (fun σ => passAt tk σ) ha hdb he hpl) fun σ H Q ⟨B, O, S, σd, rel, q⟩ => rdG_mono (rd_then (rel := RDs) rel q) fun vs H1 ⟨ds, O1, S1, r1, rx, st1, p1⟩ => by
    intro x dx hx hdx hne
    have hx' : upd H1 dx (.own x) x = none := by rw [upd_ne (fun z => hne z.symm)]; exact hx
    have ra := r1.new (o := .own x) hdx
    obtain ⟨r2, st2⟩ := RelS.alloc (c := ⟨g.K, g.G, B, O1⟩) ra.toRelS (u := .ins (g.G k) dx []) (o := .ins k [] []) hx' ⟨dx, [], upd_same, rfl, rfl⟩
    have st3 : Step O1 H1 (O1 ++ [x]) (upd (upd H1 dx (.own x)) x (.ins (g.G k) dx [])) := Step.trans (Step.new hdx) st2
    have rs : RDs ⟨g.K, g.G, B, O1 ++ [x]⟩ (upd (upd H1 dx (.own x)) x (.ins (g.G k) dx [])) (.ref S1.length :: ds) (.ref x :: vs) :=
      ⟨.ref x, vs, rfl, ⟨x, by
        show (O1 ++ [x])[S1.length]? = some x
        rw [← show O1.length = S1.length from r1.ol]
        simp, rfl⟩, RDs.step (c := ⟨g.K, g.G, B, O1⟩) st3 ds vs rx⟩
    refine ⟨B, O1 ++ [x], S1 ++ [.ins k [] []], .ref S1.length :: ds, r2, rs, ?_⟩
    revert p1
    cases fn (.ref S1.length :: ds) (S1 ++ [.ins k [] []]) with
    | ok d S' =>
      cases d with
      | non =>
        intro p1 v O' H' h1 h2 h3
        refine ⟨h2, ?_⟩
        have st4 := st3.trans h3
        refine p1 (.ref x) O' H' (r1.step st4 h1) ⟨x, ?_, rfl⟩ st4
        obtain ⟨t, ht⟩ := h3.pre
        show O'[S1.length]? = some x
        rw [show O' = (O1 ++ [x]) ++ t from ht, ← show O1.length = S1.length from r1.ol]
        simp
      | _ => exact fun p1 => p1.elim
    | exc k ns es S' => exact fun p1 dd O' H' h1 h2 h3 => p1 dd O' H' (r1.step (st3.trans h3) h1) h2 (st3.trans h3)
    | bad => exact fun p1 => p1.elim
/-- o.f, a property of the class k -/
def mProp (k : Nat) (fn : List D → Sto → R D) (m : M D) : M D := mB m fun x => fun _ S => match insOf S x with
  | some (k', _, _) => if k' = k then match fn [x] S with
      | .ok d S' => .ok d S'
      | _ => .bad
    else .bad
  | none => .bad
theorem se_prop {k j : Nat} {f : Str} {pp gg : Addr} {fd : FuncData} {ps : List Str} {fn : List D → Sto → R D} {m : M D} (h : PE X e (rdE g W m)) (c : Cls X.K (g.G k)) (hp : PropOf X.K (g.G k) f pp gg) (F : FnOk X.prog X.w X.K X.mg X.base (L2.CX X.prog X.w) j gg fd ps (spD g fn)) (hr : Room (j + 1) X.A) (hb : Binds X.K fd ps [])
    (hab : attributeBase e f X.env (eval e X.env) = eval e X.env := by rfl) : PE X (.Attribute e f pos) (rdE g W (mProp k fn m)) :=
  PE.imp (pe_prop (E := fun _ _ _ => False) h c hp F hr hb .nil (fun pins σ H s e s' I ⟨_, _, _, _, _, _, _, _, _, _, _, _, z⟩ => z.elim) hab) fun σ H Q ⟨B, O, S, σd, rel, q⟩ => rdG_mono (rd_then (rel := RD) rel q) fun v H1 ⟨x, O1, S1, r1, rx, st1, p1⟩ => by
    split at p1
    · next k' ns ds qi =>
      split at p1
      · next ek =>
        subst ek
        obtain ⟨a, dx, vs, ev, h1, l, h2⟩ := insOf_ok r1.toRelS rx qi
        refine ⟨a, dx, _, ev, h1, B, O1, S1, [x], r1.toRelS, by rw [← ev]; exact RDs.one rx, ?_⟩
        revert p1
        cases fn [x] S1 with
        | ok d S' => exact fun p1 v O' H' h1 h2 h3 => p1 v O' H' (r1.step h3 h1) h2 h3
        | exc k ns es S' => exact fun p1 => p1.elim
        | bad => exact fun p1 => p1.elim
      · exact p1.elim
    · exact p1.elim
end
end DL

namespace DL
open PySem PySem.Spec PyProof.Rows L2
theorem fn_bad {P : Program} {w : World} {K : PySem.W.Frag} {mg : Str → Option Value} {base : Heap} {x qual : Str} {st : Stmt} {f : Addr} {fd : FuncData} {N ps : List Str} {k : Nat} {G : Nat → Addr} (F : Fun K x qual st f fd) (Sc : FnScope N ps (defScope st)) :
    FnOk P w K mg base (L2.CX P w) (k + 1) f fd ps (spD ⟨K, G⟩ fun _ _ => .bad) :=
  F.okX Sc (fun _ _ _ _ ⟨_, _, _, _, _, _, p⟩ => p.elim) (fun _ _ _ _ _ _ _ _ _ ⟨_, _, _, _, _, _, p⟩ => p.elim)
/-- the law's promise -/
def spTrue (K : PySem.W.Frag) : Sp := fun vs H Q _ => ∃ (a : Addr) (ns : List Int), vs = [.ref a] ∧ SqL K H a (ns.map V.int) ∧ ns.length ≤ 63 ∧ ∀ H', Q (.bl true) H'
theorem cx_false {P : Program} {w : World} {o : List Env} {H : Hp} {s : Shared} {e : Value} {s' : Shared} (h : L2.CX P w o H s (fun _ _ _ => False) e s') : False := by
  obtain ⟨_, _, _, _, _, _, _, _, _, _, _, _, z⟩ := h
  exact z
theorem fn_true {P : Program} {w : World} {K : PySem.W.Frag} {mg : Str → Option Value} {base : Heap} {f : Addr} {fd : FuncData} {ps : List Str} {k : Nat} {G : Nat → Addr} {fn : List D → Sto → R D} (h : FnOk P w K mg base (L2.CX P w) k f fd ps (spD ⟨K, G⟩ fn))
    (ht : ∀ ns : List Int, ns.length ≤ 63 → ∃ S, fn [.scr ns] [] = .ok (.bl true) S) : FnOk P w K mg base (L2.CX P w) k f fd ps (spTrue K) := by
  have imp : ∀ vs H Q E, spTrue K vs H Q E → spD ⟨K, G⟩ fn vs H Q E := fun vs H Q E ⟨a, ns, e, hS, hl, q⟩ => by
    obtain ⟨S, hS'⟩ := ht ns hl
    refine ⟨[], [], [], [.scr ns], ⟨rfl, List.nodup_nil, nofun, nofun, fun n o a h => nomatch h⟩, ?_, ?_⟩
    · rw [e]
      refine RDs.one ⟨a, rfl, ?_⟩
      rcases hS with h | h
      · exact .inl ⟨h, ⟨nofun, nofun⟩⟩
      · exact .inr h
    · rw [hS']
      exact fun v O' H' _ hv _ => by cases (show _ = _ from hv); exact q H'
  exact h.imp imp
end DL

namespace DL
open PySem PySem.Spec PyProof.Rows L2
def dicOf (S : Sto) : D → Option (List Key × List D)
  | .dic ks ds => some (ks, ds)
  | .ref n => match S[n]? with | some (.dic ks ds) => some (ks, ds) | _ => none
  | _ => none
theorem dicOf_ok {c : Ct} {S : Sto} {H : Hp} {d : D} {v : V} {ks : List Key} {ds : List D} (r : RelS c S H) (h : RD c H d v) (e : dicOf S d = some (ks, ds)) : ∃ a vs, v = .ref a ∧ H a = some (.dK (ks.zip vs)) ∧ ks.length = vs.length ∧ RDs c H ds vs := by
  cases d with
  | dic ks' ds' =>
    cases Option.some.inj e
    obtain ⟨a, vs, e, _, h1, l, h2⟩ := h
    exact ⟨a, vs, e, h1, l, h2⟩
  | ref n =>
    obtain ⟨a, ho, rfl⟩ := h
    unfold dicOf at e
    simp only at e
    split at e
    · next q =>
      cases Option.some.inj e
      obtain ⟨vs, h1, l, h2⟩ := r.ob n _ a q ho
      exact ⟨a, vs, rfl, h1, l, h2⟩
    · cases e
  | _ => cases e
/-- what stands at a key -/
def dget (k : Key) : List Key → List D → Option D
  | n :: ns, d :: ds => if n = k then some d else dget k ns ds
  | _, _ => none
theorem dget_ok {c : Ct} {H : Hp} {k : Key} : ∀ {ks : List Key} {ds : List D} {vs : List V}, ks.length = vs.length → RDs c H ds vs → (∀ d, dget k ks ds = some d → ∃ v, valV (ks.zip vs) k = some v ∧ RD c H d v) ∧ (dget k ks ds = none → valV (ks.zip vs) k = none)
  | [], _, _, _, _ => ⟨nofun, fun _ => rfl⟩
  | n :: ks, [], _, l, h => by cases (show _ = _ from h); cases l
  | n :: ks, x :: ds, _, l, ⟨v, vs', ev, r, t⟩ => by
    subst ev
    have l' : ks.length = vs'.length := by simpa using l
    obtain ⟨h1, h2⟩ := dget_ok (k := k) l' t
    have e : valV ((n :: ks).zip (v :: vs')) k = if n = k then some v else valV (ks.zip vs') k := by
      unfold valV
      rw [List.zip_cons_cons, List.find?_cons]
      by_cases q : n = k
      · rw [if_pos q, decide_eq_true (show (n, v).1 = k from q)]
        rfl
      · rw [if_neg q, decide_eq_false (show ¬ (n, v).1 = k from q)]
    unfold dget
    by_cases q : n = k
    · rw [if_pos q] at e ⊢
      rw [e]
      exact ⟨fun d z => ⟨v, rfl, by cases Option.some.inj z; exact r⟩, nofun⟩
    · rw [if_neg q] at e ⊢
      rw [e]
      exact ⟨h1, h2⟩
def hasK (k : Key) (ks : List Key) : Bool := ks.any fun n => decide (n = k)
def dputN (k : Key) (ks : List Key) : List Key := if hasK k ks then ks else ks ++ [k]
def dputG {α : Type} (k : Key) (y : α) : List Key → List α → List α
  | n :: ns, x :: xs => (if n = k then y else x) :: dputG k y ns xs
  | _, _ => []
def dputX {α : Type} (k : Key) (y : α) (ks : List Key) (xs : List α) : List α := if hasK k ks then dputG k y ks xs else xs ++ [y]
theorem any_zip {k : Key} : ∀ {ks : List Key} {vs : List V}, ks.length = vs.length → ((ks.zip vs).any fun kv => decide (kv.1 = k)) = hasK k ks
  | [], [], _ => rfl
  | n :: ks, v :: vs, l => by
    have := any_zip (k := k) (ks := ks) (vs := vs) (by simpa using l)
    unfold hasK at this ⊢
    rw [List.zip_cons_cons, List.any_cons, List.any_cons, this]
  | [], _ :: _, l => by cases l
  | _ :: _, [], l => by cases l
theorem put_zip {k : Key} {y : V} : ∀ {ks : List Key} {vs : List V}, ks.length = vs.length → (ks.zip vs).map (fun kv => if kv.1 = k then (kv.1, y) else kv) = ks.zip (dputG k y ks vs) ∧ ks.length = (dputG k y ks vs).length
  | [], [], _ => ⟨rfl, rfl⟩
  | n :: ks, v :: vs, l => by
    obtain ⟨a, b⟩ := put_zip (k := k) (y := y) (ks := ks) (vs := vs) (by simpa using l)
    rw [List.zip_cons_cons, List.map_cons, a, show dputG k y (n :: ks) (v :: vs) = (if n = k then y else v) :: dputG k y ks vs from rfl]
    refine ⟨?_, by simpa using b⟩
    by_cases q : n = k
    · rw [if_pos q, if_pos (show (n, v).1 = k from q)]
      rfl
    · rw [if_neg q, if_neg (show ¬ (n, v).1 = k from q)]
      rfl
  | [], _ :: _, l => by cases l
  | _ :: _, [], l => by cases l
theorem putK_zip {k : Key} {y : V} {ks : List Key} {vs : List V} (l : ks.length = vs.length) : putK (ks.zip vs) k y = (dputN k ks).zip (dputX k y ks vs) ∧ (dputN k ks).length = (dputX k y ks vs).length := by
  unfold putK dputN dputX
  rw [any_zip l]
  obtain ⟨a, b⟩ := put_zip (k := k) (y := y) l
  cases hasK k ks with
  | true => exact ⟨a, b⟩
  | false =>
    refine ⟨?_, ?_⟩
    · simp only [Bool.false_eq_true, if_false]
      rw [List.zip_append l]
      rfl
    · simp [l]
theorem dputG_rd {c : Ct} {H : Hp} {k : Key} {d : D} {v : V} (q : RD c H d v) : ∀ {ks : List Key} {ds : List D} {vs : List V}, RDs c H ds vs → RDs c H (dputG k d ks ds) (dputG k v ks vs)
  | [], ds, vs, _ => by cases ds <;> cases vs <;> rfl
  | n :: ks, [], _, h => by cases (show _ = _ from h); rfl
  | n :: ks, x :: ds, _, ⟨w, vs', ev, r, t⟩ => by
    subst ev
    refine ⟨_, _, rfl, ?_, dputG_rd q t⟩
    by_cases z : n = k
    · rw [if_pos z, if_pos z]; exact q
    · rw [if_neg z, if_neg z]; exact r
theorem dputX_rd {c : Ct} {H : Hp} {k : Key} {d : D} {v : V} (q : RD c H d v) {ks : List Key} {ds : List D} {vs : List V} (h : RDs c H ds vs) : RDs c H (dputX k d ks ds) (dputX k v ks vs) := by
  unfold dputX
  cases hasK k ks with
  | true => exact dputG_rd q h
  | false => exact h.append (RDs.one q)
section
variable {g : Gx} {W : WX} {X : Cx} {e a b o i : Expr} {es : List Expr} {pos p apos tpos : Pos}
/-- {} as a thing of the store, as a settled one -/
def mDicL : M D := fun _ S => .ok (.ref S.length) (S ++ [.dic [] []])
def mDicF : M D := fun _ S => .ok (.dic [] []) S
theorem se_dicL : PE X (.Dict [] [] pos) (rdE g W mDicL) := PE.imp pe_dnewK fun σ H Q ⟨B, O, S, σd, r, p⟩ => fun q hq => by
  obtain ⟨r2, st⟩ := RelS.alloc (c := ⟨g.K, g.G, B, O⟩) r.toRelS (u := .dK []) (o := .dic [] []) hq ⟨[], upd_same, rfl, rfl⟩
  refine p (.ref q) (O ++ [q]) _ (r.step st r2) ⟨q, ?_, rfl⟩ st
  show (O ++ [q])[S.length]? = some q
  rw [← show O.length = S.length from r.ol]
  simp
theorem se_dicF : PE X (.Dict [] [] pos) (rdE g W mDicF) := PE.imp pe_dnewK fun σ H Q ⟨B, O, S, σd, r, p⟩ => fun q hq =>
  post_new p r hq ⟨q, [], rfl, r.fresh hq, upd_same, rfl, rfl⟩
def fDIn (neg : Bool) (x y : D) (S : Sto) : R D := match x with
  | .int j => match dicOf S y with
    | some (ks, ds) => .ok (.bl (if neg then !(dget (.inl j) ks ds).isSome else (dget (.inl j) ks ds).isSome)) S
    | none => .bad
  | _ => .bad
theorem fDIn_ok {neg : Bool} {B O : List Addr} {S : Sto} {σd : Sl} {σ : L2.St} {H : Hp} {x y : D} {v w : V} {Q : VK} (r : Rel ⟨g.K, g.G, B, O⟩ S σd σ H) (hx : RD ⟨g.K, g.G, B, O⟩ H x v) (hy : RD ⟨g.K, g.G, B, O⟩ H y w) (p : Post RD ⟨g.K, g.G, B, O⟩ W σ σd H (fDIn neg x y S) Q) :
    ∃ a o, w = .ref a ∧ DGet H a v o ∧ Q (.bl (if neg then !o.isSome else o.isSome)) H := by
  unfold fDIn at p
  split at p
  · next j =>
    split at p
    · next ks ds q =>
      cases (show _ = _ from hx)
      obtain ⟨a, vs, ew, h1, l, h2⟩ := dicOf_ok r.toRelS hy q
      obtain ⟨g1, g2⟩ := dget_ok (k := .inl j) l h2
      refine ⟨a, _, ew, DGet.k (k := .inl j) h1, ?_⟩
      have e : (valV (ks.zip vs) (.inl j)).isSome = (dget (.inl j) ks ds).isSome := by
        cases z : dget (.inl j) ks ds with
        | none => rw [g2 z]; rfl
        | some d => obtain ⟨u, h3, _⟩ := g1 d z; rw [h3]; rfl
      rw [e]
      exact post_val p r rfl
    · exact p.elim
  · exact p.elim
theorem din_imp {ma mb : M D} (σ : L2.St) (H : Hp) (Q : VK) (h : rdE g W (mOp (fDIn false) ma mb) σ H Q) : tDIn (rdE g W ma) (rdE g W mb) σ H Q := by
  obtain ⟨B, O, S, σd, rel, p⟩ := h
  refine rdG_mono (rd_then (rel := RD) rel p) fun v H1 ⟨x, O1, S1, r1, rx, st1, p1⟩ => ?_
  exact rdG_mono (rd_then (rel := RD) r1 p1) fun w H2 ⟨y, O2, S2, r2, ry, st2, p2⟩ => fDIn_ok (neg := false) r2 (RD.step (c := ⟨g.K, g.G, B, O1⟩) st2 x v rx) ry p2
theorem dnotin_imp {ma mb : M D} (σ : L2.St) (H : Hp) (Q : VK) (h : rdE g W (mOp (fDIn true) ma mb) σ H Q) : tDNotIn (rdE g W ma) (rdE g W mb) σ H Q := by
  obtain ⟨B, O, S, σd, rel, p⟩ := h
  refine rdG_mono (rd_then (rel := RD) rel p) fun v H1 ⟨x, O1, S1, r1, rx, st1, p1⟩ => ?_
  exact rdG_mono (rd_then (rel := RD) r1 p1) fun w H2 ⟨y, O2, S2, r2, ry, st2, p2⟩ => fDIn_ok (neg := true) r2 (RD.step (c := ⟨g.K, g.G, B, O1⟩) st2 x v rx) ry p2
theorem se_din {k : Nat} {ma mb : M D} (hr : Room k X.A) (ha : PE X a (rdE g W ma)) (hb : PE X b (rdE g W mb)) (hm : behindInMarks .In b = false := by rfl) : PE X (.Compare a [.In] [b] pos) (rdE g W (mOp (fDIn false) ma mb)) := PE.imp (pe_cmp (pc_din (hu_of hr) ha hb) hm) din_imp
theorem se_dnotin {k : Nat} {ma mb : M D} (hr : Room k X.A) (ha : PE X a (rdE g W ma)) (hb : PE X b (rdE g W mb)) (hm : behindInMarks .NotIn b = false := by rfl) : PE X (.Compare a [.NotIn] [b] pos) (rdE g W (mOp (fDIn true) ma mb)) := PE.imp (pe_cmp (pc_dnotin (hu_of hr) ha hb) hm) dnotin_imp
theorem st_din {k : Nat} {ma mb : M D} (hr : Room k X.A) (ha : PE X a (rdE g W ma)) (hb : PE X b (rdE g W mb)) (hm : behindInMarks .In b = false := by rfl) : PT X (.Compare a [.In] [b] pos) (rdT g W (mTest (mOp (fDIn false) ma mb))) := PT.imp (pt_cmp (pc_din (hu_of hr) ha hb) hm) fun σ H Q q => din_imp σ H _ (test_imp σ H Q q)
theorem st_dnotin {k : Nat} {ma mb : M D} (hr : Room k X.A) (ha : PE X a (rdE g W ma)) (hb : PE X b (rdE g W mb)) (hm : behindInMarks .NotIn b = false := by rfl) : PT X (.Compare a [.NotIn] [b] pos) (rdT g W (mTest (mOp (fDIn true) ma mb))) := PT.imp (pt_cmp (pc_dnotin (hu_of hr) ha hb) hm) fun σ H Q q => dnotin_imp σ H _ (test_imp σ H Q q)
/-- d[k] -/
def fDGet (x y : D) (S : Sto) : R D := match y with
  | .int j => match dicOf S x with
    | some (ks, ds) => match dget (.inl j) ks ds with
      | some d => .ok d S
      | none => .bad
    | none => .bad
  | _ => .bad
theorem se_dget {k : Nat} {ma mb : M D} (hr : Room k X.A) (ha : PE X a (rdE g W ma)) (hb : PE X b (rdE g W mb)) (hs : NoSl b := by exact fun _ _ => rfl) : PE X (.Subscript a b pos) (rdE g W (mOp fDGet ma mb)) :=
  PE.imp (pe_dget (hu_of hr) ha hb hs) fun σ H Q ⟨B, O, S, σd, rel, p⟩ => rdG_mono (rd_then (rel := RD) rel p) fun v H1 ⟨x, O1, S1, r1, rx, st1, p1⟩ =>
    rdG_mono (rd_then (rel := RD) r1 p1) fun w H2 ⟨y, O2, S2, r2, ry, st2, p2⟩ => by
      unfold fDGet at p2
      split at p2
      · next j =>
        split at p2
        · next ks ds q =>
          split at p2
          · next d qd =>
            cases (show _ = _ from ry)
            obtain ⟨a, vs, ew, h1, l, h2⟩ := dicOf_ok r2.toRelS (RD.step (c := ⟨g.K, g.G, B, O1⟩) st2 x v rx) q
            obtain ⟨u, h3, h4⟩ := (dget_ok (k := .inl j) l h2).1 d qd
            exact ⟨a, u, ew, h3 ▸ DGet.k (k := .inl j) h1, post_val p2 r2 h4⟩
          · exact p2.elim
        · exact p2.elim
      · exact p2.elim
/-- d[k] = v -/
def fDPut (x y z : D) (σd : Sl) (S : Sto) : RS := match x with
  | .ref n => match y with
    | .int j => match S[n]? with
      | some (.dic ks ds) => if ks.length < LIM then .nx σd (S.set n (.dic (dputN (.inl j) ks) (dputX (.inl j) z ks ds))) else .bad
      | _ => .bad
    | _ => .bad
  | _ => .bad
theorem fDPut_ok {B O : List Addr} {S : Sto} {σd : Sl} {σ : L2.St} {H : Hp} {x y z : D} {v u w : V} {J : Ends} (r : Rel ⟨g.K, g.G, B, O⟩ S σd σ H) (hx : RD ⟨g.K, g.G, B, O⟩ H x v) (hy : RD ⟨g.K, g.G, B, O⟩ H y u) (hz : RD ⟨g.K, g.G, B, O⟩ H z w)
    (p : PostS ⟨g.K, g.G, B, O⟩ W H (fDPut x y z σd S) J) : ∃ a H4, v = .ref a ∧ DPut H a u w H4 ∧ J.nx σ H4 := by
  unfold fDPut at p
  split at p
  · next n =>
    split at p
    · next j =>
      split at p
      · next ks ds q =>
        split at p
        · next hl =>
          obtain ⟨a, ho, rfl⟩ := hx
          cases (show _ = _ from hy)
          obtain ⟨vs, h1, l, h2⟩ := r.ob n _ a q ho
          obtain ⟨e1, e2⟩ := putK_zip (k := .inl j) (y := w) l
          refine ⟨a, _, rfl, DPut.k (k := .inl j) h1 (by rw [List.length_zip, ← l, Nat.min_self]; exact lim_lt hl), ?_⟩
          rw [e1]
          exact postS_write p r ho ⟨_, upd_same, e2, RDs.step (c := ⟨g.K, g.G, B, O⟩) (O' := O) (Step.write (mem_of_at ho)) _ _ (dputX_rd hz h2)⟩
        · exact p.elim
      · exact p.elim
    · exact p.elim
  · exact p.elim
def mDPut (o i v : M D) : MS := mBS v fun z => mBS o fun x => mBS i fun y => fDPut x y z
theorem ss_dput {k : Nat} {mo mi mv : M D} (hr : Room k X.A) (ho : PE X o (rdE g W mo)) (hi : PE X i (rdE g W mi)) (hv : PE X e (rdE g W mv)) (hs : swapsWith e (some (.Subscript o i tpos)) pos.line X.env = pure false := by rfl) : PS X (.Assign [.Subscript o i tpos] e pos) (rdS g W (mDPut mo mi mv)) :=
  PS.imp (ps_dput (hu_of hr) ho hi hv hs) fun J σ H ⟨B, O, S, σd, r, p⟩ => rdG_mono (rdS_then (rel := RD) r p) fun w H1 ⟨z, O1, S1, r1, rz, st1, p1⟩ =>
    rdG_mono (rdS_then (rel := RD) r1 p1) fun v H2 ⟨x, O2, S2, r2, rx, st2, p2⟩ => rdG_mono (rdS_then (rel := RD) r2 p2) fun u H3 ⟨y, O3, S3, r3, ry, st3, p3⟩ =>
      fDPut_ok r3 (RD.step (c := ⟨g.K, g.G, B, O2⟩) st3 x v rx) ry (RD.step (c := ⟨g.K, g.G, B, O1⟩) (st2.trans st3) z w rz) p3
def ixOf (y : D) : List D → Option Nat
  | [] => none
  | d :: ds => if eqD d y then some 0 else (ixOf y ds).map (· + 1)
theorem ixOf_spec {y : D} : ∀ {ds : List D} {j : Nat}, ixOf y ds = some j → (∃ d, ds[j]? = some d ∧ eqD d y = true) ∧ ∀ m d, m < j → ds[m]? = some d → eqD d y = false
  | [], _, e => by cases e
  | d :: ds, j, e => by
    unfold ixOf at e
    by_cases q : eqD d y = true
    · rw [if_pos q] at e
      cases Option.some.inj e
      exact ⟨⟨d, rfl, q⟩, fun m d' h _ => absurd h (Nat.not_lt_zero m)⟩
    · rw [if_neg q] at e
      obtain ⟨i, h1, h2⟩ := Option.map_eq_some_iff.mp e
      subst h2
      obtain ⟨h3, h4⟩ := ixOf_spec h1
      refine ⟨h3, fun m d' hm he => ?_⟩
      cases m with
      | zero => cases Option.some.inj (show some d = some d' from he); simpa using q
      | succ m => exact h4 m d' (by omega) he
def fIndex (x : D) (ds : List D) (S : Sto) : R D := match ds with
  | [y] => match lstOf S x with
    | some xs => if flatD y && xs.all flatD then match ixOf y xs with
        | some j => .ok (.int j) S
        | none => .bad
      else .bad
    | none => .bad
  | _ => .bad
theorem RDs.get' {c : Ct} {H : Hp} {ds : List D} {vs : List V} {i : Nat} {v : V} (h : RDs c H ds vs) (e : vs[i]? = some v) : ∃ d, ds[i]? = some d ∧ RD c H d v := by
  have hl : i < ds.length := by rw [h.length]; exact (List.getElem?_eq_some_iff.mp e).1
  obtain ⟨w, h1, h2⟩ := h.get (List.getElem?_eq_getElem hl)
  rw [e] at h1
  cases Option.some.inj h1
  exact ⟨_, List.getElem?_eq_getElem hl, h2⟩
theorem all_get {ds : List D} {p : D → Bool} (h : ds.all p = true) {i : Nat} {d : D} (e : ds[i]? = some d) : p d = true := List.all_eq_true.mp h d (List.mem_of_getElem? e)
theorem fIndex_ok {K : PySem.W.Frag} : MethS g W (rIndex K) fIndex := fun {B O S σd σ H x v ds vs Q} r hx hs p => by
  unfold fIndex at p
  split at p
  · next y =>
    split at p
    · next xs q =>
      split at p
      · next hf =>
        obtain ⟨f1, f2⟩ := Bool.and_eq_true_iff.mp hf
        split at p
        · next j qj =>
          obtain ⟨w, rfl, hy⟩ := RDs.one_inv hs
          obtain ⟨l, us, rfl, h1, h2⟩ := lstOf_ok r.toRelS hx q
          obtain ⟨⟨d, e1, e2⟩, e3⟩ := ixOf_spec qj
          obtain ⟨z, e4, rz⟩ := h2.get e1
          refine ⟨l, us, w, j, z, rfl, rfl, SqL.of h1, flat_of hy f1, flats_of h2 f2, e4, ?_, fun m z' hm ez => ?_, post_val p r rfl⟩
          · rw [eq_flat rz hy (all_get f2 e1) f1]; exact e2
          · obtain ⟨d', e5, rd'⟩ := h2.get' ez
            rw [eq_flat rd' hy (all_get f2 e5) f1]
            exact e3 m d' hm e5
        · exact p.elim
      · exact p.elim
    · exact p.elim
  · exact p.elim
theorem se_index {mo : M D} {m : M (List D)} (ho : PE X a (rdE g W mo)) (ha : PA X [e] (rdA g W m)) (hbase : attributeBase a "index" X.env (eval a X.env) = eval a X.env := by rfl)
    (hline : (apos.endLine == pos.line) = true := by rfl) (hs : starEach [e] X.env = (false, eval e X.env) :: starEach [] X.env := by rfl) :
    PE X (.Call (.Attribute a "index" apos) [e] [] pos) (rdE g W (mMeth fIndex mo m)) :=
  PE.imp (pe_bm PySem.F.plainAttrs_list PySem.F.slot_list_index PySem.F.type_list_index mt_index ho ha hbase (by rw [hs]; rfl) hline hs rfl) (meth_imp fIndex_ok)
theorem RDs.rev {c : Ct} {H : Hp} : ∀ {ds : List D} {vs : List V}, RDs c H ds vs → RDs c H ds.reverse vs.reverse
  | [], _, h => by rw [show _ = _ from h]; rfl
  | d :: ds, _, ⟨v, vs', e, r, t⟩ => by
    subst e
    rw [List.reverse_cons, List.reverse_cons]
    exact (RDs.rev t).append (RDs.one r)
structure Own (K : PySem.W.Frag) (C : Addr) : Prop where
  cl : Cls K C
  ha : PySem.W.findIn K (.ref C) "__class__" = some (some (.builtin "object.__class__"))
  hn : PySem.W.specialIn K (.builtin "object.__class__") "__get__" = some (some (.builtin "getset_descriptor.__get__"))
  ht : PySem.W.takesIn K (.builtin "object.__class__") = some true
  hm : PySem.W.mroIn K C (.type "object") = some true
/-- of the built-in types, of the class k itself -/
structure IsC (K : PySem.W.Frag) (C : Addr) : Prop where
  ow : Own K C
  tys : ∀ t : Ty, PySem.W.kitOne K (.type t.s) (.ref C) = some false
  self : PySem.W.kitOne K (.ref C) (.ref C) = some true
def mIsC (k : Nat) (m : M D) : M D := mB m fun d => fun _ S => match tyOf S d with
  | some _ => .ok (.bl false) S
  | none => match insOf S d with
    | some (k', _, _) => if k' = k then .ok (.bl true) S else .bad
    | none => .bad
theorem se_isC {k : Nat} {m : M D} {T : Str} {p2 : Pos} (hk : X.K = g.K) (hg : Gl X "isinstance") (hm : X.mg "isinstance" = none) (ha : PE X a (rdE g W m)) (hgT : Gl X T) (hT : X.mg T = some (.ref (g.G k))) (h : IsC g.K (g.G k)) (hd : (T == ("__debug__" : Str)) = false := by decide)
    (na : starEach [a, .Name T p2] X.env = (false, eval a X.env) :: starEach [.Name T p2] X.env := by rfl) (nb : starEach [.Name T p2] X.env = (false, eval (.Name T p2) X.env) :: starEach [] X.env := by rfl) (hp : (backTo pos (starEach [.Name T p2] X.env)).any (·.1) = false := by rfl) :
    PE X (.Call (.Name "isinstance" p) [a, .Name T p2] [] pos) (rdE g W (mIsC k m)) :=
  PE.imp (pe_callB call_isi hg hm (by decide +kernel) (pa_cons ha (pa_cons (pe_glob hgT hT (v := .ref (g.G k)) rfl hd) pa_nil nb) na) (by decide) (by decide) na hp) fun σ H Q ⟨B, O, S, σd, rel, q⟩ => rdG_mono (rd_then (rel := RD) rel q) fun v H1 ⟨x, O1, S1, r1, rx, st1, p1⟩ => by
    rw [hk]
    split at p1
    · next y qy => exact ⟨v, .ref (g.G k), .type y.s, .ref (g.G k), false, rfl, .own _, tyOf_ok r1.toRelS rx qy, h.tys y, post_val p1 r1 rfl⟩
    · split at p1
      · next k' ns ds qi =>
        split at p1
        · next ek =>
          subst ek
          obtain ⟨a, dx, vs, ev, h1, l, h2⟩ := insOf_ok r1.toRelS rx qi
          exact ⟨v, .ref (g.G k'), .ref (g.G k'), .ref (g.G k'), true, rfl, .own _, ev ▸ .base (.ins h1 h.ow.cl h.ow.ha h.ow.hn h.ow.ht h.ow.hm), h.self, post_val p1 r1 rfl⟩
        · exact p1.elim
      · exact p1.elim
def fIsB (c : Bool) (x : D) (S : Sto) : R D := match x with
  | .bl b => .ok (.bl (decide (b = c))) S
  | .non => .ok (.bl false) S
  | _ => .bad
def fExtend (x y : D) (S : Sto) : R D := match x with
  | .ref n => match S[n]? with
    | some (.lst xs) => match lstOf S y with
      | some ys => if xs.length + ys.length ≤ LIM then .ok (.ref n) (S.set n (.lst (xs ++ ys))) else .bad
      | none => .bad
    | _ => .bad
  | _ => .bad
theorem fExtend_ok : OpS g W rExt2 fExtend := fun {B O S σd σ H x y v w Q} r hx hy p => by
  unfold fExtend at p
  split at p
  · next n =>
    split at p
    · next xs q =>
      split at p
      · next ys q2 =>
        split at p
        · next hl =>
          obtain ⟨l, ho, rfl⟩ := hx
          obtain ⟨us, h1, h2⟩ := r.ob n _ l q ho
          obtain ⟨l2, ws, rfl, h3, h4⟩ := lstOf_ok r.toRelS hy q2
          exact ⟨l, l2, us, ws, rfl, rfl, h1, h3, by rw [← h2.length, ← h4.length]; exact lim_ok hl, post_write p r ho (oo_lst r.toRelS ho (h2.append h4)) ⟨l, ho, rfl⟩⟩
        · exact p.elim
      · exact p.elim
    · exact p.elim
  · exact p.elim
end
end DL

namespace DL
open PySem PySem.Spec PyProof.Rows L2
theorem each_of {β : Type} {P : Value → β → Prop} {f : β → V} (h : ∀ (b : β) (v : Value), RelV (f b) v → P v b) : ∀ {bs : List β} {us : List Value}, Vals (bs.map f) us → PySem.W.EachIs P us bs
  | [], _, .nil => .nil
  | b :: bs, _, .cons r t => .cons (h b _ r) (each_of h t)
theorem vals_of {β : Type} {f : β → V} : ∀ {bs : List β} {us : List Value}, PySem.W.EachIs (fun v b => RelV (f b) v) us bs → Vals (bs.map f) us
  | [], _, .nil => .nil
  | b :: bs, _, .cons r t => .cons r (vals_of t)
/-- sorted(xs) of data that can be compared -/
def rSortD (K : PySem.W.Frag) : List V → Hp → VK → Prop := fun vs H Q => ∃ (a : Addr) (β : Type) (bs : List β) (f : β → V) (enc : β → PyData), vs = [.ref a] ∧ SqL K H a (bs.map f) ∧ (∀ b ∈ bs, Dp K H (f b) (enc b)) ∧ PySem.W.AllAlike (bs.map enc) ∧ PySem.W.Sortable (bs.map enc) ∧
  (∀ b ∈ bs, (enc b).depth ≤ 8) ∧ ∀ p, H p = none → Q (.ref p) (upd H p (.lst ((bs.mergeSort (PySem.W.dataLe false enc)).map f)))
theorem each_mem {β : Type} {P : Value → β → Prop} {f : β → V} : ∀ {bs : List β} {us : List Value}, (∀ b ∈ bs, ∀ v, RelV (f b) v → P v b) → Vals (bs.map f) us → PySem.W.EachIs P us bs
  | [], _, _, .nil => .nil
  | b :: bs, _, h, .cons r t => .cons (h b (List.mem_cons_self ..) _ r) (each_mem (fun b hb => h b (List.mem_cons_of_mem _ hb)) t)
theorem cr_sortD {X : Cx} (hu : X.A.units + 64 < cLine) : CallR X (.builtin "sorted") (rSortD X.K) := by
  intro pins s σ H vs us Q I r h
  obtain ⟨a, β, bs, f, enc, rfl, hs, hd, hal, hk, hdep, q⟩ := h
  obtain ⟨its, rv, hl, hz⟩ := I.list hs
  obtain ⟨u, rfl, ru⟩ := vals1 r
  obtain rfl : u = Value.ref a := ru
  refine PySem.W.sorted_data (R := fun v b => RelV (f b) v) (enc := enc) (bs := bs) (vs := its) hl.isList (each_of (fun b v h => h) rv) (each_mem (fun b hb v h => Dp.reads I (enc b) (f b) v (hd b hb) h) rv) hal hk (by rw [List.length_map] at hz; exact hz) (fun b hb => by have := hdep b hb; omega) fun out hlen he => ?_
  have hv := vals_of he
  obtain ⟨n, hn⟩ := PyProof.Rows.sortedAll_at s.heap its (List.toArray out)
  refine ⟨.ref (s.heap.objs.size + 1), _, I.laid (t' := s.toks) (o := .lst ((bs.mergeSort (PySem.W.dataLe false enc)).map f)) (fun b o e => PyProof.Rows.sortedAll_old e) (Nat.le_succ _) ⟨?_, out, n, hv, hn⟩, rfl, q _ (I.hok.fresh (Nat.le_succ _))⟩
  rw [List.length_map, List.length_mergeSort]
  rw [List.length_map] at hz
  exact hz
/-- data that can be sorted -/
def SrtOk (xs : List D) : Prop := PySem.W.AllAlike (xs.map toPy) ∧ PySem.W.Sortable (xs.map toPy) ∧ ∀ d ∈ xs, pln 8 d = true
open Classical in
noncomputable def fSorted (ds : List D) (S : Sto) : R (List D) := match ds with
  | [x] => match lstOf S x with
    | some xs => if SrtOk xs then .ok (xs.mergeSort (PySem.W.dataLe false toPy)) S else .bad
    | none => .bad
  | _ => .bad
theorem rds_pairs {c : Ct} {H : Hp} : ∀ {ps : List (D × V)}, (∀ p ∈ ps, RD c H p.1 p.2) → RDs c H (ps.map (·.1)) (ps.map (·.2))
  | [], _ => rfl
  | p :: ps, h => ⟨p.2, _, rfl, h p (List.mem_cons_self ..), rds_pairs fun q hq => h q (List.mem_cons_of_mem _ hq)⟩
theorem rds_zip {c : Ct} {H : Hp} : ∀ {ds : List D} {vs : List V}, RDs c H ds vs → (∀ p ∈ ds.zip vs, RD c H p.1 p.2) ∧ (ds.zip vs).map (·.1) = ds ∧ (ds.zip vs).map (·.2) = vs
  | [], _, h => by cases (show _ = _ from h); exact ⟨nofun, rfl, rfl⟩
  | d :: ds, _, ⟨v, vs', e, r, t⟩ => by
    subst e
    obtain ⟨h1, h2, h3⟩ := rds_zip t
    refine ⟨fun p hp => ?_, ?_, ?_⟩
    · rcases List.mem_cons.mp hp with rfl | hp
      · exact r
      · exact h1 p hp
    · rw [List.zip_cons_cons, List.map_cons, h2]
    · rw [List.zip_cons_cons, List.map_cons, h3]
section
variable {g : Gx} {W : WX} {X : Cx} {e a b : Expr} {es : List Expr} {pos p : Pos} {n : M (List D)}
theorem fSorted_ok {K : PySem.W.Frag} : CallSN g W (rSortD K) fSorted := fun {B O S σd σ H ds vs Q} r h p => by
  unfold fSorted at p
  split at p
  · next x =>
    obtain ⟨v, rfl, hx⟩ := RDs.one_inv h
    split at p
    · next xs q =>
      split at p
      · next ok =>
        obtain ⟨l, us, rfl, h1, h2⟩ := lstOf_ok r.toRelS hx q
        obtain ⟨z1, z2, z3⟩ := rds_zip h2
        obtain ⟨o1, o2, o3⟩ := ok
        have em : (xs.zip us).map (fun q => toPy q.1) = xs.map toPy := by
          have e2 : ((xs.zip us).map (·.1)).map toPy = (xs.zip us).map fun q => toPy q.1 := by rw [List.map_map]; rfl
          rw [← e2, z2]
        have hm : ∀ q ∈ xs.zip us, q.1 ∈ xs := fun q hq => by rw [← z2]; exact List.mem_map_of_mem hq
        refine ⟨l, D × V, xs.zip us, (·.2), fun q => toPy q.1, rfl, by rw [z3]; exact SqL.of h1, fun b hb => dp_of 8 b.1 b.2 (o3 _ (hm b hb)) (z1 b hb), by rw [em]; exact o1, by rw [em]; exact o2, fun b hb => (pln_lay 8 b.1 (o3 _ (hm b hb))).2, ?_⟩
        have es : xs.mergeSort (PySem.W.dataLe false toPy) = ((xs.zip us).mergeSort (PySem.W.dataLe false fun q => toPy q.1)).map (·.1) := by
          rw [List.map_mergeSort (r := PySem.W.dataLe false fun q : D × V => toPy q.1) (s := PySem.W.dataLe false toPy) (f := (·.1)) (l := xs.zip us) (fun _ _ _ _ => rfl), z2]
        rw [es] at p
        exact postN_new p r (rds_pairs fun q hq => z1 q (List.mem_mergeSort.mp hq))
      · exact p.elim
    · exact p.elim
  · exact p.elim
theorem sn_sorted {k : Nat} (hr : Room k X.A) (hg : Gl X "sorted") (hm : X.mg "sorted" = none) (ha : PA X (e :: es) (rdA g W n)) (he : starEach (e :: es) X.env = (false, eval e X.env) :: starEach es X.env := by rfl) (hpl : (backTo pos (starEach es X.env)).any (·.1) = false := by rfl) :
    PE X (.Call (.Name "sorted" p) (e :: es) [] pos) (rdN g W (mApp fSorted n)) := PE.imp (pe_callB (cr_sortD hr.units) hg hm (by decide +kernel) ha (by decide) (by decide) he hpl) (appN_imp fSorted_ok)
def rLtD (K : PySem.W.Frag) : R2 := fun x y H Q => ∃ d e, Dp K H x d ∧ Dp K H y e ∧ PySem.W.alike d e = true ∧ d ≠ .none ∧ d.depth ≤ 8 ∧ e.depth ≤ 8 ∧ Q (.bl (PySem.W.dataLt d e)) H
theorem op_ltD (hu : X.A.units + 64 < cLine) : OpR X (compareOp .Lt) (rLtD X.K) := by
  intro pins s σ H x y v u Q I rx ry h
  obtain ⟨d, e, hd, he, al, nn, d8, e8, q⟩ := h
  obtain ⟨as, r1⟩ := Dp.reads I d x v hd rx
  obtain ⟨bs, r2⟩ := Dp.reads I e y u he ry
  exact PySem.W.rcLt_alike d e X.A s v u as bs r1 r2 al nn (by omega) X.prog X.w _ _ ⟨.bl _, H, I, rfl, q⟩
def isTup : D → Bool | .tup _ => true | _ => false
open Classical in
/-- < of ints or of tuples of data -/
noncomputable def fLt (x y : D) (S : Sto) : R D := match x with
  | .int i => match y with
    | .int j => .ok (.bl (decide (i < j))) S
    | _ => .bad
  | .tup xs => if pln 8 (.tup xs) = true ∧ pln 8 y = true ∧ PySem.W.alike (toPy (.tup xs)) (toPy y) = true then .ok (.bl (PySem.W.dataLt (toPy (.tup xs)) (toPy y))) S else .bad
  | _ => .bad
theorem fLt_ok {K : PySem.W.Frag} : OpS g W (fun x y H Q => (rI0 fun i j => V.bl (decide (i < j))) x y H Q ∨ rLtD K x y H Q) fLt := fun {B O S σd σ H x y v w Q} r hx hy p => by
  unfold fLt at p
  split at p
  · split at p
    · cases (show _ = _ from hx)
      cases (show _ = _ from hy)
      exact .inl ⟨_, _, rfl, rfl, post_val p r rfl⟩
    · exact p.elim
  · split at p
    · next h => exact .inr ⟨_, _, dp_of 8 _ v h.1 hx, dp_of 8 _ w h.2.1 hy, h.2.2, nofun, (pln_lay 8 _ h.1).2, (pln_lay 8 _ h.2.1).2, post_val p r rfl⟩
    · exact p.elim
  · exact p.elim
theorem sc_ltD {k : Nat} (hr : Room k X.A) : CmpS g W X .Lt fLt := ⟨_, op_lt.or (op_ltD hr.units), fLt_ok⟩
theorem isB_ok {c : Ct} {H : Hp} {x : D} {v : V} {k b : Bool} (h : RD c H x v) (e : fIsB k x [] = .ok (.bl b) []) : decide (v = .bl k) = b := by
  cases x with
  | bl y =>
    cases (show _ = _ from h)
    have : decide (y = k) = b := by
      unfold fIsB at e
      injection e with e
      injection e
    rw [← this]
    simp
  | non =>
    cases (show _ = _ from h)
    have : false = b := by
      unfold fIsB at e
      injection e with e
      injection e
    rw [← this]
    rfl
  | _ => cases e
end
end DL

namespace HT
open PySem PyProof.Rows
section
variable {prog : Program} {w : World} {A : Around} {E : Value → Shared → Prop} {s : Shared}
theorem adjust_rev (n : Nat) : Builtin.Slice.sliceAdjust none none (-1) (n : Int) = ((n : Int) - 1, -1) := rfl
theorem places_rev (n : Nat) : Builtin.Slice.slicePlaces ((n : Int) - 1) (-1) (-1) = n := by
  unfold Builtin.Slice.slicePlaces
  have h1 : ¬ ((-1 : Int) > 0) := by omega
  simp only [h1, if_false]
  by_cases h : (n : Int) - 1 > -1
  · simp only [h, if_true]
    rw [show (- -1 : Int) = 1 by decide, Int.ediv_one]
    omega
  · simp only [h, if_false]
    omega
theorem sliceApplied_rev {sl : Addr} {vl vu vs : Value} {n : Nat} {Q : Int × Int × Nat → Shared → Prop} (hs : s.heap.IsSliceOf sl vl vu vs) (pl : IsPart vl none) (pu : IsPart vu none) (ps : IsPart vs (some (-1)))
    (h : Q ((n : Int) - 1, -1, n) s) : wpAny (model prog w) A (Builtin.Slice.sliceApplied (.ref sl) (pure (n : Int))) Q E s := by
  obtain ⟨os, hos, hcs, hds⟩ := id hs
  unfold Builtin.Slice.sliceApplied Builtin.Slice.sliceFields
  refine wpAny_bind (wpAny_bind (wpAny_field hos hds (x := vl) rfl (wpAny_bind (wpAny_field hos hds (x := vu) rfl (wpAny_bind (wpAny_field hos hds (x := vs) rfl (wpAny_pure ?_)))))))
  refine wpAny_bind (slicePart_ ps ?_)
  show wpAny _ _ (if ((-1 : Int) == 0) = true then _ else _) _ _ s
  rw [if_neg (by decide)]
  refine wpAny_bind (slicePart_ pl (wpAny_bind (slicePart_ pu (wpAny_bind (wpAny_pure ?_)))))
  show wpAny _ _ (match Builtin.Slice.sliceAdjust none none (-1) (n : Int) with | (lo, hi) => pure (lo, (-1 : Int), Builtin.Slice.slicePlaces lo hi (-1))) _ _ s
  rw [adjust_rev n]
  show wpAny _ _ (pure ((n : Int) - 1, (-1 : Int), Builtin.Slice.slicePlaces ((n : Int) - 1) (-1) (-1))) _ _ s
  rw [places_rev]
  exact wpAny_pure h
theorem fm_congr {α β : Type} {f g : α → Option β} : ∀ {l : List α}, (∀ a ∈ l, f a = g a) → l.filterMap f = l.filterMap g
  | [], _ => rfl
  | x :: l, h => by
    rw [List.filterMap_cons, List.filterMap_cons, h x (List.mem_cons_self ..), fm_congr fun a ha => h a (List.mem_cons_of_mem _ ha)]
theorem pick_rev (xs : Array Value) : ((List.range xs.size).filterMap fun (m : Nat) => xs[(((xs.size : Int) - 1) + (m : Int) * (-1)).toNat]?).toArray = xs.toList.reverse.toArray := by
  congr 1
  have e : ((List.range xs.size).filterMap fun (m : Nat) => xs[(((xs.size : Int) - 1) + (m : Int) * (-1)).toNat]?) = ((List.range xs.size).map fun k => xs.size - 1 - k).filterMap (xs[·]?) := by
    rw [List.filterMap_map]
    refine fm_congr fun m hm => ?_
    have := List.mem_range.mp hm
    show xs[(((xs.size : Int) - 1) + (m : Int) * (-1)).toNat]? = xs[xs.size - 1 - m]?
    rw [show (((xs.size : Int) - 1) + (m : Int) * (-1)).toNat = xs.size - 1 - m by omega]
  rw [e, PySem.W.krv_range, List.filterMap_reverse, PySem.W.krv_all]
theorem getItem_tuple_rev {t sl : Addr} {items : Array Value} {vl vu vs : Value} {Q : Value → Shared → Prop} (ht : IsTup s.heap t items) (hs : s.heap.IsSliceOf sl vl vu vs) (pl : IsPart vl none) (pu : IsPart vu none) (ps : IsPart vs (some (-1)))
    (h : Q (.ref s.heap.objs.size) { s with heap := s.heap.push { cls := .type "tuple", data := .seq items.toList.reverse.toArray } })
    (hsz : items.size ≤ sizeLine) : wpAny (model prog w) A (getItem (.ref t) (.ref sl)) Q E s := by
  have htake : sizeOk (.seq items.toList.reverse.toArray) := by
    show items.toList.reverse.toArray.size ≤ sizeLine
    rw [List.size_toArray, List.length_reverse, Array.length_toList]
    exact hsz
  obtain ⟨os, hos, hcs, hds⟩ := id hs
  have hTs : s.TypeIs (.ref sl) "slice" := ⟨os, hos, hcs⟩
  unfold getItem
  try with_reducible refine wpAny_holding ?_
  first | refine wpAny_bind (wpAny_pure ?_) | skip
  refine wpAny_bind (wpAny_sequenceKey ht.typeIs (by decide) ?_)
  refine wpAny_bind (wpAny_callSpecial?_slot (name := Str.ofString "__getitem__") ht.typeIs PyProof.Rows.slot_tuple_getitem
    (wpAny_call_entry PyProof.Rows.slot_tuple_getitem ht.typeIs entry_tuple_getitem ?_ (args_tuple_getitem _ _)))
  show wpAny _ _ (Builtin.Tuple.tupleItemsOf (.ref t) >>= _) _ _ s
  refine wpAny_bind (tupleItemsOf_ ht ?_)
  refine wpAny_bind (wpAny_typeOf hTs ?_)
  rw [if_pos (by decide)]
  refine wpAny_bind (sliceApplied_rev hs pl pu ps ?_)
  have hno : ¬ ((((items.size : Int) - 1) == 0 && (-1 : Int) == 1 && items.size == items.size) = true) := by
    intro q
    rw [Bool.and_eq_true, Bool.and_eq_true] at q
    exact absurd (eq_of_beq q.1.2) (by decide)
  show wpAny _ _ (if (((items.size : Int) - 1) == 0 && (-1 : Int) == 1 && items.size == items.size) = true then _ else _) _ _ s
  rw [if_neg hno, pick_rev]
  first
    | exact wpAny_bind (m := Builtin.Tuple.tupleExact _) (wpAny_newObj_type (wpAny_pure ⟨_, rfl, wpAny_pure h⟩) htake)
    | exact wpAny_bind (m := Builtin.Tuple.tupleExact _) (wpAny_newObj_type (wpAny_bind (wpAny_pure (wpAny_pure ⟨_, rfl, wpAny_pure h⟩))) htake)
    | exact wpAny_bind (wpAny_bind (m := Builtin.Tuple.tupleExact _) (wpAny_newObj_type (wpAny_pure (wpAny_pure ⟨_, rfl, wpAny_pure h⟩)) htake))
    | exact wpAny_bind (wpAny_bind (m := Builtin.Tuple.tupleExact _) (wpAny_newObj_type (wpAny_pure ⟨_, rfl, wpAny_pure h⟩) htake))
end
end HT
namespace DL
open PySem PySem.Spec PyProof.Rows L2
section
variable {g : Gx} {W : WX} {X : Cx} {e a b : Expr} {pos : Pos}
def tRevT (K : PySem.W.Frag) (te : TE) : TE := fun σ H Q => te σ H fun x H1 => ∃ a xs, x = .ref a ∧ SqT K H1 a xs ∧ NewT xs.reverse H1 Q
theorem pe_revT {e : Expr} {te : TE} {k : Nat} {p1 p2 p3 pos : Pos} (he : PE X e te) : PE X (.Subscript e (.Slice none none (some (.UnaryOp .USub (.Constant (.int 1) k p1) p2)) p3) pos) (tRevT X.K te) := by
  refine ⟨fun pins s σ H Q I h => ?_⟩
  refine Subscript_ (thn (he.run pins s σ H _ I h) fun v s1 ⟨x, H1, I1, r1, q1⟩ => ?_)
  obtain ⟨a, xs, ex, hx, q⟩ := q1
  subst ex
  cases r1
  have hst : PO X (some (.UnaryOp .USub (.Constant (.int 1) k p1) p2)) (tPart (tUn (rU fun i => .int (-i)) (tC (.int 1)))) := po_some (pe_un un_neg pe_int)
  refine wpAny_Slice (thn (po_none.run pins s1 σ H1 (fun o H2 => o = none ∧ H2 = H1) I1 ⟨rfl, rfl⟩) fun vl s2 ⟨l, H2, I2, pl, el, e2⟩ => ?_)
  subst el e2
  refine thn (po_none.run pins s2 σ H2 (fun o H3 => o = none ∧ H3 = H2) I2 ⟨rfl, rfl⟩) fun vu s3 ⟨u, H3, I3, pu, eu, e3⟩ => ?_
  subst eu e3
  refine thn (hst.run pins s3 σ H3 (fun o H4 => o = some (-1) ∧ H4 = H3) I3 ⟨1, rfl, -1, rfl, rfl, rfl⟩) fun vs s4 ⟨o, H4, I4, ps, eo, e4⟩ => ?_
  subst eo e4
  have I5 : Inv X pins σ H4 { s4 with heap := s4.heap.push { cls := .type "slice", data := .fields #[vl, vu, vs] } } := I4.kept (t' := s4.toks) fun b ob q => Heap.get?_push_of_some _ q
  obtain ⟨its, r, ht, hz⟩ := I5.tuple hx
  have hlen := r.length
  show wpAny (model X.prog X.w) X.A (subscriptTail e (.Slice none none (some (.UnaryOp .USub (.Constant (.int 1) k p1) p2)) p3) (.ref a) (.ref s4.heap.objs.size)) (EP X pins σ Q) X.xe { s4 with heap := s4.heap.push { cls := .type "slice", data := .fields #[vl, vu, vs] } }
  refine tail_any (ops := [.ref a, .ref s4.heap.objs.size]) ht.typeIs (PyProof.Rows.slot_tuple_getitem.lookup) ?_ (by with_unfolding_all rfl)
  refine HT.getItem_tuple_rev ht (Heap.IsSliceOf.new _ vl vu vs) pl pu ps ?_ (by rw [List.size_toArray]; omega)
  exact endT I5 r.reverse (by rw [List.length_reverse]; exact hz) q
def fRev (x : D) (S : Sto) : R D := match x with
  | .tup ds => .ok (.tup ds.reverse) S
  | _ => .bad
theorem RDs.reverse {c : Ct} {H : Hp} : ∀ {ds : List D} {vs : List V}, RDs c H ds vs → RDs c H ds.reverse vs.reverse
  | [], _, h => by cases (show _ = _ from h); exact rfl
  | d :: ds, _, ⟨v, vs', e, r, t⟩ => by
    subst e
    rw [List.reverse_cons, List.reverse_cons]
    exact RDs.append (RDs.reverse t) ⟨v, [], rfl, r, rfl⟩
theorem se_back {k : Nat} {p1 p2 p3 : Pos} {m : M D} (he : PE X e (rdE g W m)) : PE X (.Subscript e (.Slice none none (some (.UnaryOp .USub (.Constant (.int 1) k p1) p2)) p3) pos) (rdE g W (mUn fRev m)) :=
  PE.imp (pe_revT he) fun σ H Q ⟨B, O, S, σd, rel, p⟩ => rdG_mono (rd_then (rel := RD) rel p) fun v H1 ⟨x, O1, S1, r1, rx, st1, p1⟩ => by
    cases x with
    | tup ds =>
      obtain ⟨a, vs, rfl, ht, h1, h2⟩ := id rx
      exact ⟨a, vs, rfl, h1.sq, post_newT p1 r1 h2.reverse⟩
    | _ => exact p1.elim
end
end DL

namespace DL
open PySem PySem.Spec PyProof.Rows L2
section
variable {prog : Program} {w : World} {A : Around} {E : Value → Shared → Prop} {s : Shared} {K : PySem.W.Frag} {x C f : Addr} {ox : Obj} {od : Option Obj}
theorem len_K {Q : Value → Shared → Prop} (X : K.In s.heap) (I : PySem.W.InstAt s.heap x ox C od) (hs : PySem.W.findIn K (.ref C) "__len__" = some (some (.ref f))) (hf : PySem.W.isFn K (.ref f) = true)
    (h : wpAny (model prog w) A.in1 (call (.ref f) [.ref x]) (fun r s' => ∃ n u, r = .int n u ∧ 0 ≤ n ∧ n < 2 ^ 63 ∧ Q (.int n s'.toks) { s' with toks := s'.toks + 1 }) E s) :
    wpAny (model prog w) A (call (.builtin "len") [.ref x]) Q E s := by
  refine Calls.call_function_entry kind_len plain_len entry_len (args_len1 _) ?_
  unfold Builtin.«len»
  refine wpAny_bind (m := oneArg "len" _) (wpAny_pure ?_)
  refine wpAny_bind (m := callSpecial? (.ref x) (Str.ofString "__len__")) (PySem.W.special_fn X I hs (beq_iff_eq.mp hf) (wpAny_mono h (fun r s' hr => ?_) fun _ _ y => y))
  obtain ⟨n, u, rfl, h0, h1, hq⟩ := hr
  refine wpAny_bind (wpAny_holding (wpAny_pure ?_))
  refine wpAny_bind (wpAny_letGo ?_)
  show wpAny _ _ (if n < 0 then _ else _) _ _ _
  rw [if_neg (by omega)]
  show wpAny _ _ (if n ≥ 2 ^ 63 then _ else _) _ _ _
  rw [if_neg (by omega)]
  exact wpAny_bind (wpAny_mkInt (wpAny_pure ⟨_, rfl, hq⟩))
end
section
variable {X : Cx} {C f : Addr} {fd : FuncData} {ps : List Str} {sp : Sp} {n : Nat}
def rLenO (C : Addr) (sp : Sp) : List V → Hp → VK → Prop := fun xs H Q => ∃ a dx fs, xs = [.ref a] ∧ H a = some (.ins C dx fs) ∧ sp [.ref a] H (fun v H' => ∃ n : Int, v = .int n ∧ 0 ≤ n ∧ n < 2 ^ 63 ∧ Q v H') (fun _ _ _ => False)
theorem cr_lenO (F : FnOk X.prog X.w X.K X.mg X.base (L2.CX X.prog X.w) n f fd ps sp) (hs : PySem.W.findIn X.K (.ref C) "__len__" = some (some (.ref f))) (hf : PySem.W.isFn X.K (.ref f) = true) (hb : Binds X.K fd ps []) (hr : Room (n + 1) X.A) : CallR X (.builtin "len") (rLenO C sp) := by
  intro pins s σ H xs us Q I r h
  obtain ⟨a, dx, fs, rfl, ha, q⟩ := h
  obtain ⟨u, rfl, rx⟩ := vals1 r
  cases rx
  obtain ⟨mA, J, _⟩ := ins_get I.hok ha
  obtain ⟨od, J, _⟩ := J.look
  refine len_K I.kIn J hs hf ?_
  have hl := F.len _ _ _ _ q
  have r2 : Vals [V.ref a] [Value.ref a] := .cons rfl .nil
  refine wpAny_call (codeAny_mono (F.run X.A.in1 X.stack s H ⟨[.ref a], []⟩ [.ref a] [.ref a] _ _ hr.in1 I.env0.in1 (by
    have := hb s [.ref a] I.kIn (by simpa using hl)
    simpa using this) r2 q) fun r s' hq => ?_)
  cases r with
  | error e => exact (cx_false hq).elim
  | ok fl =>
    cases fl with
    | ret w =>
      obtain ⟨z, H', I', rz, m, ez, h0, h1, qq⟩ := I.after hq
      subst ez
      obtain ⟨t, e⟩ := (show ∃ t, w = Value.int m t from rz)
      subst e
      exact ⟨m, t, rfl, h0, h1, .int m, H', I'.tok _, ⟨_, rfl⟩, qq⟩
    | next => exact False.elim hq
    | brk => exact False.elim hq
    | cont => exact False.elim hq
/-- x == y, x an instance of the class at C whose own == is at f -/
def rEqO (K : PySem.W.Frag) (C : Addr) (sp : Sp) : R2 := fun x y H Q => ∃ a dx fs, x = .ref a ∧ H a = some (.ins C dx fs) ∧ ((∃ b dy gs, y = .ref b ∧ H b = some (.ins C dy gs)) ∨ ∃ t, TyX K H y (.type t) ∧ PySem.W.notFirst K C (.type t) = true) ∧
  sp [x, y] H (fun v H' => ∃ b, v = .bl b ∧ Q v H') (fun _ _ _ => False)
variable {g : Gx} {W : WX} {e : Expr} {es : List Expr} {p pos : Pos}
def fLenO (k : Nat) (fn : List D → Sto → R D) (ds : List D) (S : Sto) : R D := match ds with
  | [x] => match insOf S x with
    | some (k', _, _) => if k' = k then match fn [x] S with
        | .ok d S' => match d with
          | .int n => if 0 ≤ n ∧ n < 2 ^ 62 then .ok (.int n) S' else .bad
          | _ => .bad
        | _ => .bad
      else .bad
    | none => .bad
  | _ => .bad
theorem fLenO_ok {k : Nat} {fn : List D → Sto → R D} : CallS g W (rLenO (g.G k) (spD g fn)) (fLenO k fn) := fun {B O S σd σ H ds vs Q} r h p => by
  unfold fLenO at p
  split at p
  · next x =>
    split at p
    · next k' ns ds' qi =>
      split at p
      · next ek =>
        subst ek
        obtain ⟨v, rfl, rx⟩ := RDs.one_inv h
        obtain ⟨a, dx, vs, ev, h1, l, h2⟩ := insOf_ok r.toRelS rx qi
        refine ⟨a, dx, _, by rw [ev], h1, B, O, S, [x], r.toRelS, by rw [← ev]; exact RDs.one rx, ?_⟩
        revert p
        cases fn [x] S with
        | ok d S' =>
          cases d with
          | int n =>
            intro p
            simp only at p
            split at p
            · next hn => exact fun v O' H' h1 h2 h3 => ⟨n, h2, hn.1, by omega, p v O' H' (r.step h3 h1) h2 h3⟩
            · exact p.elim
          | _ => exact fun p => p.elim
        | exc k ns es S' => exact fun p => p.elim
        | bad => exact fun p => p.elim
      · exact p.elim
    · exact p.elim
  · exact p.elim
theorem se_lenO {k j : Nat} {f : Addr} {fd : FuncData} {ps : List Str} {fn : List D → Sto → R D} {n : M (List D)} (hk : X.K = g.K) (F : FnOk X.prog X.w X.K X.mg X.base (L2.CX X.prog X.w) j f fd ps (spD g fn)) (hr : Room (j + 1) X.A) (hb : Binds X.K fd ps [])
    (hs : PySem.W.findIn g.K (.ref (g.G k)) "__len__" = some (some (.ref f))) (hf : PySem.W.isFn g.K (.ref f) = true) (hg : Gl X "len") (hm : X.mg "len" = none) (ha : PA X (e :: es) (rdA g W n))
    (he : starEach (e :: es) X.env = (false, eval e X.env) :: starEach es X.env := by rfl) (hpl : (backTo pos (starEach es X.env)).any (·.1) = false := by rfl) :
    PE X (.Call (.Name "len" p) (e :: es) [] pos) (rdE g W (mApp (fLenO k fn) n)) :=
  PE.imp (pe_callB (cr_lenO F (by rw [hk]; exact hs) (by rw [hk]; exact hf) hb hr) hg hm (by decide +kernel) ha (by decide) (by decide) he hpl) (app_imp fLenO_ok)
end
end DL

namespace DL
open PySem PySem.Spec PyProof.Rows L2
open Classical in
noncomputable def comp2L (S0 : Sto) (src : List Nat) (pair : Bool) (t : Tgt) (wσ : Sl) (c : M Bool) (mi1 : M Its) (t1 : Tgt) (vs1 : List Nat) (c1 : M Bool) (e : M D) : List D → List D → Sto → R (List D)
  | [], acc, S => if Gd S0 src S then .ok acc S else .bad
  | d :: ds, acc, S => if Gd S0 src S then match t.st pair d with
      | some xs => match c (setAll wσ t.slots xs) S with
        | .ok b S1 => if b = true then match mi1 (setAll wσ t.slots xs) S1 with
            | .ok it1 S2 => match compL S2 it1.src it1.pair t1 (wipeD (setAll wσ t.slots xs) vs1) c1 e it1.items acc S2 with
              | .ok acc' S3 => comp2L S0 src pair t wσ c mi1 t1 vs1 c1 e ds acc' S3
              | _ => .bad
            | _ => .bad
          else comp2L S0 src pair t wσ c mi1 t1 vs1 c1 e ds acc S1
        | _ => .bad
      | none => .bad
    else .bad
noncomputable def mComp2 (m : M Its) (t : Tgt) (vs : List Nat) (c : M Bool) (mi1 : M Its) (t1 : Tgt) (vs1 : List Nat) (c1 : M Bool) (e : M D) : M (List D) := mB m fun it => fun σd S => comp2L S it.src it.pair t (wipeD σd vs) c mi1 t1 vs1 c1 e it.items [] S
theorem comp2L_ne {S0 : Sto} {src : List Nat} {pair : Bool} {t : Tgt} {wσ : Sl} {c : M Bool} {mi1 : M Its} {t1 : Tgt} {vs1 : List Nat} {c1 : M Bool} {e : M D} {k : Nat} {ns : List Str} {es : List D} {S' : Sto} : ∀ (ds acc : List D) (S : Sto), comp2L S0 src pair t wσ c mi1 t1 vs1 c1 e ds acc S ≠ .exc k ns es S'
  | [], acc, S => by
    unfold comp2L
    split <;> (intro h; cases h)
  | d :: ds, acc, S => by
    unfold comp2L
    split
    · split
      · split
        · split
          · split
            · split
              · exact comp2L_ne ds _ _
              · intro h; cases h
            · intro h; cases h
          · exact comp2L_ne ds _ _
        · intro h; cases h
      · intro h; cases h
    · intro h; cases h
section
variable {g : Gx} {W : WX} {X : Cx} {elt tg iter tg1 iter1 : Expr} {ifs ifs1 : List Expr} {scope : Scope} {own : List (Str × Nat)} {pos : Pos}
/-- the second clause's loop -/
theorem lc2_in {B O1 : List Addr} {z : Addr} {σ2 : L2.St} {σd2 : Sl} {H2 : Hp} {vs1 : List Nat} {t1 : Tgt} {mi1 : M Its} {mc1 : M Bool} {me : M D} {PQ : R (List D) → Prop} {Nx : Hp → Prop} (hsub1 : ∀ i ∈ t1.slots, i ∈ vs1) (hbad : PQ .bad → False) (hz : H2 z = none)
    (hnx : ∀ O3 S3 acc accV H, Rel ⟨g.K, g.G, z :: B, O3⟩ S3 σd2 σ2 H → Mv ⟨g.K, g.G, B, O1⟩ ⟨g.K, g.G, z :: B, O3⟩ H2 H → Step O1 H2 O3 H → H z = some (.lst accV) → RDs ⟨g.K, g.G, z :: B, O3⟩ H acc accV → PQ (.ok acc S3) → Nx H)
    {O3 : List Addr} {S3 : Sto} {acc : List D} {accV : List V} {H3 : Hp} (r3 : Rel ⟨g.K, g.G, z :: B, O3⟩ S3 σd2 σ2 H3) (mv3 : Mv ⟨g.K, g.G, B, O1⟩ ⟨g.K, g.G, z :: B, O3⟩ H2 H3) (st3 : Step O1 H2 O3 H3) (hD3 : H3 z = some (.lst accV)) (rd3 : RDs ⟨g.K, g.G, z :: B, O3⟩ H3 acc accV)
    (p : match mi1 σd2 S3 with
      | .ok it1 S4 => PQ (compL S4 it1.src it1.pair t1 (wipeD σd2 vs1) mc1 me it1.items acc S4)
      | _ => False) :
    rdI g W0 mi1 σ2 H3 fun J1 H4 => ∃ W1 : Nat → Nat → Hp → Prop, (∃ m, W1 0 m H4) ∧ ∀ j k H, W1 j k H →
      (J1.stop j H ∧ Nx H) ∨ (J1.go j H ∧ ∃ Nx1 : Hp → Prop, (∀ H', Nx1 H' → ∃ k', k' < k ∧ W1 (j + 1) k' H') ∧ ∀ x H', J1.yld j H x H' → t1.g X.K x (L2.wipe σ2 vs1) H' fun σ3 H5 => L2.wipe σ3 vs1 = L2.wipe σ2 vs1 ∧ rdT g W0 mc1 σ3 H5 fun b H6 =>
        if b = true then rdE g W0 me σ3 H6 fun y H7 => ∃ acc, H7 z = some (.lst acc) ∧ acc.length < sizeLine ∧ Nx1 (upd H7 z (.lst (acc ++ [y]))) else Nx1 H6) := by
  refine ⟨z :: B, O3, S3, σd2, r3, ?_⟩
  revert p
  cases mi1 σd2 S3 with
  | exc k ns ds S4 => exact fun p => p.elim
  | bad => exact fun p => p.elim
  | ok it S4 =>
    intro p J O4 H4 a1 iok a3
    simp only at p
    have nD3 : z ∉ O3 := fun y => r3.nb z y (List.mem_cons_self ..)
    have mv4 : Mv ⟨g.K, g.G, B, O1⟩ ⟨g.K, g.G, z :: B, O4⟩ H2 H4 := mv3.trans (Step.mv (c := ⟨g.K, g.G, z :: B, O3⟩) a3)
    refine ⟨fun i k H => k = it.items.length - i ∧ i ≤ it.items.length ∧ ∃ O5 S5 acc accV, Rel ⟨g.K, g.G, z :: B, O5⟩ S5 σd2 σ2 H ∧ Mv ⟨g.K, g.G, z :: B, O4⟩ ⟨g.K, g.G, z :: B, O5⟩ H4 H ∧ Mv ⟨g.K, g.G, B, O1⟩ ⟨g.K, g.G, z :: B, O5⟩ H2 H ∧ Step O1 H2 O5 H ∧ H z = some (.lst accV) ∧ RDs ⟨g.K, g.G, z :: B, O5⟩ H acc accV ∧
        PQ (compL S4 it.src it.pair t1 (wipeD σd2 vs1) mc1 me (it.items.drop i) acc S5),
      ⟨it.items.length, rfl, Nat.zero_le _, O4, S4, acc, accV, a1, Mv.refl _ _, mv4, st3.trans a3, (a3.kp z _ nD3 hD3).1, RDs.step (c := ⟨g.K, g.G, z :: B, O3⟩) a3 acc accV rd3, p⟩, fun i k H5 hw => ?_⟩
    obtain ⟨rfl, hle, O5, S5, acc, accV, r5, mvi, mv5, st5, hD5, rd5, pp5⟩ := hw
    have hDB : z ∈ (⟨g.K, g.G, z :: B, O5⟩ : Ct).B := List.mem_cons_self ..
    by_cases hlt : i < it.items.length
    · rw [List.drop_eq_getElem_cons hlt] at pp5
      unfold compL at pp5
      split at pp5
      · next gd =>
        obtain ⟨hgo, hy⟩ := iok.go _ S5 H5 r5.toRelS mvi gd i hlt
        refine .inr ⟨hgo, fun H => i + 1 ≤ it.items.length ∧ ∃ O5 S5 acc accV, Rel ⟨g.K, g.G, z :: B, O5⟩ S5 σd2 σ2 H ∧ Mv ⟨g.K, g.G, z :: B, O4⟩ ⟨g.K, g.G, z :: B, O5⟩ H4 H ∧ Mv ⟨g.K, g.G, B, O1⟩ ⟨g.K, g.G, z :: B, O5⟩ H2 H ∧ Step O1 H2 O5 H ∧ H z = some (.lst accV) ∧ RDs ⟨g.K, g.G, z :: B, O5⟩ H acc accV ∧
            PQ (compL S4 it.src it.pair t1 (wipeD σd2 vs1) mc1 me (it.items.drop (i + 1)) acc S5),
          fun H' q => ⟨it.items.length - (i + 1), by omega, rfl, q.1, q.2⟩, fun x H' y => ?_⟩
        obtain ⟨d, ed, yd⟩ := hy x H' y
        have edd : d = it.items[i] := Option.some.inj (ed.symm.trans (List.getElem?_eq_getElem hlt))
        subst edd
        split at pp5
        · next xs ex =>
          obtain ⟨ws, h1, h2, h3, h4⟩ := yd_ok (K := X.K) (Q := fun σ3 H5 => L2.wipe σ3 vs1 = L2.wipe σ2 vs1 ∧ rdT g W0 mc1 σ3 H5 _) (Rel.wipe r5 vs1) yd ex
          refine h4 (L2.wipe σ2 vs1) ⟨wipe_set hsub1, z :: B, O5, S5, _, Rel.setAll t1.slots h2 h1, ?_⟩
          have r5' : Rel ⟨g.K, g.G, z :: B, O5⟩ S5 σd2 σ2 H' := Rel.step (c := ⟨g.K, g.G, z :: B, O5⟩) (O' := O5) r5 h3 h2.toRelS
          have carry : ∀ {O6 S6 H6 σd6 σ6}, Rel ⟨g.K, g.G, z :: B, O6⟩ S6 σd6 σ6 H6 → Step O5 H' O6 H6 → Rel ⟨g.K, g.G, z :: B, O6⟩ S6 σd2 σ2 H6 ∧ Mv ⟨g.K, g.G, z :: B, O4⟩ ⟨g.K, g.G, z :: B, O6⟩ H4 H6 ∧ Mv ⟨g.K, g.G, B, O1⟩ ⟨g.K, g.G, z :: B, O6⟩ H2 H6 ∧ Step O1 H2 O6 H6 ∧ H6 z = some (.lst accV) ∧ RDs ⟨g.K, g.G, z :: B, O6⟩ H6 acc accV := fun {O6 S6 H6 σd6 σ6} q1 q2 => by
            have q3 : Step O5 H5 O6 H6 := Step.trans (show Step O5 H5 O5 H' from h3) q2
            have nD : z ∉ O5 := fun y => r5.nb z y hDB
            exact ⟨Rel.step (c := ⟨g.K, g.G, z :: B, O5⟩) r5' q2 q1.toRelS, mvi.trans (Step.mv (c := ⟨g.K, g.G, z :: B, O5⟩) q3), mv5.trans (Step.mv (c := ⟨g.K, g.G, z :: B, O5⟩) q3), st5.trans q3, (q3.kp z _ nD hD5).1, RDs.step (c := ⟨g.K, g.G, z :: B, O5⟩) q3 acc accV rd5⟩
          revert pp5
          cases mc1 (setAll (wipeD σd2 vs1) t1.slots xs) S5 with
          | exc k ns ds S4 => exact fun pp5 => (hbad pp5).elim
          | bad => exact fun pp5 => (hbad pp5).elim
          | ok b S6 =>
            intro pp5 v O6 H6 q1 q2 q3
            have ev : b = v := q2
            subst ev
            simp only at pp5
            cases b with
            | false =>
              obtain ⟨c1, c2, c3, c4, c5, c6⟩ := carry q1 q3
              exact ⟨hlt, O6, S6, acc, accV, c1, c2, c3, c4, c5, c6, pp5⟩
            | true =>
              refine ⟨z :: B, O6, S6, _, q1, ?_⟩
              revert pp5
              simp only [if_true]
              cases me (setAll (wipeD σd2 vs1) t1.slots xs) S6 with
              | exc k ns ds S5 => exact fun pp5 => (hbad pp5).elim
              | bad => exact fun pp5 => (hbad pp5).elim
              | ok y S7 =>
                intro pp5 u O7 H7 q4 q5 q6
                simp only at pp5
                split at pp5
                · next hl =>
                  obtain ⟨c1, c2, c3, c4, c5, c6⟩ := carry q4 (q3.trans q6)
                  have hDB7 : z ∈ (⟨g.K, g.G, z :: B, O7⟩ : Ct).B := List.mem_cons_self ..
                  refine ⟨accV, c5, by rw [← c6.length]; exact lim_lt hl, hlt, O7, S7, acc ++ [y], accV ++ [u], c1.pwrite hDB7, c2.trans (mv_pwrite hDB7), c3.trans (mv_pwrite hDB7), c4.pwrite hz, upd_same, RDs.mv (mv_pwrite hDB7) _ _ (c6.append (RDs.one q5)), pp5⟩
                · exact (hbad pp5).elim
        · exact (hbad pp5).elim
      · exact (hbad pp5).elim
    · have ei : i = it.items.length := by omega
      subst ei
      rw [List.drop_length] at pp5
      unfold compL at pp5
      split at pp5
      · next gd => exact .inl ⟨iok.stop _ S5 H5 r5.toRelS mvi gd, hnx O5 S5 acc accV H5 r5 mv5 st5 hD5 rd5 pp5⟩
      · exact (hbad pp5).elim
theorem lc2_imp {mi : M Its} {t : Tgt} {vs : List Nat} {mc : M Bool} {mi1 : M Its} {t1 : Tgt} {vs1 : List Nat} {mc1 : M Bool} {me : M D} (hsub : ∀ i ∈ t.slots, i ∈ vs) (hsub1 : ∀ i ∈ t1.slots, i ∈ vs1) (σ : L2.St) (H : Hp) (Q : VK) (h : rdN g W (mComp2 mi t vs mc mi1 t1 vs1 mc1 me) σ H Q) :
    tLc2 (rdI g W mi) (t.g X.K) (rdT g W0 mc) (rdI g W0 mi1) (t1.g X.K) (rdT g W0 mc1) (rdE g W0 me) vs vs1 σ H Q := by
  obtain ⟨B, O, S, σd, r, p⟩ := h
  have main : rdI g W mi σ H fun J H1 => ∃ it O1 S1, Rel ⟨g.K, g.G, B, O1⟩ S1 σd σ H1 ∧ ItOk ⟨g.K, g.G, B, O1⟩ S1 H1 it J ∧ Step O H O1 H1 ∧ PostN ⟨g.K, g.G, B, O1⟩ W σ σd H1 (comp2L S1 it.src it.pair t (wipeD σd vs) mc mi1 t1 vs1 mc1 me it.items [] S1) Q := by
    refine ⟨B, O, S, σd, r, ?_⟩
    unfold mComp2 mB at p
    revert p
    cases mi σd S with
    | ok it S' => exact fun p I O' H' h1 h2 h3 => ⟨it, O', S', h1, h2, h3, PostN.step (c := ⟨g.K, g.G, B, O⟩) h3 h1.toRelS p⟩
    | exc k ns ds S' => exact fun p dd O' H' h1 h2 h3 => p dd O' H' h1 h2 h3
    | bad => exact fun p => p.elim
  obtain ⟨B', O', S', σd', r', p'⟩ := main
  refine ⟨B', O', S', σd', r', ?_⟩
  revert p'
  cases mi σd' S' with
  | exc k ns ds S2 => exact fun p => p
  | bad => exact fun p => p
  | ok it0 S2 =>
    intro p' J O2 H2 a1 a2 a3
    obtain ⟨it, O1, S1, r1, iok, st1, pn⟩ := p' J O2 H2 a1 a2 a3
    intro z hz
    have av := r1.fresh hz
    have pp : PostP g.K g.G B O1 z σ σd H2 (comp2L S1 it.src it.pair t (wipeD σd vs) mc mi1 t1 vs1 mc1 me it.items [] S1) Q := by
      revert pn
      cases hq : comp2L S1 it.src it.pair t (wipeD σd vs) mc mi1 t1 vs1 mc1 me it.items [] S1 with
      | ok ds S3 => exact fun pn us O' H' h1 h2 h3 h4 => pn z us O' H' hz h1 av.2 h2 h3 h4
      | exc k ns ds S3 => exact absurd hq (comp2L_ne _ _ _)
      | bad => exact fun pn => pn.elim
    refine ⟨fun i k H => k = it.items.length - i ∧ i ≤ it.items.length ∧ ∃ O3 S3 acc accV, Rel ⟨g.K, g.G, z :: B, O3⟩ S3 σd σ H ∧ Mv ⟨g.K, g.G, B, O1⟩ ⟨g.K, g.G, z :: B, O3⟩ H2 H ∧ Step O1 H2 O3 H ∧ H z = some (.lst accV) ∧ RDs ⟨g.K, g.G, z :: B, O3⟩ H acc accV ∧ PostP g.K g.G B O1 z σ σd H2 (comp2L S1 it.src it.pair t (wipeD σd vs) mc mi1 t1 vs1 mc1 me (it.items.drop i) acc S3) Q,
      ⟨it.items.length, rfl, Nat.zero_le _, O1, S1, [], [], r1.ban hz, mv_ban hz, Step.new hz, upd_same, rfl, pp⟩, fun i k H3 hw => ?_⟩
    obtain ⟨rfl, hle, O3, S3, acc, accV, r3, mv3, st3, hD3, rd3, pp3⟩ := hw
    have hDB : z ∈ (⟨g.K, g.G, z :: B, O3⟩ : Ct).B := List.mem_cons_self ..
    by_cases hlt : i < it.items.length
    · rw [List.drop_eq_getElem_cons hlt] at pp3
      unfold comp2L at pp3
      split at pp3
      · next gd =>
        obtain ⟨hgo, hy⟩ := iok.go _ S3 H3 r3.toRelS mv3 gd i hlt
        refine .inr ⟨hgo, fun H => i + 1 ≤ it.items.length ∧ ∃ O3 S3 acc accV, Rel ⟨g.K, g.G, z :: B, O3⟩ S3 σd σ H ∧ Mv ⟨g.K, g.G, B, O1⟩ ⟨g.K, g.G, z :: B, O3⟩ H2 H ∧ Step O1 H2 O3 H ∧ H z = some (.lst accV) ∧ RDs ⟨g.K, g.G, z :: B, O3⟩ H acc accV ∧ PostP g.K g.G B O1 z σ σd H2 (comp2L S1 it.src it.pair t (wipeD σd vs) mc mi1 t1 vs1 mc1 me (it.items.drop (i + 1)) acc S3) Q,
          fun H' q => ⟨it.items.length - (i + 1), by omega, rfl, q.1, q.2⟩, fun x H' y => ?_⟩
        obtain ⟨d, ed, yd⟩ := hy x H' y
        have edd : d = it.items[i] := Option.some.inj (ed.symm.trans (List.getElem?_eq_getElem hlt))
        subst edd
        split at pp3
        · next xs ex =>
          obtain ⟨ws, h1, h2, h3, h4⟩ := yd_ok (K := X.K) (Q := fun σ2 H2 => L2.wipe σ2 vs = L2.wipe σ vs ∧ rdT g W0 mc σ2 H2 _) (Rel.wipe r3 vs) yd ex
          refine h4 (L2.wipe σ vs) ⟨wipe_set hsub, z :: B, O3, S3, _, Rel.setAll t.slots h2 h1, ?_⟩
          have r3' : Rel ⟨g.K, g.G, z :: B, O3⟩ S3 σd σ H' := Rel.step (c := ⟨g.K, g.G, z :: B, O3⟩) (O' := O3) r3 h3 h2.toRelS
          have nD : z ∉ O3 := fun y => r3.nb z y hDB
          have carry : ∀ {O4 S4 H4 σd4 σ4}, Rel ⟨g.K, g.G, z :: B, O4⟩ S4 σd4 σ4 H4 → Step O3 H' O4 H4 → Rel ⟨g.K, g.G, z :: B, O4⟩ S4 σd σ H4 ∧ Mv ⟨g.K, g.G, B, O1⟩ ⟨g.K, g.G, z :: B, O4⟩ H2 H4 ∧ Step O1 H2 O4 H4 ∧ H4 z = some (.lst accV) ∧ RDs ⟨g.K, g.G, z :: B, O4⟩ H4 acc accV := fun {O4 S4 H4 σd4 σ4} q1 q2 => by
            have q3 : Step O3 H3 O4 H4 := Step.trans (show Step O3 H3 O3 H' from h3) q2
            exact ⟨Rel.step (c := ⟨g.K, g.G, z :: B, O3⟩) r3' q2 q1.toRelS, mv3.trans (Step.mv (c := ⟨g.K, g.G, z :: B, O3⟩) q3), st3.trans q3, (q3.kp z _ nD hD3).1, RDs.step (c := ⟨g.K, g.G, z :: B, O3⟩) q3 acc accV rd3⟩
          have back : ∀ {O4 S4 H4 σd4 σ4}, Rel ⟨g.K, g.G, z :: B, O4⟩ S4 σd4 σ4 H4 → Mv ⟨g.K, g.G, B, O1⟩ ⟨g.K, g.G, z :: B, O4⟩ H2 H4 → Step O1 H2 O4 H4 → Rel ⟨g.K, g.G, z :: B, O4⟩ S4 σd σ H4 := fun {O4 S4 H4 σd4 σ4} q1 q2 q3 =>
            { q1.toRelS with len := r1.len, sl := fun i d e => (r1.sl i d e).imp id fun ⟨v, h1, h2⟩ => ⟨v, h1, RD.mv q2 d v h2⟩ }
          revert pp3
          cases mc (setAll (wipeD σd vs) t.slots xs) S3 with
          | exc k ns ds S4 => exact fun pp3 => pp3.elim
          | bad => exact fun pp3 => pp3.elim
          | ok b S4 =>
            intro pp3 v O4 H4 q1 q2 q3
            have ev : b = v := q2
            subst ev
            simp only at pp3
            cases b with
            | false =>
              obtain ⟨c1, c2, c3, c4, c5⟩ := carry q1 q3
              exact ⟨hlt, O4, S4, acc, accV, c1, c2, c3, c4, c5, pp3⟩
            | true =>
              obtain ⟨c1, c2, c3, c4, c5⟩ := carry q1 q3
              simp only [if_true] at pp3 ⊢
              refine lc2_in (B := B) (O1 := O1) (z := z) (H2 := H2) (PQ := fun r => PostP g.K g.G B O1 z σ σd H2 (match r with
                | .ok acc' S5 => comp2L S1 it.src it.pair t (wipeD σd vs) mc mi1 t1 vs1 mc1 me (it.items.drop (i + 1)) acc' S5
                | _ => .bad) Q) hsub1 (fun z => z.elim) hz (fun O5 S5 acc5 accV5 H5 g1 g2 g3 g4 g5 g6 => ⟨hlt, O5, S5, acc5, accV5, back g1 g2 g3, g2, g3, g4, g5, g6⟩) q1 c2 c3 c4 c5 ?_
              revert pp3
              cases mi1 (setAll (wipeD σd vs) t.slots xs) S4 with
              | exc k ns ds S5 => exact fun pp3 => pp3.elim
              | bad => exact fun pp3 => pp3.elim
              | ok it1 S5 =>
                intro pp3
                simp only at pp3 ⊢
                revert pp3
                cases compL S5 it1.src it1.pair t1 (wipeD (setAll (wipeD σd vs) t.slots xs) vs1) mc1 me it1.items acc S5 with
                | exc k ns ds S6 => exact fun pp3 => pp3
                | bad => exact fun pp3 => pp3
                | ok acc' S6 => exact fun pp3 => pp3
        · exact pp3.elim
      · exact pp3.elim
    · have ei : i = it.items.length := by omega
      subst ei
      rw [List.drop_length] at pp3
      unfold comp2L at pp3
      split at pp3
      · next gd => exact .inl ⟨iok.stop _ S3 H3 r3.toRelS mv3 gd, pp3 accV O3 H3 r3 hD3 rd3 st3⟩
      · exact pp3.elim
theorem sn_comp2 {mi mi1 : M Its} {t t1 : Tgt} {vs1 : List Nat} {mc mc1 : M Bool} {me : M D} (hc : X.calm = true) (hN : X.N.Nodup) (hi : PI X tg iter (rdI g W mi)) (ok : BlkOk X.N X.env.scope scope own) (hv : ∀ i ∈ vs1, i ∈ own.map (·.2)) (hg : Blk X scope fun Y => PG Y tg (t.g X.K)) (ht : Blk X scope fun Y => PTs Y ifs (rdT g W0 mc))
    (hi1 : Blk X scope fun Y => PI Y tg1 iter1 (rdI g W0 mi1)) (hg1 : Blk X scope fun Y => PG Y tg1 (t1.g X.K)) (ht1 : Blk X scope fun Y => PTs Y ifs1 (rdT g W0 mc1))
    (he : Blk X scope fun Y => PE Y elt (rdE g W0 me)) (hsub : ∀ i ∈ t.slots, i ∈ own.map (·.2)) (hsub1 : ∀ i ∈ t1.slots, i ∈ vs1) (hs : ∀ x, foldedSetIterable iter X.env x = pure x := by intro _; rfl) (hs1 : ∀ env x, foldedSetIterable iter1 env x = pure x := by intro _ _; rfl) :
    PE X (.ListComp elt [⟨tg, iter, ifs, 0⟩, ⟨tg1, iter1, ifs1, 0⟩] scope pos) (rdN g W (mComp2 mi t (own.map (·.2)) mc mi1 t1 vs1 mc1 me)) := PE.imp (pe_lc2 hc hN hi ok hv hg ht hi1 hg1 ht1 he hs hs1) (lc2_imp hsub hsub1)
theorem ss_setComp2 {i : Nat} {y : Str} {py spos : Pos} {mi mi1 : M Its} {t t1 : Tgt} {vs1 : List Nat} {mc mc1 : M Bool} {me : M D} {f : M (List D) → M D} (hf : ∀ (m : M (List D)) σ H Q, rdE g W (f m) σ H Q → rdN g W m σ H Q) (hc : X.calm = true) (hN : X.N.Nodup) (hy : X.N[i]? = some y) (hyl : X.env.scope.names.lookup y = some .local)
    (hsw : swapsWith (.ListComp elt [⟨tg, iter, ifs, 0⟩, ⟨tg1, iter1, ifs1, 0⟩] scope pos) (some (.Name y py)) spos.line X.env = pure true)
    (hi : PI X tg iter (rdI g W mi)) (ok : BlkOk X.N X.env.scope scope own) (hv : ∀ i ∈ vs1, i ∈ own.map (·.2)) (hg : Blk X scope fun Y => PG Y tg (t.g X.K)) (ht : Blk X scope fun Y => PTs Y ifs (rdT g W0 mc))
    (hi1 : Blk X scope fun Y => PI Y tg1 iter1 (rdI g W0 mi1)) (hg1 : Blk X scope fun Y => PG Y tg1 (t1.g X.K)) (ht1 : Blk X scope fun Y => PTs Y ifs1 (rdT g W0 mc1))
    (he : Blk X scope fun Y => PE Y elt (rdE g W0 me)) (hsub : ∀ i ∈ t.slots, i ∈ own.map (·.2)) (hsub1 : ∀ i ∈ t1.slots, i ∈ vs1) (hs : ∀ x, foldedSetIterable iter X.env x = pure x := by intro _; rfl) (hs1 : ∀ env x, foldedSetIterable iter1 env x = pure x := by intro _ _; rfl) :
    PS X (.Assign [.Name y py] (.ListComp elt [⟨tg, iter, ifs, 0⟩, ⟨tg1, iter1, ifs1, 0⟩] scope pos) spos) (rdS g W (mSet i (f (mComp2 mi t (own.map (·.2)) mc mi1 t1 vs1 mc1 me)))) :=
  PS.imp (ps_setLc2 hc hN hy hyl hsw hi ok hv hg ht hi1 hg1 ht1 he hs hs1) fun J σ H ⟨B, O, S, σd, r, p⟩ => by
    refine lc2_imp hsub hsub1 σ H _ (hf _ σ H _ (rdG_mono (rdS_then (rel := RD) r p) fun v H1 ⟨x, O1, S1, r1, rx, st1, p1⟩ => ?_))
    exact postS_nx p1 (r1.set i rx)
theorem fSetIx_seq {B O : List Addr} {S : Sto} {σd : Sl} {σ : L2.St} {H : Hp} {x y z : D} {v u w : V} {J : Ends} {n : MS} {G : L2.St → Hp → Prop} (r : Rel ⟨g.K, g.G, B, O⟩ S σd σ H) (hx : RD ⟨g.K, g.G, B, O⟩ H x v) (hy : RD ⟨g.K, g.G, B, O⟩ H y u) (hz : RD ⟨g.K, g.G, B, O⟩ H z w)
    (hn : ∀ σ1 S1 σ' O' H', Rel ⟨g.K, g.G, B, O'⟩ S1 σ1 σ' H' → Step O H O' H' → PostS ⟨g.K, g.G, B, O'⟩ W H' (n σ1 S1) J → G σ' H')
    (p : PostS ⟨g.K, g.G, B, O⟩ W H (mSeq (fSetIx x y z) n σd S) J) : rSetL v u w H fun H4 => G σ H4 := by
  refine fSetIx_ok (J := { J with nx := G }) (W := W) r hx hy hz ?_
  unfold mSeq at p
  revert p
  cases fSetIx x y z σd S with
  | nx σ1 S1 => exact fun p σ' O' H' h1 h3 => hn σ1 S1 σ' O' H' h1 h3 (PostS.step (c := ⟨g.K, g.G, B, O⟩) h3 p)
  | rt d S1 => exact fun p => p
  | bk d S1 => exact fun p => p
  | ct d S1 => exact fun p => p
  | exc k ns ds σ1 S1 => exact fun p => p
  | bad => exact fun p => p
def mSetIx2 (o1 i1 o2 i2 v : M D) : MS := mBS v fun z => fun σd S => match tupOf z with
  | some [z1, z2] => mBS o1 (fun x => mBS i1 fun y => mSeq (fSetIx x y z1) (mBS o2 fun x2 => mBS i2 fun y2 => fSetIx x2 y2 z2)) σd S
  | _ => .bad
theorem rSetL_mono {v u w : V} {H : Hp} {P Q : Hp → Prop} (h : rSetL v u w H P) (m : ∀ H', P H' → Q H') : rSetL v u w H Q := by
  obtain ⟨p, xs, k, j, e1, e2, e3, e4, q⟩ := h
  exact ⟨p, xs, k, j, e1, e2, e3, e4, m _ q⟩
theorem ss_setIx2 {o1 i1 o2 i2 v : Expr} {p1 p2 pt : Pos} {kt : Nat} {m1 n1 m2 n2 mv : M D} (hc : X.calm = true) (ho1 : PE X o1 (rdE g W m1)) (hi1 : PE X i1 (rdE g W n1)) (ho2 : PE X o2 (rdE g W m2)) (hi2 : PE X i2 (rdE g W n2)) (hv : PE X v (rdE g W mv))
    (hg : ∀ {t1 t2 t3 t4 : TE}, PE X o1 t1 → PE X i1 t2 → PE X o2 t3 → PE X i2 t4 → PG X (.Tuple [.Subscript o1 i1 p1, .Subscript o2 i2 p2] kt pt) (gTup X.K 2 (gCons (gSub t1 t2 rSetL) (gCons (gSub t3 t4 rSetL) gNil))))
    (hs : swapsWithSole [.Tuple [.Subscript o1 i1 p1, .Subscript o2 i2 p2] kt pt] v pos.line X.env = pure false := by rfl) (hw : swappedStores [.Tuple [.Subscript o1 i1 p1, .Subscript o2 i2 p2] kt pt] v X.env = pure none := by rfl)
    (h1 : (assignEach [.Tuple [.Subscript o1 i1 p1, .Subscript o2 i2 p2] kt pt] X.env).map (·.2) = [assign (.Tuple [.Subscript o1 i1 p1, .Subscript o2 i2 p2] kt pt) X.env] := by rfl) :
    PS X (.Assign [.Tuple [.Subscript o1 i1 p1, .Subscript o2 i2 p2] kt pt] v pos) (rdS g W (mSetIx2 m1 n1 m2 n2 mv)) :=
  PS.imp (ps_asg hv (hg ho1 hi1 ho2 hi2) hs hw h1) fun J σ H ⟨B, O, S, σd, r, p⟩ => rdG_mono (rdS_then (rel := RD) r p) fun w H1 ⟨z, O1, S1, r1, rz, st1, p1⟩ => by
    split at p1
    · next z1 z2 q =>
      obtain ⟨a, vs, rfl, hsq, hds⟩ := tupOf_ok rz q
      obtain ⟨w1, vs1, rfl, hd1, hds1⟩ := hds
      obtain ⟨w2, vs2, rfl, hd2, hds2⟩ := hds1
      have : vs2 = [] := hds2
      subst this
      refine ⟨a, _, rfl, hsq.sq, rfl, w1, _, rfl, ?_⟩
      refine rdG_mono (rdS_then (rel := RD) r1 p1) fun v2 H2 ⟨x, O2, S2, r2, rx, st2, p2⟩ => rdG_mono (rdS_then (rel := RD) r2 p2) fun u H3 ⟨y, O3, S3, r3, ry, st3, p3⟩ => ?_
      refine fSetIx_seq (W := W) (G := fun σ' H' => gCons (gSub (rdE g W m2) (rdE g W n2) rSetL) gNil [w2] σ' H' J.nx) r3 (RD.step (c := ⟨g.K, g.G, B, O2⟩) st3 x v2 rx) ry (RD.step (c := ⟨g.K, g.G, B, O1⟩) (st2.trans st3) z1 w1 hd1) (fun σ1 S4 σ' O' H' r4 st4 p4 => ?_) p3
      refine ⟨w2, [], rfl, ?_⟩
      refine rdG_mono (rdS_then (rel := RD) r4 p4) fun v5 H5 ⟨x5, O5, S5, r5, rx5, st5, p5⟩ => rdG_mono (rdS_then (rel := RD) r5 p5) fun u6 H6 ⟨y6, O6, S6, r6, ry6, st6, p6⟩ => ?_
      have hz2 := RD.step (c := ⟨g.K, g.G, B, O1⟩) ((st2.trans st3).trans (st4.trans (st5.trans st6))) z2 w2 hd2
      have := fSetIx_ok (J := { J with nx := fun σ H => J.nx σ H }) (W := W) r6 (RD.step (c := ⟨g.K, g.G, B, O5⟩) st6 x5 v5 rx5) ry6 hz2 p6
      exact rSetL_mono this fun H7 q7 => ⟨rfl, q7⟩
    · exact p1.elim
end
end DL

namespace DL
open PySem PySem.Spec PyProof.Rows L2
abbrev KD := List Key × List D
/-- a dict that was made just now -/
def PostD (c : Ct) (W : WX) (σ : L2.St) (σd : Sl) (H : Hp) (r : R KD) (Q : VK) : Prop := match r with
  | .ok q S' => ∀ p vs O' H', H p = none → Rel ⟨c.K, c.G, p :: c.B, O'⟩ S' σd σ H' → p ∉ c.B → H' p = some (.dK (q.1.zip vs)) → q.1.length = vs.length → RDs ⟨c.K, c.G, p :: c.B, O'⟩ H' q.2 vs → Step c.O H O' H' → Q (.ref p) H'
  | .exc k ns ds S' => ∀ dd O' H', Rel (c.at O') S' σd σ H' → XOk (c.at O') H' ns ds dd → Step c.O H O' H' → W (.ref (c.G k)) dd σ H'
  | .bad => False
def rdD (g : Gx) (W : WX) (m : M KD) : TE := fun σ H Q => ∃ B O S σd, Rel ⟨g.K, g.G, B, O⟩ S σd σ H ∧ PostD ⟨g.K, g.G, B, O⟩ W σ σd H (m σd S) Q
def mDFz (m : M KD) : M D := fun σd S => match m σd S with
  | .ok q S1 => .ok (.dic q.1 q.2) S1
  | .exc k ns ds S1 => .exc k ns ds S1
  | .bad => .bad
def mDLoc (m : M KD) : M D := fun σd S => match m σd S with
  | .ok q S1 => .ok (.ref S1.length) (S1 ++ [.dic q.1 q.2])
  | .exc k ns ds S1 => .exc k ns ds S1
  | .bad => .bad
open Classical in
noncomputable def dcompL (S0 : Sto) (src : List Nat) (pair : Bool) (t : Tgt) (wσ : Sl) (c : M Bool) (k e : M D) : List D → List Key → List D → Sto → R KD
  | [], ks, acc, S => if Gd S0 src S then .ok (ks, acc) S else .bad
  | d :: ds, ks, acc, S => if Gd S0 src S then match t.st pair d with
      | some xs => match c (setAll wσ t.slots xs) S with
        | .ok b S1 => if b = true then match k (setAll wσ t.slots xs) S1 with
            | .ok y S2 => match y with
              | .int j => match e (setAll wσ t.slots xs) S2 with
                | .ok x S3 => if ks.length < LIM then dcompL S0 src pair t wσ c k e ds (dputN (.inl j) ks) (dputX (.inl j) x ks acc) S3 else .bad
                | _ => .bad
              | _ => .bad
            | _ => .bad
          else dcompL S0 src pair t wσ c k e ds ks acc S1
        | _ => .bad
      | none => .bad
    else .bad
noncomputable def mDComp (m : M Its) (t : Tgt) (vs : List Nat) (c : M Bool) (k e : M D) : M KD := mB m fun it => fun σd S => dcompL S it.src it.pair t (wipeD σd vs) c k e it.items [] [] S
def PostQ (K : PySem.W.Frag) (G : Nat → Addr) (B O : List Addr) (p : Addr) (σ : L2.St) (σd : Sl) (H : Hp) (r : R KD) (Q : VK) : Prop := match r with
  | .ok q S' => ∀ vs O' H', Rel ⟨K, G, p :: B, O'⟩ S' σd σ H' → H' p = some (.dK (q.1.zip vs)) → q.1.length = vs.length → RDs ⟨K, G, p :: B, O'⟩ H' q.2 vs → Step O H O' H' → Q (.ref p) H'
  | _ => False
section
variable {g : Gx} {W : WX} {X : Cx} {kx vx tg iter : Expr} {ifs : List Expr} {scope : Scope} {own : List (Str × Nat)} {pos : Pos}
theorem dfz_imp {m : M KD} (σ : L2.St) (H : Hp) (Q : VK) (h : rdE g W (mDFz m) σ H Q) : rdD g W m σ H Q := by
  obtain ⟨B, O, S, σd, r, p⟩ := h
  refine ⟨B, O, S, σd, r, ?_⟩
  unfold mDFz at p
  revert p
  cases m σd S with
  | ok q S' => exact fun p a vs O' H' h0 h1 h2 h3 h3' h4 h5 => p (.ref a) O' H' (Rel.unban (c := ⟨g.K, g.G, B, O'⟩) h1) ⟨a, vs, rfl, ⟨fun z => h1.nb a z (List.mem_cons_self ..), h2⟩, h3, h3', RDs.mv (mv_unban (c := ⟨g.K, g.G, B, O'⟩)) q.2 vs h4⟩ h5
  | exc k ns ds S' => exact fun p => p
  | bad => exact fun p => p
theorem dloc_imp {m : M KD} (σ : L2.St) (H : Hp) (Q : VK) (h : rdE g W (mDLoc m) σ H Q) : rdD g W m σ H Q := by
  obtain ⟨B, O, S, σd, r, p⟩ := h
  refine ⟨B, O, S, σd, r, ?_⟩
  unfold mDLoc at p
  revert p
  cases m σd S with
  | ok q S' =>
    intro p a vs O' H' h0 h1 h2 h3 h3' h4 h5
    have hq : (O' ++ [a])[S'.length]? = some a := by
      rw [← show O'.length = S'.length from h1.ol]
      simp
    exact p (.ref a) (O' ++ [a]) H' (Rel.locate (c := ⟨g.K, g.G, B, O'⟩) h1 h2 ⟨vs, h3, h3', h4⟩) ⟨a, hq, rfl⟩ (h5.loc h0)
  | exc k ns ds S' => exact fun p => p
  | bad => exact fun p => p
theorem PostD.step {c : Ct} {O1 : List Addr} {H H1 : Hp} {σ : L2.St} {σd : Sl} {r : R KD} {Q : VK} {S' : Sto} (s : Step c.O H O1 H1) (rl : RelS (c.at O1) S' H1) (p : PostD c W σ σd H r Q) : PostD (c.at O1) W σ σd H1 r Q := by
  cases r with
  | ok d S' => exact fun v vs O' H' h0 h1 h2 h3 h3' h4 h5 => p v vs O' H' (s.back rl h0) h1 h2 h3 h3' h4 (s.trans h5)
  | exc k ns ds S' => exact fun dd O' H' h1 h2 h3 => p dd O' H' h1 h2 (s.trans h3)
  | bad => exact p
theorem dcompL_ne {S0 : Sto} {src : List Nat} {pair : Bool} {t : Tgt} {wσ : Sl} {c : M Bool} {kk e : M D} {k : Nat} {ns : List Str} {es : List D} {S' : Sto} : ∀ (ds : List D) (ks : List Key) (acc : List D) (S : Sto), dcompL S0 src pair t wσ c kk e ds ks acc S ≠ .exc k ns es S'
  | [], ks, acc, S => by
    unfold dcompL
    split <;> (intro h; cases h)
  | d :: ds, ks, acc, S => by
    unfold dcompL
    split
    · split
      · split
        · split
          · split
            · split
              · split
                · split
                  · exact dcompL_ne ds _ _ _
                  · intro h; cases h
                · intro h; cases h
              · intro h; cases h
            · intro h; cases h
          · exact dcompL_ne ds _ _ _
        · intro h; cases h
      · intro h; cases h
    · intro h; cases h
theorem dc_imp {mi : M Its} {t : Tgt} {vs : List Nat} {mc : M Bool} {mk me : M D} (hsub : ∀ i ∈ t.slots, i ∈ vs) (σ : L2.St) (H : Hp) (Q : VK) (h : rdD g W (mDComp mi t vs mc mk me) σ H Q) :
    tDc (rdI g W mi) (t.g X.K) (rdT g W0 mc) (rdE g W0 mk) (rdE g W0 me) vs σ H Q := by
  obtain ⟨B, O, S, σd, r, p⟩ := h
  have main : rdI g W mi σ H fun J H1 => ∃ it O1 S1, Rel ⟨g.K, g.G, B, O1⟩ S1 σd σ H1 ∧ ItOk ⟨g.K, g.G, B, O1⟩ S1 H1 it J ∧ Step O H O1 H1 ∧ PostD ⟨g.K, g.G, B, O1⟩ W σ σd H1 (dcompL S1 it.src it.pair t (wipeD σd vs) mc mk me it.items [] [] S1) Q := by
    refine ⟨B, O, S, σd, r, ?_⟩
    unfold mDComp mB at p
    revert p
    cases mi σd S with
    | ok it S' => exact fun p I O' H' h1 h2 h3 => ⟨it, O', S', h1, h2, h3, PostD.step (c := ⟨g.K, g.G, B, O⟩) h3 h1.toRelS p⟩
    | exc k ns ds S' => exact fun p dd O' H' h1 h2 h3 => p dd O' H' h1 h2 h3
    | bad => exact fun p => p.elim
  obtain ⟨B', O', S', σd', r', p'⟩ := main
  refine ⟨B', O', S', σd', r', ?_⟩
  revert p'
  cases mi σd' S' with
  | exc k ns ds S2 => exact fun p => p
  | bad => exact fun p => p
  | ok it0 S2 =>
    intro p' J O2 H2 a1 a2 a3
    obtain ⟨it, O1, S1, r1, iok, st1, pn⟩ := p' J O2 H2 a1 a2 a3
    intro D hD
    have av := r1.fresh hD
    have pp : PostQ g.K g.G B O1 D σ σd H2 (dcompL S1 it.src it.pair t (wipeD σd vs) mc mk me it.items [] [] S1) Q := by
      revert pn
      cases hq : dcompL S1 it.src it.pair t (wipeD σd vs) mc mk me it.items [] [] S1 with
      | ok ds S3 => exact fun pn us O' H' h1 h2 h2' h3 h4 => pn D us O' H' hD h1 av.2 h2 h2' h3 h4
      | exc k ns ds S3 => exact absurd hq (dcompL_ne _ _ _ _)
      | bad => exact fun pn => pn.elim
    refine ⟨fun i k H => k = it.items.length - i ∧ i ≤ it.items.length ∧ ∃ O3 S3 ks acc accV, Rel ⟨g.K, g.G, D :: B, O3⟩ S3 σd σ H ∧ Mv ⟨g.K, g.G, B, O1⟩ ⟨g.K, g.G, D :: B, O3⟩ H2 H ∧ Step O1 H2 O3 H ∧ (H D = some (.dK (List.zip ks accV)) ∧ ks.length = accV.length) ∧ RDs ⟨g.K, g.G, D :: B, O3⟩ H acc accV ∧ PostQ g.K g.G B O1 D σ σd H2 (dcompL S1 it.src it.pair t (wipeD σd vs) mc mk me (it.items.drop i) ks acc S3) Q,
      ⟨it.items.length, rfl, Nat.zero_le _, O1, S1, [], [], [], r1.ban hD, mv_ban hD, Step.new hD, ⟨upd_same, rfl⟩, rfl, pp⟩, fun i k H3 hw => ?_⟩
    obtain ⟨rfl, hle, O3, S3, ks, acc, accV, r3, mv3, st3, hD3, rd3, pp3⟩ := hw
    have hDB : D ∈ (⟨g.K, g.G, D :: B, O3⟩ : Ct).B := List.mem_cons_self ..
    by_cases hlt : i < it.items.length
    · rw [List.drop_eq_getElem_cons hlt] at pp3
      unfold dcompL at pp3
      split at pp3
      · next gd =>
        obtain ⟨hgo, hy⟩ := iok.go _ S3 H3 r3.toRelS mv3 gd i hlt
        refine .inr ⟨hgo, fun H => i + 1 ≤ it.items.length ∧ ∃ O3 S3 ks acc accV, Rel ⟨g.K, g.G, D :: B, O3⟩ S3 σd σ H ∧ Mv ⟨g.K, g.G, B, O1⟩ ⟨g.K, g.G, D :: B, O3⟩ H2 H ∧ Step O1 H2 O3 H ∧ (H D = some (.dK (List.zip ks accV)) ∧ ks.length = accV.length) ∧ RDs ⟨g.K, g.G, D :: B, O3⟩ H acc accV ∧ PostQ g.K g.G B O1 D σ σd H2 (dcompL S1 it.src it.pair t (wipeD σd vs) mc mk me (it.items.drop (i + 1)) ks acc S3) Q,
          fun H' q => ⟨it.items.length - (i + 1), by omega, rfl, q.1, q.2⟩, fun x H' y => ?_⟩
        obtain ⟨d, ed, yd⟩ := hy x H' y
        have edd : d = it.items[i] := Option.some.inj (ed.symm.trans (List.getElem?_eq_getElem hlt))
        subst edd
        split at pp3
        · next xs ex =>
          obtain ⟨ws, h1, h2, h3, h4⟩ := yd_ok (K := X.K) (Q := fun σ2 H2 => L2.wipe σ2 vs = L2.wipe σ vs ∧ rdT g W0 mc σ2 H2 _) (Rel.wipe r3 vs) yd ex
          refine h4 (L2.wipe σ vs) ⟨wipe_set hsub, D :: B, O3, S3, _, Rel.setAll t.slots h2 h1, ?_⟩
          have r3' : Rel ⟨g.K, g.G, D :: B, O3⟩ S3 σd σ H' := Rel.step (c := ⟨g.K, g.G, D :: B, O3⟩) (O' := O3) r3 h3 h2.toRelS
          have carry : ∀ {O4 S4 H4 σd4 σ4}, Rel ⟨g.K, g.G, D :: B, O4⟩ S4 σd4 σ4 H4 → Step O3 H' O4 H4 → Rel ⟨g.K, g.G, D :: B, O4⟩ S4 σd σ H4 ∧ Mv ⟨g.K, g.G, B, O1⟩ ⟨g.K, g.G, D :: B, O4⟩ H2 H4 ∧ Step O1 H2 O4 H4 ∧ (H4 D = some (.dK (List.zip ks accV)) ∧ ks.length = accV.length) ∧ RDs ⟨g.K, g.G, D :: B, O4⟩ H4 acc accV := fun {O4 S4 H4 σd4 σ4} q1 q2 => by
            have q3 : Step O3 H3 O4 H4 := Step.trans (show Step O3 H3 O3 H' from h3) q2
            have nD : D ∉ O3 := fun z => r3.nb D z hDB
            exact ⟨Rel.step (c := ⟨g.K, g.G, D :: B, O3⟩) r3' q2 q1.toRelS, mv3.trans (Step.mv (c := ⟨g.K, g.G, D :: B, O3⟩) q3), st3.trans q3, ⟨(q3.kp D _ nD hD3.1).1, hD3.2⟩, RDs.step (c := ⟨g.K, g.G, D :: B, O3⟩) q3 acc accV rd3⟩
          revert pp3
          cases mc (setAll (wipeD σd vs) t.slots xs) S3 with
          | exc k ns ds S4 => exact fun pp3 => pp3.elim
          | bad => exact fun pp3 => pp3.elim
          | ok b S4 =>
            intro pp3 v O4 H4 q1 q2 q3
            have ev : b = v := q2
            subst ev
            simp only at pp3
            cases b with
            | false =>
              obtain ⟨c1, c2, c3, c4, c5⟩ := carry q1 q3
              exact ⟨hlt, O4, S4, ks, acc, accV, c1, c2, c3, c4, c5, pp3⟩
            | true =>
              refine ⟨D :: B, O4, S4, _, q1, ?_⟩
              revert pp3
              simp only [if_true]
              cases mk (setAll (wipeD σd vs) t.slots xs) S4 with
              | exc k ns ds S5 => exact fun pp3 => pp3.elim
              | bad => exact fun pp3 => pp3.elim
              | ok y5 S5 =>
                intro pp3 uk O5 H5 k4 k5 k6
                simp only at pp3
                split at pp3
                · next j =>
                  cases (show _ = _ from k5)
                  refine ⟨D :: B, O5, S5, _, k4, ?_⟩
                  revert pp3
                  cases me (setAll (wipeD σd vs) t.slots xs) S5 with
                  | exc k ns ds S6 => exact fun pp3 => pp3.elim
                  | bad => exact fun pp3 => pp3.elim
                  | ok z S6 =>
                    intro pp3 u O6 H6 q4 q5 q6
                    simp only at pp3
                    split at pp3
                    · next hl =>
                      obtain ⟨c1, c2, c3, c4, c5⟩ := carry q4 ((q3.trans k6).trans q6)
                      have hDB5 : D ∈ (⟨g.K, g.G, D :: B, O6⟩ : Ct).B := List.mem_cons_self ..
                      obtain ⟨e1, e2⟩ := putK_zip (k := .inl j) (y := u) c4.2
                      refine ⟨_, .inl j, rfl, c4.1, by rw [List.length_zip, ← c4.2, Nat.min_self]; exact lim_lt hl, hlt, O6, S6, dputN (.inl j) ks, dputX (.inl j) z ks acc, dputX (.inl j) u ks accV, c1.pwrite hDB5, c2.trans (mv_pwrite hDB5), c3.pwrite hD, ⟨by rw [e1]; exact upd_same, e2⟩, RDs.mv (mv_pwrite hDB5) _ _ (dputX_rd q5 c5), pp3⟩
                    · exact pp3.elim
                · exact pp3.elim
        · exact pp3.elim
      · exact pp3.elim
    · have ei : i = it.items.length := by omega
      subst ei
      rw [List.drop_length] at pp3
      unfold dcompL at pp3
      split at pp3
      · next gd => exact .inl ⟨iok.stop _ S3 H3 r3.toRelS mv3 gd, pp3 accV O3 H3 r3 hD3.1 hD3.2 rd3 st3⟩
      · exact pp3.elim
theorem sd_comp {mi : M Its} {t : Tgt} {mc : M Bool} {mk me : M D} (hc : X.calm = true) (hN : X.N.Nodup) (hi : PI X tg iter (rdI g W mi)) (ok : BlkOk X.N X.env.scope scope own) (hg : Blk X scope fun Y => PG Y tg (t.g X.K)) (ht : Blk X scope fun Y => PTs Y ifs (rdT g W0 mc))
    (hk : Blk X scope fun Y => PE Y kx (rdE g W0 mk)) (he : Blk X scope fun Y => PE Y vx (rdE g W0 me)) (hsub : ∀ i ∈ t.slots, i ∈ own.map (·.2)) (hs : ∀ x, foldedSetIterable iter X.env x = pure x := by intro _; rfl) :
    PE X (.DictComp kx vx [⟨tg, iter, ifs, 0⟩] scope pos) (rdD g W (mDComp mi t (own.map (·.2)) mc mk me)) := PE.imp (pe_dc hc hN hi ok hg ht hk he hs) (dc_imp hsub)
theorem sd_frz {e : Expr} {m : M KD} (h : PE X e (rdD g W m)) : PE X e (rdE g W (mDFz m)) := PE.imp h dfz_imp
theorem sd_loc {e : Expr} {m : M KD} (h : PE X e (rdD g W m)) : PE X e (rdE g W (mDLoc m)) := PE.imp h dloc_imp
/-- y = {k: v for ..} on one line, y a local name -/
theorem ps_setDc {i : Nat} {y : Str} {py spos : Pos} {wi : TI} {gg : TG} {tt : TT} {tk tv : TE} (hc : X.calm = true) (hN : X.N.Nodup) (hy : X.N[i]? = some y) (hyl : X.env.scope.names.lookup y = some .local)
    (hsw : swapsWith (.DictComp kx vx [⟨tg, iter, ifs, 0⟩] scope pos) (some (.Name y py)) spos.line X.env = pure true) (hi : PI X tg iter wi) (ok : BlkOk X.N X.env.scope scope own)
    (hg : Blk X scope fun Y => PG Y tg gg) (ht : Blk X scope fun Y => PTs Y ifs tt) (hk : Blk X scope fun Y => PE Y kx tk) (he : Blk X scope fun Y => PE Y vx tv) (hs : ∀ x, foldedSetIterable iter X.env x = pure x := by intro _; rfl) :
    PS X (.Assign [.Name y py] (.DictComp kx vx [⟨tg, iter, ifs, 0⟩] scope pos) spos) (tAsg (tDc wi gg tt tk tv (own.map (·.2))) (gName i)) := by
  refine ⟨fun pins s σ H D I h => ?_⟩
  rw [exec_Assign_Name_used _ _ _ _ hsw]
  refine wpAny_bind (wpAny_standAt (wpAny_bind ?_))
  show wpAny _ X.A (do let _ ← comprehension (.DictComp kx vx [⟨tg, iter, ifs, 0⟩] scope pos) scope X.env (firstIterPos [⟨tg, iter, ifs, 0⟩] pos) newDict false (eval iter X.env) (some (assign (.Name y py) X.env))) _ _ s
  have h : tDc wi gg tt tk tv (own.map (·.2)) σ H (fun x H1 => gName i x σ H1 D.nx) := h
  refine wpAny_bind (thn (dc_core (Qf := fun _ s' => SP X pins D .next s') hc hN I hi ok hg ht hk he hs h fun L C s' m H' I' q hn f => ?_) fun _ s' hq => wpAny_pure (wpAny_pure hq))
  show wpAny _ _ (assign (.Name y py) X.env (.ref L)) _ _ _
  refine wpAny_assign_Name (store_ok2 (v := V.ref L) I' hN hy (.inl hyl) rfl (fun s2 I2 ⟨a, sb, ha⟩ => ?_) (.inr hyl))
  obtain ⟨f0, f1, f2, f3, f4, f5⟩ := f
  have haC : C ≠ a := by
    rcases ha with z | z
    · rw [z]; exact f1
    · exact fun e => f4 y a z e.symm
  refine ⟨m, hn.sameBut sb haC, fun h3 sb3 => ?_⟩
  exact ⟨_, H', I2.turned (t' := s2.toks) (fun b o hb e => (sb3.2 b hb).trans e) f0 f1 f3 f4 f5, q⟩
theorem sw_trueD {kx vx : Expr} {gs : List Comprehension} {scope : Scope} {pos py : Pos} {y : Str} {l : Nat} {env : Env} (hk : env.scope.kind = .function) (hy : env.scope.names.lookup y = some .local) (hl : (py.line == pos.line) = true)
    (ha : (scope.names.any fun (n, k) => n == y && (k == .local || k == .cell)) = false) : swapsWith (.DictComp kx vx gs scope pos) (some (.Name y py)) l env = pure true := by
  have ky : env.kindOf y = some .local := hy
  have hb : env.blockKind = .function := by unfold Env.blockKind; rw [hk]; rfl
  unfold swapsWith
  simp only [hb, ky, ha, Expr.pos, hl]
  rfl
theorem ss_setDComp {i : Nat} {y : Str} {py spos : Pos} {mi : M Its} {t : Tgt} {mc : M Bool} {mk me : M D} {f : M KD → M D} (hf : ∀ (m : M KD) σ H Q, rdE g W (f m) σ H Q → rdD g W m σ H Q) (hc : X.calm = true) (hN : X.N.Nodup) (hy : X.N[i]? = some y) (hyl : X.env.scope.names.lookup y = some .local)
    (hsw : swapsWith (.DictComp kx vx [⟨tg, iter, ifs, 0⟩] scope pos) (some (.Name y py)) spos.line X.env = pure true)
    (hi : PI X tg iter (rdI g W mi)) (ok : BlkOk X.N X.env.scope scope own) (hg : Blk X scope fun Y => PG Y tg (t.g X.K)) (ht : Blk X scope fun Y => PTs Y ifs (rdT g W0 mc))
    (hk : Blk X scope fun Y => PE Y kx (rdE g W0 mk)) (he : Blk X scope fun Y => PE Y vx (rdE g W0 me)) (hsub : ∀ i ∈ t.slots, i ∈ own.map (·.2)) (hs : ∀ x, foldedSetIterable iter X.env x = pure x := by intro _; rfl) :
    PS X (.Assign [.Name y py] (.DictComp kx vx [⟨tg, iter, ifs, 0⟩] scope pos) spos) (rdS g W (mSet i (f (mDComp mi t (own.map (·.2)) mc mk me)))) :=
  PS.imp (ps_setDc hc hN hy hyl hsw hi ok hg ht hk he hs) fun J σ H ⟨B, O, S, σd, r, p⟩ => by
    refine dc_imp hsub σ H _ (hf _ σ H _ (rdG_mono (rdS_then (rel := RD) r p) fun v H1 ⟨x, O1, S1, r1, rx, st1, p1⟩ => ?_))
    exact postS_nx p1 (r1.set i rx)
end
end DL

namespace DL
open PySem PySem.Spec PyProof.Rows L2
/-- the keys of a dict one by one, each with what stands there, into another -/
def dcopy (ks0 : List Key) (ds0 : List D) : List Key → KD → Option KD
  | [], q => some q
  | k :: ks, q => match dget k ks0 ds0 with
    | some d => if q.1.length < LIM then dcopy ks0 ds0 ks (dputN k q.1, dputX k d q.1 q.2) else none
    | none => none
def mDCopy (i j : Nat) : M KD := fun σd S => if j < σd.length then match σd[i]? with
  | some d => match dicOf S d with
    | some (ks, ds) => match dcopy ks ds ks ([], []) with
      | some q => .ok q S
      | none => .bad
    | none => .bad
  | none => .bad
  else .bad
section
variable {g : Gx} {W : WX} {X : Cx} {scope : Scope} {own : List (Str × Nat)} {pos spos p1 p2 p3 p4 p5 p6 py : Pos}
theorem zip_get {ks : List Key} {vs : List V} (l : ks.length = vs.length) {i : Nat} {k : Key} {v : V} (h : (ks.zip vs)[i]? = some (k, v)) : ks[i]? = some k := by
  rw [List.getElem?_zip_eq_some] at h
  exact h.1
theorem dcopy_imp {i j iy : Nat} {vs : List Nat} (hj : j ∈ vs) (hi : i ∉ vs) (J : Ends) (σ : L2.St) (H : Hp) (h : rdS g W (mSet iy (mDLoc (mDCopy i j))) J σ H) :
    tLock (tAsg (tDc (iKeys (tVar i)) (gName j) tYes (tVar j) (tDGet (tVar i) (tVar j)) vs) (gName iy)) J σ H := by
  obtain ⟨B, O, S, σd, r, p⟩ := h
  have p0 : PostS ⟨g.K, g.G, B, O⟩ W H (match mDCopy i j σd S with | .ok q S1 => .nx (σd.set iy (.ref S1.length)) (S1 ++ [.dic q.1 q.2]) | .exc k ns ds S1 => .exc k ns ds σd S1 | .bad => .bad) J := by
    unfold mSet mBS mDLoc at p
    revert p
    cases mDCopy i j σd S with
    | ok q S1 => exact fun p => p
    | exc k ns ds S1 => exact fun p => p
    | bad => exact fun p => p
  clear p
  unfold mDCopy at p0
  by_cases hjl : j < σd.length
  case neg => rw [if_neg hjl] at p0; exact p0.elim
  rw [if_pos hjl] at p0
  cases hs : σd[i]? with
  | none => rw [hs] at p0; exact p0.elim
  | some d =>
    rw [hs] at p0
    simp only at p0
    cases hd : dicOf S d with
    | none => rw [hd] at p0; exact p0.elim
    | some kd =>
      obtain ⟨ks, ds⟩ := kd
      rw [hd] at p0
      simp only at p0
      cases hq : dcopy ks ds ks ([], []) with
      | none => rw [hq] at p0; exact p0.elim
      | some q =>
        rw [hq] at p0
        simp only at p0
        rcases r.sl i d hs with z | ⟨v, h1, h2⟩
        · subst z; cases hd
        · obtain ⟨a, us, rfl, ha, hl, rd⟩ := dicOf_ok r.toRelS h2 hd
          refine ⟨a, .dK (ks.zip us), ha, trivial, fun od => ?_⟩
          show tDc (iKeys (tVar i)) (gName j) tYes (tVar j) (tDGet (tVar i) (tVar j)) vs σ _ _
          refine ⟨.ref a, h1, a, od, rfl, .inl ⟨ks.zip us, upd_same, fun D hD => ?_⟩⟩
          have hDa : D ≠ a := fun z => by rw [z, upd_same] at hD; cases hD
          have hDH : H D = none := by rw [upd_ne hDa] at hD; exact hD
          have hwl : (L2.wipe σ vs).length = σ.length := wipe_length ..
          have hwi : (L2.wipe σ vs)[i]? = some (some (.ref a)) := by rw [wipe_out' σ vs i hi]; exact h1
          refine ⟨fun n m H' => m = ks.length - n ∧ n ≤ ks.length ∧ ∃ (q1 : KD) (ws : List V), dcopy ks ds (ks.drop n) q1 = some q ∧ q1.1.length = ws.length ∧ RDs ⟨g.K, g.G, B, O⟩ H q1.2 ws ∧ H' = upd (upd H a (.frz od (.dK (ks.zip us)))) D (.dK (q1.1.zip ws)), ⟨ks.length, rfl, Nat.zero_le _, ([], []), [], hq, rfl, rfl, rfl⟩, fun n m H' hw => ?_⟩
          obtain ⟨rfl, hn, q1, ws, hc, hlw, rdw, rfl⟩ := hw
          have hloc : (upd (upd H a (.frz od (.dK (ks.zip us)))) D (.dK (q1.1.zip ws))) a = some (.frz od (.dK (ks.zip us))) := by rw [upd_ne (Ne.symm hDa), upd_same]
          have hzl : (ks.zip us).length = ks.length := by rw [List.length_zip, ← hl, Nat.min_self]
          by_cases hlt : n < ks.length
          · refine .inr ⟨⟨hloc, by rw [hzl]; exact hlt⟩, fun H' => n + 1 ≤ ks.length ∧ ∃ (q1 : KD) (ws : List V), dcopy ks ds (ks.drop (n + 1)) q1 = some q ∧ q1.1.length = ws.length ∧ RDs ⟨g.K, g.G, B, O⟩ H q1.2 ws ∧ H' = upd (upd H a (.frz od (.dK (ks.zip us)))) D (.dK (q1.1.zip ws)), fun H' z => ⟨ks.length - (n + 1), by omega, rfl, z.1, z.2⟩, fun x H' y => ?_⟩
            obtain ⟨rfl, k, v, hkv, rfl⟩ := y
            have hk := zip_get hl hkv
            have hkn : ks[n] = k := by rw [List.getElem?_eq_getElem hlt] at hk; exact Option.some.inj hk
            rw [List.drop_eq_getElem_cons hlt, hkn] at hc
            unfold dcopy at hc
            split at hc
            · next e he =>
              split at hc
              · next hlim =>
                obtain ⟨w, hw1, hw2⟩ := (dget_ok (k := k) hl rd).1 e he
                refine ⟨?_, ?_⟩
                · have := wipe_set (σ := σ) (vs := vs) (is := [j]) (ws := [kV k]) (fun z hz => by rw [List.mem_singleton.mp hz]; exact hj)
                  exact this
                · have hne : j ≠ i := fun z => hi (z ▸ hj)
                  have hjl2 : j < (L2.wipe σ vs).length := by rw [hwl, ← r.len]; exact hjl
                  have hgj : ((L2.wipe σ vs).set j (some (kV k)))[j]? = some (some (kV k)) := List.getElem?_set_self hjl2
                  have hgi : ((L2.wipe σ vs).set j (some (kV k)))[i]? = some (some (.ref a)) := by rw [List.getElem?_set_ne hne]; exact hwi
                  obtain ⟨e1, e2⟩ := putK_zip (k := k) (y := w) hlw
                  have hfin : upd (upd (upd H a (.frz od (.dK (ks.zip us)))) D (.dK (q1.1.zip ws))) D (.dK (putK (q1.1.zip ws) k w)) = upd (upd H a (.frz od (.dK (ks.zip us)))) D (.dK ((dputN k q1.1).zip (dputX k w q1.1 ws))) := by
                    rw [e1]
                    funext b
                    by_cases e : b = D
                    · subst e; rw [upd_same, upd_same]
                    · rw [upd_ne e, upd_ne e, upd_ne e]
                  exact ⟨kV k, hgj, .ref a, hgi, kV k, hgj, a, w, rfl, .inl ⟨ks.zip us, k, .inr ⟨od, hloc⟩, rfl, hw1.symm⟩, q1.1.zip ws, k, rfl, upd_same, by rw [List.length_zip, ← hlw, Nat.min_self]; exact lim_lt hlim, hlt, (dputN k q1.1, dputX k e q1.1 q1.2), dputX k w q1.1 ws, hc, e2, dputX_rd hw2 rdw, hfin⟩
              · cases hc
            · cases hc
          · have en : n = ks.length := by omega
            subst en
            rw [List.drop_length] at hc
            have : q1 = q := Option.some.inj hc
            subst this
            refine .inl ⟨⟨hloc, by rw [hzl]; exact Nat.le_refl _⟩, hloc, ?_⟩
            have hH : upd (upd (upd H a (.frz od (.dK (ks.zip us)))) D (.dK (q1.1.zip ws))) a (.dK (ks.zip us)) = upd H D (.dK (q1.1.zip ws)) := by
              funext b
              by_cases e1 : b = a
              · subst e1
                rw [upd_same, upd_ne (Ne.symm hDa), ha]
              · rw [upd_ne e1]
                by_cases e2 : b = D
                · subst e2; rw [upd_same, upd_same]
                · rw [upd_ne e2, upd_ne e2, upd_ne e1]
            show J.nx (σ.set iy (some (.ref D))) _
            rw [hH]
            have rb := r.ban (p := D) (o := .dK (q1.1.zip ws)) hDH
            have hDO : D ∉ B := (r.fresh hDH).2
            have rl := Rel.locate (c := ⟨g.K, g.G, B, O⟩) (o := .dic q1.1 q1.2) rb hDO ⟨ws, upd_same, hlw, RDs.mv (mv_ban (c := ⟨g.K, g.G, B, O⟩) hDH) _ _ rdw⟩
            have hO : (O ++ [D])[S.length]? = some D := by
              rw [← show O.length = S.length from r.ol]
              simp
            exact p0 _ (O ++ [D]) _ (rl.set iy ⟨D, hO, rfl⟩) ((Step.new (O := O) hDH).loc hDH)
theorem ss_setDCopy {i j iy : Nat} {x z y : Str} {own : List (Str × Nat)} {k : Nat} (hr : Room k X.A) (hc : X.calm = true) (hN : X.N.Nodup) (hy : X.N[iy]? = some y) (hyl : X.env.scope.names.lookup y = some .local) (hx : X.N[i]? = some x) (hz : X.N[j]? = some z)
    (hsw : swapsWith (.DictComp (.Name z p1) (.Subscript (.Name x p2) (.Name z p3) p4) [⟨.Name z p5, .Name x p6, [], 0⟩] scope pos) (some (.Name y py)) spos.line X.env = pure true)
    (ok : BlkOk X.N X.env.scope scope own) (hv : Vis X.env.scope x) (hg : Blk X scope fun Y => PG Y (.Name z p5) (gName j)) (h1 : Blk X scope fun Y => PE Y (.Name z p1) (tVar j)) (h2 : Blk X scope fun Y => PE Y (.Subscript (.Name x p2) (.Name z p3) p4) (tDGet (tVar i) (tVar j)))
    (hj : j ∈ own.map (·.2)) (hi : i ∉ own.map (·.2)) (hd : (x == ("__debug__" : Str)) = false := by decide) (hcd : (x == ("__classdict__" : Str)) = false := by decide) (hs : ∀ v, foldedSetIterable (.Name x p6) X.env v = pure v := by intro _; rfl) :
    PS X (.Assign [.Name y py] (.DictComp (.Name z p1) (.Subscript (.Name x p2) (.Name z p3) p4) [⟨.Name z p5, .Name x p6, [], 0⟩] scope pos) spos) (rdS g W (mSet iy (mDLoc (mDCopy i j)))) :=
  PS.imp (ps_lock (ps_setDc hc hN hy hyl hsw (pi_keys (pe_var hx hv hd hcd)) ok hg (fun _ _ _ _ _ => pts_nil) h1 h2 hs)) (dcopy_imp hj hi)
def fIs2 (x y : D) (S : Sto) : R D := match y with
  | .bl c => match x with
    | .bl b => .ok (.bl (decide (b = c))) S
    | .non => .ok (.bl false) S
    | _ => .bad
  | _ => .bad
def rIsB2 : R2 := fun x y H Q => ∃ b : Bool, y = .bl b ∧ ((∃ a : Bool, x = .bl a ∧ Q (.bl (decide (a = b))) H) ∨ (x = .non ∧ Q (.bl false) H))
theorem op_isB2 : OpR X (compareOp .Is) rIsB2 := by
  intro pins s σ H x y v u Q I rx ry h
  obtain ⟨b, rfl, ⟨a, rfl, q⟩ | ⟨rfl, q⟩⟩ := h
  · exact op_isBl pins s σ H _ _ v u Q I rx ry ⟨a, b, rfl, rfl, q⟩
  · cases (show v = Value.none from rx)
    cases (show u = Value.bool b from ry)
    exact wpAny_is_other rfl (fun z => by cases z) ⟨.bl false, H, I, rfl, q⟩
theorem sc_isB : CmpS g W X .Is fIs2 := ⟨_, op_isB2, fun {B O S σd σ H x y v w Q} r hx hy p => by
  unfold fIs2 at p
  split at p
  · next c =>
    cases (show _ = _ from hy)
    split at p
    · next b =>
      cases (show _ = _ from hx)
      exact ⟨c, rfl, .inl ⟨b, rfl, post_val p r rfl⟩⟩
    · cases (show _ = _ from hx)
      exact ⟨c, rfl, .inr ⟨rfl, post_val p r rfl⟩⟩
    · exact p.elim
  · exact p.elim⟩
theorem ip_ext : PIp X .Add rExt2 := iop_ext
def fReverse (x : D) (ds : List D) (S : Sto) : R D := match x with
  | .ref n => match ds with
    | [] => match S[n]? with
      | some (.lst xs) => .ok .non (S.set n (.lst xs.reverse))
      | _ => .bad
    | _ => .bad
  | _ => .bad
theorem fReverse_ok : MethS g W rReverse fReverse := fun {B O S σd σ H x v ds vs Q} r hx hs p => by
  unfold fReverse at p
  split at p
  · next n =>
    split at p
    · split at p
      · next xs q =>
        obtain ⟨l, ho, rfl⟩ := hx
        cases (show _ = _ from hs)
        obtain ⟨us, h1, h2⟩ := r.ob n _ l q ho
        exact ⟨l, us, rfl, rfl, h1, post_write p r ho (oo_lst r.toRelS ho (RDs.rev h2)) rfl⟩
      · exact p.elim
    · exact p.elim
  · exact p.elim
theorem se_reverse {a : Expr} {apos pos : Pos} {mo : M D} (ho : PE X a (rdE g W mo)) (hbase : attributeBase a "reverse" X.env (eval a X.env) = eval a X.env := by rfl) (hline : (apos.endLine == pos.line) = true := by rfl) :
    PE X (.Call (.Attribute a "reverse" apos) [] [] pos) (rdE g W (mMeth fReverse mo mNil)) :=
  PE.imp (pe_bm0 PySem.F.plainAttrs_list PySem.F.slot_list_reverse PySem.F.type_list_reverse mt_reverse ho hbase hline) (meth0_imp fReverse_ok)
end
end DL

namespace DL
open PySem PySem.Spec PyProof.Rows L2
section
variable {X : Cx} {C f : Addr} {fd : FuncData} {ps : List Str} {sp : Sp} {n : Nat}
def rEqW (K : PySem.W.Frag) (C : Addr) (sp : Sp) : R2 := fun x y H Q => ∃ a dx fs, x = .ref a ∧ H a = some (.ins C dx fs) ∧ ((∃ b dy gs, y = .ref b ∧ H b = some (.ins C dy gs)) ∨ ∃ b vs, y = .ref b ∧ SqT K H b vs) ∧
  sp [x, y] H (fun v H' => ∃ b, v = .bl b ∧ Q v H') (fun _ _ _ => False)
theorem op_eqW (F : FnOk X.prog X.w X.K X.mg X.base (L2.CX X.prog X.w) n f fd ps sp) (hs : PySem.W.findIn X.K (.ref C) "__eq__" = some (some (.ref f))) (hf : PySem.W.isFn X.K (.ref f) = true) (hb : Binds X.K fd ps []) (hr : Room n X.A) (nf : PySem.W.notFirst X.K C (.type "tuple") = true) : OpR X (compareOp .Eq) (rEqW X.K C sp) := by
  intro pins s σ H x y v u Q I rx ry h
  obtain ⟨a, dx, fs, rfl, ha, hy, q⟩ := h
  obtain ⟨b, eb⟩ : ∃ b, y = .ref b := by
    rcases hy with ⟨b, _, _, e, _⟩ | ⟨b, _, e, _⟩ <;> exact ⟨b, e⟩
  subst eb
  cases rx
  cases ry
  obtain ⟨mA, J, _⟩ := ins_get I.hok ha
  obtain ⟨od, J, _⟩ := J.look
  obtain ⟨m, hF⟩ := I.fr
  obtain ⟨tb, ht, hn⟩ : ∃ tb, PySem.W.Looks (model X.prog X.w) s.heap (typeOf (.ref b)) tb ∧ PySem.W.notFirst X.K C tb = true := by
    rcases hy with ⟨b', dy, gs, e, hb'⟩ | ⟨b', vs, e, hb'⟩
    · cases e
      obtain ⟨mB, J', _⟩ := ins_get I.hok hb'
      obtain ⟨od', J', _⟩ := J'.look
      exact ⟨.ref C, J'.type, by simp [PySem.W.notFirst]⟩
    · cases e
      obtain ⟨its, _, ⟨o, ho, hc, _⟩, _⟩ := I.tuple hb'
      exact ⟨.type "tuple", fun A Q E s k q => wpAny_typeOf_ref (k _ _ ho) (by rw [hc]; exact q), nf⟩
  show wpAny (model X.prog X.w) X.A (richCompare .Eq (.ref a) (.ref b)) (EP X pins σ Q) X.xe s
  refine PySem.W.cmp_K (op := .Eq) (tb := tb) hr.units0 hF I.ok.mod.kin J ht hn hs hf ?_
  have hl := F.len _ _ _ _ q
  have r2 : Vals [V.ref a, V.ref b] [Value.ref a, Value.ref b] := .cons rfl (.cons rfl .nil)
  refine wpAny_call (codeAny_mono (F.run X.A X.stack s H ⟨[.ref a, .ref b], []⟩ [.ref a, .ref b] [.ref a, .ref b] _ _ hr I.env0 (by
    have := hb s [.ref a, .ref b] I.kIn (by simpa using hl)
    simpa using this) r2 q) fun r s' hq => ?_)
  cases r with
  | error e => exact (cx_false hq).elim
  | ok fl =>
    cases fl with
    | ret w =>
      obtain ⟨z, H', I', rz, c, ez, qq⟩ := I.after hq
      subst ez
      cases rz
      exact ⟨.bl c, H', I', rfl, qq⟩
    | next => exact False.elim hq
    | brk => exact False.elim hq
    | cont => exact False.elim hq
variable {g : Gx} {W : WX}
/-- the other side: the same class, or a tuple -/
def sideOk (k : Nat) (S : Sto) (y : D) : Bool := match tupOf y with
  | some _ => true
  | none => match insOf S y with
    | some (k', _, _) => decide (k' = k)
    | none => false
def fEqO (k : Nat) (fn : List D → Sto → R D) (x y : D) (S : Sto) : R D := match insOf S x with
  | some (k', _, _) => if k' = k ∧ sideOk k S y = true then match fn [x, y] S with
      | .ok d S' => match d with
        | .bl b => .ok (.bl b) S'
        | _ => .bad
      | _ => .bad
    else .bad
  | none => .bad
theorem fEqO_ok {k : Nat} {fn : List D → Sto → R D} {K : PySem.W.Frag} : OpS g W (rEqW K (g.G k) (spD g fn)) (fEqO k fn) := fun {B O S σd σ H x y v w Q} r hx hy p => by
  unfold fEqO at p
  split at p
  · next k' ns ds qi =>
    split at p
    · next ek =>
      obtain ⟨ek, sd⟩ := ek
      subst ek
      obtain ⟨a, dx, vs, ev, h1, l, h2⟩ := insOf_ok r.toRelS hx qi
      refine ⟨a, dx, _, ev, h1, ?_, B, O, S, [x, y], r.toRelS, ⟨v, [w], rfl, hx, RDs.one hy⟩, ?_⟩
      · unfold sideOk at sd
        split at sd
        · next ds q =>
          obtain ⟨b, us, e, h3, h4⟩ := tupOf_ok hy q
          exact .inr ⟨b, us, e, h3.sq⟩
        · split at sd
          · next k2 ns2 ds2 q =>
            have e2 := of_decide_eq_true sd
            subst e2
            obtain ⟨b, dy, us, e, h3, _, _⟩ := insOf_ok r.toRelS hy q
            exact .inl ⟨b, dy, _, e, h3⟩
          · cases sd
      · revert p
        cases fn [x, y] S with
        | ok d S' =>
          cases d with
          | bl b => exact fun p v O' H' h1 h2 h3 => ⟨b, h2, p v O' H' (r.step h3 h1) h2 h3⟩
          | _ => exact fun p => p.elim
        | exc k ns es S' => exact fun p => p.elim
        | bad => exact fun p => p.elim
    · exact p.elim
  · exact p.elim
theorem sc_eqO {k j : Nat} {f : Addr} {fd : FuncData} {ps : List Str} {fn : List D → Sto → R D} (hk : X.K = g.K) (F : FnOk X.prog X.w X.K X.mg X.base (L2.CX X.prog X.w) j f fd ps (spD g fn)) (hr : Room j X.A) (hb : Binds X.K fd ps [])
    (hs : PySem.W.findIn g.K (.ref (g.G k)) "__eq__" = some (some (.ref f))) (hf : PySem.W.isFn g.K (.ref f) = true) (nf : PySem.W.notFirst g.K (g.G k) (.type "tuple") = true) : CmpS g W X .Eq (fEqO k fn) :=
  ⟨_, op_eqW F (by rw [hk]; exact hs) (by rw [hk]; exact hf) hb hr (by rw [hk]; exact nf), fEqO_ok⟩
end
end DL

set_option maxHeartbeats 4000000
namespace PySem
namespace DLX
open PySem.W PySem.Calls PyProof.Rows PySem.HandSPX
def iA (fs : List (Str × Pos)) (p1 : Pos) : Arguments := { posonlyargs := [], args := { arg := "self", annotation := none, pos := p1 } :: fs.map fun f => { arg := f.1, annotation := none, pos := f.2 }, vararg := none, kwonlyargs := [], kw_defaults := [], kwarg := none, defaults := [] }
def iSup (m : Str) (q1 q2 q3 q4 q5 q6 : Pos) : Stmt := .Expr (.Call (.Attribute (.Call (.Name "super" q1) [] [] q2) "__init__" q3) [.Constant (.str m) 0 q4] [] q5) q6
def iSto (f : Str) (r1 r2 r3 r4 : Pos) : Stmt := .Assign [.Attribute (.Name "self" r1) f r2] (.Name f r3) r4
def iS1 (f : Str) : Scope := { kind := .function, names := [(PySem.Str.ofString "self", .local), (f, .local), (PySem.Str.ofString "__class__", .free), (PySem.Str.ofString "super", .globalImplicit)], isGenerator := false, isCoroutine := false, more := [] }
def iS2 (f g : Str) : Scope := { kind := .function, names := [(PySem.Str.ofString "self", .local), (f, .local), (g, .local), (PySem.Str.ofString "__class__", .free), (PySem.Str.ofString "super", .globalImplicit)], isGenerator := false, isCoroutine := false, more := [] }
/-- what the written part says of an exception class at C with an own __init__ at fI -/
structure XCl (prog : Program) (K : Frag) (mg : Str → Option Value) (C fI : Addr) : Prop where
  cls : ∃ nm q N bs bm sn sub ab col dd k0 k1 k2 k3 k5, K.lookup C = some (excClassObj nm q C N bs bm true sn sub ab col dd k0 k1 k2 k3 k5 "ValueError.__new__") ∧ refsVE bm = true
  sa : findIn K (.ref C) "__setattr__" = some (some (.builtin "object.__setattr__"))
  iC : findIn K (.ref C) "__init__" = some (some (.ref fI))
  tC : typeIn K (.ref fI) = some (.type "function")
  kC : keepIn K (.ref C) = true
  exC : subIn K (.ref C) (.type "BaseException") = some true
  tyC : typeIn K (.ref C) = some (.type "type")
  su : ks_superIn K C C "__init__" = some (some (.builtin "ValueError.__init__"))
  op : nsIn K cStatics "thirdparty.any" = some none
  ms : mroIn K C (.ref C) = some true
  vE : subIn K (.ref C) (.type "ValueError") = some true
  sup : mg "super" = none
  top : (prog.main.scope.names.lookup ("super" : Str)).isSome = false
/-- its __init__'s own text -/
structure XFn (prog : Program) (K : Frag) (C fI : Addr) (qual : Str) (ar : Arguments) (bd : List Stmt) (sc : Scope) : Prop where
  fn : ∃ (oc : Value) (od : Option Addr) (doc pm dV kV : Value) (an : Option Addr) (ct : Value) (osl : Array (Option Value)) (cda cc : Addr) (ccl cl : Value) (cdd cld : Option Addr) (vs : Array Value) (file : Str) (tf : Tok) (ccs csl : Array (Option Value)),
    K.lookup fI = some ⟨oc, od, .func (ksFn "__init__" qual ar bd sc dV kV doc pm an (.ref cda) ct cc), osl⟩ ∧ codeIn K (.ref cda) qual = true ∧ K.lookup cda = some ⟨ccl, cdd, .fields vs, ccs⟩ ∧ vs[2]? = some (.str file tf) ∧ ((prog.main.file : Str) == file) = true ∧
      K.lookup cc = some ⟨cl, cld, .cell (some (.ref C)), csl⟩ ∧ dV = .none
/-- what __init__ leaves of a fresh exception at x -/
structure InitEnd (h h' : Heap) (x C dx t1 : Addr) (m : Str → Option Value) : Prop where
  keep : ∀ b o, b ≠ x → h.get? b = some o → h'.get? b = some o
  obj : h'.get? x = some { cls := .ref C, dict := some dx, data := .fields #[.ref t1, .none, .none, .none, .bool false, .none] }
  dbig : h.objs.size ≤ dx
  dne : dx ≠ x
  ns : h'.Ns1 dx m
/-- the globals stand -/
structure Gm (h : Heap) (mg : Str → Option Value) : Prop where
  g : h.Ns mainGlobals mg
  b : ∃ mb, h.Ns builtinsNs mb ∧ ∀ x : Str, x ≠ "__name__" → mb x = bootBuiltins x
theorem Gm.keeps {h h' : Heap} {mg : Str → Option Value} (G : Gm h mg) (k : ∀ b o, h.get? b = some o → h'.get? b = some o) : Gm h' mg := ⟨G.g.keeps k, by obtain ⟨mb, h1, h2⟩ := G.b; exact ⟨mb, h1.keeps k, h2⟩⟩
section
variable {prog : Program} {w : World} {A : Around} {E : Value → Shared → Prop} {R : Result → Shared → Prop} {s : Shared} {K : Frag} {mg : Str → Option Value} {C fI : Addr}
theorem mw_call {nm q : Str} {N : Addr} {bs bm : List Value} {sn : List Str} {sub : List Value} {ab : Bool} {col : Option Bool} {dd : Option Addr} {k0 k1 k2 k3 k5 : Option Value} {u e t0 : Addr} {rest : List Value} {Q : Value → Shared → Prop} (hbm : refsVE bm = true)
    (hC : s.heap.get? C = some (excClassObj nm q C N bs bm true sn sub ab col dd k0 k1 k2 k3 k5 "ValueError.__new__")) (he : s.heap.get? e = some (excO C t0)) (hu : s.heap.get? u = some (kxs_mw "ValueError.__init__" e)) (hrest : rest.length ≤ sizeLine)
    (hq : ∀ h' t1, (∀ b o, b ≠ e → s.heap.get? b = some o → h'.get? b = some o) → h'.get? e = some (excO C t1) → Q .none { s with heap := h' }) :
    wpAny (model prog w) A (call (.ref u) rest) Q E s := by
  obtain ⟨hh, g, d, tk, os⟩ := s
  refine wpAny_call (codeAny_of_tree ?_)
  show wpAny _ A.in1 (callAny (.ref u) ⟨rest, []⟩) _ _ _
  simp only [callAny]
  refine wpAny_bind (wpAny_load hu ?_)
  simp only [kxs_mw, show (Value.type "method-wrapper" == Value.type "method" || Value.type "method-wrapper" == Value.type "builtin_function_or_method" || Value.type "method-wrapper" == Value.type "method-wrapper") = true by decide, if_true]
  refine KFB.if_so (by decide) ?_
  refine wpAny_bind (check_bound_init F.excBase_ValueError.toExcCallFacts hC he rfl ?_)
  refine wpAny_bind (wpAny_pure (wpAny_pure ?_))
  refine ⟨plainId_quiet F.excBase_ValueError.init.plain _, codeAny_builtin F.excBase_ValueError.initEntry ?_⟩
  exact exc_init_tree (cls := .ref C) (t0 := t0) (dv := none) (c2 := .none) (c3 := .none) (b4 := .bool false) he hrest fun h' k e' t' => hq h' _ k e'
/-- super().__init__(text) is a call of a method, as its place tells -/
def SupEv (fI : Addr) (qual : Str) (sc : Scope) (m : Str) (q1 q2 q3 q4 q5 q6 : Pos) : Prop := ∀ (L cda cc : Addr), interactive (ksEnv qual sc L fI (.ref cda) cc) = false ∧ swapsWith (.Call (.Attribute (.Call (.Name "super" q1) [] [] q2) "__init__" q3) [.Constant (.str m) 0 q4] [] q5) none q6.line (ksEnv qual sc L fI (.ref cda) cc) = pure false ∧ ∃ pl : Sem Bool, eval (.Call (.Attribute (.Call (.Name "super" q1) [] [] q2) "__init__" q3) [.Constant (.str m) 0 q4] [] q5) (ksEnv qual sc L fI (.ref cda) cc) = (do
      let ov ← attributeBase (.Call (.Name "super" q1) [] [] q2) "__init__" (ksEnv qual sc L fI (.ref cda) cc) (eval (.Call (.Name "super" q1) [] [] q2) (ksEnv qual sc L fI (.ref cda) cc))
      standAt q3.atName
      let (f, first) ← holding [ov] (getMethod ov "__init__" pl)
      callWith q5 f first (backTo q5 (starEach [.Constant (.str m) 0 q4] (ksEnv qual sc L fI (.ref cda) cc))) [])
/-- up to behind super().__init__(text) -/
theorem xsup {qual : Str} {ar : Arguments} {bd : List Stmt} {sc : Scope} {m : Str} {q1 q2 q3 q4 q5 q6 : Pos} (T : XCl prog K mg C fI) (U : XFn prog K C fI qual ar (iSup m q1 q2 q3 q4 q5 q6 :: bd) sc) {x t0 : Addr} {args : List Value} {binds : List (Str × Value)} {a0 : Arg} (X : K.In s.heap) (G : Gm s.heap mg) (hlim : s.heap.NoLimit) (hx : s.heap.get? x = some (excO C t0)) (hroom : A.depth < recursionLimit)
    (hb : ∀ (dV kV doc pm : Value) (an : Option Addr) (cdv ct : Value) (cc : Addr), dV = .none → BindsTo s (ksFn "__init__" qual ar (iSup m q1 q2 q3 q4 q5 q6 :: bd) sc dV kV doc pm an cdv ct cc) ⟨args, []⟩ binds) (hcell : ∀ x ∈ sc.names, x.2 ≠ .cell) (hloc : ∀ y ∈ binds, sc.names.lookup y.1 = some .local)
    (hp : (ar.posonlyargs ++ ar.args).head? = some a0) (hself : a0.arg = "self") (hv : binds.reverse.lookup ("self" : Str) = some (.ref x)) (hks : sc.names.lookup ("super" : Str) = some .globalImplicit) (hkc : sc.names.lookup ("__class__" : Str) = some .free) (hka : sc.names.lookup ("self" : Str) = some .local) (hk : sc.kind = .function) (hco : sc.isCoroutine = false) (hgen : sc.isGenerator = false) (hev : SupEv fI qual sc m q1 q2 q3 q4 q5 q6)
    (hq : ∀ h' tk t1 L cdv cc E', (∀ b o, b ≠ x → s.heap.get? b = some o → h'.get? b = some o) → h'.get? x = some (excO C t1) → s.heap.objs.size < h'.objs.size → h'.Ns L (fun y => binds.reverse.lookup y) →
      wpAny (model prog w) (A.deeper (ksEnv qual sc L fI cdv cc)) (execs bd (ksEnv qual sc L fI cdv cc)) (fun f s' => R (.ok (.ret (match f with | .ret v => v | _ => .none))) s') E' { s with heap := h', toks := tk }) :
    codeAny (model prog w) A (.call (.ref fI) ⟨args, []⟩) R s := by
  obtain ⟨oc, od, doc, pm, dV, kV, an, ct, osl, cda, cc, ccl, cl, cdd, cld, vs, file, tf, ccs, csl, ho, hcd, hco1, hvs, hfile, hcl1, hdV⟩ := U.fn
  obtain ⟨nm, q, N, bs, bm, sn, sub, ab, col, dd, k0, k1, k2, k3, k5, hC, hbm⟩ := T.cls
  refine ks_codeAny_call_defAt (fd := ksFn "__init__" qual ar (iSup m q1 q2 q3 q4 q5 q6 :: bd) sc dV kV doc pm an (.ref cda) ct cc) (body := iSup m q1 q2 q3 q4 q5 q6 :: bd) (binds := binds) hroom (X _ _ ho) rfl hlim (codeRec_of X hcd) rfl (hb _ _ _ _ _ _ _ _ hdV) hcell hloc (fun h₁ hns k => ?_) hco hgen hk
  have X₁ : K.In h₁ := X.keeps k
  have G₁ := G.keeps k
  have hx₁ := k _ _ hx
  have hC₁ := X₁ _ _ hC
  have hxC : x ≠ C := fun z => by
    rw [z] at hx₁
    have := hx₁.symm.trans hC₁
    cases this
  obtain ⟨mb, hmb, hmb2⟩ := G₁.b
  show _root_.PySem.wpAt (model prog w) (A.deeper (ksEnv qual sc s.heap.objs.size fI (.ref cda) cc)) (.func (iSup m q1 q2 q3 q4 q5 q6 :: bd) (ksEnv qual sc s.heap.objs.size fI (.ref cda) cc)) (execs (iSup m q1 q2 q3 q4 q5 q6 :: bd) (ksEnv qual sc s.heap.objs.size fI (.ref cda) cc)) _ _ _
  obtain ⟨hi1, hs1, pl, hpl⟩ := hev s.heap.objs.size cda cc
  refine ks_wpAt_execs_cons (ks_wpAt_Expr_any (ks_wpAt_MethodCall ?_ hpl) hi1 hs1)
  refine ks_wpAt_super_base (env := ksEnv qual sc s.heap.objs.size fI (.ref cda) cc) hks hkc (by decide) rfl (X₁ _ _ ho) rfl hp rfl (X₁ _ _ hco1) rfl hvs hfile T.top ?_
  refine ks_loadName_global hk hks (loadGlobal_builtin (env := ksEnv qual sc s.heap.objs.size fI (.ref cda) cc) G₁.g T.sup hmb ((hmb2 _ (by decide)).trans (by first | boot_by_name | rfl | kernel_rfl)) ⟨rfl, ?_⟩)
  refine wpAny_loadName_free hk hkc rfl ⟨_, X₁ _ _ hcl1, rfl⟩ ?_
  refine wpAny_loadName_local (v := .ref x) hk (by rw [hself]; exact hka) hns (by rw [hself]; exact hv) ?_
  refine ks_wpAny_isType_cls hC₁ rfl ⟨rfl, ?_⟩
  refine ks_wpAny_call_super hC₁ rfl hx₁ rfl (fun c e => by cases e) (looks_mroIn X₁ T.ms) (fun h₂ hso k₂ => ?_)
  have X₂ : K.In h₂ := X₁.keeps k₂
  have hx₂ := k₂ _ _ hx₁
  have hI : Looks (model prog w) h₂ (isInstance (.ref x) (.type "ValueError")) true := (show W.InstAt h₂ x (excO C t0) C none from ⟨hx₂, rfl, rfl, trivial⟩).type.andThen (looks_subIn X₂ T.vE)
  have hsu := T.su
  have hcl : clsIn K C = some { name := nm, bases := bs, mro := .ref C :: bm, ns := N, qualname := q, hasDict := true, slotNames := sn, subclasses := sub, abstract := ab, collection := col, hasDel := false } := by unfold clsIn; rw [hC] <;> rfl
  unfold ks_superIn at hsu
  rw [hcl] at hsu
  refine kxs_getMethod kxs_ValueError hso (looks_opaque X₂ T.op) (l₀ := .ref C :: bm) (fun A Q E s k q => wpAny_bind ((looks_clsIn X₂ hcl) A _ E s k (wpAny_pure q))) rfl X₂ hsu hI hxC (by decide) ?_
  have k₃ : ∀ b o, h₂.get? b = some o → (h₂.push (kxs_mw "ValueError.__init__" x)).get? b = some o := fun b o e => Heap.get?_push_of_some _ e
  refine kxs_callWith (i := "ValueError.__init__") (x := x) rfl (evalArgs_plain (spliced_cons (Calls.Constant_str (k := 0) (pos := q4) (spliced_nil ⟨show Heap.get? _ _ = _ from Heap.get?_push_at rfl rfl, ?_⟩))))
  refine mw_call (s := ⟨h₂.push (kxs_mw "ValueError.__init__" x), _, _, _, _⟩) hbm (k₃ _ _ (k₂ _ _ hC₁)) (k₃ _ _ hx₂) (Heap.get?_push_at rfl rfl) (by show 1 ≤ sizeLine; rw [sizeLine_eq]; omega) fun h₄ t1 k₄ hx₄ => ?_
  refine wpAt_of_wpAny ?_
  obtain ⟨oL, es, ep, hL, r⟩ := hns
  have hLx : s.heap.objs.size ≠ x := Nat.ne_of_gt (Heap.lt_size hx)
  have hL4 := k₄ _ _ hLx (k₃ _ _ (k₂ _ _ hL))
  exact hq h₄ _ t1 s.heap.objs.size (.ref cda) cc _ (fun b o hb e => k₄ b o hb (k₃ _ _ (k₂ _ _ (k b o e)))) hx₄ (Heap.lt_size hL4) ⟨oL, es, ep, hL4, r⟩
end
end DLX
end PySem

set_option maxHeartbeats 4000000
namespace PySem
namespace DLX
open PySem.W PySem.Calls PyProof.Rows PySem.HandSPX
/-- what __init__ does with the arguments us: the fields are m's -/
def InitOk (prog : Program) (w : World) (K : Frag) (mg : Str → Option Value) (C fI : Addr) (us : List Value) (m : Str → Option Value) : Prop := ∀ {A : Around} {R : Result → Shared → Prop} {s : Shared} {x t0 : Addr}, K.In s.heap → Gm s.heap mg → s.heap.NoLimit → s.heap.get? x = some (excO C t0) → K.lookup x = none → A.depth < recursionLimit →
  (∀ h' tk dx t1, InitEnd s.heap h' x C dx t1 m → R (.ok (.ret .none)) { s with heap := h', toks := tk }) → codeAny (model prog w) A (.call (.ref fI) ⟨.ref x :: us, []⟩) R s
section
variable {prog : Program} {w : World} {K : Frag} {mg : Str → Option Value} {C fI : Addr}
theorem ldK {M : Model} {A : Around} {E : Value → Shared → Prop} {s : Shared} {q : Str} {sc : Scope} {L a cc : Addr} {cd : Value} {m : Str → Option Value} {x : Str} {pos : Pos} {v : Value} {Q : Value → Shared → Prop} (hk : sc.kind = .function) (hl : sc.names.lookup x = some .local) (hn : s.heap.Ns L m) (hv : m x = some v) (h : Q v s)
    (hd : (x == ("__debug__" : Str)) = false) : wpAny M A (eval (.Name x pos) (ksEnv q sc L a cd cc)) Q E s := wpAny_Name (wpAny_loadName_local (env := ksEnv q sc L a cd cc) hk hl hn hv h) hd
theorem xinit1 {qual f m : Str} {ar : Arguments} {a0 : Arg} {q1 q2 q3 q4 q5 q6 r1 r2 r3 r4 : Pos} (T : XCl prog K mg C fI) (U : XFn prog K C fI qual ar (iSup m q1 q2 q3 q4 q5 q6 :: [iSto f r1 r2 r3 r4]) (iS1 f)) (hev : SupEv fI qual (iS1 f) m q1 q2 q3 q4 q5 q6) (hno : findIn K (.ref C) f = some none) (v : Value)
    (hb : ∀ (s : Shared) (x : Addr) (dV kV doc pm : Value) (an : Option Addr) (cdv ct : Value) (cc : Addr), dV = .none → BindsTo s (ksFn "__init__" qual ar (iSup m q1 q2 q3 q4 q5 q6 :: [iSto f r1 r2 r3 r4]) (iS1 f) dV kV doc pm an cdv ct cc) ⟨[.ref x, v], []⟩ [("self", .ref x), (f, v)])
    (hp : (ar.posonlyargs ++ ar.args).head? = some a0) (hself : a0.arg = "self") (hfs : (("self" : Str) == f) = false) (hfd : (f == ("__debug__" : Str)) = false) (hfl : (iS1 f).names.lookup f = some .local) (hks : (iS1 f).names.lookup ("super" : Str) = some .globalImplicit) (hkc : (iS1 f).names.lookup ("__class__" : Str) = some .free)
    (hsw : ∀ (L cc : Addr) (cd : Value), swapsWith (.Name f r3) (some (.Attribute (.Name "self" r1) f r2)) r4.line (ksEnv qual (iS1 f) L fI cd cc) = pure false) : InitOk prog w K mg C fI [v] (fun y => if y = f then some v else none) := by
  intro A R s x t0 X G hlim hx hnx hroom hq
  have hfs' : f ≠ "self" := fun z => by rw [z] at hfs; revert hfs; decide
  have lkf : ([((("self" : Str)), Value.ref x), (f, v)].reverse).lookup f = some v := by simp [List.lookup]
  have lks : ([((("self" : Str)), Value.ref x), (f, v)].reverse).lookup ("self" : Str) = some (.ref x) := by simp [List.lookup, hfs]
  obtain ⟨nm, q, N, bs, bm, sn, sub, ab, col, dd, k0, k1, k2, k3, k5, hC, hbm⟩ := T.cls
  have hcl : clsIn K C = some { name := nm, bases := bs, mro := .ref C :: bm, ns := N, qualname := q, hasDict := true, slotNames := sn, subclasses := sub, abstract := ab, collection := col, hasDel := false } := by unfold clsIn; rw [hC] <;> rfl
  refine xsup T U X G hlim hx hroom (fun dV kV doc pm an cdv ct cc e => hb s x dV kV doc pm an cdv ct cc e) (by unfold iS1; simp) (fun y hy => ?_) hp hself lks hks hkc rfl rfl rfl rfl hev (fun h' tk t1 L cdv cc E' k hx1 hsz hns => ?_)
  · rcases List.mem_cons.mp hy with z | z
    · rw [z]; rfl
    · rw [List.mem_singleton.mp z]; exact hfl
  · have X' : K.In h' := fun a o e => k a o (fun z => by rw [z, hnx] at e; cases e) (X a o e)
    refine wpAny_execs_cons (plainObj_wpAny_Assign_Attribute ?_ (hsw _ _ _))
    refine ldK (v := v) rfl hfl hns lkf (ldK (v := .ref x) rfl rfl hns lks ?_ (by decide)) hfd
    refine set_plain X' (ox := excO C t1) (od := none) ⟨hx1, rfl, rfl, trivial⟩ T.sa ?_
    refine exc_osa X' hx1 hcl (show refsVE (.ref C :: bm) = true from hbm) rfl hno (fun h₃ tk₃ dx k₃ dn dne hx₃ hn₃ => ?_)
    exact wpAny_execs_nil (hq h₃ tk₃ dx t1 ⟨fun b o hb e => k₃ b o hb (k b o hb e), hx₃, Nat.le_of_lt (Nat.lt_of_lt_of_le hsz dn), dne, hn₃⟩)
theorem xinit2 {qual f g m : Str} {ar : Arguments} {a0 : Arg} {q1 q2 q3 q4 q5 q6 r1 r2 r3 r4 u1 u2 u3 u4 : Pos} (T : XCl prog K mg C fI) (U : XFn prog K C fI qual ar (iSup m q1 q2 q3 q4 q5 q6 :: [iSto f r1 r2 r3 r4, iSto g u1 u2 u3 u4]) (iS2 f g)) (hev : SupEv fI qual (iS2 f g) m q1 q2 q3 q4 q5 q6) (hno : findIn K (.ref C) f = some none) (hno2 : findIn K (.ref C) g = some none) (v v2 : Value)
    (hb : ∀ (s : Shared) (x : Addr) (dV kV doc pm : Value) (an : Option Addr) (cdv ct : Value) (cc : Addr), dV = .none → BindsTo s (ksFn "__init__" qual ar (iSup m q1 q2 q3 q4 q5 q6 :: [iSto f r1 r2 r3 r4, iSto g u1 u2 u3 u4]) (iS2 f g) dV kV doc pm an cdv ct cc) ⟨[.ref x, v, v2], []⟩ [("self", .ref x), (f, v), (g, v2)])
    (hp : (ar.posonlyargs ++ ar.args).head? = some a0) (hself : a0.arg = "self") (hfs : (("self" : Str) == f) = false) (hgs : (("self" : Str) == g) = false) (hgf : (f == g) = false) (hfd : (f == ("__debug__" : Str)) = false) (hgd : (g == ("__debug__" : Str)) = false) (hfl : (iS2 f g).names.lookup f = some .local) (hgl : (iS2 f g).names.lookup g = some .local) (hks : (iS2 f g).names.lookup ("super" : Str) = some .globalImplicit) (hkc : (iS2 f g).names.lookup ("__class__" : Str) = some .free)
    (hsw : ∀ (L cc : Addr) (cd : Value), swapsWith (.Name f r3) (some (.Attribute (.Name "self" r1) f r2)) r4.line (ksEnv qual (iS2 f g) L fI cd cc) = pure false) (hsw2 : ∀ (L cc : Addr) (cd : Value), swapsWith (.Name g u3) (some (.Attribute (.Name "self" u1) g u2)) u4.line (ksEnv qual (iS2 f g) L fI cd cc) = pure false) :
    InitOk prog w K mg C fI [v, v2] (fun y => if y = g then some v2 else if y = f then some v else none) := by
  intro A R s x t0 X G hlim hx hnx hroom hq
  have lkg : ([((("self" : Str)), Value.ref x), (f, v), (g, v2)].reverse).lookup g = some v2 := by simp [List.lookup]
  have lkf : ([((("self" : Str)), Value.ref x), (f, v), (g, v2)].reverse).lookup f = some v := by simp [List.lookup, hgf]
  have lks : ([((("self" : Str)), Value.ref x), (f, v), (g, v2)].reverse).lookup ("self" : Str) = some (.ref x) := by simp [List.lookup, hfs, hgs]
  obtain ⟨nm, q, N, bs, bm, sn, sub, ab, col, dd, k0, k1, k2, k3, k5, hC, hbm⟩ := T.cls
  have hcl : clsIn K C = some { name := nm, bases := bs, mro := .ref C :: bm, ns := N, qualname := q, hasDict := true, slotNames := sn, subclasses := sub, abstract := ab, collection := col, hasDel := false } := by unfold clsIn; rw [hC] <;> rfl
  refine xsup T U X G hlim hx hroom (fun dV kV doc pm an cdv ct cc e => hb s x dV kV doc pm an cdv ct cc e) (by unfold iS2; simp) (fun y hy => ?_) hp hself lks hks hkc rfl rfl rfl rfl hev (fun h' tk t1 L cdv cc E' k hx1 hsz hns => ?_)
  · rcases List.mem_cons.mp hy with z | z
    · rw [z]; rfl
    · rcases List.mem_cons.mp z with z | z
      · rw [z]; exact hfl
      · rw [List.mem_singleton.mp z]; exact hgl
  · have X' : K.In h' := fun a o e => k a o (fun z => by rw [z, hnx] at e; cases e) (X a o e)
    refine wpAny_execs_cons (plainObj_wpAny_Assign_Attribute ?_ (hsw _ _ _))
    refine ldK (v := v) rfl hfl hns lkf (ldK (v := .ref x) rfl rfl hns lks ?_ (by decide)) hfd
    refine set_plain X' (ox := excO C t1) (od := none) ⟨hx1, rfl, rfl, trivial⟩ T.sa ?_
    refine exc_osa X' hx1 hcl (show refsVE (.ref C :: bm) = true from hbm) rfl hno (fun h₃ tk₃ dx k₃ dn dne hx₃ hn₃ => ?_)
    have X3 : K.In h₃ := fun a o e => k₃ a o (fun z => by rw [z, hnx] at e; cases e) (X' a o e)
    obtain ⟨oL, es, ep, hL, r⟩ := hns
    have hLx : L ≠ x := fun z => by
      rw [z, hx1] at hL
      have := Option.some.inj hL
      subst this
      cases r.1
    have hns3 : h₃.Ns L (fun y => [((("self" : Str)), Value.ref x), (f, v), (g, v2)].reverse.lookup y) := ⟨oL, es, ep, k₃ _ _ hLx hL, r⟩
    refine wpAny_execs_cons (plainObj_wpAny_Assign_Attribute ?_ (hsw2 _ _ _))
    refine ldK (v := v2) rfl hgl hns3 lkg (ldK (v := .ref x) rfl rfl hns3 lks ?_ (by decide)) hgd
    have hw : Within (fun y => if y = f then some v else none) [f] := fun y hy => by
      by_cases z : y = f
      · rw [z]; exact List.mem_cons_self ..
      · exact absurd (show (if y = f then some v else none) = none by rw [if_neg z]) hy
    obtain ⟨oD, _, _, hoD, _, _⟩ := hn₃.count hw
    refine set_plain X3 (ox := { cls := .ref C, dict := some dx, data := .fields #[.ref t1, .none, .none, .none, .bool false, .none] }) (od := some oD) ⟨hx₃, rfl, rfl, hoD⟩ T.sa ?_
    refine PySem.OEX.osa_old X3 hx₃ hn₃ hw (by simp) hcl (show refsVE (.ref C :: bm) = true from hbm) rfl hno2 (fun h4 tk4 k4 hn4 => ?_)
    exact wpAny_execs_nil (hq h4 tk4 dx t1 ⟨fun b o hb e => by
      by_cases z : b = dx
      · rw [z] at e
        exact absurd (Heap.lt_size e) (Nat.not_lt.mpr (Nat.le_of_lt (Nat.lt_of_lt_of_le hsz dn)))
      · exact k4 b o z (k₃ b o hb (k b o hb e)), k4 x _ (Ne.symm dne) hx₃, Nat.le_of_lt (Nat.lt_of_lt_of_le hsz dn), dne, hn4⟩)
/-- a made exception -/
structure OwnMade (h h' : Heap) (e C d : Addr) (m : Str → Option Value) : Prop where
  keep : ∀ b o, h.get? b = some o → h'.get? b = some o
  new : h.objs.size ≤ e
  obj : ∃ oe vs, h'.get? e = some oe ∧ oe.cls = .ref C ∧ oe.dict = some d ∧ oe.data = .fields vs ∧ vs[1]? = some .none
  dbig : h.objs.size ≤ d
  dne : d ≠ e
  ns : h'.Ns1 d m
theorem xmade {A : Around} {R : Result → Shared → Prop} {s : Shared} (T : XCl prog K mg C fI) {us : List Value} {m : Str → Option Value} (hI : InitOk prog w K mg C fI us m) (X : K.In s.heap) (G : Gm s.heap mg) (hlim : s.heap.NoLimit) (hroom : A.depth + 1 < recursionLimit) (hus : us.length ≤ sizeLine)
    (hq : ∀ h' tk e d, OwnMade s.heap h' e C d m → R (.ok (.ret (.ref e))) { s with heap := h', toks := tk }) : codeAny (model prog w) A (.call (.ref C) ⟨us, []⟩) R s := by
  obtain ⟨nm, q, N, bs, bm, sn, sub, ab, col, dd, k0, k1, k2, k3, k5, hC, hbm⟩ := T.cls
  obtain ⟨hp, g, dr, tk, os⟩ := s
  have k : ∀ b o, hp.get? b = some o → ((hp.push (kdv_tup us)).push (excO C hp.objs.size)).get? b = some o := fun b o e => Heap.get?_push_of_some _ (Heap.get?_push_of_some _ e)
  have hget : ((hp.push (kdv_tup us)).push (excO C hp.objs.size)).get? (hp.objs.size + 1) = some (excO C hp.objs.size) := by heap_get
  have hnx : K.lookup (hp.objs.size + 1) = none := by
    cases e : K.lookup (hp.objs.size + 1) with
    | none => rfl
    | some o =>
      have z : hp.get? (hp.objs.size + 1) = some o := X _ _ e
      exact absurd (Nat.lt_of_succ_lt (Heap.lt_size z)) (Nat.lt_irrefl _)
  refine call_own F.excBase_ValueError (fun X => refsVE_contains X bm hbm) (X _ _ hC) (looks_findIn X T.iC) (fun self => bind_fn X self T.tC) hus ?_
  refine hI (s := ⟨(hp.push (kdv_tup us)).push (excO C hp.objs.size), g, dr, tk, os⟩) (X.keeps k) (G.keeps k) (hlim.keeps k) hget hnx ?_ fun h' tk' dx t1 ⟨k', hx, dn, dne, hns⟩ => ?_
  · show A.depth + 1 < recursionLimit
    exact hroom
  · have old : ∀ b o, hp.get? b = some o → h'.get? b = some o := fun b o e => k' b o (Nat.ne_of_lt (Nat.lt_succ_of_lt (Heap.lt_size e))) (k b o e)
    have z : hp.objs.size + 1 + 1 ≤ dx := by
      first
        | (simpa only [Heap.size_push] using dn)
        | exact dn
        | (have q := dn; rw [Heap.size_push, Heap.size_push] at q; exact q)
    exact ⟨rfl, hq h' tk' (hp.objs.size + 1) dx ⟨old, Nat.le_succ _, ⟨_, _, hx, rfl, rfl, rfl, rfl⟩, Nat.le_trans (Nat.le_trans (Nat.le_succ _) (Nat.le_succ _)) z, dne, hns⟩⟩
end
end DLX
end PySem

set_option maxHeartbeats 4000000
namespace DL
open PySem PySem.Spec PyProof.Rows L2
/-- an exception class with an own __init__ that keeps the fields ns -/
structure XMk (prog : Program) (K : PySem.W.Frag) (mg : Str → Option Value) (C : Addr) (ns : List Str) : Prop where
  ex : ∃ fI, PySem.DLX.XCl prog K mg C fI ∧ ∀ (w : World) (us : List Value), us.length = ns.length → PySem.DLX.InitOk prog w K mg C fI us (fun y => (ns.zip us).lookup y)
theorem relO_zip {f : Str} : ∀ {ns : List Str} {vs : List V} {us : List Value}, Vals vs us → RelO ((ns.zip vs).lookup f) ((ns.zip us).lookup f)
  | [], _, _, _ => True.intro
  | _ :: _, _, _, .nil => True.intro
  | n :: ns, v :: vs, u :: us, .cons r t => by
    rw [List.zip_cons_cons, List.zip_cons_cons]
    cases e : f == n with
    | true => simp only [List.lookup, e]; exact r
    | false => simp only [List.lookup, e]; exact relO_zip t
section
variable {X : Cx} {C : Addr} {x : Str} {p pos : Pos} {e : Expr} {es : List Expr} {ta : TA} {ns : List Str}
def tMkX (C : Addr) (ns : List Str) (ta : TA) : L2.St → Hp → XK → Prop := fun σ H Q => ta σ H fun vs H1 => vs.length = ns.length ∧ ∀ d, H1 d = none → Q (.ref C) (some d) (upd H1 d (.xd (ns.zip vs)))
theorem pmk_x {k : Nat} (T : XMk X.prog X.K X.mg C ns) (hl : ns.length ≤ 1000) (hr : Room (k + 1) X.A) (hm : X.mg x = some (.ref C)) (ha : PA X (e :: es) ta) (hg : Gl X x) (hdb : (x == ("__debug__" : Str)) = false)
    (he : starEach (e :: es) X.env = (false, eval e X.env) :: starEach es X.env := by rfl) (hpl : (backTo pos (starEach es X.env)).any (·.1) = false := by rfl) :
    PMk X (.Call (.Name x p) (e :: es) [] pos) (tMkX C ns ta) := by
  intro pins s σ H Q I h
  obtain ⟨fI, T, ini⟩ := T.ex
  refine wpAny_Call_Name_kw (ld_glob I hg hm ?_ hdb)
  refine PySem.W.callWith_K (h₀ := X.base) I.ok.mod.kin T.kC (thn (ha.run pos pins s σ H _ I h) fun us s1 hh => ?_) he hpl
  obtain ⟨vs, H1, I1, r1, hvl, q1⟩ := hh
  refine ⟨I1.kIn, ?_⟩
  show wpAny _ _ (call (.ref C) us) _ _ _
  have hlim := I1.nolimit
  have hul : us.length = ns.length := by rw [← r1.length]; exact hvl
  have hG : PySem.DLX.Gm s1.heap X.mg := ⟨I1.mod.glob.keeps I1.bk, by obtain ⟨mb, h1, h2⟩ := I1.mod.blt; exact ⟨mb, h1.keeps I1.bk, h2⟩⟩
  obtain ⟨hp, g, dr, tk, os⟩ := s1
  refine wpAny_call (PySem.DLX.xmade T (ini X.w us hul) I1.kIn hG hlim (by have := hr.dp; omega) (by rw [hul, sizeLine_eq]; omega) fun h' tk' e d M => ?_)
  show MkP X pins σ Q (.ref e) ⟨h', g, dr, tk', os⟩
  obtain ⟨oe, fv, hoe, hc, hd, hdat, h1⟩ := M.obj
  have hns := M.ns
  obtain ⟨G', g1, g2⟩ := restrict h' fun b => decide (b ≠ e)
  have gk : ∀ b, b ≠ e → G'.get? b = h'.get? b := fun b hb => g1 b (decide_eq_true hb)
  have ge : G'.get? e = none := g2 e (by simp)
  have old : ∀ b o, hp.get? b = some o → G'.get? b = some o := fun b o q => (gk b (Nat.ne_of_lt (Nat.lt_of_lt_of_le (Heap.lt_size q) M.new))).trans (M.keep b o q)
  have ob : ObjOk X.prog X.w (upd H1 d (.xd (ns.zip vs))) G' d (.xd (ns.zip vs)) := ⟨_, hns.at (fun o q => (gk d M.dne).trans q), fun f => relO_zip r1⟩
  have J : Inv X pins σ (upd H1 d (.xd (ns.zip vs))) ⟨G', g, dr, tk', os⟩ := I1.laid (t' := tk') old M.dbig ob
  refine ⟨e, oe, fv, ⟨G', g, dr, tk', os⟩, _, .ref C, some d, rfl, J, fun b o q => ?_, ge, hoe, ⟨hc, hd⟩, hdat, h1, ?_, rfl, I1.bare, raises_own T.exC T.tyC, q1 d (I1.hok.fresh M.dbig)⟩
  · by_cases hb : b = e
    · have q' : G'.get? b = some o := q
      rw [hb, ge] at q'; cases q'
    · exact (gk b hb).symm.trans q
  · rw [upd_ne (Ne.symm M.dne)]
    exact I1.hok.fresh M.new
/-- an exception class without own __init__ -/
structure XMk0 (K : PySem.W.Frag) (C : Addr) : Prop where
  ei : PySem.W.excIn K C PySem.HandSPX.veTail "ValueError.__new__" = true
  kC : PySem.W.keepIn K (.ref C) = true
  exC : PySem.W.subIn K (.ref C) (.type "BaseException") = some true
  tyC : PySem.W.typeIn K (.ref C) = some (.type "type")
theorem pmk_x0 (T : XMk0 X.K C) (hm : X.mg x = some (.ref C)) (hg : Gl X x) (hdb : (x == ("__debug__" : Str)) = false) : PMk X (.Call (.Name x p) [] [] pos) (fun _ H Q => Q (.ref C) none H) := by
  intro pins s σ H Q I h
  refine wpAny_Call_Name_kw (ld_glob I hg hm ?_ hdb)
  refine PySem.W.callWith_K0 I.kIn T.kC ?_
  show wpAny _ _ (call (.ref C) []) _ _ _
  obtain ⟨bm, N, nm, qn, bs, hdct, sn, sub, ab, col, dd, k0, k1, k2, k3, k5, mN, hC, hN, hni, OT⟩ := exc_obj I.kIn T.ei
  exact wpAny_call_exc_subT F.excBase_ValueError OT hC hN hni (fun h' e hm => mk_of I hm (raises_own T.exC T.tyC) h (I.hok.gone hm.new)) (Nat.zero_le _)
end
section
variable {g : Gx} {W : WX} {X : Cx} {x : Str} {p pos pos2 : Pos} {e : Expr} {es : List Expr} {m : M (List D)}
def mRaise (k : Nat) (ns : List Str) (m : M (List D)) : MS := mBS m fun ds => fun σd S => if ds.length = ns.length then .exc k ns ds σd S else .bad
theorem ss_raise {k j : Nat} {ns : List Str} (hc : X.calm = true) (tk : Takes X W) (T : XMk X.prog X.K X.mg (g.G k) ns) (hl : ns.length ≤ 1000) (hr : Room (j + 1) X.A) (hm : X.mg x = some (.ref (g.G k))) (ha : PA X (e :: es) (rdA g W m)) (hg : Gl X x := by rfl) (hdb : (x == ("__debug__" : Str)) = false := by decide)
    (he : starEach (e :: es) X.env = (false, eval e X.env) :: starEach es X.env := by rfl) (hpl : (backTo pos (starEach es X.env)).any (·.1) = false := by rfl) :
    PS X (.Raise (some (.Call (.Name x p) (e :: es) [] pos)) none pos2) (rdS g W (mRaise k ns m)) :=
  PS.imp (ps_raise hc tk (pmk_x T hl hr hm ha hg hdb he hpl)) fun J σ H ⟨B, O, S, σd, r, q⟩ => rdG_mono (rdS_then (rel := RDs) r q) fun vs H1 ⟨ds, O1, S1, r1, rx, st1, p1⟩ => by
    split at p1
    · next hd =>
      refine ⟨by rw [← rx.length]; exact hd, fun d n => ?_⟩
      exact p1 (some d) σ O1 _ (r1.new n) (.inr ⟨d, vs, rfl, r1.fresh n, upd_same, by rw [← rx.length]; exact hd.symm, RDs.step (c := ⟨g.K, g.G, B, O1⟩) (O' := O1) (Step.new n) ds vs rx⟩) (Step.new n)
    · exact p1.elim
theorem ss_raise0 {k : Nat} (hc : X.calm = true) (tk : Takes X W) (T : XMk0 X.K (g.G k)) (hm : X.mg x = some (.ref (g.G k))) (hg : Gl X x := by rfl) (hdb : (x == ("__debug__" : Str)) = false := by decide) :
    PS X (.Raise (some (.Call (.Name x p) [] [] pos)) none pos2) (rdS g W (mRaise k [] mNil)) :=
  PS.imp (ps_raise hc tk (pmk_x0 T hm hg hdb)) fun J σ H ⟨B, O, S, σd, r, q⟩ => q none σ O H r (.inl ⟨rfl, rfl, rfl⟩) (Step.refl _ _)
end
end DL

set_option maxHeartbeats 4000000
namespace L2
open PySem PySem.Spec PyProof.Rows
/-- the clauses of a try, each with its name -/
inductive PH (X : Cx) (Wout : WX) : List ExceptHandler → (Ends → WX) → Prop
  | nil : PH X Wout [] (fun _ => Wout)
  | cons {x n : Str} {c : Value} {i : Nat} {b₀ : Stmt} {suite : List Stmt} {np pos' : Pos} {ts : Addr → Value → Option Addr → TS} {hs : List ExceptHandler} {tw : Ends → WX} (hi : X.N[i]? = some n) (hln : X.env.kindOf n = some .local) (hc : Names X x c)
      (hsu : ∀ (a : Addr) (oe : Obj) (cls : Value) (d : Option Addr) (pn : List (Addr × Obj)), Zc cls d oe → (∃ vs, oe.data = .fields vs) → PSs (X.suite a ((a, oe) :: pn)) (b₀ :: suite) (ts a cls d))
      (rest : PH X Wout hs tw) : PH X Wout (.ExceptHandler (some (.Name x np)) (some n) (b₀ :: suite) pos' :: hs) (fun D => wAs X.K c i ts (tw D) D)
section
variable {X : Cx} {Wout : WX}
theorem hand_all {pins : List (Addr × Obj)} (hs : X.stack = X.env :: X.outer) (hf : X.env.frame = some X.env.locals) (hN : X.N.Nodup) (ok : X.Ok) (tk : Takes X Wout) {hh : List ExceptHandler} {tw : Ends → WX} (ph : PH X Wout hh tw) :
    ∀ {a : Addr} {B : Heap} {sI s3 : Shared} {σ' : St} {H' : Hp} {cls : Value} {d : Option Addr} {D : Ends}, Inv X pins σ' H' sI → (∀ b o, sI.heap.get? b = some o → b ∉ frs X.stack → B.get? b = some o) → sI.heap.UpToSlots s3.heap → HandSPX.FlyingZ B (X.env :: X.outer) a (Zc cls d) s3.heap → H' a = none → s3.os = sI.os → AllBare s3.gens → tw D cls d σ' H' →
      wpAny (model X.prog X.w) X.A (handleBy (.ref a) X.env hh) (SP X pins D) X.xe s3 := by
  induction ph with
  | nil =>
    intro a B sI s3 σ' H' cls d D J nb up fl3 na os ag hw
    refine wpAny_handleBy_nil ?_
    obtain ⟨k1, k2, k3, oe, vs, T, oT, ts', he, hz, hd, h1, hr⟩ := id fl3
    unfold PySem.passOn
    refine wpAny_bind (wpAny_field he hd h1 ?_)
    rw [if_neg (show ¬ ((Value.ref T == Value.none) = true) from by simp)]
    have fin : wpAny (model X.prog X.w) X.A (setFlight (.ref a) X.env.frame) (fun _ s4 => wpAny (model X.prog X.w) X.A (throw (.ref a) : Sem Flow) (SP X pins D) X.xe s4) X.xe s3 := by
      rw [hf]
      refine HandSPX.setFlight_upZ fl3 fun h4 hh4 up4 => wpAny_throw (tk _ _ ?_)
      exact ⟨a, B, sI, pins, σ', H', cls, d, rfl, J, nb, up.trans up4, .inr (.inr (by rw [hs]; exact hh4)), na, os, ag, hw⟩
    first
      | exact wpAny_bind (wpAny_pure (wpAny_bind fin))
      | exact wpAny_bind fin
  | @cons x n c i b₀ suite np pos' ts hs' tw' hi hln hc hsu rest ih =>
    intro a B sI s3 σ' H' cls d D J nb up fl3 na os ag hw
    obtain ⟨b, hb1, hyes, hno⟩ := hw
    have hloc : Loc X.env.scope n := .inl hln
    have J3 : Inv X pins σ' H' s3 := J.landed nb fl3.1 up os ag
    obtain ⟨oe3, vs3, he3, hz3, hd3⟩ := fl3.there
    have notFr : ∀ {h : Heap} {o : Obj} {vs : Array Value}, h.FunFrames B (X.env :: X.outer) → h.get? a = some o → o.data = .fields vs → a ∉ frs (X.env :: X.outer) := fun {h o vs} ff e dd hm => by
      obtain ⟨_, o', e', hnf⟩ := ff.mem hm
      rw [e] at e'; cases e'
      exact hnf _ dd
    have nfr := notFr fl3.2.2.1 he3 hd3
    have nL : a ≠ X.env.locals := fun z => nfr (List.mem_filterMap.mpr ⟨X.env, List.mem_cons_self, by rw [hf, z]⟩)
    have nF : a ∉ X.fs := fun hm => by
      obtain ⟨e, he, q⟩ := List.mem_filterMap.mp hm
      exact nfr (List.mem_filterMap.mpr ⟨e, List.mem_cons_of_mem _ he, q⟩)
    have S3 := J3.suite he3 hd3 na nL nF
    refine wpAny_handleBy_cons (codeAny_handlers_test ?_) (by intro q; cases q)
    have LT : PySem.W.Looks (model X.prog X.w) s3.heap (typeOf (.ref a)) cls := fun A Q E s k q => wpAny_typeOf_ref (k _ _ he3) (by rw [hz3.1]; exact q)
    have LM := PySem.W.exm_one (M := model X.prog X.w) (J3.kIn) LT hb1
    have test : ∀ {Q : Value → Shared → Prop} {E : Value → Shared → Prop}, Q c s3 → wpAny (model X.prog X.w) (X.A.mark (some (.ref a))) (eval (.Name x np) X.env) Q E s3 := fun {Q E} q => by
      obtain ⟨hg, hdbg, hm | ⟨hm, hv, hnn⟩⟩ := hc
      · exact ld_glob (X := X.suite a ((a, oe3) :: (X.pn ++ pins))) S3 hg hm q hdbg
      · exact ld_blt (X := X.suite a ((a, oe3) :: (X.pn ++ pins))) S3 hg hm hv q hnn hdbg
    refine test (LM.here ?_)
    cases b with
    | true =>
      refine codeAny_handlers_suite_as ?_
      refine HandSPX.lands_againZ fl3 fun h4 fl4 up4 => ?_
      have J4 : Inv X pins σ' H' { s3 with heap := h4 } := J.landed nb fl4.1 (up.trans up4) os ag
      obtain ⟨oe4, vs4, he4, hz4, hd4⟩ := fl4.there
      have S4 := J4.suite he4 hd4 na nL nF
      refine store_ok (X := X.suite a ((a, oe4) :: (X.pn ++ pins))) (v := .ref a) S4 hN hi hloc rfl (fun s5 S5 => ?_) (.inr hln)
      refine wpAny_mono ((hsu a oe4 cls d (X.pn ++ pins) hz4 ⟨_, hd4⟩).run [] s5 _ H' _ S5 (hyes rfl a na)) (fun f s6 hsp => ?_) (fun _ _ z => False.elim z)
      have end_ : ∀ {σ6 : St} {H6 : Hp} {Q : Shared → Prop}, Inv (X.suite a ((a, oe4) :: (X.pn ++ pins))) [] σ6 H6 s6 → (∀ s7, Inv X pins (σ6.set i none) H6 s7 → Q s7) →
          wpAny (model X.prog X.w) X.A (do bindName X.env n .none; unbindBehindTheSuite X.env n pos') (fun _ s7 => Q s7) X.xe s6 := fun {σ6 H6 Q} S6 hq => gone_ok (S6.unsuite ok) hN hi hln hq
      cases f with
      | next =>
        obtain ⟨σ6, H6, S6, q6⟩ := hsp
        exact end_ S6 fun s7 J7 => ⟨_, _, J7, q6⟩
      | brk =>
        obtain ⟨σ6, H6, S6, q6⟩ := hsp
        exact end_ S6 fun s7 J7 => ⟨_, _, J7, q6⟩
      | cont =>
        obtain ⟨σ6, H6, S6, q6⟩ := hsp
        exact end_ S6 fun s7 J7 => ⟨_, _, J7, q6⟩
      | ret u =>
        obtain ⟨v6, σ6, H6, S6, r6, q6⟩ := hsp
        exact end_ S6 fun s7 J7 => ⟨_, _, _, J7, r6, q6⟩
    | false => exact ih J nb up fl3 na os ag (hno rfl)
theorem ps_try_all {body : List Stmt} {pos : Pos} {tb : WX → TS} {h₀ : ExceptHandler} {hh : List ExceptHandler} {tw : Ends → WX} (hs : X.stack = X.env :: X.outer) (hf : X.env.frame = some X.env.locals) (hN : X.N.Nodup) (tk : Takes X Wout)
    (hb : ∀ (W : WX) (pn : List (Addr × Obj)) (xe : Value → Shared → Prop), Takes (X.tr pn xe) W → PassesOwn (model X.prog X.w) X.A X.env xe → PSs (X.tr pn xe) body (tb W))
    (ph : PH X Wout (h₀ :: hh) tw) : PS X (.Try body (h₀ :: hh) [] [] pos) (fun D σ H => tb (tw D) D σ H) := by
  refine ⟨fun pins s σ H D I h => ?_⟩
  have ok := I.ok
  have hfr : X.A.frames = some (X.env :: X.outer) := by rw [ok.frames, hs]
  refine wpAny_Try_except ?_
  refine wpAny_mono ((hb (tw D) (X.pn ++ pins) (fun e s₁ => wpAny (model X.prog X.w) X.A (noteFrame e X.env) (fun _ s₂ => wpAny (model X.prog X.w) X.A (setFlight e none) (fun _ s₃ =>
    wpAny (model X.prog X.w) X.A (handleBy e X.env (h₀ :: hh)) (SP X pins D) X.xe s₃) X.xe s₂) X.xe s₁) (fun u s' xx => ?_) PassesOwn.looking).run [] s σ H D (I.toTry _) h) (fun f s1 hsp => ?_) (fun e s1 he => he)
  · obtain ⟨a, B, sI, pins', σ', H', cls, d, rfl, J', nb, up, sky, na, os, ag, hw⟩ := xx
    have J : Inv X pins σ' H' sI := J'.ofTry ok
    have sky' : Sky B (X.env :: X.outer) a (Zc cls d) X.env.locals s'.heap := by rw [← hs]; exact sky
    show wpAny (model X.prog X.w) X.A (noteFrame (.ref a) X.env) _ _ _
    refine Sky.land Zc.steady hfr hf sky' fun h3 fl3 up3 => ?_
    exact hand_all hs hf hN ok tk ph J nb (up.trans up3) fl3 na os ag hw
  · cases f with
    | next =>
      obtain ⟨σ', H', J', q⟩ := hsp
      exact wpAny_execs_nil ⟨σ', H', J'.ofTry ok, q⟩
    | brk =>
      obtain ⟨σ', H', J', q⟩ := hsp
      exact ⟨σ', H', J'.ofTry ok, q⟩
    | cont =>
      obtain ⟨σ', H', J', q⟩ := hsp
      exact ⟨σ', H', J'.ofTry ok, q⟩
    | ret u =>
      obtain ⟨v, σ', H', J', r, q⟩ := hsp
      exact ⟨v, σ', H', J'.ofTry ok, r, q⟩
end
end L2

set_option maxHeartbeats 4000000
namespace DL
open PySem PySem.Spec PyProof.Rows L2
/-- a clause: which classes it takes, the slot of its name, its suite -/
structure Cla where
  hit : Nat → Option Bool
  i : Nat
  su : Addr → Nat → Option Addr → MS
def kill (i : Nat) : RS → RS
  | .nx σ S => .nx (σ.set i .dead) S
  | .rt d S => .rt d S
  | .bk σ S => .bk (σ.set i .dead) S
  | .ct σ S => .ct (σ.set i .dead) S
  | .exc _ _ _ _ _ => .bad
  | .bad => .bad
open Classical in
noncomputable def hnd : List Cla → Nat → List Str → List D → MS
  | [], k, ns, ds => fun σ S => .exc k ns ds σ S
  | c :: cl, k, ns, ds => fun σ S => match c.hit k with
    | some true => if ∀ (a : Addr) (dd : Option Addr), kill c.i (c.su a k dd (σ.set c.i (.xc a dd ns ds)) S) = kill c.i (c.su 0 k none (σ.set c.i (.xc 0 none ns ds)) S) then kill c.i (c.su 0 k none (σ.set c.i (.xc 0 none ns ds)) S) else .bad
    | some false => hnd cl k ns ds σ S
    | none => .bad
noncomputable def mTry (b : MS) (cl : List Cla) : MS := fun σd S => match b σd S with
  | .exc k ns ds σ1 S1 => hnd cl k ns ds σ1 S1
  | r => r
section
variable {g : Gx} {W : WX} {X : Cx}
/-- the clauses over data -/
inductive SH (g : Gx) (W : WX) (X : Cx) : List ExceptHandler → List Cla → Prop
  | nil : SH g W X [] []
  | cons {x n : Str} {C : Addr} {c : Cla} {b₀ : Stmt} {suite : List Stmt} {np pos' : Pos} {hs : List ExceptHandler} {cl : List Cla} (hi : X.N[c.i]? = some n) (hln : X.env.kindOf n = some .local) (hc : Names X x (.ref C)) (hh : ∀ k b, c.hit k = some b → PySem.W.exmOne X.K (.ref (g.G k)) (.ref C) = some b)
      (hsu : ∀ (a : Addr) (oe : Obj) (k : Nat) (d : Option Addr) (pn : List (Addr × Obj)), c.hit k = some true → Zc (.ref (g.G k)) d oe → (∃ vs, oe.data = .fields vs) → PSs (X.suite a ((a, oe) :: pn)) (b₀ :: suite) (rdS g W0 (c.su a k d)))
      (rest : SH g W X hs cl) : SH g W X (.ExceptHandler (some (.Name x np)) (some n) (b₀ :: suite) pos' :: hs) (c :: cl)
theorem kill_post {c : Ct} {H : Hp} {i : Nat} {r : RS} {J : Ends} (p : PostS c W H (kill i r) J) : PostS c W0 H r { nx := fun σ' H' => J.nx (σ'.set i none) H', rt := J.rt, bk := fun σ' H' => J.bk (σ'.set i none) H', ct := fun σ' H' => J.ct (σ'.set i none) H' } := by
  cases r with
  | nx σd' S' => exact fun σ' O' H' h1 h2 => p _ O' H' (h1.kill i) h2
  | bk σd' S' => exact fun σ' O' H' h1 h2 => p _ O' H' (h1.kill i) h2
  | ct σd' S' => exact fun σ' O' H' h1 h2 => p _ O' H' (h1.kill i) h2
  | rt d S' => exact fun v O' H' h1 h2 h3 => p v O' H' h1 h2 h3
  | exc k ns ds σd' S' => exact p.elim
  | bad => exact p.elim
theorem sh_ok {hh : List ExceptHandler} {cl : List Cla} (sh : SH g W X hh cl) : ∃ tw, PH X W hh tw ∧ ∀ {J : Ends} {B O : List Addr} {S : Sto} {σd : Sl} {σ : L2.St} {H : Hp} {k : Nat} {ns : List Str} {ds : List D} {dd : Option Addr}, Rel ⟨g.K, g.G, B, O⟩ S σd σ H → XOk ⟨g.K, g.G, B, O⟩ H ns ds dd → PostS ⟨g.K, g.G, B, O⟩ W H (hnd cl k ns ds σd S) J → tw J (.ref (g.G k)) dd σ H := by
  induction sh with
  | nil => exact ⟨_, .nil, fun {J B O S σd σ H k ns ds dd} r xo p => p dd σ O H r xo (Step.refl _ _)⟩
  | @cons x n C c b₀ suite np pos' hs cl hi hln hc hh hsu rest ih =>
    obtain ⟨tw, ph, hw⟩ := ih
    refine ⟨_, .cons (ts := fun a cls d J σ H => ∃ k, c.hit k = some true ∧ cls = .ref (g.G k) ∧ rdS g W0 (c.su a k d) J σ H) hi hln hc (fun a oe cls d pn hz hf => ⟨fun pins s σ H D I h => ?_⟩) ph, fun {J B O S σd σ H k ns ds dd} r xo p => ?_⟩
    · obtain ⟨k, hk, rfl, h⟩ := h
      exact (hsu a oe k d pn hk hz hf).run pins s σ H D I h
    · unfold hnd at p
      cases q : c.hit k with
      | none => rw [q] at p; exact p.elim
      | some b =>
        rw [q] at p
        refine ⟨b, hh k b q, fun eb a na => ?_, fun eb => ?_⟩
        · subst eb
          simp only at p
          split at p
          · next ha =>
            refine ⟨k, q, rfl, B, O, S, _, r.set c.i (d := .xc a dd ns ds) (v := .ref a) ⟨rfl, xo⟩, ?_⟩
            rw [← ha a dd] at p
            exact kill_post p
          · exact p.elim
        · subst eb
          exact hw r xo p
theorem ss_try {body : List Stmt} {pos : Pos} {b : MS} {h₀ : ExceptHandler} {hh : List ExceptHandler} {cl : List Cla} (hs : X.stack = X.env :: X.outer) (hf : X.env.frame = some X.env.locals) (hN : X.N.Nodup) (tk : Takes X W)
    (hb : ∀ (W' : WX) (pn : List (Addr × Obj)) (xe : Value → Shared → Prop), Takes (X.tr pn xe) W' → PassesOwn (model X.prog X.w) X.A X.env xe → PSs (X.tr pn xe) body (rdS g W' b))
    (sh : SH g W X (h₀ :: hh) cl) : PS X (.Try body (h₀ :: hh) [] [] pos) (rdS g W (mTry b cl)) := by
  obtain ⟨tw, ph, hw⟩ := sh_ok sh
  refine PS.imp (ps_try_all (tb := fun W' => rdS g W' b) hs hf hN tk hb ph) fun J σ H ⟨B, O, S, σd, r, p⟩ => ⟨B, O, S, σd, r, ?_⟩
  unfold mTry at p
  revert p
  cases b σd S with
  | exc k ns ds σ1 S1 => exact fun p dd σ' O' H' h1 h2 h3 => hw h1 h2 (PostS.step (c := ⟨g.K, g.G, B, O⟩) h3 p)
  | nx σ1 S1 => exact fun p => p
  | ct σ1 S1 => exact fun p => p
  | bk σ1 S1 => exact fun p => p
  | rt d S1 => exact fun p => p
  | bad => exact fun p => p
/-- err.f in the suite of the exception at a, of class k -/
def mXf (a : Addr) (d : Option Addr) (f : Str) (m : M D) : M D := mB m fun x => fun _ S => match x with
  | .xc a' d' ns ds => if a' = a ∧ d' = d then match fldD f ns ds with
      | some y => .ok y S
      | none => .bad
    else .bad
  | _ => .bad
/-- what the class of a caught exception says -/
structure XHold (K : PySem.W.Frag) (C : Addr) : Prop where
  xf : XfC K C
  cl : (PySem.W.clsIn K C).isSome = true
  ha : PySem.W.findIn K (.ref C) "__class__" = some (some (.builtin "object.__class__"))
  hn : PySem.W.specialIn K (.builtin "object.__class__") "__get__" = some (some (.builtin "getset_descriptor.__get__"))
  ht : PySem.W.takesIn K (.builtin "object.__class__") = some true
  hm : PySem.W.mroIn K C (.type "object") = some true
variable {a : Addr} {oe : Obj} {k : Nat} {d : Option Addr} {pn : List (Addr × Obj)} {e : Expr} {m : M D} {pos p : Pos}
theorem se_xf {f : Str} (T : XHold X.K (g.G k)) (hno : PySem.W.findIn X.K (.ref (g.G k)) f = some none) (hz : Zc (.ref (g.G k)) d oe) (hf : ∃ vs, oe.data = .fields vs) (he : PE (X.suite a ((a, oe) :: pn)) e (rdE g W m)) (hb : attributeBase e f X.env (eval e X.env) = eval e X.env := by rfl) :
    PE (X.suite a ((a, oe) :: pn)) (.Attribute e f pos) (rdE g W (mXf a d f m)) :=
  PE.imp (pe_xf T.xf hno hz hf he hb) fun σ H Q ⟨B, O, S, σd, rel, q⟩ => rdG_mono (rd_then (rel := RD) rel q) fun v H1 ⟨x, O1, S1, r1, rx, st1, p1⟩ => by
    split at p1
    · next a' d' ns ds =>
      split at p1
      · next ha =>
        obtain ⟨rfl, rfl⟩ := ha
        split at p1
        · next y qy =>
          obtain ⟨ev, h⟩ := rx
          rcases h with ⟨z, _⟩ | ⟨dd, vs, e1, h1, h2, l, r⟩
          · rw [z] at qy; cases qy
          · obtain ⟨w, h3, h4⟩ := fldD_ok r qy
            exact ⟨ev, rfl, dd, _, w, e1, h2, h3, post_val p1 r1 h4⟩
        · exact p1.elim
      · exact p1.elim
    · exact p1.elim
/-- isinstance(err, C) -/
def isx (k c : Nat) : Bool := decide (k = c) || decide (c = 2)
def mXis (a : Addr) (k : Nat) (d : Option Addr) (c : Nat) (m : M D) : M D := mB m fun x => fun _ S => match x with
  | .xc a' d' _ _ => if a' = a ∧ d' = d then .ok (.bl (isx k c)) S else .bad
  | _ => .bad
def rIsX (K : PySem.W.Frag) (D a : Addr) (d : Option Addr) : List V → Hp → VK → Prop := fun xs H Q => ∃ (c : V) (cv : Value) (b : Bool), xs = [.ref a, c] ∧ (∀ u, RelV c u → u = cv) ∧ (d = none ∨ ∃ dd fs, d = some dd ∧ H dd = some (.xd fs)) ∧ PySem.W.kitOne K (.ref D) cv = some b ∧ Q (.bl b) H
theorem call_isX {D : Addr} (C : XHold X.K D) (hz : Zc (.ref D) d oe) (hf : ∃ vs, oe.data = .fields vs) : CallR (X.suite a ((a, oe) :: pn)) (.builtin "isinstance") (rIsX X.K D a d) := by
  intro pins s σ H xs us Q I r h
  obtain ⟨c, cv, b, rfl, hcv, hd, e, q⟩ := h
  cases r with
  | cons rx rr =>
    cases rr with
    | cons rt rr =>
      cases rr
      cases rx
      have ec := hcv _ rt
      subst ec
      obtain ⟨hget, _⟩ := I.pin (a, oe) (List.mem_append.mpr (.inl List.mem_cons_self))
      obtain ⟨vs, hv⟩ := hf
      have J : ∃ od, PySem.W.InstAt s.heap a oe D od := by
        rcases hd with hd | ⟨dd, fs, hd, ea⟩
        · subst hd
          exact ⟨none, hget, hz.1, by unfold PySem.W.notCls; rw [hv] <;> rfl, by rw [hz.2]; trivial⟩
        · subst hd
          have hx : ObjOk X.prog X.w H s.heap dd (.xd fs) := I.hok dd _ ea
          obtain ⟨mA, hns, hr⟩ := hx
          obtain ⟨od, ho, hl⟩ := lookIn_ns hns
          exact ⟨some od, hget, hz.1, by unfold PySem.W.notCls; rw [hv] <;> rfl, by rw [hz.2]; exact ho⟩
      obtain ⟨od, J⟩ := J
      exact PySem.W.kia_one (PySem.W.kitx_exc C.cl C.xf.ga C.xf.gg C.xf.exC C.ha C.hn C.ht C.hm) I.kIn J e (fun z => nomatch z) fun tk => ⟨.bl b, H, I.kept (t' := tk) fun _ _ z => z, rfl, q⟩
theorem se_xis {c : Nat} {T : Str} {p2 : Pos} (C : XHold X.K (g.G k)) (hz : Zc (.ref (g.G k)) d oe) (hf : ∃ vs, oe.data = .fields vs) (hg : Gl X "isinstance") (hm : X.mg "isinstance" = none) (he : PE (X.suite a ((a, oe) :: pn)) e (rdE g W m)) (hgT : Gl X T) (hT : X.mg T = some (.ref (g.G c))) (hk : PySem.W.kitOne X.K (.ref (g.G k)) (.ref (g.G c)) = some (isx k c)) (hd : (T == ("__debug__" : Str)) = false := by decide)
    (na : starEach [e, .Name T p2] X.env = (false, eval e X.env) :: starEach [.Name T p2] X.env := by rfl) (nb : starEach [.Name T p2] X.env = (false, eval (.Name T p2) X.env) :: starEach [] X.env := by rfl) (hp : (backTo pos (starEach [.Name T p2] X.env)).any (·.1) = false := by rfl) :
    PE (X.suite a ((a, oe) :: pn)) (.Call (.Name "isinstance" p) [e, .Name T p2] [] pos) (rdE g W (mXis a k d c m)) :=
  PE.imp (pe_callB (X := X.suite a ((a, oe) :: pn)) (call_isX C hz hf) hg hm (by decide +kernel) (pa_cons he (pa_cons (pe_glob (X := X.suite a ((a, oe) :: pn)) hgT hT (v := .ref (g.G c)) rfl hd) pa_nil nb) na) (by decide) (by decide) na hp) fun σ H Q ⟨B, O, S, σd, rel, q⟩ => rdG_mono (rd_then (rel := RD) rel q) fun v H1 ⟨x, O1, S1, r1, rx, st1, p1⟩ => by
    split at p1
    · next a' d' ns ds =>
      split at p1
      · next ha =>
        obtain ⟨rfl, rfl⟩ := ha
        obtain ⟨ev, h⟩ := rx
        refine ⟨.ref (g.G c), .ref (g.G c), isx k c, by rw [ev], fun u hu => hu, ?_, hk, post_val p1 r1 rfl⟩
        rcases h with ⟨_, _, z⟩ | ⟨dd, vs, e1, h1, h2, l, r⟩
        · exact .inl z
        · exact .inr ⟨dd, _, e1, h2⟩
      · exact p1.elim
    · exact p1.elim
end
end DL

set_option maxHeartbeats 4000000
namespace DL
open PySem PySem.Spec PyProof.Rows L2
def hitL (yes no : List Nat) (k : Nat) : Option Bool := if k ∈ yes then some true else if k ∈ no then some false else none
theorem hitL_ok {P : Nat → Bool → Prop} {yes no : List Nat} (hy : ∀ k ∈ yes, P k true) (hn : ∀ k ∈ no, P k false) : ∀ k b, hitL yes no k = some b → P k b := fun k b h => by
  unfold hitL at h
  split at h
  · next q => cases Option.some.inj h; exact hy k q
  · split at h
    · next q => cases Option.some.inj h; exact hn k q
    · cases h
theorem hitL_in {yes no : List Nat} {k : Nat} (h : hitL yes no k = some true) : k ∈ yes := by
  unfold hitL at h
  split at h
  · next q => exact q
  · split at h
    · cases Option.some.inj h
    · cases h
theorem cls_of_hd {K : PySem.W.Frag} {C : Addr} (h : PySem.W.hasDictIn K C = true) : (PySem.W.clsIn K C).isSome = true := by
  obtain ⟨cd, hc, _⟩ := PySem.W.any_some h
  rw [hc]
  rfl
section
open PySem.W PySem.HandSPX PySem.DLX
variable {prog : Program} {K : Frag} {mg : Str → Option Value} {C fI : Addr}
theorem look1 (f : Str) (v : Value) : (fun y => ([f].zip [v]).lookup y) = fun y => if y = f then some v else none := by
  funext y
  by_cases h : y = f
  · subst h; simp [List.lookup]
  · have e : (y == f) = false := by simpa using h
    simp [List.lookup, e, h]
theorem look2 (f g : Str) (v u : Value) (hgf : (f == g) = false) : (fun y => ([f, g].zip [v, u]).lookup y) = fun y => if y = g then some u else if y = f then some v else none := by
  have hne : f ≠ g := by simpa using hgf
  funext y
  by_cases h : y = f
  · subst h
    have : y ≠ g := hne
    simp [List.lookup, this]
  · have e : (y == f) = false := by simpa using h
    by_cases h2 : y = g
    · subst h2; simp [List.lookup, e]
    · have e2 : (y == g) = false := by simpa using h2
      simp [List.lookup, e, e2, h, h2]
theorem xmk1 {qual f m : Str} {ar : Arguments} {a0 : Arg} {q1 q2 q3 q4 q5 q6 r1 r2 r3 r4 : Pos} (T : XCl prog K mg C fI) (U : XFn prog K C fI qual ar (iSup m q1 q2 q3 q4 q5 q6 :: [iSto f r1 r2 r3 r4]) (iS1 f)) (hno : findIn K (.ref C) f = some none) (hev : SupEv fI qual (iS1 f) m q1 q2 q3 q4 q5 q6)
    (hb : ∀ (v : Value) (s : Shared) (x : Addr) (dV kV doc pm : Value) (an : Option Addr) (cdv ct : Value) (cc : Addr), dV = .none → BindsTo s (ksFn "__init__" qual ar (iSup m q1 q2 q3 q4 q5 q6 :: [iSto f r1 r2 r3 r4]) (iS1 f) dV kV doc pm an cdv ct cc) ⟨[.ref x, v], []⟩ [("self", .ref x), (f, v)])
    (hp : (ar.posonlyargs ++ ar.args).head? = some a0) (hself : a0.arg = "self") (hfs : (("self" : Str) == f) = false) (hfd : (f == ("__debug__" : Str)) = false) (hfl : (iS1 f).names.lookup f = some .local) (hks : (iS1 f).names.lookup ("super" : Str) = some .globalImplicit) (hkc : (iS1 f).names.lookup ("__class__" : Str) = some .free)
    (hsw : ∀ (L cc : Addr) (cd : Value), swapsWith (.Name f r3) (some (.Attribute (.Name "self" r1) f r2)) r4.line (ksEnv qual (iS1 f) L fI cd cc) = pure false) : XMk prog K mg C [f] :=
  ⟨fI, T, fun w us hl => match us, hl with
    | [v], _ => by
      rw [look1]
      exact xinit1 T U hev hno v (hb v) hp hself hfs hfd hfl hks hkc hsw⟩
theorem xmk2 {qual f g m : Str} {ar : Arguments} {a0 : Arg} {q1 q2 q3 q4 q5 q6 r1 r2 r3 r4 u1 u2 u3 u4 : Pos} (T : XCl prog K mg C fI) (U : XFn prog K C fI qual ar (iSup m q1 q2 q3 q4 q5 q6 :: [iSto f r1 r2 r3 r4, iSto g u1 u2 u3 u4]) (iS2 f g)) (hno : findIn K (.ref C) f = some none) (hno2 : findIn K (.ref C) g = some none) (hev : SupEv fI qual (iS2 f g) m q1 q2 q3 q4 q5 q6)
    (hb : ∀ (v v2 : Value) (s : Shared) (x : Addr) (dV kV doc pm : Value) (an : Option Addr) (cdv ct : Value) (cc : Addr), dV = .none → BindsTo s (ksFn "__init__" qual ar (iSup m q1 q2 q3 q4 q5 q6 :: [iSto f r1 r2 r3 r4, iSto g u1 u2 u3 u4]) (iS2 f g) dV kV doc pm an cdv ct cc) ⟨[.ref x, v, v2], []⟩ [("self", .ref x), (f, v), (g, v2)])
    (hp : (ar.posonlyargs ++ ar.args).head? = some a0) (hself : a0.arg = "self") (hfs : (("self" : Str) == f) = false) (hgs : (("self" : Str) == g) = false) (hgf : (f == g) = false) (hfd : (f == ("__debug__" : Str)) = false) (hgd : (g == ("__debug__" : Str)) = false) (hfl : (iS2 f g).names.lookup f = some .local) (hgl : (iS2 f g).names.lookup g = some .local) (hks : (iS2 f g).names.lookup ("super" : Str) = some .globalImplicit) (hkc : (iS2 f g).names.lookup ("__class__" : Str) = some .free)
    (hsw : ∀ (L cc : Addr) (cd : Value), swapsWith (.Name f r3) (some (.Attribute (.Name "self" r1) f r2)) r4.line (ksEnv qual (iS2 f g) L fI cd cc) = pure false) (hsw2 : ∀ (L cc : Addr) (cd : Value), swapsWith (.Name g u3) (some (.Attribute (.Name "self" u1) g u2)) u4.line (ksEnv qual (iS2 f g) L fI cd cc) = pure false) : XMk prog K mg C [f, g] :=
  ⟨fI, T, fun w us hl => match us, hl with
    | [v, u], _ => by
      rw [look2 f g v u hgf]
      exact xinit2 T U hev hno hno2 v u (hb v u) hp hself hfs hgs hgf hfd hgd hfl hgl hks hkc hsw hsw2⟩
end
end DL

set_option maxHeartbeats 4000000
namespace DL
open PySem PySem.Spec PyProof.Rows L2
/-- a family of defs: their addresses and promises -/
structure FamOk (X : Cx) (a : Addr) (sp : Sp) : Prop where
  ok : ∃ (j : Nat) (fd : FuncData) (ps : List Str), FnOk X.prog X.w X.K X.mg X.base (L2.CX X.prog X.w) j a fd ps sp ∧ Room j X.A ∧ Binds X.K fd ps []
  kp : PySem.W.keepIn X.K (.ref a) = true
def tCallV (P : Addr → Sp → Prop) (E : L2.St → XK) (tf : TE) (ta : TA) : TE := fun σ H Q => tf σ H fun x H1 => ∃ a sp, P a sp ∧ x = .ref a ∧ ta σ H1 fun vs H2 => sp vs H2 Q (E σ)
section
variable {X : Cx} {f e : Expr} {es : List Expr} {pos : Pos} {tf : TE} {ta : TA} {E : L2.St → XK} {P : Addr → Sp → Prop}
theorem pe_callV (hP : ∀ a sp, P a sp → FamOk X a sp) (hf : PE X f tf) (ha : PA X (e :: es) ta) (hx : ∀ σ, PassesAt (L2.CX X.prog X.w) X σ (E σ))
    (he : starEach (e :: es) X.env = (false, eval e X.env) :: starEach es X.env := by rfl) (hpl : (backTo pos (starEach es X.env)).any (·.1) = false := by rfl)
    (hc : eval (.Call f (e :: es) [] pos) X.env = (do callWith pos (← eval f X.env) [] (backTo pos (starEach (e :: es) X.env)) (backToKw pos (keywordEach [] X.env))) := by rfl) : PE X (.Call f (e :: es) [] pos) (tCallV P E tf ta) := by
  refine ⟨fun pins s σ H Q I h => ?_⟩
  refine Call_ (thn (hf.run pins s σ H _ I h) fun u s1 ⟨x, H1, I1, rx, a, sp, hp, ex, q⟩ => ?_) hc
  subst ex
  obtain rfl : u = Value.ref a := rx
  obtain ⟨⟨j, fd, ps, F, hr, hb⟩, kp⟩ := hP a sp hp
  refine PySem.W.callWith_K (h₀ := X.base) I1.ok.mod.kin kp (thn (ha.run pos pins s1 σ H1 _ I1 q) fun us s2 ⟨vs, H2, I2, r, q2⟩ => ⟨I2.kIn, ?_⟩) he hpl
  exact run_fnS F hr hb (hx σ) I2 r q2
end
section
variable {g : Gx} {W : WX} {X : Cx}
/-- the defs, one behind the other -/
inductive Tab (g : Gx) (X : Cx) : List Addr → List (List D → Sto → R D) → Prop
  | nil : Tab g X [] []
  | cons {a : Addr} {fn : List D → Sto → R D} {as : List Addr} {fns : List (List D → Sto → R D)} (h : FamOk X a (spD g fn)) (t : Tab g X as fns) : Tab g X (a :: as) (fn :: fns)
theorem Tab.get {as : List Addr} {fns : List (List D → Sto → R D)} (t : Tab g X as fns) : ∀ {n : Nat} {fn : List D → Sto → R D}, fns[n]? = some fn → ∃ a, as[n]? = some a ∧ FamOk X a (spD g fn) := by
  induction t with
  | nil => intro n fn e; simp at e
  | cons h t ih =>
    intro n fn e
    cases n with
    | zero => simp at e; subst e; exact ⟨_, rfl, h⟩
    | succ n => exact ih (by simpa using e)
def tabAt (fns : List (List D → Sto → R D)) (i : D) : Option (List D → Sto → R D) := match i with
  | .int n => if 0 ≤ n then fns[n.toNat]? else none
  | _ => none
def mTab (fns : List (List D → Sto → R D)) (mi : M D) (ma : M (List D)) : M D := mB mi fun i => fun σ S => match tabAt fns i with
  | some fn => mB ma (fun ds => fun _ S' => fn ds S') σ S
  | none => .bad
variable {idx e : Expr} {es names : List Expr} {pos lp ip : Pos} {tn : TA} {mi : M D} {ma : M (List D)} {as : List Addr} {fns : List (List D → Sto → R D)}
theorem tab_core (t : Tab g X as fns) {c : Ct} {H : Hp} {x : D} {v : V} {fn : List D → Sto → R D} (rx : RD c H x v) (e : tabAt fns x = some fn) : ∃ a n, FamOk X a (spD g fn) ∧ v = .int n ∧ atI (as.map V.ref) n = some (.ref a) := by
  unfold tabAt at e
  cases x with
  | int n =>
    simp only at e
    split at e
    · next h0 =>
      obtain ⟨a, ha, fo⟩ := t.get e
      cases (show _ = _ from rx)
      refine ⟨a, n, fo, rfl, ?_⟩
      have h1 : n = ((n.toNat : Nat) : Int) := by omega
      rw [h1]
      exact atI_nat (by rw [List.getElem?_map, ha]; rfl)
    · cases e
  | _ => cases e
/-- reading the list, then its place -/
theorem tab_ix (t : Tab g X as fns) (hn : ∀ σ H Q, Q (as.map V.ref) H → tn σ H Q) (hl : as.length ≤ 1000) {B O : List Addr} {S : Sto} {σd : Sl} {σ : L2.St} {H : Hp} {Q : VK} (r : Rel ⟨g.K, g.G, B, O⟩ S σd σ H) {m2 : (List D → Sto → R D) → M D} {Q2 : VK}
    (p : Post RD ⟨g.K, g.G, B, O⟩ W σ σd H (mB mi (fun i => fun σ S => match tabAt fns i with | some fn => m2 fn σ S | none => .bad) σd S) Q2)
    (k : ∀ a fn O1 S1 H1, FamOk X a (spD g fn) → Rel ⟨g.K, g.G, B, O1⟩ S1 σd σ H1 → Post RD ⟨g.K, g.G, B, O1⟩ W σ σd H1 (m2 fn σd S1) Q2 → Q (.ref a) H1) : tOp (rIxL X.K) (tLst tn) (rdE g W mi) σ H Q := by
  refine hn σ H _ ⟨by rw [List.length_map, sizeLine_eq]; omega, fun q hq => ?_⟩
  have r1 := r.new (o := .lst (as.map V.ref)) hq
  have p1 := Post.step (c := ⟨g.K, g.G, B, O⟩) (O1 := O) (H1 := upd H q (.lst (as.map V.ref))) (Step.new hq) p
  refine rdG_mono (rd_then (rel := RD) r1 p1) fun v H1 ⟨x, O1, S1, r2, rx, st, p2⟩ => ?_
  have hq1 : H1 q = some (.lst (as.map V.ref)) := (st.kp q _ (r.fresh hq).1 upd_same).1
  cases e : tabAt fns x with
  | none => rw [e] at p2; exact p2.elim
  | some fn =>
    rw [e] at p2
    obtain ⟨a, n, fo, ev, ha⟩ := tab_core t rx e
    exact ⟨q, _, n, .ref a, rfl, ev, SqL.of hq1, ha, k a fn O1 S1 H1 fo r2 p2⟩
theorem tab_ixS (t : Tab g X as fns) (hn : ∀ σ H Q, Q (as.map V.ref) H → tn σ H Q) (hl : as.length ≤ 1000) {B O : List Addr} {S : Sto} {σd : Sl} {σ : L2.St} {H : Hp} {Q : VK} (r : Rel ⟨g.K, g.G, B, O⟩ S σd σ H) {m2 : (List D → Sto → R D) → MS} {J : Ends}
    (p : PostS ⟨g.K, g.G, B, O⟩ W H (mBS mi (fun i => fun σ S => match tabAt fns i with | some fn => m2 fn σ S | none => .bad) σd S) J)
    (k : ∀ a fn O1 S1 H1, FamOk X a (spD g fn) → Rel ⟨g.K, g.G, B, O1⟩ S1 σd σ H1 → PostS ⟨g.K, g.G, B, O1⟩ W H1 (m2 fn σd S1) J → Q (.ref a) H1) : tOp (rIxL X.K) (tLst tn) (rdE g W mi) σ H Q := by
  refine hn σ H _ ⟨by rw [List.length_map, sizeLine_eq]; omega, fun q hq => ?_⟩
  have r1 := r.new (o := .lst (as.map V.ref)) hq
  have p1 := PostS.step (c := ⟨g.K, g.G, B, O⟩) (O1 := O) (H1 := upd H q (.lst (as.map V.ref))) (Step.new hq) p
  refine rdG_mono (rdS_then (rel := RD) r1 p1) fun v H1 ⟨x, O1, S1, r2, rx, st, p2⟩ => ?_
  have hq1 : H1 q = some (.lst (as.map V.ref)) := (st.kp q _ (r.fresh hq).1 upd_same).1
  cases e : tabAt fns x with
  | none => rw [e] at p2; exact p2.elim
  | some fn =>
    rw [e] at p2
    obtain ⟨a, n, fo, ev, ha⟩ := tab_core t rx e
    exact ⟨q, _, n, .ref a, rfl, ev, SqL.of hq1, ha, k a fn O1 S1 H1 fo r2 p2⟩
theorem se_tab (tk : Takes X W) (t : Tab g X as fns) (hpn : PA X names tn) (hn : ∀ σ H Q, Q (as.map V.ref) H → tn σ H Q) (hl : as.length ≤ 1000) (hi : PE X idx (rdE g W mi)) (ha : PA X (e :: es) (rdA g W ma)) (hx : PlainIx idx := by exact fun _ _ => rfl)
    (he : starEach (e :: es) X.env = (false, eval e X.env) :: starEach es X.env := by rfl) (hpl : (backTo pos (starEach es X.env)).any (·.1) = false := by rfl)
    (hc : eval (.Call (.Subscript (.List names lp) idx ip) (e :: es) [] pos) X.env = (do callWith pos (← eval (.Subscript (.List names lp) idx ip) X.env) [] (backTo pos (starEach (e :: es) X.env)) (backToKw pos (keywordEach [] X.env))) := by rfl) :
    PE X (.Call (.Subscript (.List names lp) idx ip) (e :: es) [] pos) (rdE g W (mTab fns mi ma)) :=
  PE.imp (pe_callV (P := FamOk X) (E := WE W) (fun _ _ h => h) (pe_ix ix_list (pe_lst hpn) hi hx) ha (fun σ => passAt tk σ) he hpl hc) fun σ H Q ⟨B, O, S, σd, r, p⟩ => by
    refine tab_ix t hn hl r p fun a fn O1 S1 H1 fo r1 p1 => ⟨a, _, fo, rfl, rdG_mono (rd_then (rel := RDs) r1 p1) fun vs H2 ⟨ds, O2, S2, r2, rx, st2, p2⟩ => ?_⟩
    refine ⟨B, O2, S2, ds, r2.toRelS, rx, ?_⟩
    revert p2
    cases fn ds S2 with
    | ok d S' => exact fun p2 v O' H' h1 h2 h3 => p2 v O' H' (r2.step h3 h1) h2 h3
    | exc k ns es S' => exact fun p2 dd O' H' h1 h2 h3 => p2 dd O' H' (r2.step h3 h1) h2 h3
    | bad => exact fun p2 => p2.elim
theorem Rel.setDead {c : Ct} {S : Sto} {σd : Sl} {σ : L2.St} {H : Hp} (r : Rel c S σd σ H) (i : Nat) (v : V) : Rel c S (σd.set i .dead) (σ.set i (some v)) H :=
  { r.toRelS with
    len := by simp [r.len]
    sl := fun j d e => by
      by_cases q : j = i
      · subst q
        by_cases hl : j < σd.length
        · rw [List.getElem?_set_self hl] at e
          exact .inl (Option.some.inj e).symm
        · rw [List.getElem?_eq_none (by simpa using hl)] at e; cases e
      · rw [List.getElem?_set_ne (Ne.symm q)] at e
        refine (r.sl j d e).imp id fun ⟨u, h1, h2⟩ => ⟨u, ?_, h2⟩
        rw [List.getElem?_set_ne (Ne.symm q)]
        exact h1 }
def mTabRet (i : Nat) (fns : List (List D → Sto → R D)) (mi : M D) (ma : M (List D)) : MS := mBS mi fun x => fun σ S => match tabAt fns x with
  | some fn => mBS (mB ma fun ds => fun _ S' => fn ds S') (fun d => fun _ S' => .rt d S') (σ.set i .dead) S
  | none => .bad
theorem ss_tabret {i : Nat} {x : Str} {px np apos rpos : Pos} (tk : Takes X W) (hN : X.N.Nodup) (hi : X.N[i]? = some x) (hx : Loc X.env.scope x) (hv : PE X (.Name x np) (tVar i)) (hlt : i < X.N.length) (hfn : X.fn x = true ∨ X.env.scope.names.lookup x = some .local) (t : Tab g X as fns) (hpn : PA X names tn) (hn : ∀ σ H Q, Q (as.map V.ref) H → tn σ H Q) (hl : as.length ≤ 1000) (hix : PE X idx (rdE g W mi)) (ha : PA X (e :: es) (rdA g W ma)) (hpx : PlainIx idx := by exact fun _ _ => rfl)
    (he : starEach (e :: es) X.env = (false, eval e X.env) :: starEach es X.env := by rfl) (hpl : (backTo pos (starEach es X.env)).any (·.1) = false := by rfl)
    (hs : swapsWith (.Subscript (.List names lp) idx ip) (some (.Name x px)) apos.line X.env = pure false := by rfl)
    (hc : eval (.Call (.Name x np) (e :: es) [] pos) X.env = (do callWith pos (← eval (.Name x np) X.env) [] (backTo pos (starEach (e :: es) X.env)) (backToKw pos (keywordEach [] X.env))) := by rfl) :
    PSs X [.Assign [.Name x px] (.Subscript (.List names lp) idx ip) apos, .Return (some (.Call (.Name x np) (e :: es) [] pos)) rpos] (rdS g W (mTabRet i fns mi ma)) :=
  ⟨fun pins s σ H D I h => by
    have hlen : i < σ.length := by rw [I.len]; exact hlt
    refine (pss_cons (ps_set hN hi hx (pe_ix ix_list (pe_lst hpn) hix hpx) hs) (pss_one (ps_ret (pe_callV (P := FamOk X) (E := WE W) (fun _ _ h => h) hv ha (fun σ => passAt tk σ) he hpl hc)))).run pins s σ H D I ?_
    obtain ⟨B, O, S, σd, r, p⟩ := h
    refine tab_ixS t hn hl r p fun a fn O1 S1 H1 fo r1 p1 => ?_
    have r1' := r1.setDead i (.ref a)
    refine ⟨.ref a, List.getElem?_set_self hlen, a, _, fo, rfl, ?_⟩
    refine rdG_mono (rdS_then (J := D) (rel := RDs) (f := fun ds => mBS (fun _ S' => fn ds S') fun d => fun _ S' => .rt d S') r1' ?_) fun vs H2 ⟨ds, O2, S2, r2, rx, st2, p2⟩ => ?_
    · revert p1
      unfold mBS mB
      cases ma (σd.set i .dead) S1 <;> exact fun p => p
    · refine ⟨B, O2, S2, ds, r2.toRelS, rx, ?_⟩
      unfold mBS at p2
      dsimp only at p2
      revert p2
      cases fn ds S2 with
      | ok d S' => exact fun p2 v O' H' h1 h2 h3 => p2 v O' H' h1 h2 h3
      | exc k ns es S' => exact fun p2 dd O' H' h1 h2 h3 => p2 dd _ O' H' (r2.step h3 h1) h2 h3
      | bad => exact fun p2 => p2.elim⟩
end
end DL

namespace DL
open PySem PySem.Spec PyProof.Rows L2
section
variable {X : Cx} {g : Gx} {W : WX} {o : Expr} {apos pos : Pos}
def mMe (k : Nat) (nm : Str) (fn : List D → Sto → R D) (m : M D) : M D := mB m fun x => fun _ S => match insOf S x with
  | some (k', ns, _) => if k' = k ∧ nm ∉ ns then match fn [x] S with
      | .ok d S' => .ok d S'
      | _ => .bad
    else .bad
  | none => .bad
theorem lookup_none {β : Type} {m : Str} : ∀ (ns : List Str) (vs : List β), m ∉ ns → (ns.zip vs).lookup m = none
  | [], _, _ => rfl
  | _ :: _, [], _ => rfl
  | n :: ns, v :: vs, h => by
    rw [List.zip_cons_cons, List.lookup_cons]
    have hn : (m == n) = false := by
      rw [beq_eq_false_iff_ne]
      exact fun z => h (by rw [z]; exact List.mem_cons_self)
    rw [hn]
    exact lookup_none ns vs fun z => h (List.mem_cons_of_mem _ z)
theorem se_me {k j : Nat} {nm : Str} {f : Addr} {fd : FuncData} {ps : List Str} {fn : List D → Sto → R D} {m : M D} {pl : Sem Bool} (h : PE X o (rdE g W m)) (c : Cls X.K (g.G k)) (hm : Meth X.K (g.G k) nm f) (F : FnOk X.prog X.w X.K X.mg X.base (L2.CX X.prog X.w) j f fd ps (spD g fn)) (hr : Room j X.A) (hb : Binds X.K fd ps [])
    (ht : eval (.Call (.Attribute o nm apos) [] [] pos) X.env = (do
      let ov ← eval o X.env
      standAt apos.atName
      let (f, first) ← holding [ov] (getMethod ov nm pl)
      callWith pos f first (backTo pos (starEach [] X.env)) (backToKw pos (keywordEach [] X.env))) := by rfl) :
    PE X (.Call (.Attribute o nm apos) [] [] pos) (rdE g W (mMe k nm fn m)) :=
  PE.imp (pe_meth0 (E := fun _ _ _ => False) h c hm F hr hb .nil (fun pins σ H s e s' I ⟨_, _, _, _, _, _, _, _, _, _, _, _, z⟩ => z.elim) ht) fun σ H Q ⟨B, O, S, σd, rel, q⟩ => rdG_mono (rd_then (rel := RD) rel q) fun v H1 ⟨x, O1, S1, r1, rx, st1, p1⟩ => by
    split at p1
    · next k' ns ds qi =>
      split at p1
      · next ek =>
        obtain ⟨ek, hn⟩ := ek
        subst ek
        obtain ⟨a, dx, vs, ev, h1, l, h2⟩ := insOf_ok r1.toRelS rx qi
        refine ⟨a, dx, _, ev, h1, lookup_none _ _ hn, B, O1, S1, [x], r1.toRelS, RDs.one rx, ?_⟩
        revert p1
        cases fn [x] S1 with
        | ok d S' => exact fun p1 v O' H' h1 h2 h3 => p1 v O' H' (r1.step h3 h1) h2 h3
        | exc k ns es S' => exact fun p1 => p1.elim
        | bad => exact fun p1 => p1.elim
      · exact p1.elim
    · exact p1.elim
/-- l.count(x) of a list of ints -/
def fCountL (x : D) (ds : List D) (S : Sto) : R D := match ds with
  | [.int i] => match lstOf S x with
    | some xs => match intsOf xs with
      | some is => .ok (.int (is.count i)) S
      | none => .bad
    | none => .bad
  | _ => .bad
theorem fCountL_ok {K : PySem.W.Frag} : MethS g W (rCntI K) fCountL := fun {B O S σd σ H x v ds vs Q} r hx hs p => by
  unfold fCountL at p
  split at p
  · next i =>
    split at p
    · next xs q =>
      split at p
      · next is qi =>
        obtain ⟨w, rfl, hy⟩ := RDs.one_inv hs
        have hw : w = .int i := hy
        subst hw
        obtain ⟨l, us, rfl, h1, h2⟩ := lstOf_ok r.toRelS hx q
        have e := intsOf_rd qi h2
        subst e
        exact ⟨l, is, i, rfl, rfl, SqL.of h1, post_val p r rfl⟩
      · exact p.elim
    · exact p.elim
  · exact p.elim
theorem se_countL {a e : Expr} {apos pos : Pos} {mo : M D} {m : M (List D)} (ho : PE X a (rdE g W mo)) (ha : PA X [e] (rdA g W m)) (hbase : attributeBase a "count" X.env (eval a X.env) = eval a X.env := by rfl)
    (hline : (apos.endLine == pos.line) = true := by rfl) (hs : starEach [e] X.env = (false, eval e X.env) :: starEach [] X.env := by rfl) :
    PE X (.Call (.Attribute a "count" apos) [e] [] pos) (rdE g W (mMeth fCountL mo m)) :=
  PE.imp (pe_bm PySem.F.plainAttrs_list PySem.F.slot_list_count PySem.F.type_list_count mt_lcount ho ha hbase (by rw [hs]; rfl) hline hs rfl) (meth_imp fCountL_ok)
end
end DL

namespace DL
noncomputable def p_l_mix_b0 : MS := mSet 2 (mOp fMod (mApp fInt1 (mCons (mOp fAdd (mOp fAdd (mOp fMul (mVar 2) (mC (.int 48271))) (mOp fMod (mApp fInt1 (mCons (mVar 3) (mNil))) (mC (.int 2147483629)))) (mC (.int 1))) (mNil))) (mC (.int 2147483647)))
noncomputable def p_l_mix : MS := mSeq (mSet 2 (mVar 1))
    (mSeq (mFor (mSeqI (mVar 0)) (.nm 3) (p_l_mix_b0))
    (mRet (mLoc (mLst (mCons (mVar 2) (mCons (mLoc (mApp fList (mCons (mVar 0) (mNil)))) (mCons (mC (.int 0)) (mNil))))))))
noncomputable def f_l_mix : List D → Sto → R D := mFunK 4 2 p_l_mix
noncomputable def p_l_next : MS := mSeq (mSet 2 (mOp fIx (mOp fAdd (mOp fIx (mVar 0) (mC (.int 1))) (mFz (mLst (mCons (mC (.int 0)) (mNil))))) (mOp fMod (mApp fInt1 (mCons (mOp fIx (mVar 0) (mC (.int 2))) (mNil))) (mApp fMax (mCons (mC (.int 1)) (mCons (mApp fLen (mCons (mOp fIx (mVar 0) (mC (.int 1))) (mNil))) (mNil)))))))
    (mSeq (mIfS (mTest (mOp fGe (mVar 2) (mOp fPow (mC (.int 10)) (mC (.int 18))))) (mSeq (mSetIx (mOp fIx (mVar 0) (mC (.int 1))) (mOp fMod (mApp fInt1 (mCons (mOp fIx (mVar 0) (mC (.int 2))) (mNil))) (mApp fLen (mCons (mOp fIx (mVar 0) (mC (.int 1))) (mNil)))) (mOp fDiv (mVar 2) (mVar 1)))
    (mRet (mOp fMod (mApp fInt1 (mCons (mVar 2) (mNil))) (mVar 1)))) (mPass))
    (mSeq (mSetIx (mVar 0) (mC (.int 0)) (mOp fMod (mApp fInt1 (mCons (mOp fAdd (mOp fAdd (mOp fMul (mOp fIx (mVar 0) (mC (.int 0))) (mC (.int 48271))) (mOp fMul (mVar 2) (mC (.int 69621)))) (mC (.int 11))) (mNil))) (mC (.int 2147483647))))
    (mSeq (mSetIx (mVar 0) (mC (.int 2)) (mOp fAdd (mOp fIx (mVar 0) (mC (.int 2))) (mC (.int 1))))
    (mRet (mOp fMod (mApp fInt1 (mCons (mOp fDiv (mOp fIx (mVar 0) (mC (.int 0))) (mC (.int 7))) (mNil))) (mVar 1))))))
noncomputable def f_l_next : List D → Sto → R D := mFun 3 2 p_l_next
noncomputable def p_l_deal_b0 : MS := mSet 2 (mOp fAdd (mVar 2) (mFz (mOpN fMulL (mFz (mLst (mCons (mVar 3) (mNil)))) (mOp fIx (mVar 1) (mVar 3)))))
noncomputable def p_l_deal_b1 : MS := mSeq (mSet 8 (mApp f_l_next (mCons (mVar 0) (mCons (mApp fLen (mCons (mVar 2) (mNil))) (mNil)))))
    (mSeq (mDrop (mMeth fAppend (mVar 6) (mCons (mOp fIx (mVar 2) (mVar 8)) (mNil))))
    (mSet 2 (mOp fAdd (mSl (mVar 2) mNoPart (mPart (mVar 8))) (mSl (mVar 2) (mPart (mOp fAdd (mVar 8) (mC (.int 1)))) mNoPart))))
noncomputable def p_l_deal_b2 : MS := mSeq (mSet 6 (mLoc (mLst (mNil))))
    (mSeq (mFor (mRgI (mCons (mVar 5) (mNil))) (.nm 7) (p_l_deal_b1))
    (mDrop (mMeth fAppend (mVar 4) (mCons (mApp fTuple (mCons (mVar 6) (mNil))) (mNil)))))
noncomputable def p_l_deal : MS := mSeq (mSet 2 (mFz (mLst (mNil))))
    (mSeq (mFor (mRgI (mCons (mApp fLen (mCons (mVar 1) (mNil))) (mNil))) (.nm 3) (p_l_deal_b0))
    (mSeq (mSet 4 (mLoc (mLst (mNil))))
    (mSeq (mFor (mSeqI (mVar 1)) (.nm 5) (p_l_deal_b2))
    (mRet (mApp fTuple (mCons (mVar 4) (mNil)))))))
noncomputable def f_l_deal : List D → Sto → R D := mFun 9 2 p_l_deal
noncomputable def p_l_pick : MS := mRet (mOp fIx (mVar 1) (mApp f_l_next (mCons (mVar 0) (mCons (mApp fLen (mCons (mVar 1) (mNil))) (mNil)))))
noncomputable def f_l_pick : List D → Sto → R D := mFun 2 2 p_l_pick
noncomputable def p_l_firsts_c0 : M Bool := mTest (mOp (fIn true) (mVar 5) (mVar 3))
noncomputable def p_l_firsts_e0 : M D := mVar 5
noncomputable def p_l_firsts_b0 : MS := mSeq (mDrop (mMeth fAppend (mVar 3) (mCons (mOp fIx (mVar 2) (mApp f_l_next (mCons (mVar 0) (mCons (mApp fLen (mCons (mVar 2) (mNil))) (mNil))))) (mNil))))
    (mSet 2 (mFz (mComp (mSeqI (mVar 2)) (.nm 5) [5] (p_l_firsts_c0) (p_l_firsts_e0))))
noncomputable def p_l_firsts : MS := mSeq (mAsg (.tp [2, 3]) (mTup (mCons (mFz (mLstRg (mRg1 (mVar 1)))) (mCons (mLoc (mLst (mNil))) (mNil)))))
    (mSeq (mFor (mRgI (mCons (mApp fMin (mCons (mVar 1) (mCons (mApp f_l_pick (mCons (mVar 0) (mCons (mFz (mLst (mCons (mC (.int 1)) (mCons (mC (.int 1)) (mCons (mC (.int 1)) (mCons (mC (.int 2)) (mCons (mC (.int 3)) (mCons (mC (.int 8)) (mNil))))))))) (mNil)))) (mNil)))) (mNil))) (.nm 4) (p_l_firsts_b0))
    (mRet (mApp fTuple (mCons (mVar 3) (mNil)))))
noncomputable def f_l_firsts : List D → Sto → R D := mFun 6 2 p_l_firsts
noncomputable def p_is_integer : MS := mRet (mAnd (mIsi .int (mVar 0)) (mAnd (mNot (mIsi .bool (mVar 0))) (mChain fLe fLe (mVar 1) (mVar 0) (mVar 2))))
noncomputable def f_is_integer : List D → Sto → R D := mFun 3 3 p_is_integer
noncomputable def p_is_heap_e0 : M D := mApp f_is_integer (mCons (mVar 2) (mCons (mC (.int 0)) (mCons (mOp fSub (mVar 1) (mC (.int 1))) (mNil))))
noncomputable def p_is_heap : MS := mSeq (mIfS (mOrT (mNotT (mTest (mIsi .tuple (mVar 0)))) (mTest (mOp fGt (mApp fLen (mCons (mVar 0) (mNil))) (mC (.int 8))))) (mRet (mC (.bl false))) (mPass))
    (mRet (mApp fAll (mCons (mFz (mComp (mSeqI (mVar 0)) (.nm 2) [2] (fun _ S => .ok true S) (p_is_heap_e0))) (mNil))))
noncomputable def f_is_heap : List D → Sto → R D := mFun 3 2 p_is_heap
noncomputable def p_check_heaps_b0 : MS := mIfS (mNotT (mTest (mApp f_is_heap (mCons (mVar 2) (mCons (mApp fLen (mCons (mVar 0) (mNil))) (mNil)))))) (mRaise 3 ["index"] (mCons (mVar 1) (mNil))) (mPass)
noncomputable def p_check_heaps : MS := mSeq (mIfS (mOrT (mNotT (mTest (mIsi .tuple (mVar 0)))) (mNotT (mTest (mChain fLe fLe (mC (.int 1)) (mApp fLen (mCons (mVar 0) (mNil))) (mC (.int 8)))))) (mRaise 3 ["index"] (mCons (mC .non) (mNil))) (mPass))
    (mFor (mEnum (mCons (mVar 0) (mNil))) (.tp [1, 2]) (p_check_heaps_b0))
noncomputable def f_check_heaps : List D → Sto → R D := mFun 3 1 p_check_heaps
noncomputable def p_Pack_init_e0 : M D := mCount (mVar 4) (mVar 2)
noncomputable def p_Pack_init_b0 : MS := mIfS (mTest (mOp fNe (mApp fSum (mCons (mFz (mComp (mSeqI (mVar 1)) (.nm 4) [4] (fun _ S => .ok true S) (p_Pack_init_e0))) (mNil))) (mApp fLen (mCons (mVar 3) (mNil))))) (mRaise 4 ["heap"] (mCons (mVar 2) (mNil))) (mPass)
noncomputable def p_Pack_init : MS := mSeq (mDrop (mApp f_check_heaps (mCons (mVar 1) (mNil))))
    (mSeq (mFor (mEnum (mCons (mVar 1) (mNil))) (.tp [2, 3]) (p_Pack_init_b0))
    (mSetFld 0 "rows" (mVar 0) (mVar 1)))
noncomputable def f_Pack_init : List D → Sto → R D := mFun 5 2 p_Pack_init
noncomputable def p_l_walk_t0 : M Bool := mTest (mOp fNe (mOp fIx (mVar 2) (mVar 5)) (mTup (mNil)))
noncomputable def p_l_walk_b0 : MS := mSeq (mSet 6 (mOp fIx (mOp fIx (mVar 2) (mVar 5)) (mC (.int 0))))
    (mSeq (mDrop (mMeth fAppend (mVar 3) (mCons (mTup (mCons (mVar 5) (mCons (mVar 6) (mNil)))) (mNil))))
    (mSeq (mSetIx (mVar 2) (mVar 5) (mSl (mOp fIx (mVar 2) (mVar 5)) (mPart (mC (.int 1))) mNoPart))
    (mSet 5 (mVar 6))))
noncomputable def p_l_walk_b1 : MS := mSeq (mSet 5 (mVar 4))
    (mW (p_l_walk_t0) (p_l_walk_b0))
noncomputable def p_l_walk : MS := mSeq (mPar [2, 3] (mCons (mLoc (mApp fList (mCons (mVar 0) (mNil)))) (mCons (mLoc (mLst (mNil))) (mNil))))
    (mSeq (mFor (mSeqI (mVar 1)) (.nm 4) (p_l_walk_b1))
    (mRet (mTup (mCons (mVar 3) (mCons (mApp fTuple (mCons (mVar 2) (mNil))) (mNil))))))
noncomputable def f_l_walk : List D → Sto → R D := mFun 7 2 p_l_walk
noncomputable def p_l_alike (r : List D → Sto → R D) : MS := mSeq (mIfS (mTest (mIsi2 .tuple .list (mVar 1))) (mSeq (mIfS (mOrT (mNotT (mTest (mIsi2 .tuple .list (mVar 0)))) (mTest (mOp fNe (mIsi .list (mVar 0)) (mIsi .list (mVar 1))))) (mRet (mC (.bl false))) (mPass))
    (mSeq (mIfS (mTest (mOp fNe (mApp fLen (mCons (mVar 0) (mNil))) (mApp fLen (mCons (mVar 1) (mNil))))) (mRet (mC (.bl false))) (mPass))
    (mRet (mOp fEq (mFz (mComp (mRgI (mCons (mApp fLen (mCons (mVar 1) (mNil))) (mNil))) (.nm 2) [2] (mNotT (mTest (mApp r (mCons (mOp fIx (mVar 0) (mVar 2)) (mCons (mOp fIx (mVar 1) (mVar 2)) (mNil)))))) (mVar 2))) (mFz (mLst (mNil))))))) (mPass))
    (mSeq (mIfS (mOrT (mTest (mUn fIsN (mVar 1))) (mTest (mIsi .str (mVar 1)))) (mRet (mAnd (mOp fEq (mVar 0) (mVar 1)) (mOp fEq (mIsi .str (mVar 0)) (mIsi .str (mVar 1))))) (mPass))
    (mRet (mAnd (mIsi .int (mVar 0)) (mAnd (mOp fEq (mIsi .bool (mVar 0)) (mIsi .bool (mVar 1))) (mOp fEq (mVar 0) (mVar 1))))))
noncomputable def f_l_alike : Nat → List D → Sto → R D
  | 0 => fun _ _ => .bad
  | n + 1 => mFun 3 2 (p_l_alike (f_l_alike n))
noncomputable def p_l_sizes_b0 : MS := mSeq (mSet 7 (mApp fMin (mCons (mApp f_l_next (mCons (mVar 0) (mCons (mVar 3) (mNil)))) (mCons (mOp fSub (mVar 2) (mVar 5)) (mNil)))))
    (mSeq (mDrop (mMeth fAppend (mVar 4) (mCons (mVar 7) (mNil))))
    (mSet 5 (mOp fAdd (mVar 5) (mVar 7))))
noncomputable def p_l_sizes : MS := mSeq (mPar [3, 4, 5] (mCons (mApp f_l_pick (mCons (mVar 0) (mCons (mFz (mLst (mCons (mC (.int 2)) (mCons (mC (.int 4)) (mCons (mC (.int 9)) (mNil)))))) (mNil)))) (mCons (mLoc (mLst (mNil))) (mCons (mC (.int 0)) (mNil)))))
    (mSeq (mFor (mRgI (mCons (mVar 1) (mNil))) (.nm 6) (p_l_sizes_b0))
    (mRet (mApp fTuple (mCons (mVar 4) (mNil)))))
noncomputable def f_l_sizes : List D → Sto → R D := mFun 8 3 p_l_sizes
noncomputable def p_check_firsts_b0 : MS := mIfS (mOrT (mNotT (mTest (mApp f_is_integer (mCons (mVar 3) (mCons (mC (.int 0)) (mCons (mOp fSub (mVar 0) (mC (.int 1))) (mNil))))))) (mTest (mOp (fIn false) (mVar 3) (mSl (mVar 1) mNoPart (mPart (mVar 2)))))) (mRaise 5 [] mNil) (mPass)
noncomputable def p_check_firsts : MS := mSeq (mIfS (mOrT (mNotT (mTest (mIsi .tuple (mVar 1)))) (mNotT (mTest (mChain fLe fLe (mC (.int 1)) (mApp fLen (mCons (mVar 1) (mNil))) (mVar 0))))) (mRaise 5 [] mNil) (mPass))
    (mFor (mEnum (mCons (mVar 1) (mNil))) (.tp [2, 3]) (p_check_firsts_b0))
noncomputable def f_check_firsts : List D → Sto → R D := mFun 4 2 p_check_firsts
noncomputable def p_walked_t0 : M Bool := mTest (mOp fLt0 (mOp fIx (mVar 3) (mVar 5)) (mApp fLen (mCons (mOp fIx (mVar 0) (mVar 5)) (mNil))))
noncomputable def p_walked_b0 : MS := mSeq (mSet 6 (mOp fIx (mOp fIx (mVar 0) (mVar 5)) (mOp fIx (mVar 3) (mVar 5))))
    (mSeq (mAugIx (mVar 3) (mVar 5) (fInt fun i j => .int (i + j)) (mC (.int 1)))
    (mSeq (mDrop (mMeth fAppend (mVar 2) (mCons (mTup (mCons (mVar 5) (mCons (mVar 6) (mNil)))) (mNil))))
    (mSet 5 (mVar 6))))
noncomputable def p_walked_b1 : MS := mSeq (mSet 5 (mVar 4))
    (mW (p_walked_t0) (p_walked_b0))
noncomputable def p_walked : MS := mSeq (mPar [2, 3] (mCons (mLoc (mLst (mNil))) (mCons (mLoc (mOpN fMulL (mFz (mLst (mCons (mC (.int 0)) (mNil)))) (mApp fLen (mCons (mVar 0) (mNil))))) (mNil))))
    (mSeq (mFor (mSeqI (mVar 1)) (.nm 4) (p_walked_b1))
    (mRet (mTup (mCons (mVar 2) (mCons (mVar 3) (mNil))))))
noncomputable def f_walked : List D → Sto → R D := mFun 7 2 p_walked
noncomputable def p_goes_e0 : M D := mApp fLen (mCons (mVar 2) (mNil))
noncomputable def p_goes : MS := mSeq (mDrop (mApp f_check_firsts (mCons (mApp fLen (mCons (mFld 0 "rows" (mVar 0)) (mNil))) (mCons (mVar 1) (mNil)))))
    (mRet (mOp fEq (mOp fIx (mApp f_walked (mCons (mFld 0 "rows" (mVar 0)) (mCons (mVar 1) (mNil)))) (mC (.int 1))) (mFz (mComp (mSeqI (mFld 0 "rows" (mVar 0))) (.nm 2) [2] (fun _ S => .ok true S) (p_goes_e0)))))
noncomputable def f_goes : List D → Sto → R D := mFun 3 2 p_goes
noncomputable def p_walk : MS := mSeq (mDrop (mApp f_check_firsts (mCons (mApp fLen (mCons (mFld 0 "rows" (mVar 0)) (mNil))) (mCons (mVar 1) (mNil)))))
    (mRet (mOp fIx (mApp f_walked (mCons (mFld 0 "rows" (mVar 0)) (mCons (mVar 1) (mNil)))) (mC (.int 0))))
noncomputable def f_walk : List D → Sto → R D := mFun 2 2 p_walk
noncomputable def p_unturned_e0 : M D := mSl (mVar 3) (mPart (mVar 4)) mNoPart
noncomputable def p_unturned : MS := mSeq (mDrop (mApp f_check_firsts (mCons (mApp fLen (mCons (mFld 0 "rows" (mVar 0)) (mNil))) (mCons (mVar 1) (mNil)))))
    (mSeq (mSet 2 (mOp fIx (mApp f_walked (mCons (mFld 0 "rows" (mVar 0)) (mCons (mVar 1) (mNil)))) (mC (.int 1))))
    (mRet (mApp fTuple (mCons (mFz (mComp (mZip (mCons (mFld 0 "rows" (mVar 0)) (mCons (mVar 2) (mNil)))) (.tp [3, 4]) [3, 4] (fun _ S => .ok true S) (p_unturned_e0))) (mNil)))))
noncomputable def f_unturned : List D → Sto → R D := mFun 5 2 p_unturned
noncomputable def p_law_k02_b0 : MS := mSeq (mSet 3 (mOp fAdd (mC (.int 1)) (mApp f_l_next (mCons (mVar 1) (mCons (mC (.int 8)) (mNil))))))
    (mSeq (mPar [4, 5] (mCons (mApp f_l_deal (mCons (mVar 1) (mCons (mApp f_l_sizes (mCons (mVar 1) (mCons (mVar 3) (mCons (mC (.int 64)) (mNil))))) (mNil)))) (mCons (mApp f_l_firsts (mCons (mVar 1) (mCons (mVar 3) (mNil)))) (mNil))))
    (mSeq (mPar [6, 7] (mCons (mFr (mNew 0 f_Pack_init (mCons (mVar 4) (mNil)))) (mCons (mApp f_l_walk (mCons (mVar 4) (mCons (mVar 5) (mNil)))) (mNil))))
    (mSeq (mIfS (mOrT (mNotT (mTest (mApp (f_l_alike 8) (mCons (mApp f_walk (mCons (mVar 6) (mCons (mVar 5) (mNil)))) (mCons (mOp fIx (mVar 7) (mC (.int 0))) (mNil)))))) (mNotT (mTest (mApp (f_l_alike 8) (mCons (mApp f_unturned (mCons (mVar 6) (mCons (mVar 5) (mNil)))) (mCons (mOp fIx (mVar 7) (mC (.int 1))) (mNil))))))) (mRet (mC (.bl false))) (mPass))
    (mIfS (mNotT (mTest (mApp (f_l_alike 8) (mCons (mApp f_goes (mCons (mVar 6) (mCons (mVar 5) (mNil)))) (mCons (mOp fEq (mOp fIx (mVar 7) (mC (.int 1))) (mOp fMul (mTup (mCons (mTup (mNil)) (mNil))) (mVar 3))) (mNil)))))) (mRet (mC (.bl false))) (mPass)))))
noncomputable def p_law_k02 : MS := mSeq (mSet 1 (mApp f_l_mix (mCons (mVar 0) (mCons (mC (.int 2)) (mNil)))))
    (mSeq (mFor (mRgI (mCons (mC (.int 5)) (mNil))) (.nm 2) (p_law_k02_b0))
    (mRet (mC (.bl true))))
noncomputable def f_law_k02 : List D → Sto → R D := mFun 8 1 p_law_k02
noncomputable def p_l_homed_e0 : M D := mLoc (mApp fList (mCons (mVar 3) (mNil)))
noncomputable def p_l_homed_c0 : M Bool := mTest (mOp (fIn false) (mOp fIx (mOp fIx (mVar 4) (mVar 3)) (mVar 9)) (mVar 2))
noncomputable def p_l_homed_e1 : M D := mVar 9
noncomputable def p_l_homed_b0 : MS := mSeq (mSet 5 (mFz (mComp (mRgI (mCons (mApp fLen (mCons (mOp fIx (mVar 4) (mVar 3)) (mNil))) (mNil))) (.nm 9) [9] (p_l_homed_c0) (p_l_homed_e1))))
    (mIfS (mAndT (mTest (mOp fNe (mVar 5) (mFz (mLst (mNil))))) (mTest (mOp fEq (mApp f_l_next (mCons (mVar 0) (mCons (mC (.int 2)) (mNil)))) (mC (.int 0))))) (mSeq (mPar [6, 7] (mCons (mOp fIx (mVar 5) (mApp f_l_next (mCons (mVar 0) (mCons (mApp fLen (mCons (mVar 5) (mNil))) (mNil))))) (mCons (mOp fSub (mApp fLen (mCons (mOp fIx (mVar 4) (mVar 3)) (mNil))) (mC (.int 1))) (mNil))))
    (mSeq (mSet 8 (mOp fIx (mOp fIx (mVar 4) (mVar 3)) (mVar 7)))
    (mSeq (mSetIx (mOp fIx (mVar 4) (mVar 3)) (mVar 7) (mOp fIx (mOp fIx (mVar 4) (mVar 3)) (mVar 6)))
    (mSetIx (mOp fIx (mVar 4) (mVar 3)) (mVar 6) (mVar 8))))) (mPass))
noncomputable def p_l_homed_e2 : M D := mApp fTuple (mCons (mVar 10) (mNil))
noncomputable def p_l_homed : MS := mSeq (mSet 4 (mFz (mComp (mSeqI (mVar 1)) (.nm 3) [3] (fun _ S => .ok true S) (p_l_homed_e0))))
    (mSeq (mFor (mRgI (mCons (mApp fLen (mCons (mVar 4) (mNil))) (mNil))) (.nm 3) (p_l_homed_b0))
    (mRet (mApp fTuple (mCons (mFz (mComp (mSeqI (mVar 4)) (.nm 10) [10] (fun _ S => .ok true S) (p_l_homed_e2))) (mNil)))))
noncomputable def f_l_homed : List D → Sto → R D := mFun 11 3 p_l_homed
noncomputable def p_rings_of_t0 : M Bool := mAndT (mTest (mUn fNotN (mOp fIx (mVar 0) (mVar 4)))) (mAndT (mTest (mOp (fDIn true) (mVar 4) (mVar 2))) (mTest (mOp (fIn true) (mVar 4) (mVar 5))))
noncomputable def p_rings_of_b0 : MS := mSeq (mDrop (mMeth fAppend (mVar 5) (mCons (mVar 4) (mNil))))
    (mSet 4 (mOp fIx (mVar 0) (mVar 4)))
noncomputable def p_rings_of_b1 : MS := mDPut (mVar 2) (mVar 8) (mC (.bl true))
noncomputable def p_rings_of_b2 : MS := mSeq (mPar [4, 5] (mCons (mVar 3) (mCons (mLoc (mLst (mNil))) (mNil))))
    (mSeq (mW (p_rings_of_t0) (p_rings_of_b0))
    (mSeq (mIfS (mTest (mOp (fIn false) (mVar 4) (mVar 5))) (mSeq (mSet 6 (mSl (mVar 5) (mPart (mMeth fIndex (mVar 5) (mCons (mVar 4) (mNil)))) mNoPart))
    (mSeq (mSet 7 (mMeth fIndex (mVar 6) (mCons (mApp fMin (mCons (mVar 6) (mNil))) (mNil))))
    (mDrop (mMeth fAppend (mVar 1) (mCons (mApp fTuple (mCons (mOp fAdd (mSl (mVar 6) (mPart (mVar 7)) mNoPart) (mSl (mVar 6) mNoPart (mPart (mVar 7)))) (mNil))) (mNil)))))) (mPass))
    (mFor (mSeqI (mVar 5)) (.nm 8) (p_rings_of_b1))))
noncomputable def p_rings_of : MS := mSeq (mPar [1, 2] (mCons (mLoc (mLst (mNil))) (mCons (mDicL) (mNil))))
    (mSeq (mFor (mRgI (mCons (mApp fLen (mCons (mVar 0) (mNil))) (mNil))) (.nm 3) (p_rings_of_b2))
    (mRet (mFz (mApp fSorted (mCons (mVar 1) (mNil))))))
noncomputable def f_rings_of : List D → Sto → R D := mFun 9 1 p_rings_of
noncomputable def p_lowest_of_b0 : MS := mDrop (mMeth fAppend (mVar 2) (mCons (mIf (mOrT (mTest (mOp (fIn false) (mVar 3) (mVar 1))) (mTest (mOp fEq (mVar 4) (mTup (mNil))))) (mC .non) (mOp fIx (mVar 4) (mUn fNeg (mC (.int 1))))) (mNil)))
noncomputable def p_lowest_of : MS := mSeq (mSet 2 (mLoc (mLst (mNil))))
    (mSeq (mFor (mEnum (mCons (mVar 0) (mNil))) (.tp [3, 4]) (p_lowest_of_b0))
    (mRet (mVar 2)))
noncomputable def f_lowest_of : List D → Sto → R D := mFun 5 2 p_lowest_of
noncomputable def p_rings : MS := mSeq (mDrop (mApp f_check_firsts (mCons (mApp fLen (mCons (mFld 0 "rows" (mVar 0)) (mNil))) (mCons (mVar 1) (mNil)))))
    (mRet (mApp f_rings_of (mCons (mApp f_lowest_of (mCons (mFld 0 "rows" (mVar 0)) (mCons (mVar 1) (mNil)))) (mNil))))
noncomputable def f_rings : List D → Sto → R D := mFun 2 2 p_rings
noncomputable def p_tree : MS := mSeq (mDrop (mApp f_check_firsts (mCons (mApp fLen (mCons (mFld 0 "rows" (mVar 0)) (mNil))) (mCons (mVar 1) (mNil)))))
    (mSeq (mSet 2 (mApp f_lowest_of (mCons (mFld 0 "rows" (mVar 0)) (mCons (mVar 1) (mNil)))))
    (mRet (mIf (mTest (mOp fEq (mApp f_rings_of (mCons (mVar 2) (mNil))) (mFz (mLst (mNil))))) (mApp fTuple (mCons (mVar 2) (mNil))) (mC .non))))
noncomputable def f_tree : List D → Sto → R D := mFun 3 2 p_tree
noncomputable def p_l_home_b0 : MS := mIfS (mTest (mOp (fIn true) (mVar 3) (mVar 1))) (mSet 3 (mOp fIx (mOp fIx (mVar 0) (mVar 3)) (mOp fSub (mApp fLen (mCons (mOp fIx (mVar 0) (mVar 3)) (mNil))) (mC (.int 1))))) (mPass)
noncomputable def p_l_home : MS := mSeq (mSet 3 (mVar 2))
    (mSeq (mFor (mRgI (mCons (mApp fLen (mCons (mVar 0) (mNil))) (mNil))) (.nm 4) (p_l_home_b0))
    (mRet (mOp (fIn false) (mVar 3) (mVar 1))))
noncomputable def f_l_home : List D → Sto → R D := mFun 5 3 p_l_home
noncomputable def p_l_rings_b0 : MS := mSeq (mSet 6 (mOp fIx (mVar 0) (mOp fIx (mVar 4) (mVar 5))))
    (mDrop (mMeth fAppend (mVar 4) (mCons (mOp fIx (mVar 6) (mOp fSub (mApp fLen (mCons (mVar 6) (mNil))) (mC (.int 1)))) (mNil))))
noncomputable def p_l_rings_c0 : M Bool := mTest (mOp fEq (mOp fIx (mVar 4) (mVar 5)) (mVar 3))
noncomputable def p_l_rings_e0 : M D := mVar 5
noncomputable def p_l_rings_b1 : MS := mIfS (mAndT (mTest (mOp (fIn true) (mVar 3) (mVar 1))) (mAndT (mTest (mOp fNe (mOp fIx (mVar 0) (mVar 3)) (mTup (mNil)))) (mNotT (mTest (mApp f_l_home (mCons (mVar 0) (mCons (mVar 1) (mCons (mVar 3) (mNil))))))))) (mSeq (mSet 4 (mLoc (mLst (mCons (mVar 3) (mNil)))))
    (mSeq (mFor (mRgI (mCons (mApp fLen (mCons (mVar 0) (mNil))) (mNil))) (.nm 5) (p_l_rings_b0))
    (mSeq (mSet 7 (mFz (mComp (mRgI2 (mCons (mC (.int 1)) (mCons (mApp fLen (mCons (mVar 4) (mNil))) (mNil)))) (.nm 5) [5] (p_l_rings_c0) (p_l_rings_e0))))
    (mIfS (mAndT (mTest (mOp fNe (mVar 7) (mFz (mLst (mNil))))) (mTest (mOp fEq (mApp fMin (mCons (mSl (mVar 4) mNoPart (mPart (mOp fIx (mVar 7) (mC (.int 0))))) (mNil))) (mVar 3)))) (mDrop (mMeth fAppend (mVar 2) (mCons (mApp fTuple (mCons (mSl (mVar 4) mNoPart (mPart (mOp fIx (mVar 7) (mC (.int 0))))) (mNil))) (mNil)))) (mPass))))) (mPass)
noncomputable def p_l_rings : MS := mSeq (mSet 2 (mLoc (mLst (mNil))))
    (mSeq (mFor (mRgI (mCons (mApp fLen (mCons (mVar 0) (mNil))) (mNil))) (.nm 3) (p_l_rings_b1))
    (mRet (mVar 2)))
noncomputable def f_l_rings : List D → Sto → R D := mFun 8 2 p_l_rings
noncomputable def p_law_k03_c0 : M Bool := mAndT (mTest (mOp (fIn true) (mVar 8) (mVar 4))) (mTest (mOp fNe (mOp fIx (mVar 5) (mVar 8)) (mTup (mNil))))
noncomputable def p_law_k03_e0 : M D := mVar 8
noncomputable def p_law_k03_c1 : M Bool := mNotT (mTest (mApp f_l_home (mCons (mVar 5) (mCons (mVar 4) (mCons (mVar 8) (mNil))))))
noncomputable def p_law_k03_e1 : M D := mVar 8
noncomputable def p_law_k03_b0 : MS := mDrop (mMeth fAppend (mVar 7) (mCons (mIf (mTest (mOp (fIn false) (mVar 8) (mVar 9))) (mOp fIx (mOp fIx (mVar 5) (mVar 8)) (mOp fSub (mApp fLen (mCons (mOp fIx (mVar 5) (mVar 8)) (mNil))) (mC (.int 1)))) (mC .non)) (mNil)))
noncomputable def p_law_k03_b1 : MS := mSeq (mSet 3 (mOp fAdd (mC (.int 1)) (mApp f_l_next (mCons (mVar 1) (mCons (mC (.int 8)) (mNil))))))
    (mSeq (mSet 4 (mApp f_l_firsts (mCons (mVar 1) (mCons (mVar 3) (mNil)))))
    (mSeq (mSet 5 (mApp f_l_homed (mCons (mVar 1) (mCons (mApp f_l_deal (mCons (mVar 1) (mCons (mApp f_l_sizes (mCons (mVar 1) (mCons (mVar 3) (mCons (mC (.int 64)) (mNil))))) (mNil)))) (mCons (mVar 4) (mNil))))))
    (mSeq (mPar [6, 7] (mCons (mFr (mNew 0 f_Pack_init (mCons (mVar 5) (mNil)))) (mCons (mLoc (mLst (mNil))) (mNil))))
    (mSeq (mSet 9 (mFz (mComp (mRgI (mCons (mVar 3) (mNil))) (.nm 8) [8] (p_law_k03_c0) (p_law_k03_e0))))
    (mSeq (mSet 10 (mOp fEq (mFz (mComp (mSeqI (mVar 9)) (.nm 8) [8] (p_law_k03_c1) (p_law_k03_e1))) (mFz (mLst (mNil)))))
    (mSeq (mFor (mRgI (mCons (mVar 3) (mNil))) (.nm 8) (p_law_k03_b0))
    (mSeq (mIfS (mNotT (mTest (mApp (f_l_alike 8) (mCons (mApp f_goes (mCons (mVar 6) (mCons (mVar 4) (mNil)))) (mCons (mVar 10) (mNil)))))) (mRet (mC (.bl false))) (mPass))
    (mSeq (mIfS (mNotT (mTest (mApp (f_l_alike 8) (mCons (mApp f_tree (mCons (mVar 6) (mCons (mVar 4) (mNil)))) (mCons (mIf (mTest (mVar 10)) (mApp fTuple (mCons (mVar 7) (mNil))) (mC .non)) (mNil)))))) (mRet (mC (.bl false))) (mPass))
    (mSeq (mSet 11 (mApp f_rings (mCons (mVar 6) (mCons (mVar 4) (mNil)))))
    (mIfS (mOrT (mNotT (mTest (mApp (f_l_alike 8) (mCons (mVar 11) (mCons (mApp f_l_rings (mCons (mVar 5) (mCons (mVar 4) (mNil)))) (mNil)))))) (mTest (mOp fNe (mOp fEq (mVar 11) (mFz (mLst (mNil)))) (mVar 10)))) (mRet (mC (.bl false))) (mPass)))))))))))
noncomputable def p_law_k03 : MS := mSeq (mSet 1 (mApp f_l_mix (mCons (mVar 0) (mCons (mC (.int 3)) (mNil)))))
    (mSeq (mFor (mRgI (mCons (mC (.int 6)) (mNil))) (.nm 2) (p_law_k03_b1))
    (mRet (mC (.bl true))))
noncomputable def f_law_k03 : List D → Sto → R D := mFun 12 1 p_law_k03
noncomputable def p_check_row_b0 : MS := mIfS (mOrT (mNotT (mTest (mApp f_is_integer (mCons (mVar 3) (mCons (mC (.int 0)) (mCons (mOp fSub (mVar 0) (mC (.int 1))) (mNil))))))) (mTest (mOp fGe (mCount (mSl (mVar 1) mNoPart (mPart (mVar 2))) (mVar 3)) (mC (.int 8))))) (mRaise 8 ["index"] (mCons (mVar 2) (mNil))) (mPass)
noncomputable def p_check_row : MS := mSeq (mIfS (mNotT (mTest (mIsi .tuple (mVar 1)))) (mRaise 8 ["index"] (mCons (mC .non) (mNil))) (mPass))
    (mFor (mEnum (mCons (mVar 1) (mNil))) (.tp [2, 3]) (p_check_row_b0))
noncomputable def f_check_row : List D → Sto → R D := mFun 4 2 p_check_row
noncomputable def p_laid_e0 : M D := mLoc (mLst (mNil))
noncomputable def p_laid_t0 : M Bool := mTest (mOp fGt (mVar 7) (mC (.int 0)))
noncomputable def p_laid_b0 : MS := mSeq (mDrop (mMeth fAppend (mOp fIx (mVar 3) (mVar 6)) (mCons (mOp fIx (mVar 2) (mVar 4)) (mNil))))
    (mSeq (mSet 6 (mOp fIx (mVar 2) (mVar 4)))
    (mSeq (mAug 4 (fInt fun i j => .int (i + j)) (mC (.int 1)))
    (mAug 7 (fInt fun i j => .int (i - j)) (mIf (mTest (mOp fEq (mVar 6) (mVar 5))) (mC (.int 1)) (mC (.int 0))))))
noncomputable def p_laid_b1 : MS := mSeq (mPar [6, 7] (mCons (mVar 5) (mCons (mCount (mSl (mVar 2) (mPart (mVar 4)) mNoPart) (mVar 5)) (mNil))))
    (mW (p_laid_t0) (p_laid_b0))
noncomputable def p_laid_e1 : M D := mApp fTuple (mCons (mVar 8) (mNil))
noncomputable def p_laid : MS := mSeq (mIfS (mNotT (mTest (mApp f_is_integer (mCons (mVar 0) (mCons (mC (.int 1)) (mCons (mC (.int 8)) (mNil))))))) (mRaise 9 [] mNil) (mPass))
    (mSeq (mDrop (mApp f_check_firsts (mCons (mVar 0) (mCons (mVar 1) (mNil)))))
    (mSeq (mDrop (mApp f_check_row (mCons (mVar 0) (mCons (mVar 2) (mNil)))))
    (mSeq (mPar [3, 4] (mCons (mFz (mComp (mRgI (mCons (mVar 0) (mNil))) (.nm 8) [8] (fun _ S => .ok true S) (p_laid_e0))) (mCons (mC (.int 0)) (mNil))))
    (mSeq (mFor (mSeqI (mVar 1)) (.nm 5) (p_laid_b1))
    (mRet (mIf (mTest (mOp fEq (mVar 4) (mApp fLen (mCons (mVar 2) (mNil))))) (mFr (mNew 0 f_Pack_init (mCons (mApp fTuple (mCons (mFz (mComp (mSeqI (mVar 3)) (.nm 8) [8] (fun _ S => .ok true S) (p_laid_e1))) (mNil))) (mNil)))) (mC .non)))))))
noncomputable def f_laid : List D → Sto → R D := mFun 9 3 p_laid
noncomputable def p_Pack_heaps : MS := mRet (mFld 0 "rows" (mVar 0))
noncomputable def f_Pack_heaps : List D → Sto → R D := mFun 1 1 p_Pack_heaps
noncomputable def p_l_deals_b0 : MS := mIfS (mTest (mOp fGt (mOp fIx (mVar 5) (mVar 6)) (mC (.int 0)))) (mDrop (mMeth fAppend (mVar 3) (mCons (mTup (mCons (mOp fAdd (mVar 4) (mTup (mCons (mVar 6) (mNil)))) (mCons (mOp fAdd (mOp fAdd (mSl (mVar 5) mNoPart (mPart (mVar 6))) (mTup (mCons (mOp fSub (mOp fIx (mVar 5) (mVar 6)) (mC (.int 1))) (mNil)))) (mSl (mVar 5) (mPart (mOp fAdd (mVar 6) (mC (.int 1)))) mNoPart)) (mNil)))) (mNil)))) (mPass)
noncomputable def p_l_deals_b1 : MS := mFor (mRgI (mCons (mApp fLen (mCons (mVar 0) (mNil))) (mNil))) (.nm 6) (p_l_deals_b0)
noncomputable def p_l_deals_b2 : MS := mSeq (mSet 3 (mLoc (mLst (mNil))))
    (mSeq (mFor (mSeqI (mVar 1)) (.tp [4, 5]) (p_l_deals_b1))
    (mSet 1 (mVar 3)))
noncomputable def p_l_deals_b3 : MS := mSeq (mDrop (mMeth fAppend (mVar 8) (mCons (mSl (mVar 4) (mPart (mVar 9)) (mPart (mOp fAdd (mVar 9) (mVar 10)))) (mNil))))
    (mSet 9 (mOp fAdd (mVar 9) (mVar 10)))
noncomputable def p_l_deals_b4 : MS := mSeq (mPar [8, 9] (mCons (mLoc (mLst (mNil))) (mCons (mC (.int 0)) (mNil))))
    (mSeq (mFor (mSeqI (mVar 0)) (.nm 10) (p_l_deals_b3))
    (mDrop (mMeth fAppend (mVar 7) (mCons (mApp fTuple (mCons (mVar 8) (mNil))) (mNil)))))
noncomputable def p_l_deals : MS := mSeq (mSet 1 (mFz (mLst (mCons (mTup (mCons (mTup (mNil)) (mCons (mApp fTuple (mCons (mVar 0) (mNil))) (mNil)))) (mNil)))))
    (mSeq (mFor (mRgI (mCons (mApp fSum (mCons (mVar 0) (mNil))) (mNil))) (.nm 2) (p_l_deals_b2))
    (mSeq (mSet 7 (mLoc (mLst (mNil))))
    (mSeq (mFor (mSeqI (mVar 1)) (.tp [4, 5]) (p_l_deals_b4))
    (mRet (mVar 7)))))
noncomputable def f_l_deals : List D → Sto → R D := mFun 11 1 p_l_deals
noncomputable def p_law_k08_e0 : M D := mOp fIx (mVar 14) (mC (.int 1))
noncomputable def p_law_k08_e1 : M D := mSl (mOp fIx (mVar 5) (mVar 15)) mNoPart (mPart (mOp fSub (mApp fLen (mCons (mOp fIx (mVar 5) (mVar 15)) (mNil))) (mApp fLen (mCons (mOp fIx (mVar 7) (mVar 15)) (mNil)))))
noncomputable def p_law_k08_e2 : M D := mApp f_l_next (mCons (mVar 1) (mCons (mVar 11) (mNil)))
noncomputable def p_law_k08_c0 : M Bool := mTest (mOp fEq (mVar 17) (mVar 15))
noncomputable def p_law_k08_e3 : M D := mVar 17
noncomputable def p_law_k08_e4 : M D := mApp fLen (mCons (mFz (mComp (mSeqI (mVar 8)) (.nm 17) [17] (p_law_k08_c0) (p_law_k08_e3))) (mNil))
noncomputable def p_law_k08_e5 : M D := mOp fIx (mVar 14) (mC (.int 1))
noncomputable def p_law_k08_c1 : M Bool := mTest (mOp fEq (mApp fTuple (mCons (mFz (mComp (mSeqI (mOp fIx (mApp f_l_walk (mCons (mVar 18) (mCons (mVar 4) (mNil)))) (mC (.int 0)))) (.nm 14) [14] (fun _ S => .ok true S) (p_law_k08_e5))) (mNil))) (mVar 8))
noncomputable def p_law_k08_e6 : M D := mVar 18
noncomputable def p_law_k08_b0 : MS := mSeq (mSet 3 (mOp fAdd (mC (.int 1)) (mApp f_l_next (mCons (mVar 1) (mCons (mC (.int 8)) (mNil))))))
    (mSeq (mAsg (.tp [4, 5]) (mTup (mCons (mApp f_l_firsts (mCons (mVar 1) (mCons (mVar 3) (mNil)))) (mCons (mApp f_l_deal (mCons (mVar 1) (mCons (mApp f_l_sizes (mCons (mVar 1) (mCons (mVar 3) (mCons (mC (.int 64)) (mNil))))) (mNil)))) (mNil)))))
    (mSeq (mAsg (.tp [6, 7]) (mApp f_l_walk (mCons (mVar 5) (mCons (mVar 4) (mNil)))))
    (mSeq (mSet 8 (mApp fTuple (mCons (mFz (mComp (mSeqI (mVar 6)) (.nm 14) [14] (fun _ S => .ok true S) (p_law_k08_e0))) (mNil))))
    (mSeq (mSet 9 (mApp fTuple (mCons (mFz (mComp (mRgI (mCons (mVar 3) (mNil))) (.nm 15) [15] (fun _ S => .ok true S) (p_law_k08_e1))) (mNil))))
    (mSeq (mSet 10 (mApp f_laid (mCons (mVar 3) (mCons (mVar 4) (mCons (mVar 8) (mNil))))))
    (mSeq (mIfS (mOrT (mNotT (mTest (mIsC 0 (mVar 10)))) (mNotT (mTest (mApp (f_l_alike 8) (mCons (mProp 0 f_Pack_heaps (mVar 10)) (mCons (mVar 9) (mNil))))))) (mRet (mC (.bl false))) (mPass))
    (mSeq (mSet 11 (mOp fAdd (mC (.int 1)) (mApp f_l_next (mCons (mVar 1) (mCons (mC (.int 3)) (mNil))))))
    (mSeq (mSet 8 (mApp fTuple (mCons (mFz (mComp (mRgI (mCons (mApp f_l_next (mCons (mVar 1) (mCons (mC (.int 6)) (mNil)))) (mNil))) (.nm 16) [16] (fun _ S => .ok true S) (p_law_k08_e2))) (mNil))))
    (mSeq (mSet 4 (mApp f_l_firsts (mCons (mVar 1) (mCons (mVar 11) (mNil)))))
    (mSeq (mSet 12 (mFz (mComp (mRgI (mCons (mVar 11) (mNil))) (.nm 15) [15] (fun _ S => .ok true S) (p_law_k08_e4))))
    (mSeq (mSet 13 (mFz (mComp (mSeqI (mApp f_l_deals (mCons (mVar 12) (mNil)))) (.nm 18) [18] (p_law_k08_c1) (p_law_k08_e6))))
    (mSeq (mSet 10 (mApp f_laid (mCons (mVar 11) (mCons (mVar 4) (mCons (mVar 8) (mNil))))))
    (mSeq (mIfS (mOrT (mTest (mOp fNe (mUn fIsN (mVar 10)) (mOp fEq (mVar 13) (mFz (mLst (mNil)))))) (mTest (mOp fGt (mApp fLen (mCons (mVar 13) (mNil))) (mC (.int 1))))) (mRet (mC (.bl false))) (mPass))
    (mIfS (mAndT (mTest (mUn fNotN (mVar 10))) (mNotT (mTest (mApp (f_l_alike 8) (mCons (mProp 0 f_Pack_heaps (mVar 10)) (mCons (mOp fIx (mVar 13) (mC (.int 0))) (mNil))))))) (mRet (mC (.bl false))) (mPass)))))))))))))))
noncomputable def p_law_k08 : MS := mSeq (mSet 1 (mApp f_l_mix (mCons (mVar 0) (mCons (mC (.int 8)) (mNil)))))
    (mSeq (mFor (mRgI (mCons (mC (.int 4)) (mNil))) (.nm 2) (p_law_k08_b0))
    (mRet (mC (.bl true))))
noncomputable def f_law_k08 : List D → Sto → R D := mFun 19 1 p_law_k08
noncomputable def p_Table_init : MS := mSeq (mDrop (mApp f_check_firsts (mCons (mApp fLen (mCons (mFld 0 "rows" (mVar 1)) (mNil))) (mCons (mVar 2) (mNil)))))
    (mSeq (mSetFld 1 "base" (mVar 0) (mVar 1))
    (mSeq (mSetFld 1 "begun" (mVar 0) (mVar 2))
    (mSeq (mSetFld 1 "whole" (mVar 0) (mApp fTuple (mCons (mOp fIx (mApp f_walked (mCons (mFld 0 "rows" (mVar 1)) (mCons (mVar 2) (mNil)))) (mC (.int 0))) (mNil))))
    (mSetFld 1 "done" (mVar 0) (mTup (mNil))))))
noncomputable def f_Table_init : List D → Sto → R D := mFun 3 3 p_Table_init
noncomputable def p_Table_shown : MS := mRet (mFz (mApp fList (mCons (mFld 1 "done" (mVar 0)) (mNil))))
noncomputable def f_Table_shown : List D → Sto → R D := mFun 1 1 p_Table_shown
noncomputable def p_Table_shownK : MS := mRet (mLoc (mApp fList (mCons (mFld 1 "done" (mVar 0)) (mNil))))
noncomputable def f_Table_shownK : List D → Sto → R D := mFunK 1 1 p_Table_shownK
noncomputable def p_Pack_eq : MS := mRet (mAnd (mIsC 0 (mVar 1)) (mOp fEq (mFld 0 "rows" (mVar 0)) (mFld 0 "rows" (mVar 1))))
noncomputable def f_Pack_eq : List D → Sto → R D := mFun 2 2 p_Pack_eq
noncomputable def p_Table_pack : MS := mRet (mFld 1 "base" (mVar 0))
noncomputable def f_Table_pack : List D → Sto → R D := mFun 1 1 p_Table_pack
noncomputable def p_Table_lies_e0 : M D := mVar 2
noncomputable def p_Table_lies_e1 : M D := mSl (mVar 4) (mPart (mMeth fCountL (mVar 1) (mCons (mVar 2) (mNil)))) mNoPart
noncomputable def p_Table_lies : MS := mSeq (mSet 1 (mFz (mComp (mSeqI (mFld 1 "done" (mVar 0))) (.tp [2, 3]) [2, 3] (fun _ S => .ok true S) (p_Table_lies_e0))))
    (mRet (mApp fTuple (mCons (mFz (mComp (mEnum (mCons (mFld 0 "rows" (mFld 1 "base" (mVar 0))) (mNil))) (.tp [2, 4]) [2, 4] (fun _ S => .ok true S) (p_Table_lies_e1))) (mNil))))
noncomputable def f_Table_lies : List D → Sto → R D := mFun 5 1 p_Table_lies
noncomputable def p_Table_firsts : MS := mRet (mFld 1 "begun" (mVar 0))
noncomputable def f_Table_firsts : List D → Sto → R D := mFun 1 1 p_Table_firsts
noncomputable def p_Table_len : MS := mRet (mApp fLen (mCons (mFld 1 "done" (mVar 0)) (mNil)))
noncomputable def f_Table_len : List D → Sto → R D := mFun 1 1 p_Table_len
noncomputable def p_l_stands_so_c0 : M Bool := mTest (mOp fEq (mOp fIx (mVar 8) (mC (.int 0))) (mVar 6))
noncomputable def p_l_stands_so_e0 : M D := mVar 8
noncomputable def p_l_stands_so_b0 : MS := mDrop (mMeth fAppend (mVar 5) (mCons (mSl (mOp fIx (mVar 1) (mVar 6)) (mPart (mApp fLen (mCons (mFz (mComp (mSeqI (mVar 4)) (.nm 8) [8] (p_l_stands_so_c0) (p_l_stands_so_e0))) (mNil)))) mNoPart) (mNil)))
noncomputable def p_l_stands_so : MS := mSeq (mSet 4 (mSl (mOp fIx (mApp f_l_walk (mCons (mVar 1) (mCons (mVar 2) (mNil)))) (mC (.int 0))) mNoPart (mPart (mVar 3))))
    (mSeq (mSet 5 (mLoc (mLst (mNil))))
    (mSeq (mFor (mRgI (mCons (mApp fLen (mCons (mVar 1) (mNil))) (mNil))) (.nm 6) (p_l_stands_so_b0))
    (mSeq (mIfS (mOrT (mNotT (mTest (mOp (fEqO 0 f_Pack_eq) (mProp 1 f_Table_pack (mVar 0)) (mFr (mNew 0 f_Pack_init (mCons (mVar 1) (mNil))))))) (mNotT (mTest (mApp (f_l_alike 8) (mCons (mFz (mLst (mCons (mProp 1 f_Table_firsts (mVar 0)) (mCons (mApp (fLenO 1 f_Table_len) (mCons (mVar 0) (mNil))) (mNil))))) (mCons (mFz (mLst (mCons (mVar 2) (mCons (mVar 3) (mNil))))) (mNil))))))) (mRet (mC (.bl false))) (mPass))
    (mSeq (mSet 7 (mMe 1 "shown" f_Table_shownK (mVar 0)))
    (mSeq (mIfS (mOrT (mNotT (mTest (mApp (f_l_alike 8) (mCons (mVar 7) (mCons (mVar 4) (mNil)))))) (mNotT (mTest (mApp (f_l_alike 8) (mCons (mMe 1 "lies" f_Table_lies (mVar 0)) (mCons (mApp fTuple (mCons (mVar 5) (mNil))) (mNil))))))) (mRet (mC (.bl false))) (mPass))
    (mSeq (mDrop (mMeth fAppend (mVar 7) (mCons (mC (.str "more")) (mNil))))
    (mRet (mApp (f_l_alike 8) (mCons (mMe 1 "shown" f_Table_shown (mVar 0)) (mCons (mVar 4) (mNil)))))))))))
noncomputable def f_l_stands_so : List D → Sto → R D := mFun 9 4 p_l_stands_so
noncomputable def p_Table_copy : MS := mSeq (mSet 1 (mNew 1 f_Table_init (mCons (mFld 1 "base" (mVar 0)) (mCons (mFld 1 "begun" (mVar 0)) (mNil)))))
    (mSeq (mSetFld 1 "done" (mVar 1) (mFld 1 "done" (mVar 0)))
    (mRet (mVar 1)))
noncomputable def f_Table_copy : List D → Sto → R D := mFun 2 1 p_Table_copy
noncomputable def p_Table_copyK : MS := mSeq (mSet 1 (mNew 1 f_Table_init (mCons (mFld 1 "base" (mVar 0)) (mCons (mFld 1 "begun" (mVar 0)) (mNil)))))
    (mSeq (mSetFld 1 "done" (mVar 1) (mFld 1 "done" (mVar 0)))
    (mRet (mVar 1)))
noncomputable def f_Table_copyK : List D → Sto → R D := mFunK 2 1 p_Table_copyK
noncomputable def p_Table_undo : MS := mSeq (mIfS (mTest (mOp fEq (mFld 1 "done" (mVar 0)) (mTup (mNil)))) (mRet (mC (.bl false))) (mPass))
    (mSeq (mSetFld 1 "done" (mVar 0) (mSl (mFld 1 "done" (mVar 0)) mNoPart (mPart (mUn fNeg (mC (.int 1))))))
    (mRet (mC (.bl true))))
noncomputable def f_Table_undo : List D → Sto → R D := mFun 1 1 p_Table_undo
noncomputable def p_l_refused_s0 (a : PySem.Addr) (k : Nat) (d : Option PySem.Addr) : MS := mSet 2 (mXis a k d 2 (mVar 3))
noncomputable def p_l_refused : MS := mSeq (mSet 2 (mC (.bl false)))
    (mSeq (mTry (mDrop (mNew 1 f_Table_init (mCons (mVar 0) (mCons (mVar 1) (mNil))))) [⟨hitL [5] [3, 4], 3, p_l_refused_s0⟩])
    (mRet (mVar 2)))
noncomputable def f_l_refused : List D → Sto → R D := mFun 4 2 p_l_refused
noncomputable def p_Table_turn : MS := mSeq (mIfS (mTest (mOp fEq (mApp fLen (mCons (mFld 1 "done" (mVar 0)) (mNil))) (mApp fLen (mCons (mFld 1 "whole" (mVar 0)) (mNil))))) (mRet (mC .non)) (mPass))
    (mSeq (mSetFld 1 "done" (mVar 0) (mSl (mFld 1 "whole" (mVar 0)) mNoPart (mPart (mOp fAdd (mApp fLen (mCons (mFld 1 "done" (mVar 0)) (mNil))) (mC (.int 1))))))
    (mRet (mOp fIx (mFld 1 "done" (mVar 0)) (mUn fNeg (mC (.int 1))))))
noncomputable def f_Table_turn : List D → Sto → R D := mFun 1 1 p_Table_turn
noncomputable def p_law_k09_b0 : MS := mSeq (mSet 14 (mIf (mTest (mOp fLt0 (mVar 7) (mApp fLen (mCons (mVar 9) (mNil))))) (mOp fIx (mVar 9) (mVar 7)) (mC .non)))
    (mSeq (mIfS (mNotT (mTest (mApp (f_l_alike 8) (mCons (mMe 1 "turn" f_Table_turn (mVar 5)) (mCons (mVar 14) (mNil)))))) (mRet (mC (.bl false))) (mPass))
    (mSet 7 (mApp fMin (mCons (mApp fLen (mCons (mVar 9) (mNil))) (mCons (mOp fAdd (mVar 7) (mC (.int 1))) (mNil))))))
noncomputable def p_law_k09_b1 : MS := mSeq (mSet 11 (mApp f_l_pick (mCons (mVar 1) (mCons (mFz (mLst (mCons (mC (.str "turn")) (mCons (mC (.str "turn")) (mCons (mC (.str "many")) (mCons (mC (.str "undo")) (mCons (mC (.str "copy")) (mNil)))))))) (mNil)))))
    (mSeq (mIfS (mTest (mOp fEq (mVar 11) (mC (.str "undo")))) (mSeq (mIfS (mNotT (mTest (mApp (f_l_alike 8) (mCons (mMe 1 "undo" f_Table_undo (mVar 5)) (mCons (mOp fGt (mVar 7) (mC (.int 0))) (mNil)))))) (mRet (mC (.bl false))) (mPass))
    (mSet 7 (mApp fMax (mCons (mC (.int 0)) (mCons (mOp fSub (mVar 7) (mC (.int 1))) (mNil)))))) (mIfS (mTest (mOp fEq (mVar 11) (mC (.str "copy")))) (mSeq (mSet 12 (mMe 1 "copy" f_Table_copyK (mVar 5)))
    (mSeq (mIfS (mTest (mOp fEq (mApp f_l_next (mCons (mVar 1) (mCons (mC (.int 2)) (mNil)))) (mC (.int 0)))) (mPar [5, 12] (mCons (mVar 12) (mCons (mVar 5) (mNil)))) (mPass))
    (mDrop (mMeth fAppend (mVar 8) (mCons (mTup (mCons (mVar 12) (mCons (mVar 7) (mNil)))) (mNil)))))) (mFor (mRgI (mCons (mIf (mTest (mOp fEq (mVar 11) (mC (.str "many")))) (mApp f_l_pick (mCons (mVar 1) (mCons (mFz (mLst (mCons (mC (.int 5)) (mCons (mC (.int 50)) (mNil))))) (mNil)))) (mC (.int 1))) (mNil))) (.nm 13) (p_law_k09_b0))))
    (mIfS (mNotT (mTest (mApp f_l_stands_so (mCons (mVar 5) (mCons (mVar 4) (mCons (mVar 3) (mCons (mVar 7) (mNil)))))))) (mRet (mC (.bl false))) (mPass)))
noncomputable def p_law_k09_c0 : M Bool := mNotT (mTest (mApp f_l_stands_so (mCons (mOp fIx (mVar 17) (mC (.int 0))) (mCons (mVar 4) (mCons (mVar 3) (mCons (mOp fIx (mVar 17) (mC (.int 1))) (mNil)))))))
noncomputable def p_law_k09_e0 : M D := mVar 17
noncomputable def p_law_k09_c1 : M Bool := mNotT (mTest (mApp f_l_refused (mCons (mFr (mNew 0 f_Pack_init (mCons (mVar 4) (mNil)))) (mCons (mVar 17) (mNil)))))
noncomputable def p_law_k09_e1 : M D := mVar 17
noncomputable def p_law_k09 : MS := mSeq (mSet 1 (mApp f_l_mix (mCons (mVar 0) (mCons (mC (.int 9)) (mNil)))))
    (mSeq (mSet 2 (mOp fAdd (mC (.int 1)) (mApp f_l_next (mCons (mVar 1) (mCons (mC (.int 8)) (mNil))))))
    (mSeq (mAsg (.tp [3, 4]) (mTup (mCons (mApp f_l_firsts (mCons (mVar 1) (mCons (mVar 2) (mNil)))) (mCons (mApp f_l_deal (mCons (mVar 1) (mCons (mApp f_l_sizes (mCons (mVar 1) (mCons (mVar 2) (mCons (mC (.int 64)) (mNil))))) (mNil)))) (mNil)))))
    (mSeq (mAsg (.tp [5, 6, 7, 8]) (mTup (mCons (mNew 1 f_Table_init (mCons (mFr (mNew 0 f_Pack_init (mCons (mVar 4) (mNil)))) (mCons (mVar 3) (mNil)))) (mCons (mNew 1 f_Table_init (mCons (mFr (mNew 0 f_Pack_init (mCons (mVar 4) (mNil)))) (mCons (mVar 3) (mNil)))) (mCons (mC (.int 0)) (mCons (mLoc (mLst (mNil))) (mNil)))))))
    (mSeq (mSet 9 (mOp fIx (mApp f_l_walk (mCons (mVar 4) (mCons (mVar 3) (mNil)))) (mC (.int 0))))
    (mSeq (mFor (mRgI (mCons (mOp fAdd (mC (.int 4)) (mApp f_l_next (mCons (mVar 1) (mCons (mC (.int 9)) (mNil))))) (mNil))) (.nm 10) (p_law_k09_b1))
    (mSeq (mIfS (mTest (mOp fNe (mFz (mComp (mSeqI (mVar 8)) (.nm 17) [17] (p_law_k09_c0) (p_law_k09_e0))) (mFz (mLst (mNil))))) (mRet (mC (.bl false))) (mPass))
    (mSeq (mSet 15 (mFz (mLst (mCons (mC .non) (mCons (mTup (mNil)) (mCons (mTup (mCons (mVar 2) (mNil))) (mCons (mTup (mCons (mC (.int 0)) (mCons (mC (.int 0)) (mNil)))) (mCons (mFz (mLst (mCons (mC (.int 0)) (mNil)))) (mCons (mTup (mCons (mC (.bl true)) (mNil))) (mCons (mC (.int 0)) (mCons (mTup (mCons (mC (.int 0)) (mCons (mVar 2) (mNil)))) (mCons (mTup (mCons (mC (.int 0)) (mCons (mC (.bl true)) (mNil)))) (mCons (mTup (mCons (mC (.int 0)) (mCons (mC .non) (mNil)))) (mCons (mTup (mCons (mC (.str "0")) (mNil))) (mCons (mTup (mCons (mFz (mLst (mCons (mC (.int 0)) (mNil)))) (mNil))) (mNil))))))))))))))))
    (mSeq (mSet 16 (mFz (mComp (mSeqI (mVar 15)) (.nm 17) [17] (p_law_k09_c1) (p_law_k09_e1))))
    (mRet (mAnd (mOp fEq (mVar 16) (mFz (mLst (mNil)))) (mApp f_l_stands_so (mCons (mVar 6) (mCons (mVar 4) (mCons (mVar 3) (mCons (mC (.int 0)) (mNil))))))))))))))))
noncomputable def f_law_k09 : List D → Sto → R D := mFun 18 1 p_law_k09
end DL

namespace DL
open PySem L2
/-- what is wished of a way out -/
structure Po where
  N : Sl → Sto → Prop := fun _ _ => False
  R : D → Sto → Prop := fun _ _ => False
  B : Sl → Sto → Prop := fun _ _ => False
  C : Sl → Sto → Prop := fun _ _ => False
  X : Nat → List Str → List D → Sto → Prop := fun _ _ _ _ => False
def Out (r : RS) (p : Po) : Prop := match r with
  | .nx σ S => p.N σ S
  | .rt d S => p.R d S
  | .bk σ S => p.B σ S
  | .ct σ S => p.C σ S
  | .exc k ns ds _ S => p.X k ns ds S
  | .bad => False
theorem Out.mono {r : RS} {p q : Po} (h : Out r p) (n : ∀ σ S, p.N σ S → q.N σ S) (rr : ∀ d S, p.R d S → q.R d S) (b : ∀ σ S, p.B σ S → q.B σ S) (c : ∀ σ S, p.C σ S → q.C σ S) (x : ∀ k ns ds S, p.X k ns ds S → q.X k ns ds S) : Out r q := by
  cases r with
  | nx σ S => exact n _ _ h
  | rt d S => exact rr _ _ h
  | bk σ S => exact b _ _ h
  | ct σ S => exact c _ _ h
  | exc k ns ds σ S => exact x _ _ _ _ h
  | bad => exact h
@[simp] theorem out_nx {σ : Sl} {S : Sto} {p : Po} : Out (.nx σ S) p = p.N σ S := rfl
@[simp] theorem out_rt {d : D} {S : Sto} {p : Po} : Out (.rt d S) p = p.R d S := rfl
@[simp] theorem out_bk {σ : Sl} {S : Sto} {p : Po} : Out (.bk σ S) p = p.B σ S := rfl
@[simp] theorem out_ct {σ : Sl} {S : Sto} {p : Po} : Out (.ct σ S) p = p.C σ S := rfl
@[simp] theorem out_exc {k : Nat} {ns : List Str} {ds : List D} {σ : Sl} {S : Sto} {p : Po} : Out (.exc k ns ds σ S) p = p.X k ns ds S := rfl
theorem out_seq {a b : MS} {σ : Sl} {S : Sto} {p : Po} (h : Out (a σ S) { p with N := fun σ S => Out (b σ S) p }) : Out (mSeq a b σ S) p := by
  unfold mSeq
  revert h
  cases a σ S <;> exact fun h => h
theorem seq_nx {a b : MS} {σ σ1 : Sl} {S S1 : Sto} (h : a σ S = .nx σ1 S1) : mSeq a b σ S = b σ1 S1 := by unfold mSeq; rw [h]
theorem out_then {b k : MS} {σ : Sl} {S : Sto} {p : Po} (h : Out (b σ S) { N := fun σ S => Out (k σ S) p, C := fun σ S => Out (k σ S) p, B := p.N, R := p.R, X := p.X }) : Out (mThen b k σ S) p := by
  unfold mThen
  revert h
  cases b σ S <;> exact fun h => h
theorem out_for {S0 : Sto} {src : List Nat} {pair : Bool} {t : Tgt} {b : MS} {p : Po} (P : Nat → Sl → Sto → Prop) {items : List D} (hs : ∀ k d σ S, items[k]? = some d → P k σ S → Gd S0 src S ∧ ∃ xs, t.st pair d = some xs ∧ ∀ F : Sl → Sto → Prop, (∀ σ S, P (k + 1) σ S → F σ S) → Out (b (setAll σ t.slots xs) S) { N := F, C := F, B := p.N, R := p.R, X := p.X })
    (he : ∀ σ S, P items.length σ S → Gd S0 src S ∧ p.N σ S) {σ : Sl} {S : Sto} (h0 : P 0 σ S) : Out (forL S0 src pair t b items σ S) p := by
  induction items generalizing P σ S with
  | nil =>
    obtain ⟨g, n⟩ := he σ S h0
    unfold forL
    rw [if_pos g]
    exact n
  | cons d ds ih =>
    obtain ⟨g, xs, e, o⟩ := hs 0 d σ S rfl h0
    unfold forL
    rw [if_pos g, e]
    refine out_then (Out.mono (o (P (0 + 1)) (fun _ _ h => h)) (fun σ S h => ?_) (fun _ _ h => h) (fun _ _ h => h) (fun σ S h => ?_) (fun _ _ _ _ h => h))
    · exact ih (fun k => P (k + 1)) (fun k d σ S e h => hs (k + 1) d σ S (by simpa using e) h) (fun σ S h => he σ S h) h
    · exact ih (fun k => P (k + 1)) (fun k d σ S e h => hs (k + 1) d σ S (by simpa using e) h) (fun σ S h => he σ S h) h
theorem mWhile_mono {t : M Bool} {b : MS} : ∀ (n : Nat) (σ : Sl) (S : Sto), mWhile t b n σ S ≠ .bad → mWhile t b (n + 1) σ S = mWhile t b n σ S
  | 0, σ, S, h => absurd rfl h
  | n + 1, σ, S, h => by
    have ih := mWhile_mono (t := t) (b := b) n
    show mBS t (fun c => if c = true then mThen b (mWhile t b (n + 1)) else mPass) σ S = mBS t (fun c => if c = true then mThen b (mWhile t b n) else mPass) σ S
    have h' : mBS t (fun c => if c = true then mThen b (mWhile t b n) else mPass) σ S ≠ .bad := h
    unfold mBS at h' ⊢
    cases q : t σ S with
    | exc k ns ds S1 => rfl
    | bad => rfl
    | ok c S1 =>
      rw [q] at h'
      cases c with
      | false => rfl
      | true =>
        simp only [if_true] at h' ⊢
        unfold mThen at h' ⊢
        cases z : b σ S1 with
        | nx σ2 S2 => rw [z] at h'; exact ih σ2 S2 h'
        | ct σ2 S2 => rw [z] at h'; exact ih σ2 S2 h'
        | _ => rfl
theorem mWhile_le {t : M Bool} {b : MS} {n m : Nat} {σ : Sl} {S : Sto} (h : mWhile t b n σ S ≠ .bad) (le : n ≤ m) : mWhile t b m σ S = mWhile t b n σ S := by
  induction m with
  | zero => rw [Nat.le_zero.mp le]
  | succ m ih =>
    by_cases e : n = m + 1
    · rw [e]
    · have := ih (by omega)
      rw [mWhile_mono m σ S (by rw [this]; exact h), this]
theorem mW_of {t : M Bool} {b : MS} {n : Nat} {σ : Sl} {S : Sto} (h : mWhile t b n σ S ≠ .bad) : mW t b σ S = mWhile t b n σ S := by
  have hx : ∃ n, mWhile t b n σ S ≠ .bad := ⟨n, h⟩
  unfold mW
  rw [dif_pos hx]
  have h2 := hx.choose_spec
  rcases Nat.le_total n hx.choose with le | le
  · exact mWhile_le h le
  · exact (mWhile_le h2 le).symm
theorem out_w {t : M Bool} {b : MS} {p : Po} (I : Nat → Sl → Sto → Prop) (step : ∀ n σ S, I n σ S → ∃ c S1, t σ S = .ok c S1 ∧ (c = true → ∀ F : Sl → Sto → Prop, (∀ m σ S, m < n → I m σ S → F σ S) → Out (b σ S1) { N := F, C := F, B := p.N, R := p.R, X := p.X }) ∧ (c = false → p.N σ S1))
    {n : Nat} {σ : Sl} {S : Sto} (h : I n σ S) : Out (mW t b σ S) p := by
  have main : ∀ n σ S, I n σ S → Out (mWhile t b (n + 1) σ S) p := by
    intro n
    induction n using Nat.strongRecOn with
    | ind n ih =>
      intro σ S h
      obtain ⟨c, S1, e, h1, h2⟩ := step n σ S h
      show Out (mBS t (fun c => if c = true then mThen b (mWhile t b n) else mPass) σ S) p
      unfold mBS
      rw [e]
      cases c with
      | false => exact h2 rfl
      | true =>
        have o := h1 rfl (fun σ S => ∃ m, m < n ∧ I m σ S) (fun m _ _ h1 h2 => ⟨m, h1, h2⟩)
        have go : ∀ m, m < n → ∀ σ S, I m σ S → Out (mWhile t b n σ S) p := fun m hm σ S hi => by
          have o2 := ih m hm σ S hi
          rw [mWhile_le (n := m + 1) (m := n) (fun z => by rw [z] at o2; exact o2) hm]
          exact o2
        exact out_then (Out.mono o (fun σ S ⟨m, hm, hi⟩ => go m hm σ S hi) (fun _ _ h => h) (fun _ _ h => h) (fun σ S ⟨m, hm, hi⟩ => go m hm σ S hi) (fun _ _ _ _ h => h))
  have o := main n σ S h
  rw [mW_of (n := n + 1) (fun z => by rw [z] at o; exact o)]
  exact o
theorem comp_pure {α : Type} {S : Sto} {src : List Nat} {pair : Bool} {t : Tgt} {wσ : Sl} {c : M Bool} {e : M D} (f : α → D) (cb : α → Bool) (v : α → D) : ∀ (xs : List α) (acc : List D),
    (∀ a ∈ xs, ∃ ys, t.st pair (f a) = some ys ∧ c (setAll wσ t.slots ys) S = .ok (cb a) S ∧ (cb a = true → e (setAll wσ t.slots ys) S = .ok (v a) S)) → acc.length + xs.length ≤ LIM → compL S src pair t wσ c e (xs.map f) acc S = .ok (acc ++ (xs.filter cb).map v) S
  | [], acc, _, _ => by
    show compL S src pair t wσ c e [] acc S = _
    unfold compL
    rw [if_pos (show Gd S src S from fun n _ => rfl)]
    simp
  | a :: xs, acc, h, hl => by
    obtain ⟨ys, e1, e2, e3⟩ := h a (List.mem_cons_self ..)
    have ih := fun acc' => comp_pure (src := src) f cb v xs acc' (fun a h' => h a (List.mem_cons_of_mem _ h'))
    show compL S src pair t wσ c e (f a :: xs.map f) acc S = _
    unfold compL
    rw [if_pos (show Gd S src S from fun n _ => rfl), e1]
    simp only [e2]
    rw [List.length_cons] at hl
    cases hc : cb a with
    | false =>
      simp only [Bool.false_eq_true, if_false]
      rw [ih acc (by omega), List.filter_cons_of_neg (by rw [hc]; exact Bool.false_ne_true)]
    | true =>
      simp only [if_true, e3 hc]
      rw [if_pos (by omega), ih (acc ++ [v a]) (by rw [List.length_append, List.length_singleton]; omega), List.filter_cons_of_pos hc]
      simp
theorem comp_all {α : Type} {S : Sto} {src : List Nat} {pair : Bool} {t : Tgt} {wσ : Sl} {e : M D} (f : α → D) (v : α → D) (xs : List α)
    (h : ∀ a ∈ xs, ∃ ys, t.st pair (f a) = some ys ∧ e (setAll wσ t.slots ys) S = .ok (v a) S) (hl : xs.length ≤ LIM) : compL S src pair t wσ (fun _ S => .ok true S) e (xs.map f) [] S = .ok (xs.map v) S := by
  have := comp_pure (S := S) (src := src) (pair := pair) (t := t) (wσ := wσ) (c := fun _ S => .ok true S) (e := e) f (fun _ => true) v xs [] (fun a ha => by
    obtain ⟨ys, e1, e2⟩ := h a ha
    exact ⟨ys, e1, rfl, fun _ => e2⟩) (by simpa using hl)
  rw [List.filter_eq_self.mpr (fun _ _ => rfl)] at this
  simpa using this
/-- with draws -/
theorem out_comp {S0 : Sto} {src : List Nat} {pair : Bool} {t : Tgt} {wσ : Sl} {c : M Bool} {e : M D} {Q : List D → Sto → Prop} (P : Nat → List D → Sto → Prop) {items : List D}
    (hs : ∀ k d acc S, items[k]? = some d → P k acc S → Gd S0 src S ∧ ∃ xs, t.st pair d = some xs ∧ ∃ b S1, c (setAll wσ t.slots xs) S = .ok b S1 ∧ (b = true → acc.length < LIM ∧ ∃ x S2, e (setAll wσ t.slots xs) S1 = .ok x S2 ∧ P (k + 1) (acc ++ [x]) S2) ∧ (b = false → P (k + 1) acc S1))
    (he : ∀ acc S, P items.length acc S → Gd S0 src S ∧ Q acc S) {acc : List D} {S : Sto} (h0 : P 0 acc S) : ∃ ds S', compL S0 src pair t wσ c e items acc S = .ok ds S' ∧ Q ds S' := by
  induction items generalizing P acc S with
  | nil =>
    obtain ⟨g, n⟩ := he acc S h0
    unfold compL
    rw [if_pos g]
    exact ⟨_, _, rfl, n⟩
  | cons d ds ih =>
    obtain ⟨g, xs, e1, b, S1, e2, h1, h2⟩ := hs 0 d acc S rfl h0
    unfold compL
    rw [if_pos g, e1]
    simp only [e2]
    cases b with
    | false =>
      simp only [Bool.false_eq_true, if_false]
      exact ih (fun k => P (k + 1)) (fun k d acc S e h => hs (k + 1) d acc S (by simpa using e) h) (fun acc S h => he acc S h) (h2 rfl)
    | true =>
      obtain ⟨l, x, S2, e3, h3⟩ := h1 rfl
      simp only [if_true, e3]
      rw [if_pos l]
      exact ih (fun k => P (k + 1)) (fun k d acc S e h => hs (k + 1) d acc S (by simpa using e) h) (fun acc S h => he acc S h) h3
/-- what a def hands back -/
def FinP (S : Sto) (Q : D → Sto → Prop) (d : D) (S' : Sto) : Prop := ∃ d' S2, fin S S' d = .ok d' S2 ∧ Q d' S2
theorem fun_out {slots n : Nat} {m : MS} {ds : List D} {S : Sto} {Q : D → Sto → Prop} (hl : ds.length = n)
    (h : ∀ F : D → Sto → Prop, (∀ d S', FinP S Q d S' → F d S') → Out (m (ds ++ List.replicate (slots - n) .dead) S) { N := fun _ S' => F .non S', R := F }) : ∃ d S2, mFun slots n m ds S = .ok d S2 ∧ Q d S2 := by
  have h := h (FinP S Q) fun _ _ h => h
  unfold mFun
  rw [if_pos hl]
  revert h
  cases m (ds ++ List.replicate (slots - n) .dead) S with
  | nx σ S' => exact fun h => h
  | rt d S' => exact fun h => h
  | _ => exact fun h => h.elim
theorem fun_eq {slots n : Nat} {m : MS} {ds : List D} {S : Sto} {v : D} (hl : ds.length = n)
    (h : ∀ F : D → Sto → Prop, (∀ d S', FinP S (fun d S2 => d = v ∧ S2 = S) d S' → F d S') → Out (m (ds ++ List.replicate (slots - n) .dead) S) { N := fun _ S' => F .non S', R := F }) : mFun slots n m ds S = .ok v S := by
  obtain ⟨d, S2, e, rfl, rfl⟩ := fun_out hl h
  exact e
theorem funK_out {slots n : Nat} {m : MS} {ds : List D} {S : Sto} {Q : D → Sto → Prop} (hl : ds.length = n)
    (h : ∀ F : D → Sto → Prop, (∀ d S', Q d S' → F d S') → Out (m (ds ++ List.replicate (slots - n) .dead) S) { N := fun _ S' => F .non S', R := F }) : ∃ d S2, mFunK slots n m ds S = .ok d S2 ∧ Q d S2 := by
  have h := h Q fun _ _ h => h
  unfold mFunK
  rw [if_pos hl]
  revert h
  cases m (ds ++ List.replicate (slots - n) .dead) S with
  | nx σ S' => exact fun h => ⟨_, _, rfl, h⟩
  | rt d S' => exact fun h => ⟨_, _, rfl, h⟩
  | _ => exact fun h => h.elim
theorem okSt_app (S T : Sto) : OkSt S (S ++ T) := ⟨by rw [List.length_append]; omega, fun k o hk e => .inl (by rw [List.getElem?_append_left hk] at e; exact e)⟩
theorem okSt_refl (S : Sto) : OkSt S S := ⟨Nat.le_refl _, fun k o hk e => .inl e⟩
theorem fz_cl {n : Nat} {S : Sto} {k : Nat} {d : D} (h : cl n d = true) : fz n S k d = some d := by
  cases k <;> (unfold fz; rw [if_pos h])
theorem fin_app {S T : Sto} {d d' : D} (h : fz S.length (S ++ T) 4 d = some d') : fin S (S ++ T) d = .ok d' S := by
  unfold fin
  rw [if_pos (okSt_app S T), h]
  simp
theorem fin_same {S T : Sto} {d : D} (h : cl S.length d = true) : fin S (S ++ T) d = .ok d S := fin_app (fz_cl h)
theorem fin_self {S : Sto} {d : D} (h : cl S.length d = true) : fin S S d = .ok d S := by
  have := fin_same (S := S) (T := []) h
  rwa [List.append_nil] at this
theorem finP_app {S T : Sto} {d d' : D} {Q : D → Sto → Prop} (h : fz S.length (S ++ T) 4 d = some d') (q : Q d' S) : FinP S Q d (S ++ T) := ⟨_, _, fin_app h, q⟩
theorem finP_same {S T : Sto} {d : D} {Q : D → Sto → Prop} (h : cl S.length d = true) (q : Q d S) : FinP S Q d (S ++ T) := ⟨_, _, fin_same h, q⟩
theorem finP_self {S : Sto} {d : D} {Q : D → Sto → Prop} (h : cl S.length d = true) (q : Q d S) : FinP S Q d S := ⟨_, _, fin_self h, q⟩
@[simp] theorem cl_int (n : Nat) (i : Int) : cl n (.int i) = true := rfl
@[simp] theorem cl_bl (n : Nat) (i : Bool) : cl n (.bl i) = true := rfl
@[simp] theorem cl_non (n : Nat) : cl n .non = true := rfl
@[simp] theorem cl_str (n : Nat) (s : Str) : cl n (.str s) = true := rfl
@[simp] theorem cl_tup (n : Nat) (ds : List D) : cl n (.tup ds) = cll n ds := by unfold cl; rfl
@[simp] theorem cl_lst (n : Nat) (ds : List D) : cl n (.lst ds) = cll n ds := by unfold cl; rfl
@[simp] theorem cl_ins (n k : Nat) (ns : List Str) (ds : List D) : cl n (.ins k ns ds) = cll n ds := by unfold cl; rfl
@[simp] theorem cl_xc (n : Nat) (a : Addr) (dd : Option Addr) (ns : List Str) (ds : List D) : cl n (.xc a dd ns ds) = cll n ds := by unfold cl; rfl
@[simp] theorem cl_dic (n : Nat) (ks : List Key) (ds : List D) : cl n (.dic ks ds) = cll n ds := by unfold cl; rfl
@[simp] theorem cl_ref (n m : Nat) : cl n (.ref m) = decide (m < n) := by unfold cl; rfl
@[simp] theorem cll_nil (n : Nat) : cll n [] = true := by unfold cll; rfl
@[simp] theorem cll_cons (n : Nat) (d : D) (ds : List D) : cll n (d :: ds) = (cl n d && cll n ds) := by rw [cll]
theorem cll_all (n : Nat) (ds : List D) : cll n ds = ds.all (cl n) := by
  induction ds with
  | nil => simp
  | cons d ds ih => simp [ih]
theorem cll_map {α : Type} (n : Nat) (f : α → D) (xs : List α) (h : ∀ a ∈ xs, cl n (f a) = true) : cll n (xs.map f) = true := by
  rw [cll_all, List.all_eq_true]
  intro d hd
  obtain ⟨a, ha, rfl⟩ := List.mem_map.mp hd
  exact h a ha
@[simp] theorem cll_append (n : Nat) (xs ys : List D) : cll n (xs ++ ys) = (cll n xs && cll n ys) := by simp [cll_all]
theorem fz_lst {n m k : Nat} {S : Sto} {ds : List D} (hm : n ≤ m) (e : S[m]? = some (.lst ds)) (h : cll n ds = true) : fz n S (k + 1) (.ref m) = some (.lst ds) := by
  unfold fz
  rw [if_neg (by simp; omega)]
  simp only [e]
  have : optAll (fz n S k) ds = some ds := by
    clear e
    induction ds with
    | nil => rfl
    | cons d ds ih =>
      rw [cll_cons, Bool.and_eq_true] at h
      unfold optAll
      rw [fz_cl h.1]
      simp only [ih h.2]
      rfl
  rw [this]
  rfl
theorem enumD_map {α : Type} (f : α → D) : ∀ (xs : List α) (k : Nat), enumD (k : Int) (xs.map f) = (xs.zipIdx k).map fun p => .tup [.int (p.2 : Nat), f p.1]
  | [], k => rfl
  | a :: xs, k => by
    have := enumD_map f xs (k + 1)
    show D.tup [.int (k : Int), f a] :: enumD ((k : Int) + 1) (xs.map f) = _
    rw [show ((k : Int) + 1) = ((k + 1 : Nat) : Int) by omega, this]
    rfl
theorem zipD_map {α β : Type} (f : α → D) (g : β → D) : ∀ (xs : List α) (ys : List β), zipD (xs.map f) (ys.map g) = (xs.zip ys).map fun p => .tup [f p.1, g p.2]
  | [], ys => by cases ys <;> rfl
  | a :: xs, [] => rfl
  | a :: xs, b :: ys => by
    show D.tup [f a, g b] :: zipD (xs.map f) (ys.map g) = _
    rw [zipD_map f g xs ys]
    rfl
theorem rgD_nat (n : Nat) : rgD 0 (n : Int) = (List.range n).map fun i : Nat => D.int (i : Int) := by
  unfold rgD
  rw [Int.sub_zero, Int.toNat_natCast]
  congr 1
  funext i
  rw [Int.zero_add]
theorem rgD_nat2 (m n : Nat) : rgD (m : Int) (n : Int) = (List.range' m (n - m)).map fun i => .int (i : Nat) := by
  unfold rgD
  rw [show ((n : Int) - (m : Int)).toNat = n - m by omega, List.range'_eq_map_range, List.map_map]
  congr 1
theorem okRg_nat {m n : Nat} (h : m ≤ 100000) (h2 : n ≤ 100000) : okRg ((m : Int), (n : Int)) = true := by
  unfold okRg
  simp only [Bool.and_eq_true, decide_eq_true_eq]
  omega
theorem okRg_0 {n : Nat} (h2 : n ≤ 100000) : okRg ((0 : Int), (n : Int)) = true := okRg_nat (m := 0) (by omega) h2
@[simp high] theorem sto_get0 {x : Ob} {S T : Sto} : (S ++ x :: T)[S.length]? = some x := by simp
@[simp high] theorem sto_get1 {x y : Ob} {S T : Sto} : (S ++ x :: y :: T)[S.length + 1]? = some y := by simp
@[simp high] theorem sto_get2 {x y z : Ob} {S T : Sto} : (S ++ x :: y :: z :: T)[S.length + 2]? = some z := by simp
@[simp high] theorem sto_set0 {x o : Ob} {S T : Sto} : (S ++ x :: T).set S.length o = S ++ o :: T := by simp
@[simp high] theorem sto_set1 {x y o : Ob} {S T : Sto} : (S ++ x :: y :: T).set (S.length + 1) o = S ++ x :: o :: T := by
  rw [List.set_append_right _ _ (by omega)]
  simp
@[simp high] theorem sto_set2 {x y z o : Ob} {S T : Sto} : (S ++ x :: y :: z :: T).set (S.length + 2) o = S ++ x :: y :: o :: T := by
  rw [List.set_append_right _ _ (by omega)]
  simp
theorem atI_nat' {α : Type} {xs : List α} {n : Nat} : atI xs (n : Int) = xs[n]? := by
  unfold atI ixN
  rw [if_pos (by omega)]
  by_cases h : n < xs.length
  · rw [if_pos (by omega)]
    simp
  · rw [if_neg (by omega), List.getElem?_eq_none (by omega)]
    rfl
end DL

namespace DL
open PySem L2
section
variable {α : Type} {σ : Sl} {S : Sto} {p : Po}
def rB {α β : Type} (r : R α) (f : α → M β) (σ : Sl) : R β := match r with
  | .ok x S1 => f x σ S1
  | .exc k ns ds S1 => .exc k ns ds S1
  | .bad => .bad
def rBS {α : Type} (r : R α) (f : α → MS) (σ : Sl) : RS := match r with
  | .ok x S1 => f x σ S1
  | .exc k ns ds S1 => .exc k ns ds σ S1
  | .bad => .bad
def rFz (r : R (List D)) : R D := match r with
  | .ok ds S1 => .ok (.lst ds) S1
  | .exc k ns ds S1 => .exc k ns ds S1
  | .bad => .bad
def rLoc (r : R (List D)) : R D := match r with
  | .ok ds S1 => .ok (.ref S1.length) (S1 ++ [.lst ds])
  | .exc k ns ds S1 => .exc k ns ds S1
  | .bad => .bad
noncomputable def rFr (S : Sto) (r : R D) : R D := match r with
  | .ok d S1 => fin S S1 d
  | .exc k ns ds S1 => finX S S1 k ns ds
  | .bad => .bad
def rNew (n : Nat) (r : R D) : R D := match r with
  | .ok d S' => (match d with | .non => .ok (.ref n) S' | _ => .bad)
  | .exc k ns es S' => .exc k ns es S'
  | .bad => .bad
def rPr (r : R D) : R D := match r with
  | .ok d S' => .ok d S'
  | _ => .bad
def oB {α β : Type} (o : Option α) (f : α → R β) : R β := match o with
  | some x => f x
  | none => .bad
def oBS {α : Type} (o : Option α) (f : α → RS) : RS := match o with
  | some x => f x
  | none => .bad
def flats (ds : List D) : Bool := ds.all flatD
def lO (o : Option Ob) : Option (List D) := match o with
  | some (.lst ds) => some ds
  | _ => none
def iO (o : Option Ob) : Option (Nat × List Str × List D) := match o with
  | some (.ins k ns ds) => some (k, ns, ds)
  | _ => none
def tO (o : Option Ob) : Option Ty := match o with
  | some (.lst _) => some .list
  | some (.dic _ _) => some .dict
  | _ => Option.none
/-- what follows -/
def Ka (b : MS) (p : Po) : Sl → Sto → Prop := fun σ S => Out (b σ S) p
@[simp] theorem ka_ap (b : MS) (p : Po) : Ka b p σ S = Out (b σ S) p := rfl
@[simp] theorem rB_ok {α β : Type} (x : α) (f : α → M β) : rB (.ok x S) f σ = f x σ S := rfl
@[simp] theorem rB_bad {α β : Type} (f : α → M β) : rB .bad f σ = .bad := rfl
@[simp] theorem rB_exc {α β : Type} (k : Nat) (ns : List Str) (ds : List D) (f : α → M β) : rB (.exc k ns ds S) f σ = .exc k ns ds S := rfl
@[simp] theorem rBS_ok {α : Type} (x : α) (f : α → MS) : rBS (.ok x S) f σ = f x σ S := rfl
@[simp] theorem rBS_bad {α : Type} (f : α → MS) : rBS .bad f σ = .bad := rfl
@[simp] theorem rBS_exc {α : Type} (k : Nat) (ns : List Str) (ds : List D) (f : α → MS) : rBS (.exc k ns ds S) f σ = .exc k ns ds σ S := rfl
@[simp] theorem rFz_ok (x : List D) : rFz (.ok x S) = .ok (.lst x) S := rfl
@[simp] theorem rLoc_ok (x : List D) : rLoc (.ok x S) = .ok (.ref S.length) (S ++ [.lst x]) := rfl
@[simp] theorem rFr_ok (S0 : Sto) (x : D) : rFr S0 (.ok x S) = fin S0 S x := rfl
@[simp] theorem rFr_exc (S0 : Sto) (k : Nat) (ns : List Str) (ds : List D) : rFr S0 (.exc k ns ds S) = finX S0 S k ns ds := rfl
@[simp] theorem rNew_ok (n : Nat) : rNew n (.ok .non S) = .ok (.ref n) S := rfl
@[simp] theorem rNew_exc (n k : Nat) (ns : List Str) (ds : List D) : rNew n (.exc k ns ds S) = .exc k ns ds S := rfl
@[simp] theorem rPr_ok (x : D) : rPr (.ok x S) = .ok x S := rfl
@[simp] theorem oB_some {α β : Type} (x : α) (f : α → R β) : oB (some x) f = f x := rfl
@[simp] theorem oB_none {α β : Type} (f : α → R β) : oB none f = .bad := rfl
@[simp] theorem oBS_some {α : Type} (x : α) (f : α → RS) : oBS (some x) f = f x := rfl
@[simp] theorem lO_lst (ds : List D) : lO (some (.lst ds)) = some ds := rfl
@[simp] theorem iO_ins (k : Nat) (ns : List Str) (ds : List D) : iO (some (.ins k ns ds)) = some (k, ns, ds) := rfl
@[simp] theorem lO_ins (k : Nat) (ns : List Str) (ds : List D) : lO (some (.ins k ns ds)) = none := rfl
@[simp] theorem tO_lst (ds : List D) : tO (some (.lst ds)) = some .list := rfl
@[simp] theorem tO_dic (ks : List Key) (ds : List D) : tO (some (.dic ks ds)) = some .dict := rfl
@[simp] theorem ev_B {α β : Type} (a : M α) (f : α → M β) : mB a f σ S = rB (a σ S) f σ := rfl
@[simp] theorem ev_BS {α : Type} (a : M α) (f : α → MS) : mBS a f σ S = rBS (a σ S) f σ := rfl
set_option smartUnfolding false
@[simp] theorem ev_var (i : Nat) : mVar i σ S = oB σ[i]? fun d => if live d then .ok d S else .bad := by rfl
@[simp] theorem ev_C (d : D) : mC d σ S = .ok d S := rfl
@[simp] theorem ev_op (f : D → D → Sto → R D) (a b : M D) : mOp f a b σ S = mB a (fun x => mB b fun y => fun _ S => f x y S) σ S := rfl
@[simp] theorem ev_opN (f : D → D → Sto → R (List D)) (a b : M D) : mOpN f a b σ S = mB a (fun x => mB b fun y => fun _ S => f x y S) σ S := rfl
@[simp] theorem ev_un (f : D → Sto → R D) (a : M D) : mUn f a σ S = mB a (fun x => fun _ S => f x S) σ S := rfl
@[simp] theorem ev_app {α : Type} (f : List D → Sto → R α) (m : M (List D)) : mApp f m σ S = mB m (fun ds => fun _ S => f ds S) σ S := rfl
@[simp] theorem ev_nil : mNil σ S = .ok [] S := rfl
@[simp] theorem ev_cons (a : M D) (r : M (List D)) : mCons a r σ S = mB a (fun x => mB r fun xs => fun _ S => .ok (x :: xs) S) σ S := rfl
@[simp] theorem ev_tup (m : M (List D)) : mTup m σ S = mB m (fun ds => fun _ S => if ds.length ≤ LIM then .ok (.tup ds) S else .bad) σ S := rfl
@[simp] theorem ev_lst (m : M (List D)) : mLst m σ S = mB m (fun ds => fun _ S => if ds.length ≤ LIM then .ok ds S else .bad) σ S := rfl
@[simp] theorem ev_fz (m : M (List D)) : mFz m σ S = rFz (m σ S) := rfl
@[simp] theorem ev_loc (m : M (List D)) : mLoc m σ S = rLoc (m σ S) := rfl
@[simp] theorem ev_test (m : M D) : mTest m σ S = mB m (fun d => fun _ S => match d with | .bl b => .ok b S | _ => .bad) σ S := rfl
@[simp] theorem ev_notT (m : M Bool) : mNotT m σ S = mB m (fun b => fun _ S => .ok (!b) S) σ S := rfl
@[simp] theorem ev_andT (a b : M Bool) : mAndT a b σ S = mB a (fun c => if c = true then b else fun _ S => .ok false S) σ S := rfl
@[simp] theorem ev_orT (a b : M Bool) : mOrT a b σ S = mB a (fun c => if c = true then fun _ S => .ok true S else b) σ S := rfl
@[simp] theorem ev_and (a b : M D) : mAnd a b σ S = mB (mTest a) (fun c => if c = true then b else fun _ S => .ok (.bl false) S) σ S := rfl
@[simp] theorem ev_or (a b : M D) : mOr a b σ S = mB (mTest a) (fun c => if c = true then fun _ S => .ok (.bl true) S else b) σ S := rfl
@[simp] theorem ev_not (a : M D) : mNot a σ S = mB (mTest a) (fun c => fun _ S => .ok (.bl (!c)) S) σ S := rfl
@[simp] theorem ev_if {α : Type} (t : M Bool) (a b : M α) : mIf t a b σ S = mB t (fun c => if c = true then a else b) σ S := rfl
@[simp] theorem ev_chain (f f' : D → D → Sto → R D) (a b c : M D) : mChain f f' a b c σ S = mB a (fun x => mB b fun y => mB (mTest fun _ S => f x y S) fun k => if k = true then mB c fun z => fun _ S => f' y z S else fun _ S => .ok (.bl false) S) σ S := rfl
@[simp] theorem ev_set (i : Nat) (m : M D) : mSet i m σ S = mBS m (fun d => fun σd S => .nx (σd.set i d) S) σ S := rfl
@[simp] theorem ev_par (is : List Nat) (m : M (List D)) : mPar is m σ S = mBS m (fun ds => fun σd S => if ds.length = is.length then .nx (setAll σd is ds) S else .bad) σ S := rfl
@[simp] theorem ev_asg (t : Tgt) (m : M D) : mAsg t m σ S = mBS m (fun d => fun σd S => oBS (t.ds d) fun ds => .nx (setAll σd t.slots ds) S) σ S := by rfl
@[simp] theorem ev_ret (m : M D) : mRet m σ S = mBS m (fun d => fun _ S => .rt d S) σ S := rfl
@[simp] theorem ev_drop (m : M D) : mDrop m σ S = mBS m (fun _ => mPass) σ S := rfl
@[simp] theorem ev_pass : mPass σ S = .nx σ S := rfl
@[simp] theorem ev_brk : mBrk σ S = .bk σ S := rfl
@[simp] theorem ev_cnt : mCnt σ S = .ct σ S := rfl
@[simp] theorem ev_ifS (t : M Bool) (a b : MS) : mIfS t a b σ S = mBS t (fun c => if c = true then a else b) σ S := rfl
@[simp] theorem ev_for (m : M Its) (t : Tgt) (b : MS) : mFor m t b σ S = mBS m (fun it => fun σd S => forL S it.src it.pair t b it.items σd S) σ S := rfl
@[simp] theorem ev_seqI (m : M D) : mSeqI m σ S = mB m (fun d => fun _ S => oB (itsOf S d) fun ds => .ok ⟨ds, srcOf d, false⟩ S) σ S := by rfl
@[simp] theorem ev_rgI (m : M (List D)) : mRgI m σ S = mB m (fun ds => fun _ S => match ds with | [.int n] => if okRg (0, n) then .ok ⟨rgD 0 n, [], false⟩ S else .bad | _ => .bad) σ S := rfl
@[simp] theorem ev_rgI2 (m : M (List D)) : mRgI2 m σ S = mB m (fun ds => fun _ S => match ds with | [.int i, .int n] => if okRg (i, n) then .ok ⟨rgD i n, [], false⟩ S else .bad | _ => .bad) σ S := rfl
@[simp] theorem ev_enum (m : M (List D)) : mEnum m σ S = mB m (fun ds => fun _ S => match ds with | [d] => oB (itsOf S d) fun xs => .ok ⟨enumD 0 xs, srcOf d, true⟩ S | _ => .bad) σ S := by rfl
@[simp] theorem ev_zip (m : M (List D)) : mZip m σ S = mB m (fun ds => fun _ S => match ds with | [d, e] => oB (itsOf S d) fun xs => oB (itsOf S e) fun ys => .ok ⟨zipD xs ys, srcOf d ++ srcOf e, true⟩ S | _ => .bad) σ S := by rfl
@[simp] theorem ev_comp (m : M Its) (t : Tgt) (vs : List Nat) (c : M Bool) (e : M D) : mComp m t vs c e σ S = mB m (fun it => fun σd S => compL S it.src it.pair t (wipeD σd vs) c e it.items [] S) σ S := rfl
@[simp] theorem ev_sl (m : M D) (l h : M (Option Int)) : mSl m l h σ S = mB m (fun x => mB l fun lo => mB h fun hi => fun _ S => fSl x lo hi S) σ S := rfl
@[simp] theorem ev_slL (m : M D) (l h : M (Option Int)) : mSlL m l h σ S = mB m (fun x => mB l fun lo => mB h fun hi => fun _ S => oB (lstOf S x) fun ds => .ok (cutD ds lo hi) S) σ S := by rfl
@[simp] theorem ev_noPart : mNoPart σ S = .ok none S := rfl
@[simp] theorem ev_part (m : M D) : mPart m σ S = mB m (fun d => fun _ S => match d with | .int i => .ok (some i) S | _ => .bad) σ S := rfl
@[simp] theorem ev_meth (f : D → List D → Sto → R D) (o : M D) (m : M (List D)) : mMeth f o m σ S = mB o (fun x => fun σd S => oB (lstOf S x) fun _ => mB m (fun ds => fun _ S' => f x ds S') σd S) σ S := by rfl
@[simp] theorem ev_count (o m : M D) : mCount o m σ S = mB o (fun x => fun σd S => oB (tupOf x) fun _ => mB m (fun y => fun _ S' => fCount x y S') σd S) σ S := by rfl
@[simp] theorem ev_setIx (o i v : M D) : mSetIx o i v σ S = mBS v (fun z => mBS o fun x => mBS i fun y => fSetIx x y z) σ S := rfl
@[simp] theorem ev_augIx (o i : M D) (f : D → D → Sto → R D) (m : M D) : mAugIx o i f m σ S = mBS o (fun x => mBS i fun y => mBS (fun _ S => fIxL x y S) fun old => mBS m fun z => mBS (fun _ S => f old z S) fun new => fSetIx x y new) σ S := rfl
@[simp] theorem ev_aug (i : Nat) (f : D → D → Sto → R D) (m : M D) : mAug i f m σ S = mBS (mVar i) (fun x => mBS m fun y => mBS (fun _ S => f x y S) fun z => fun σd S => .nx (σd.set i z) S) σ S := rfl
@[simp] theorem ev_isi (t : Ty) (m : M D) : mIsi t m σ S = mB m (fun d => fun _ S => oB (tyOf S d) fun a => .ok (.bl (isT a t)) S) σ S := by rfl
@[simp] theorem ev_isi2 (t u : Ty) (m : M D) : mIsi2 t u m σ S = mB m (fun d => fun _ S => oB (tyOf S d) fun a => .ok (.bl (isT a t || isT a u)) S) σ S := by rfl
@[simp] theorem ev_fld (k : Nat) (f : Str) (m : M D) : mFld k f m σ S = mB m (fun x => fun _ S => oB (insOf S x) fun q => if q.1 = k then oB (fldD f q.2.1 q.2.2) fun d => .ok d S else .bad) σ S := by rfl
@[simp] theorem ev_setFld (k : Nat) (f : Str) (mo mv : M D) : mSetFld k f mo mv σ S = mBS mv (fun y => mBS mo fun x => fun σd S => match x with | .ref n => oBS (iO S[n]?) fun q => if q.1 = k ∧ q.2.1.length < 100 then .nx σd (S.set n (.ins k (putN f q.2.1) (putX f y q.2.1 q.2.2))) else .bad | _ => .bad) σ S := by
  show mBS mv (fun y => mBS mo fun x => fun σd S => match x with
    | .ref n => match S[n]? with
      | some (.ins k' ns ds) => if k' = k ∧ ns.length < 100 then .nx σd (S.set n (.ins k (putN f ns) (putX f y ns ds))) else .bad
      | _ => .bad
    | _ => .bad) σ S = _
  congr 1
  funext y
  congr 1
  funext x σd S
  cases x with
  | ref n =>
    simp only
    cases S[n]? with
    | none => rfl
    | some o => cases o <;> rfl
  | _ => rfl
@[simp] theorem ev_new (k : Nat) (fn : List D → Sto → R D) (m : M (List D)) : mNew k fn m σ S = mB m (fun ds => fun _ S => rNew S.length (fn (.ref S.length :: ds) (S ++ [.ins k [] []]))) σ S := rfl
@[simp] theorem ev_fr (m : M D) : mFr m σ S = rFr S (m σ S) := rfl
@[simp] theorem ev_prop (k : Nat) (fn : List D → Sto → R D) (m : M D) : mProp k fn m σ S = mB m (fun x => fun _ S => oB (insOf S x) fun q => if q.1 = k then rPr (fn [x] S) else .bad) σ S := by rfl
@[simp] theorem ev_lstRg (m : M (Int × Int)) : mLstRg m σ S = mB m (fun r => fun _ S => if okRg r then .ok (rgD r.1 r.2) S else .bad) σ S := rfl
@[simp] theorem ev_tupRg (m : M (Int × Int)) : mTupRg m σ S = mB m (fun r => fun _ S => if okRg r then .ok (.tup (rgD r.1 r.2)) S else .bad) σ S := rfl
@[simp] theorem ev_rg1 (m : M D) : mRg1 m σ S = mB m (fun d => fun _ S => match d with | .int n => .ok ((0 : Int), n) S | _ => .bad) σ S := rfl
@[simp] theorem ev_rg2 (m n : M D) : mRg2 m n σ S = mB m (fun d => mB n fun e => fun _ S => match d, e with | .int i, .int j => .ok (i, j) S | _, _ => .bad) σ S := rfl
def rSeq (r : RS) (b : MS) : RS := match r with
  | .nx σ1 S1 => b σ1 S1
  | r => r
@[simp] theorem ev_seq (a b : MS) : mSeq a b σ S = rSeq (a σ S) b := rfl
@[simp] theorem rSeq_nx (b : MS) : rSeq (.nx σ S) b = b σ S := rfl
@[simp] theorem rSeq_rt (b : MS) (d : D) : rSeq (.rt d S) b = .rt d S := rfl
@[simp] theorem rSeq_bk (b : MS) : rSeq (.bk σ S) b = .bk σ S := rfl
@[simp] theorem rSeq_ct (b : MS) : rSeq (.ct σ S) b = .ct σ S := rfl
@[simp] theorem rSeq_exc (b : MS) (k : Nat) (ns : List Str) (ds : List D) : rSeq (.exc k ns ds σ S) b = .exc k ns ds σ S := rfl
@[simp] theorem out_rSeq (r : RS) (b : MS) : Out (rSeq r b) p = Out r { p with N := Ka b p } := by
  cases r <;> rfl
@[simp] theorem live_int (i : Int) : live (.int i) = true := rfl
@[simp] theorem live_bl (i : Bool) : live (.bl i) = true := rfl
@[simp] theorem live_non : live .non = true := rfl
@[simp] theorem live_str (s : Str) : live (.str s) = true := rfl
@[simp] theorem live_tup (s : List D) : live (.tup s) = true := rfl
@[simp] theorem live_lst (s : List D) : live (.lst s) = true := rfl
@[simp] theorem live_ref (s : Nat) : live (.ref s) = true := rfl
@[simp] theorem live_scr (s : List Int) : live (.scr s) = true := rfl
@[simp] theorem live_ins (k : Nat) (ns : List Str) (ds : List D) : live (.ins k ns ds) = true := rfl
@[simp] theorem live_dic (ns : List Key) (ds : List D) : live (.dic ns ds) = true := rfl
@[simp] theorem v_setAll0 (is : List Nat) : setAll σ is [] = σ := by cases is <;> rfl
@[simp] theorem v_setAll00 (ds : List D) : setAll σ [] ds = σ := rfl
@[simp] theorem v_setAll1 (i : Nat) (is : List Nat) (d : D) (ds : List D) : setAll σ (i :: is) (d :: ds) = setAll (σ.set i d) is ds := rfl
@[simp] theorem v_slots1 (i : Nat) : (Tgt.nm i).slots = [i] := rfl
@[simp] theorem v_slots2 (is : List Nat) : (Tgt.tp is).slots = is := rfl
@[simp] theorem v_ds1 (i : Nat) (d : D) : (Tgt.nm i).ds d = some [d] := rfl
@[simp] theorem v_ds2 (is : List Nat) (ds : List D) : (Tgt.tp is).ds (.tup ds) = if ds.length = is.length then some ds else none := rfl
@[simp] theorem v_st1 (i : Nat) (d : D) : (Tgt.nm i).st false d = some [d] := rfl
@[simp] theorem v_st2 (is : List Nat) (ds : List D) (b : Bool) : (Tgt.tp is).st b (.tup ds) = if ds.length = is.length then some ds else none := rfl
@[simp] theorem v_lst1 (ds : List D) : lstOf S (.lst ds) = some ds := by rfl
@[simp] theorem v_lst2 (n : Nat) : lstOf S (.ref n) = lO S[n]? := by rfl
@[simp] theorem v_lst3 (ds : List D) : lstOf S (.tup ds) = none := by rfl
@[simp] theorem v_tup1 (ds : List D) : tupOf (.tup ds) = some ds := rfl
@[simp] theorem v_tup2 (ds : List D) : tupOf (.lst ds) = none := rfl
@[simp] theorem v_tup3 (n : Nat) : tupOf (.ref n) = none := rfl
@[simp] theorem v_seq1 (ds : List D) : seqOf S (.tup ds) = some ds := rfl
@[simp] theorem v_seq2 (ds : List D) : seqOf S (.lst ds) = some ds := rfl
@[simp] theorem v_seq3 (n : Nat) : seqOf S (.ref n) = lO S[n]? := by rfl
@[simp] theorem v_its1 (ds : List D) : itsOf S (.tup ds) = some ds := rfl
@[simp] theorem v_its2 (ds : List D) : itsOf S (.lst ds) = some ds := rfl
@[simp] theorem v_its3 (n : Nat) : itsOf S (.ref n) = lO S[n]? := by rfl
@[simp] theorem v_its4 (ns : List Int) : itsOf S (.scr ns) = some (ns.map .int) := rfl
@[simp] theorem v_src1 (ds : List D) : srcOf (.tup ds) = [] := rfl
@[simp] theorem v_src2 (ds : List D) : srcOf (.lst ds) = [] := rfl
@[simp] theorem v_src3 (n : Nat) : srcOf (.ref n) = [n] := rfl
@[simp] theorem v_src4 (ns : List Int) : srcOf (.scr ns) = [] := rfl
@[simp] theorem gd_nil {S0 : Sto} : Gd S0 [] S = True := by simp [Gd]
@[simp] theorem gd_self {src : List Nat} : Gd S src S = True := by simp [Gd]
theorem gd_one {S0 : Sto} {n : Nat} : Gd S0 [n] S = (S[n]? = S0[n]?) := by simp [Gd]
@[simp] theorem v_add1 (i j : Int) : fAdd (.int i) (.int j) S = .ok (.int (i + j)) S := rfl
@[simp] theorem v_add2 (i j : List D) : fAdd (.tup i) (.tup j) S = if i.length + j.length ≤ LIM then .ok (.tup (i ++ j)) S else .bad := rfl
@[simp] theorem v_add3 (i j : List D) : fAdd (.lst i) (.lst j) S = if i.length + j.length ≤ LIM then .ok (.lst (i ++ j)) S else .bad := rfl
@[simp] theorem v_add4 (n : Nat) (y : D) : fAdd (.ref n) y S = oB (lstOf S (.ref n)) fun i => oB (lstOf S y) fun j => if i.length + j.length ≤ LIM then .ok (.lst (i ++ j)) S else .bad := by rfl
@[simp] theorem v_add5 (n : Nat) (i : List D) : fAdd (.lst i) (.ref n) S = oB (lstOf S (.ref n)) fun j => if i.length + j.length ≤ LIM then .ok (.lst (i ++ j)) S else .bad := by rfl
@[simp] theorem v_add6 (i j : Str) : fAdd (.str i) (.str j) S = if i.length + j.length ≤ LIM then .ok (.str (i ++ j)) S else .bad := rfl
@[simp] theorem v_sub (i j : Int) : fSub (.int i) (.int j) S = .ok (.int (i - j)) S := rfl
@[simp] theorem v_mod (i j : Int) : fMod (.int i) (.int j) S = if 0 < j then .ok (.int (i % j)) S else .bad := rfl
@[simp] theorem v_div (i j : Int) : fDiv (.int i) (.int j) S = if 0 < j ∧ j < 2 ^ 9000 then .ok (.int (i / j)) S else .bad := rfl
@[simp] theorem v_pow (i j : Int) : fPow (.int i) (.int j) S = if 0 ≤ j ∧ j ≤ 1000 ∧ 0 ≤ i ∧ i < 1000 then .ok (.int (i ^ j.toNat)) S else .bad := rfl
@[simp] theorem v_mul (i j : Int) : fMul (.int i) (.int j) S = if okMul i j then .ok (.int (i * j)) S else .bad := rfl
@[simp] theorem v_mulT (ds : List D) (k : Int) : fMul (.tup ds) (.int k) S = if -1000 ≤ k ∧ k ≤ 1000 ∧ ds.length ≤ 1000 then .ok (.tup (repD k ds)) S else .bad := rfl
@[simp] theorem v_mulL (x : D) (k : Int) : fMulL x (.int k) S = oB (lstOf S x) fun ds => if -1000 ≤ k ∧ k ≤ 1000 ∧ ds.length ≤ 100 then .ok (repD k ds) S else .bad := by rfl
@[simp] theorem v_addL (x y : D) : fAddL x y S = oB (lstOf S x) fun i => oB (lstOf S y) fun j => if i.length + j.length ≤ LIM then .ok (i ++ j) S else .bad := by rfl
@[simp] theorem v_neg (i : Int) : fNeg (.int i) S = .ok (.int (-i)) S := rfl
@[simp] theorem v_int (f : Int → Int → D) (i j : Int) : fInt f (.int i) (.int j) S = .ok (f i j) S := rfl
@[simp] theorem v_lt (i j : Int) : fLt0 (.int i) (.int j) S = .ok (.bl (decide (i < j))) S := rfl
@[simp] theorem v_le (i j : Int) : fLe (.int i) (.int j) S = .ok (.bl (decide (i ≤ j))) S := rfl
@[simp] theorem v_gt (i j : Int) : fGt (.int i) (.int j) S = .ok (.bl (decide (j < i))) S := rfl
@[simp] theorem v_ge (i j : Int) : fGe (.int i) (.int j) S = .ok (.bl (decide (j ≤ i))) S := rfl
@[simp] theorem v_isN (x : D) : fIsN x S = .ok (.bl (isNon x)) S := rfl
@[simp] theorem v_notN (x : D) : fNotN x S = .ok (.bl (!isNon x)) S := rfl
@[simp] theorem v_non1 : isNon .non = true := rfl
@[simp] theorem v_non2 (i : Int) : isNon (.int i) = false := rfl
@[simp] theorem v_non3 (i : List D) : isNon (.tup i) = false := rfl
@[simp] theorem v_non4 (i : List D) : isNon (.lst i) = false := rfl
@[simp] theorem v_non5 (i : Bool) : isNon (.bl i) = false := rfl
@[simp] theorem v_non6 (i : Str) : isNon (.str i) = false := rfl
@[simp] theorem v_non7 (k : Nat) (ns : List Str) (ds : List D) : isNon (.ins k ns ds) = false := rfl
@[simp] theorem v_non8 (i : Nat) : isNon (.ref i) = false := rfl
@[simp] theorem v_in (neg : Bool) (x y : D) : fIn neg x y S = oB (seqOf S y) fun ds => if flatD x && flats ds then .ok (.bl (if neg then !inD x ds else inD x ds)) S else .bad := by rfl
@[simp] theorem v_flat (i : Int) : flatD (.int i) = true := rfl
@[simp] theorem v_flat2 : flatD .non = true := rfl
@[simp] theorem v_flat3 (s : Str) : flatD (.str s) = true := rfl
@[simp] theorem v_flat4 (s : Bool) : flatD (.bl s) = true := rfl
@[simp] theorem v_ix (x : D) (i : Int) : fIx x (.int i) S = oB (seqOf S x) fun ds => oB (atI ds i) fun d => .ok d S := by rfl
@[simp] theorem v_ixL (x : D) (i : Int) : fIxL x (.int i) S = oB (lstOf S x) fun ds => oB (atI ds i) fun d => .ok d S := by rfl
@[simp] theorem v_sl1 (ds : List D) (lo hi : Option Int) : fSl (.tup ds) lo hi S = .ok (.tup (cutD ds lo hi)) S := rfl
@[simp] theorem v_sl2 (ds : List D) (lo hi : Option Int) : fSl (.lst ds) lo hi S = .ok (.lst (cutD ds lo hi)) S := rfl
@[simp] theorem v_len1 (xs : List D) : fLen [.tup xs] S = .ok (.int xs.length) S := rfl
@[simp] theorem v_len2 (xs : List D) : fLen [.lst xs] S = .ok (.int xs.length) S := rfl
@[simp] theorem v_len3 (n : Nat) : fLen [.ref n] S = oB (lO S[n]?) fun xs => .ok (.int xs.length) S := by
  rfl
@[simp] theorem v_len4 (x : Str) : fLen [.str x] S = if x.length ≤ LIM then .ok (.int x.length) S else .bad := rfl
@[simp] theorem v_sum (d : D) : fSum [d] S = oB (seqOf S d) fun xs => oB (intsOf xs) fun ns => .ok (.int ns.sum) S := by rfl
@[simp] theorem v_min2 (i j : Int) : fMin [.int i, .int j] S = .ok (.int (if j < i then j else i)) S := rfl
@[simp] theorem v_max2 (i j : Int) : fMax [.int i, .int j] S = .ok (.int (if j > i then j else i)) S := rfl
@[simp] theorem v_abs (i : Int) : fAbs [.int i] S = .ok (.int (if i < 0 then -i else i)) S := rfl
@[simp] theorem v_int1 (i : Int) : fInt1 [.int i] S = .ok (.int i) S := rfl
@[simp] theorem v_int2 (b : Bool) : fInt1 [.bl b] S = .ok (.int (if b then 1 else 0)) S := rfl
@[simp] theorem v_all (d : D) : fAll [d] S = oB (lstOf S d) fun xs => oB (blsOf xs) fun bs => .ok (.bl (bs.all id)) S := by rfl
@[simp] theorem v_any (d : D) : fAny [d] S = oB (lstOf S d) fun xs => oB (blsOf xs) fun bs => .ok (.bl (bs.any id)) S := by rfl
@[simp] theorem v_tuple (d : D) : fTuple [d] S = oB (seqOf S d) fun xs => .ok (.tup xs) S := by rfl
@[simp] theorem v_list1 (ds : List D) : fList [.tup ds] S = .ok ds S := rfl
@[simp] theorem v_list2 (ds : List D) : fList [.lst ds] S = .ok ds S := rfl
@[simp] theorem v_list3 (ns : List Int) : fList [.scr ns] S = .ok (ns.map .int) S := rfl
@[simp] theorem v_append (n : Nat) (d : D) : fAppend (.ref n) [d] S = oB (lO S[n]?) fun xs => if xs.length < LIM then .ok .non (S.set n (.lst (xs ++ [d]))) else .bad := by
  unfold fAppend
  simp only
  cases S[n]? with
  | none => rfl
  | some o => cases o <;> rfl
@[simp] theorem v_setIx (n : Nat) (k : Int) (v : D) : fSetIx (.ref n) (.int k) v σ S = oBS (lO S[n]?) fun xs => oBS (ixN xs.length k) fun j => .nx σ (S.set n (.lst (xs.set j v))) := by
  unfold fSetIx
  simp only
  cases S[n]? with
  | none => rfl
  | some o => cases o <;> rfl
@[simp] theorem v_ty1 : tyOf S .non = some .none := rfl
@[simp] theorem v_ty2 (b : Bool) : tyOf S (.bl b) = some .bool := rfl
@[simp] theorem v_ty3 (b : Int) : tyOf S (.int b) = some .int := rfl
@[simp] theorem v_ty4 (b : Str) : tyOf S (.str b) = some .str := rfl
@[simp] theorem v_ty5 (b : List D) : tyOf S (.tup b) = some .tuple := rfl
@[simp] theorem v_ty6 (b : List D) : tyOf S (.lst b) = some .list := rfl
@[simp] theorem v_ty7 (ks : List Key) (b : List D) : tyOf S (.dic ks b) = some .dict := rfl
@[simp] theorem v_ty8 (n : Nat) : tyOf S (.ref n) = tO S[n]? := by rfl
@[simp] theorem v_ins1 (k : Nat) (ns : List Str) (ds : List D) : insOf S (.ins k ns ds) = some (k, ns, ds) := rfl
@[simp] theorem v_ins2 (n : Nat) : insOf S (.ref n) = iO S[n]? := by rfl
@[simp] theorem v_isT (a t : Ty) : isT a t = (decide (a = t) || (decide (a = .bool) && decide (t = .int))) := rfl
end
@[simp] theorem lim_val : LIM = 100000 := rfl
@[simp] theorem atI_n {α : Type} (xs : List α) (n : Nat) : atI xs (n : Int) = xs[n]? := atI_nat'
@[simp] theorem atI_0 {α : Type} (xs : List α) : atI xs 0 = xs[0]? := atI_nat' (n := 0)
@[simp] theorem atI_1 {α : Type} (xs : List α) : atI xs 1 = xs[1]? := atI_nat' (n := 1)
@[simp] theorem atI_2 {α : Type} (xs : List α) : atI xs 2 = xs[2]? := atI_nat' (n := 2)
@[simp] theorem atI_3 {α : Type} (xs : List α) : atI xs 3 = xs[3]? := atI_nat' (n := 3)
@[simp] theorem atI_4 {α : Type} (xs : List α) : atI xs 4 = xs[4]? := atI_nat' (n := 4)
@[simp] theorem atI_5 {α : Type} (xs : List α) : atI xs 5 = xs[5]? := atI_nat' (n := 5)
theorem ixN_n {m n : Nat} (h : n < m) : ixN m (n : Int) = some n := by unfold ixN; rw [if_pos (by omega), if_pos (by omega)]; simp
@[simp] theorem ixN_0 (m : Nat) : ixN (m + 1) 0 = some 0 := ixN_n (n := 0) (by omega)
@[simp] theorem ixN_1 (m : Nat) : ixN (m + 2) 1 = some 1 := ixN_n (n := 1) (by omega)
@[simp] theorem ixN_2 (m : Nat) : ixN (m + 3) 2 = some 2 := ixN_n (n := 2) (by omega)
set_option smartUnfolding true
@[simp high] theorem v_minN (i j : Nat) (S : Sto) : fMin [.int (i : Int), .int (j : Int)] S = .ok (.int ((min i j : Nat) : Int)) S := by rw [v_min2]; congr 2; split <;> omega
@[simp high] theorem v_maxN (i j : Nat) (S : Sto) : fMax [.int (i : Int), .int (j : Int)] S = .ok (.int ((max i j : Nat) : Int)) S := by rw [v_max2]; congr 2; split <;> omega
theorem okMul_l {i j : Int} (h : i.natAbs < 2 ^ 64) : okMul i j = true := by unfold okMul; simp [h]
theorem okMul_r {i j : Int} (h : j.natAbs < 2 ^ 64) : okMul i j = true := by unfold okMul; simp [h]
theorem okMul_b {i j : Int} (h : i.natAbs < 2 ^ 20000) (h2 : j.natAbs < 2 ^ 20000) : okMul i j = true := by unfold okMul; rw [decide_eq_true h, decide_eq_true h2, Bool.and_true, Bool.or_true]
structure Hh where
  cells : List Int
  st : Int
  k : Nat
  le : cells.length ≤ 63
def hs (h : Hh) : Sto := [.lst (h.cells.map .int), .lst [.int h.st, .ref 0, .int h.k]]
@[simp] theorem hs_len (h : Hh) : (hs h).length = 2 := rfl
@[simp high] theorem hs_0 (h : Hh) (T : Sto) : (hs h ++ T)[0]? = some (.lst (h.cells.map .int)) := rfl
@[simp high] theorem hs_1 (h : Hh) (T : Sto) : (hs h ++ T)[1]? = some (.lst [.int h.st, .ref 0, .int h.k]) := rfl
theorem mix_ok (ns : List Int) (hn : ns.length ≤ 63) (seed : Int) : ∃ h, f_l_mix [.scr ns, .int seed] [] = .ok (.ref 1) (hs h) := by
  have := funK_out (slots := 4) (n := 2) (m := p_l_mix) (ds := [.scr ns, .int seed]) (S := []) (Q := fun d S => ∃ st, d = .ref 1 ∧ S = hs ⟨ns, st, 0, hn⟩) rfl (fun F hF => by
    simp [p_l_mix]
    refine out_for (fun _ σ S => ∃ st j, σ = [.scr ns, .int seed, .int st, j] ∧ S = []) (fun k d σ S e ⟨st, j, e1, e2⟩ => ?_) (fun σ S ⟨st, j, e1, e2⟩ => ?_) ⟨seed, .dead, rfl, rfl⟩
    · subst e1 e2
      obtain ⟨x, hx, rfl⟩ := List.mem_map.mp (List.mem_of_getElem? e)
      refine ⟨by simp, _, rfl, fun F hF => ?_⟩
      simp [p_l_mix_b0, okMul_r]
      exact hF _ _ ⟨_, _, rfl, rfl⟩
    · subst e1 e2
      simp
      exact hF _ _ ⟨st, rfl, rfl⟩)
  obtain ⟨d, S2, e, st, rfl, rfl⟩ := this
  exact ⟨_, e⟩
end DL

namespace DL
open PySem L2
theorem pow9000 : (2 : Int) ^ 64 ≤ 2 ^ 9000 := by
  have : (2 : Nat) ^ 64 ≤ 2 ^ 9000 := Nat.pow_le_pow_right (by decide) (by decide)
  exact_mod_cast this
theorem div_ok {j : Int} (h : 0 < j) (h2 : j < 2 ^ 64) : (0 < j ∧ j < 2 ^ 9000) = True := eq_true ⟨h, Int.lt_of_lt_of_le h2 pow9000⟩
theorem okSt_hs (h h' : Hh) (T L : Sto) : OkSt (hs h ++ T) (hs h' ++ (T ++ L)) := by
  refine ⟨by simp, fun k o hk e => ?_⟩
  match k, hk, e with
  | 0, _, e =>
    right
    have : o = .lst (h'.cells.map .int) := by simpa using e.symm
    subst this
    exact cll_map _ _ _ fun _ _ => rfl
  | 1, _, e =>
    right
    have : o = .lst [.int h'.st, .ref 0, .int h'.k] := by simpa using e.symm
    subst this
    simp [clO]
    omega
  | k + 2, hk, e =>
    left
    have hk' : k < T.length := by simpa [hs] using hk
    have e' : (T ++ L)[k]? = some o := by simpa [hs] using e
    rw [List.getElem?_append_left hk'] at e'
    simpa [hs] using e'
theorem fin_hs {h h' : Hh} {T L : Sto} {d d' : D} (e : fz (hs h ++ T).length (hs h' ++ (T ++ L)) 4 d = some d') : fin (hs h ++ T) (hs h' ++ (T ++ L)) d = .ok d' (hs h' ++ T) := by
  unfold fin
  rw [if_pos (okSt_hs h h' T L), e]
  simp only [R.ok.injEq, true_and]
  rw [← List.append_assoc]
  exact List.take_left' (by simp)
theorem fin_hs0 {h h' : Hh} {T : Sto} {d : D} (e : cl (hs h ++ T).length d = true) : fin (hs h ++ T) (hs h' ++ T) d = .ok d (hs h' ++ T) := by
  have := fin_hs (h := h) (h' := h') (T := T) (L := []) (d := d) (fz_cl e)
  rwa [List.append_nil] at this
theorem fin_hsL {h h' : Hh} {T L : Sto} {d : D} (e : cl (hs h ++ T).length d = true) : fin (hs h ++ T) (hs h' ++ (T ++ L)) d = .ok d (hs h' ++ T) := fin_hs (fz_cl e)
theorem finP_hs {h h' : Hh} {T L : Sto} {d d' : D} {Q : D → Sto → Prop} (e : fz (hs h ++ T).length (hs h' ++ (T ++ L)) 4 d = some d') (q : Q d' (hs h' ++ T)) : FinP (hs h ++ T) Q d (hs h' ++ (T ++ L)) := ⟨_, _, fin_hs e, q⟩
theorem finP_hs0 {h h' : Hh} {T : Sto} {d : D} {Q : D → Sto → Prop} (e : cl (hs h ++ T).length d = true) (q : Q d (hs h' ++ T)) : FinP (hs h ++ T) Q d (hs h' ++ T) := ⟨_, _, fin_hs0 e, q⟩
theorem finP_hsL {h h' : Hh} {T L : Sto} {d : D} {Q : D → Sto → Prop} (e : cl (hs h ++ T).length d = true) (q : Q d (hs h' ++ T)) : FinP (hs h ++ T) Q d (hs h' ++ (T ++ L)) := ⟨_, _, fin_hsL e, q⟩
@[simp high] theorem hs_set0 (h : Hh) (T : Sto) (i : Nat) (x : Int) : (hs h ++ T).set 0 (.lst ((h.cells.map D.int).set i (.int x))) = hs ⟨h.cells.set i x, h.st, h.k, by rw [List.length_set]; exact h.le⟩ ++ T := by
  simp [hs, List.map_set]
@[simp high] theorem hs_set1 (h : Hh) (T : Sto) (x : Int) (k : Nat) : (hs h ++ T).set 1 (.lst [.int x, .ref 0, .int (k : Int)]) = hs ⟨h.cells, x, k, h.le⟩ ++ T := rfl
@[simp high] theorem hs_set2 (h : Hh) (T : Sto) (x : Int) (k : Nat) : (hs h ++ T).set 1 (.lst [.int x, .ref 0, .int ((k : Int) + 1)]) = hs ⟨h.cells, x, k + 1, h.le⟩ ++ T := rfl
theorem next_ok (h : Hh) (T : Sto) (cap : Int) (hc : 0 < cap) (hc2 : cap < 2 ^ 64) : ∃ (r : Nat) (h' : Hh), f_l_next [.ref 1, .int cap] (hs h ++ T) = .ok (.int (r : Int)) (hs h' ++ T) ∧ (r : Int) < cap := by
  have := fun_out (slots := 3) (n := 2) (m := p_l_next) (ds := [.ref 1, .int cap]) (S := hs h ++ T) (Q := fun d S => ∃ (r : Nat) (h' : Hh), d = .int (r : Int) ∧ S = hs h' ++ T ∧ (r : Int) < cap) rfl (fun F hF => by
    have hle := h.le
    have hdv := div_ok hc hc2
    have h7 : ((0 : Int) < 7 ∧ (7 : Int) < 2 ^ 9000) = True := div_ok (by decide) (by decide)
    obtain ⟨i, hi, ei, hi2⟩ : ∃ i : Nat, i < h.cells.length + 1 ∧ ((h.k : Int) % (if 1 < ((h.cells.length : Nat) : Int) then ((h.cells.length : Nat) : Int) else 1)) = (i : Int) ∧ (0 < h.cells.length → i < h.cells.length ∧ (h.k : Int) % ((h.cells.length : Nat) : Int) = i) := by
      by_cases q : h.cells.length = 0
      · exact ⟨0, by omega, by rw [if_neg (by omega)]; omega, fun z => by omega⟩
      · by_cases q1 : h.cells.length = 1
        · refine ⟨0, by omega, by rw [if_neg (by omega)]; omega, fun z => ⟨by omega, by rw [q1]; omega⟩⟩
        · refine ⟨h.k % h.cells.length, Nat.lt_succ_of_lt (Nat.mod_lt _ (by omega)), by rw [if_pos (by omega)]; omega, fun z => ⟨Nat.mod_lt _ z, by omega⟩⟩
    have hm : (0 : Int) < (if 1 < ((h.cells.length : Nat) : Int) then ((h.cells.length : Nat) : Int) else 1) := by split <;> omega
    obtain ⟨c, hcell⟩ : ∃ c, (h.cells ++ [0])[i]? = some c := ⟨_, List.getElem?_eq_getElem (by simpa using hi)⟩
    have hcell' : (h.cells.map D.int ++ [D.int 0])[i]? = some (D.int c) := by
      have : h.cells.map D.int ++ [D.int 0] = (h.cells ++ [0]).map D.int := by simp
      rw [this, List.getElem?_map, hcell]
      rfl
    simp (disch := first | omega | simp) [p_l_next, if_pos, hm, ei, hcell']
    by_cases big : 1000000000000000000 ≤ c
    · have hpos : 0 < h.cells.length := by
        rcases Nat.eq_zero_or_pos h.cells.length with z | z
        · have z' : h.cells = [] := List.eq_nil_of_length_eq_zero z
          rw [z'] at hcell hi
          have : i = 0 := by simpa using hi
          subst this
          simp at hcell
          omega
        · exact z
      obtain ⟨hi3, hi4⟩ := hi2 hpos
      simp (disch := first | omega | simp) [big, if_pos, hi4, hdv, ixN_n hi3, hc]
      refine hF _ _ (finP_hs0 rfl ⟨(c % cap).toNat, _, ?_, rfl, ?_⟩)
      · rw [Int.toNat_of_nonneg (Int.emod_nonneg _ (by omega))]
      · rw [Int.toNat_of_nonneg (Int.emod_nonneg _ (by omega))]
        exact Int.emod_lt_of_pos _ hc
    · simp (disch := first | omega | simp) [big, if_pos, if_neg, hc, h7, okMul_r]
      refine hF _ _ (finP_hs0 rfl ⟨((h.st * 48271 + c * 69621 + 11) % 2147483647 / 7 % cap).toNat, _, ?_, rfl, ?_⟩)
      · rw [Int.toNat_of_nonneg (Int.emod_nonneg _ (by omega))]
      · rw [Int.toNat_of_nonneg (Int.emod_nonneg _ (by omega))]
        exact Int.emod_lt_of_pos _ hc)
  obtain ⟨d, S2, e, r, h', rfl, rfl, hr⟩ := this
  exact ⟨r, h', e, hr⟩


theorem cl_mono_aux (m n : Nat) (h : m ≤ n) : (∀ d : D, cl m d = true → cl n d = true) ∧ (∀ ds : List D, cll m ds = true → cll n ds = true) := by
  have main : ∀ k : Nat, (∀ d : D, sizeOf d ≤ k → cl m d = true → cl n d = true) ∧ (∀ ds : List D, sizeOf ds ≤ k → cll m ds = true → cll n ds = true) := by
    intro k
    induction k with
    | zero => exact ⟨fun d hk => by cases d <;> simp at hk, fun ds hk => by cases ds <;> simp at hk⟩
    | succ k ih =>
      refine ⟨fun d hk => ?_, fun ds hk => ?_⟩
      · cases d with
        | tup ds => simp at hk; intro z; rw [cl_tup] at z ⊢; exact ih.2 ds (by omega) z
        | lst ds => simp at hk; intro z; rw [cl_lst] at z ⊢; exact ih.2 ds (by omega) z
        | dic ks ds => simp at hk; intro z; rw [cl_dic] at z ⊢; exact ih.2 ds (by omega) z
        | ins c ns ds => simp at hk; intro z; rw [cl_ins] at z ⊢; exact ih.2 ds (by omega) z
        | xc a b c ds => simp at hk; intro z; rw [cl_xc] at z ⊢; exact ih.2 ds (by omega) z
        | ref r => simp; omega
        | _ => exact fun _ => rfl
      · cases ds with
        | nil => exact fun _ => rfl
        | cons d ds =>
          simp at hk
          intro z
          rw [cll_cons, Bool.and_eq_true] at z ⊢
          exact ⟨ih.1 d (by omega) z.1, ih.2 ds (by omega) z.2⟩
  exact ⟨fun d => (main (sizeOf d)).1 d (Nat.le_refl _), fun ds => (main (sizeOf ds)).2 ds (Nat.le_refl _)⟩
theorem cl_mono {m n : Nat} {d : D} (h : cl m d = true) (hl : m ≤ n) : cl n d = true := (cl_mono_aux m n hl).1 d h
theorem cl_0 {n : Nat} {d : D} (h : cl 0 d = true) : cl n d = true := cl_mono h (Nat.zero_le _)
section
variable {h : Hh} {T U : Sto} {x y z o : Ob}
@[simp high] theorem hsT_get0 : (hs h ++ (T ++ x :: U))[2 + T.length]? = some x := by rw [← List.append_assoc]; exact (show 2 + T.length = (hs h ++ T).length by simp) ▸ sto_get0
@[simp high] theorem hsT_get1 : (hs h ++ (T ++ x :: y :: U))[2 + (T.length + 1)]? = some y := by rw [← List.append_assoc]; exact (show 2 + (T.length + 1) = (hs h ++ T).length + 1 by simp; omega) ▸ sto_get1
@[simp high] theorem hsT_get2 : (hs h ++ (T ++ x :: y :: z :: U))[2 + (T.length + 2)]? = some z := by rw [← List.append_assoc]; exact (show 2 + (T.length + 2) = (hs h ++ T).length + 2 by simp; omega) ▸ sto_get2
@[simp high] theorem hsT_set0 : (hs h ++ (T ++ x :: U)).set (2 + T.length) o = hs h ++ (T ++ o :: U) := by rw [← List.append_assoc, ← List.append_assoc]; exact (show 2 + T.length = (hs h ++ T).length by simp) ▸ sto_set0
@[simp high] theorem hsT_set1 : (hs h ++ (T ++ x :: y :: U)).set (2 + (T.length + 1)) o = hs h ++ (T ++ x :: o :: U) := by rw [← List.append_assoc, ← List.append_assoc]; exact (show 2 + (T.length + 1) = (hs h ++ T).length + 1 by simp; omega) ▸ sto_set1
@[simp high] theorem hsT_set2 : (hs h ++ (T ++ x :: y :: z :: U)).set (2 + (T.length + 2)) o = hs h ++ (T ++ x :: y :: o :: U) := by rw [← List.append_assoc, ← List.append_assoc]; exact (show 2 + (T.length + 2) = (hs h ++ T).length + 2 by simp; omega) ▸ sto_set2
end
abbrev eN (n : Nat) : D := .int (n : Int)
abbrev eR (r : List Nat) : D := .tup (r.map eN)
abbrev eH (r : List (List Nat)) : D := .tup (r.map eR)
@[simp] theorem cll_eN (n : Nat) (r : List Nat) : cll n (r.map eN) = true := cll_map _ _ _ fun _ _ => rfl
@[simp] theorem cll_eR (n : Nat) (r : List (List Nat)) : cll n (r.map eR) = true := cll_map _ _ _ fun _ _ => by simp
/-- a draw of one of some things -/
theorem pick_ok (h : Hh) (T : Sto) (ds : List D) (h0 : ds ≠ []) (hl : ds.length < 1000) (hv : ∀ d ∈ ds, cl 0 d = true) : ∃ (d : D) (h' : Hh), f_l_pick [.ref 1, .lst ds] (hs h ++ T) = .ok d (hs h' ++ T) ∧ d ∈ ds := by
  have hp : 0 < ds.length := List.length_pos_iff.mpr h0
  obtain ⟨r, h', e, hr⟩ := next_ok h T (ds.length : Int) (by omega) (by omega)
  have hr' : r < ds.length := by omega
  have := fun_out (slots := 2) (n := 2) (m := p_l_pick) (ds := [.ref 1, .lst ds]) (S := hs h ++ T) (Q := fun d S => ∃ (h' : Hh), S = hs h' ++ T ∧ d ∈ ds) rfl (fun F hF => by
    simp [p_l_pick, e, hr']
    exact hF _ _ (finP_hs0 (cl_0 (hv _ (List.getElem_mem hr'))) ⟨_, rfl, List.getElem_mem hr'⟩))
  obtain ⟨d, S2, e, h', rfl, hr⟩ := this
  exact ⟨d, h', e, hr⟩
theorem sizes_ok (h : Hh) (T : Sto) (many most : Nat) (hm : many ≤ 8) : ∃ (zs : List Nat) (h' : Hh), f_l_sizes [.ref 1, eN many, eN most] (hs h ++ T) = .ok (eR zs) (hs h' ++ T) ∧ zs.length = many ∧ zs.sum ≤ most ∧ ∀ z ∈ zs, z ≤ 8 := by
  obtain ⟨c, h1, e1, hc⟩ := pick_ok h T [.int 2, .int 4, .int 9] (by simp) (by simp) (by simp)
  obtain ⟨cap, rfl, hc0, hc9⟩ : ∃ cap : Nat, c = .int (cap : Int) ∧ 0 < cap ∧ cap ≤ 9 := by
    simp at hc
    rcases hc with rfl | rfl | rfl
    · exact ⟨2, rfl, by omega, by omega⟩
    · exact ⟨4, rfl, by omega, by omega⟩
    · exact ⟨9, rfl, by omega, by omega⟩
  have := fun_out (slots := 8) (n := 3) (m := p_l_sizes) (ds := [.ref 1, eN many, eN most]) (S := hs h ++ T) (Q := fun d S => ∃ (zs : List Nat) (h' : Hh), d = eR zs ∧ S = hs h' ++ T ∧ zs.length = many ∧ zs.sum ≤ most ∧ ∀ z ∈ zs, z ≤ 8) rfl (fun F hF => by
    have hrg := okRg_0 (n := many) (by omega)
    simp [p_l_sizes, e1, hrg, rgD_nat]
    refine out_for (fun k σ S => ∃ (zs : List Nat) (h' : Hh) (j j' : D), σ = [.ref 1, eN many, eN most, .int (cap : Int), .ref (2 + T.length), eN zs.sum, j, j'] ∧ S = hs h' ++ (T ++ [.lst (zs.map eN)]) ∧ zs.length = k ∧ zs.sum ≤ most ∧ ∀ z ∈ zs, z ≤ 8) (fun k d σ S e q => ?_) (fun σ S q => ?_) ⟨[], h1, .dead, .dead, rfl, rfl, rfl, Nat.zero_le _, nofun⟩
    · obtain ⟨zs, h2, j, j', rfl, rfl, hk, hsum, hz⟩ := q
      obtain ⟨r, h3, e3, hr⟩ := next_ok h2 (T ++ [.lst (zs.map eN)]) (cap : Int) (by omega) (by omega)
      obtain ⟨i, hi, rfl⟩ := List.mem_map.mp (List.mem_of_getElem? e)
      have hkl : k < many := by
        have := (List.getElem?_eq_some_iff.mp e).1
        simpa using this
      have hlt : zs.length < 100000 := by omega
      have emin : (if (most : Int) - (zs.sum : Nat) < (r : Nat) then (most : Int) - (zs.sum : Nat) else (r : Nat)) = ((min r (most - zs.sum) : Nat) : Int) := by split <;> omega
      refine ⟨by simp, _, rfl, fun F hF => ?_⟩
      simp [p_l_sizes_b0, e3, hlt, emin]
      refine hF _ _ ⟨zs ++ [min r (most - zs.sum)], h3, eN i, eN (min r (most - zs.sum)), ?_, ?_, by simp [hk], by simp; omega, fun z hz' => ?_⟩
      · simp
      · simp
      · rcases List.mem_append.mp hz' with q | q
        · exact hz z q
        · have : z = min r (most - zs.sum) := by simpa using q
          omega
    · obtain ⟨zs, h2, j, j', rfl, rfl, hk, hsum, hz⟩ := q
      simp
      exact hF _ _ (finP_hsL (by simp) ⟨zs, h2, rfl, rfl, by simpa using hk, hsum, hz⟩))
  obtain ⟨d, S2, e, zs, h', rfl, rfl, hr⟩ := this
  exact ⟨zs, h', e, hr⟩
end DL

namespace DL
open PySem L2
mutual
def nb : D → Bool
  | .non => true
  | .int _ => true
  | .str _ => true
  | .tup ds => nbs ds
  | .lst ds => nbs ds
  | _ => false
def nbs : List D → Bool
  | [] => true
  | d :: ds => nb d && nbs ds
end
mutual
theorem eqD_iff : ∀ x y : D, nb x = true → nb y = true → (eqD x y = true ↔ x = y)
  | .non, y, _, hy => by cases y <;> simp [eqD, toPy, PyData.eqv, nb] at *
  | .int i, y, _, hy => by cases y <;> simp [eqD, toPy, PyData.eqv, nb] at *
  | .str i, y, _, hy => by cases y <;> simp [eqD, toPy, PyData.eqv, nb] at *
  | .tup xs, y, hx, hy => by
    cases y with
    | tup ys =>
      have := eqDs_iff xs ys (by simpa [nb] using hx) (by simpa [nb] using hy)
      simp [eqD, toPy, PyData.eqv]
      exact this
    | _ => simp [eqD, toPy, PyData.eqv, nb] at *
  | .lst xs, y, hx, hy => by
    cases y with
    | lst ys =>
      have := eqDs_iff xs ys (by simpa [nb] using hx) (by simpa [nb] using hy)
      simp [eqD, toPy, PyData.eqv]
      exact this
    | _ => simp [eqD, toPy, PyData.eqv, nb] at *
  | .dead, _, hx, _ => by simp [nb] at hx
  | .bl _, _, hx, _ => by simp [nb] at hx
  | .dic _ _, _, hx, _ => by simp [nb] at hx
  | .ins _ _ _, _, hx, _ => by simp [nb] at hx
  | .ref _, _, hx, _ => by simp [nb] at hx
  | .scr _, _, hx, _ => by simp [nb] at hx
  | .ty _, _, hx, _ => by simp [nb] at hx
  | .xc _ _ _ _, _, hx, _ => by simp [nb] at hx
theorem eqDs_iff : ∀ x y : List D, nbs x = true → nbs y = true → (PyData.eqvAll (toPys x) (toPys y) = true ↔ x = y)
  | [], [], _, _ => by simp [toPys, PyData.eqvAll]
  | [], _ :: _, _, _ => by simp [toPys, PyData.eqvAll]
  | _ :: _, [], _, _ => by simp [toPys, PyData.eqvAll]
  | x :: xs, y :: ys, hx, hy => by
    simp only [nbs, Bool.and_eq_true] at hx hy
    have h1 := eqD_iff x y hx.1 hy.1
    have h2 := eqDs_iff xs ys hx.2 hy.2
    unfold eqD at h1
    simp only [toPys, PyData.eqvAll, Bool.and_eq_true, h1, h2, List.cons.injEq]
end
theorem eqD_dec {x y : D} (hx : nb x = true) (hy : nb y = true) {p : Prop} [Decidable p] (h : x = y ↔ p) : eqD x y = decide p := by
  have := eqD_iff x y hx hy
  rw [Bool.eq_iff_iff, this, h]
  simp
@[simp] theorem nb_int (i : Int) : nb (.int i) = true := rfl
@[simp] theorem nb_non : nb .non = true := rfl
@[simp] theorem nb_str (s : Str) : nb (.str s) = true := rfl
@[simp] theorem nb_tup (ds : List D) : nb (.tup ds) = nbs ds := by rw [nb]
@[simp] theorem nb_lst (ds : List D) : nb (.lst ds) = nbs ds := by rw [nb]
@[simp] theorem nbs_nil : nbs [] = true := rfl
@[simp] theorem nbs_cons (d : D) (ds : List D) : nbs (d :: ds) = (nb d && nbs ds) := by rw [nbs]
theorem nbs_all (ds : List D) : nbs ds = ds.all nb := by
  induction ds with
  | nil => rfl
  | cons d ds ih => simp [ih]
theorem nbs_map {α : Type} (f : α → D) (xs : List α) (h : ∀ a ∈ xs, nb (f a) = true) : nbs (xs.map f) = true := by
  rw [nbs_all, List.all_eq_true]
  intro d hd
  obtain ⟨a, ha, rfl⟩ := List.mem_map.mp hd
  exact h a ha
@[simp] theorem nbs_eN (r : List Nat) : nbs (r.map eN) = true := nbs_map _ _ fun _ _ => rfl
@[simp] theorem nbs_eR (r : List (List Nat)) : nbs (r.map eR) = true := nbs_map _ _ fun _ _ => by simp
theorem eN_inj {a b : Nat} : eN a = eN b ↔ a = b := by rw [eN, eN, D.int.injEq]; omega
theorem eNs_inj {a b : List Nat} : a.map eN = b.map eN ↔ a = b := ⟨fun h => List.map_inj_right (fun _ _ e => eN_inj.mp e) |>.mp h, fun h => by rw [h]⟩
theorem eR_inj {a b : List Nat} : eR a = eR b ↔ a = b := by rw [eR, eR, D.tup.injEq]; exact eNs_inj
theorem eRs_inj {a b : List (List Nat)} : a.map eR = b.map eR ↔ a = b := ⟨fun h => List.map_inj_right (fun _ _ e => eR_inj.mp e) |>.mp h, fun h => by rw [h]⟩
theorem eH_inj {a b : List (List Nat)} : eH a = eH b ↔ a = b := by rw [eH, eH, D.tup.injEq]; exact eRs_inj
@[simp] theorem eqD_int (i j : Int) : eqD (.int i) (.int j) = decide (i = j) := eqD_dec rfl rfl (by simp)
@[simp] theorem eqD_bl (i j : Bool) : eqD (.bl i) (.bl j) = decide (i = j) := by cases i <;> cases j <;> rfl
@[simp] theorem eqD_eR (a b : List Nat) : eqD (eR a) (eR b) = decide (a = b) := eqD_dec (by simp) (by simp) eR_inj
@[simp] theorem eqD_eH (a b : List (List Nat)) : eqD (eH a) (eH b) = decide (a = b) := eqD_dec (by simp) (by simp) eH_inj
@[simp] theorem eqD_t00 : eqD (.tup []) (.tup []) = true := by simp [eqD, toPy, toPys, PyData.eqv, PyData.eqvAll]
@[simp] theorem eqD_t10 (x : D) (xs : List D) : eqD (.tup (x :: xs)) (.tup []) = false := by simp [eqD, toPy, toPys, PyData.eqv, PyData.eqvAll]
@[simp] theorem eqD_t01 (x : D) (xs : List D) : eqD (.tup []) (.tup (x :: xs)) = false := by simp [eqD, toPy, toPys, PyData.eqv, PyData.eqvAll]
@[simp] theorem eqD_l00 : eqD (.lst []) (.lst []) = true := by simp [eqD, toPy, toPys, PyData.eqv, PyData.eqvAll]
@[simp] theorem eqD_l10 (x : D) (xs : List D) : eqD (.lst (x :: xs)) (.lst []) = false := by simp [eqD, toPy, toPys, PyData.eqv, PyData.eqvAll]
@[simp] theorem eqD_l01 (x : D) (xs : List D) : eqD (.lst []) (.lst (x :: xs)) = false := by simp [eqD, toPy, toPys, PyData.eqv, PyData.eqvAll]
theorem inD_eN (a : Nat) (xs : List Nat) : inD (eN a) (xs.map eN) = decide (a ∈ xs) := by
  induction xs with
  | nil => rfl
  | cons x xs ih =>
    unfold inD at ih ⊢
    rw [List.map_cons, List.any_cons, ih, eqD_int, Bool.eq_iff_iff]
    simp only [Bool.or_eq_true, decide_eq_true_eq, List.mem_cons]
    exact or_congr (by omega) Iff.rfl
@[simp] theorem inD_int (a : Nat) (xs : List Nat) : inD (.int (a : Int)) (xs.map eN) = decide (a ∈ xs) := inD_eN a xs
@[simp] theorem flat_eN (xs : List Nat) : flats (xs.map eN) = true := by simp [flats, List.all_map]
@[simp] theorem flats_nil : flats [] = true := rfl
@[simp] theorem flats_cons (x : D) (xs : List D) : flats (x :: xs) = (flatD x && flats xs) := rfl
@[simp] theorem flats_app (xs ys : List D) : flats (xs ++ ys) = (flats xs && flats ys) := by simp [flats]
@[simp] theorem pln_int (n : Nat) (i : Int) : pln n (.int i) = true := by cases n <;> rfl
@[simp] theorem pln_bl (n : Nat) (i : Bool) : pln n (.bl i) = true := by cases n <;> rfl
@[simp] theorem pln_non (n : Nat) : pln n .non = true := by cases n <;> rfl
@[simp] theorem pln_tup (n : Nat) (ds : List D) : pln (n + 1) (.tup ds) = plns n ds := by rw [pln]
@[simp] theorem pln_lst (n : Nat) (ds : List D) : pln (n + 1) (.lst ds) = plns n ds := by rw [pln]
@[simp] theorem plns_nil (n : Nat) : plns n [] = true := by rw [plns]
@[simp] theorem plns_cons (n : Nat) (d : D) (ds : List D) : plns n (d :: ds) = (pln n d && plns n ds) := by rw [plns]
theorem plns_all (n : Nat) (ds : List D) : plns n ds = ds.all (pln n) := by
  induction ds with
  | nil => simp
  | cons d ds ih => simp [ih]
theorem plns_map {α : Type} (n : Nat) (f : α → D) (xs : List α) (h : ∀ a ∈ xs, pln n (f a) = true) : plns n (xs.map f) = true := by
  rw [plns_all, List.all_eq_true]
  intro d hd
  obtain ⟨a, ha, rfl⟩ := List.mem_map.mp hd
  exact h a ha
@[simp] theorem plns_eN (n : Nat) (r : List Nat) : plns n (r.map eN) = true := plns_map _ _ _ fun _ _ => by simp
@[simp] theorem plns_eR (n : Nat) (r : List (List Nat)) : plns (n + 1) (r.map eR) = true := plns_map _ _ _ fun _ _ => by simp
@[simp] theorem pln_eR (n : Nat) (r : List Nat) : pln (n + 1) (eR r) = true := by simp
@[simp] theorem pln_eH (n : Nat) (r : List (List Nat)) : pln (n + 2) (eH r) = true := by simp
@[simp] theorem view_int (S : Sto) (i : Int) : view S (.int i) = .int i := rfl
@[simp] theorem view_bl (S : Sto) (i : Bool) : view S (.bl i) = .bl i := rfl
@[simp] theorem view_non (S : Sto) : view S .non = .non := rfl
@[simp] theorem view_str (S : Sto) (s : Str) : view S (.str s) = .str s := rfl
@[simp] theorem view_tup (S : Sto) (ds : List D) : view S (.tup ds) = .tup ds := rfl
@[simp] theorem view_lst (S : Sto) (ds : List D) : view S (.lst ds) = .lst ds := rfl
theorem view_ref (S : Sto) (n : Nat) (ds : List D) (h : S[n]? = some (.lst ds)) : view S (.ref n) = .lst ds := by unfold view; simp only [h]
theorem v_eq (S : Sto) (x y : D) (h : pln 64 (view S x) = true) (h2 : pln 64 (view S y) = true) : fEq x y S = .ok (.bl (eqD (view S x) (view S y))) S := by unfold fEq; rw [h, h2]; rfl
theorem v_ne (S : Sto) (x y : D) (h : pln 64 (view S x) = true) (h2 : pln 64 (view S y) = true) : fNe x y S = .ok (.bl (!eqD (view S x) (view S y))) S := by unfold fNe; rw [h, h2]; rfl
@[simp] theorem v_eqI (S : Sto) (i j : Int) : fEq (.int i) (.int j) S = .ok (.bl (decide (i = j))) S := by rw [v_eq _ _ _ rfl rfl]; simp
@[simp] theorem v_neI (S : Sto) (i j : Int) : fNe (.int i) (.int j) S = .ok (.bl (!decide (i = j))) S := by rw [v_ne _ _ _ rfl rfl]; simp
@[simp] theorem v_eqB (S : Sto) (i j : Bool) : fEq (.bl i) (.bl j) S = .ok (.bl (decide (i = j))) S := by rw [v_eq _ _ _ rfl rfl]; simp
@[simp] theorem v_neB (S : Sto) (i j : Bool) : fNe (.bl i) (.bl j) S = .ok (.bl (!decide (i = j))) S := by rw [v_ne _ _ _ rfl rfl]; simp
theorem cut_to (ds : List D) (n : Nat) : cutD ds none (some (n : Int)) = ds.take n := by
  unfold cutD
  rw [HT.sIx_none, HT.sIx_nat]
  simp
theorem cut_from (ds : List D) (n : Nat) : cutD ds (some (n : Int)) none = ds.drop n := by
  unfold cutD
  rw [HT.sIx_none, HT.sIx_nat]
  by_cases h : n ≤ ds.length
  · rw [Nat.min_eq_left h, List.take_of_length_le (by simp)]
  · rw [Nat.min_eq_right (show ds.length ≤ n by omega), List.drop_of_length_le (Nat.le_refl _), List.drop_of_length_le (show ds.length ≤ n by omega)]
    simp
theorem cut_mid (ds : List D) (m n : Nat) : cutD ds (some (m : Int)) (some (n : Int)) = (ds.drop m).take (n - m) := by
  unfold cutD
  rw [HT.sIx_nat, HT.sIx_nat]
  by_cases h : m ≤ ds.length
  · rw [Nat.min_eq_left h, List.take_eq_take_iff, List.length_drop]
    omega
  · rw [Nat.min_eq_right (show ds.length ≤ m by omega), List.drop_of_length_le (Nat.le_refl _), List.drop_of_length_le (show ds.length ≤ m by omega)]
    simp
def deckFrom (i : Nat) : List Nat → List Nat
  | [] => []
  | z :: zs => List.replicate z i ++ deckFrom (i + 1) zs
abbrev deck (zs : List Nat) : List Nat := deckFrom 0 zs
theorem deck_snoc (zs : List Nat) (z : Nat) : ∀ i, deckFrom i (zs ++ [z]) = deckFrom i zs ++ List.replicate z (i + zs.length) := by
  induction zs with
  | nil => intro i; simp [deckFrom]
  | cons a zs ih => intro i; simp [deckFrom, ih, Nat.add_assoc, Nat.add_comm 1]
theorem deck_len (zs : List Nat) : ∀ i, (deckFrom i zs).length = zs.sum := by
  induction zs with
  | nil => intro i; rfl
  | cons a zs ih => intro i; simp [deckFrom, ih]
theorem deck_lt (zs : List Nat) : ∀ i c, c ∈ deckFrom i zs → i ≤ c ∧ c < i + zs.length := by
  induction zs with
  | nil => intro i c h; simp [deckFrom] at h
  | cons a zs ih =>
    intro i c h
    simp [deckFrom] at h
    rcases h with ⟨_, rfl⟩ | h
    · simp
    · have := ih (i + 1) c h
      simp
      omega
theorem deck_count (zs : List Nat) : ∀ i k, (deckFrom i zs).count (i + k) = zs[k]?.getD 0 := by
  induction zs with
  | nil => intro i k; simp [deckFrom]
  | cons a zs ih =>
    intro i k
    simp only [deckFrom, List.count_append]
    cases k with
    | zero =>
      have h0 : (deckFrom (i + 1) zs).count (i + 0) = 0 := List.count_eq_zero.mpr fun h => by have := (deck_lt zs (i + 1) _ h).1; omega
      rw [h0, Nat.add_zero, Nat.add_zero, List.count_replicate_self]
      rfl
    | succ k =>
      have := ih (i + 1) k
      rw [show i + 1 + k = i + (k + 1) by omega] at this
      rw [this, List.count_replicate, if_neg (by simp)]
      simp
theorem mem_sum {x : Nat} : ∀ {zs : List Nat}, x ∈ zs → x ≤ zs.sum
  | z :: zs, h => by
    rw [List.sum_cons]
    rcases List.mem_cons.mp h with rfl | h
    · omega
    · have := mem_sum h
      omega
theorem take_sum (zs : List Nat) (k : Nat) : (zs.take k).sum ≤ zs.sum := by
  have h : (zs.take k).sum + (zs.drop k).sum = zs.sum := by rw [← List.sum_append, List.take_append_drop]
  omega
theorem rep_eN (n i : Nat) : repD (n : Int) [eN i] = (List.replicate n i).map eN := by
  unfold repD
  rw [Int.toNat_natCast]
  induction n with
  | zero => rfl
  | succ n ih => rw [List.replicate_succ, List.flatten_cons, ih, List.replicate_succ]; rfl
section
variable {h : Hh} {T J U : Sto} {x y z o : Ob}
@[simp high] theorem hsJ_get : (hs h ++ (T ++ x :: (J ++ y :: U)))[2 + (T.length + (J.length + 1))]? = some y := by
  have e : hs h ++ (T ++ x :: (J ++ y :: U)) = (hs h ++ (T ++ x :: J)) ++ y :: U := by simp
  have l : 2 + (T.length + (J.length + 1)) = (hs h ++ (T ++ x :: J)).length := by simp
  rw [e, l]
  exact sto_get0
@[simp high] theorem hsJ_set : (hs h ++ (T ++ x :: (J ++ y :: U))).set (2 + (T.length + (J.length + 1))) o = hs h ++ (T ++ x :: (J ++ o :: U)) := by
  have e : hs h ++ (T ++ x :: (J ++ y :: U)) = (hs h ++ (T ++ x :: J)) ++ y :: U := by simp
  have l : 2 + (T.length + (J.length + 1)) = (hs h ++ (T ++ x :: J)).length := by simp
  rw [e, l, sto_set0]
  simp
end
theorem erase_perm {α : Type} : ∀ {xs : List α} {n : Nat} (h : n < xs.length), (xs[n] :: xs.eraseIdx n).Perm xs
  | x :: xs, 0, h => by simp
  | x :: xs, n + 1, h => by
    have ih := erase_perm (xs := xs) (n := n) (by simpa using h)
    simp only [List.getElem_cons_succ, List.eraseIdx_cons_succ]
    exact (List.Perm.swap _ _ _).trans (List.Perm.cons _ ih)
theorem deck_take {zs : List Nat} {k : Nat} (hk : k < zs.length) : deck (zs.take (k + 1)) = deck (zs.take k) ++ List.replicate zs[k] k := by
  rw [List.take_succ, List.getElem?_eq_getElem hk]
  show deckFrom 0 (zs.take k ++ [zs[k]]) = _
  rw [deck_snoc, Nat.zero_add, List.length_take, Nat.min_eq_left (Nat.le_of_lt hk)]
@[simp] theorem cut_to' (ds : List D) (n : Nat) : cutD ds none (some (n : Int)) = ds.take n := cut_to ds n
@[simp] theorem cut_from' (ds : List D) (n : Nat) : cutD ds (some (n : Int)) none = ds.drop n := cut_from ds n
@[simp] theorem cut_fromL (ds : List D) : cutD ds (some 1) none = ds.drop 1 := cut_from ds 1
@[simp] theorem cut_from1 (ds : List D) (n : Nat) : cutD ds (some ((n : Int) + 1)) none = ds.drop (n + 1) := cut_from ds (n + 1)
set_option maxHeartbeats 4000000 in
theorem deal_ok (h : Hh) (T : Sto) (zs : List Nat) (hz : zs.length ≤ 8) (hsum : zs.sum ≤ 64) : ∃ (hp : List (List Nat)) (h' : Hh), f_l_deal [.ref 1, eR zs] (hs h ++ T) = .ok (eH hp) (hs h' ++ T) ∧ hp.map List.length = zs ∧ hp.flatten.Perm (deck zs) := by
  have := fun_out (slots := 9) (n := 2) (m := p_l_deal) (ds := [.ref 1, eR zs]) (S := hs h ++ T) (Q := fun d S => ∃ (hp : List (List Nat)) (h' : Hh), d = eH hp ∧ S = hs h' ++ T ∧ hp.map List.length = zs ∧ hp.flatten.Perm (deck zs)) rfl (fun F hF => by
    have hrg := okRg_0 (n := zs.length) (by omega)
    simp [p_l_deal, hrg, rgD_nat]
    refine out_for (fun k σ S => ∃ j, σ = [.ref 1, eR zs, .lst ((deck (zs.take k)).map eN), j, .dead, .dead, .dead, .dead, .dead] ∧ S = hs h ++ T) (fun k d σ S e q => ?_) (fun σ S q => ?_) ⟨.dead, rfl, rfl⟩
    · obtain ⟨j, rfl, rfl⟩ := q
      have hk : k < zs.length := by
        have := (List.getElem?_eq_some_iff.mp e).1
        simpa using this
      have ed : d = eN k := by
        rw [List.getElem?_map, List.getElem?_range hk] at e
        simpa using e.symm
      subst ed
      refine ⟨by simp, _, rfl, fun F hF => ?_⟩
      have hzk : zs[k] ≤ 64 := Nat.le_trans (mem_sum (List.getElem_mem hk)) hsum
      have hdl : (deck (zs.take k)).length ≤ 64 := by
        rw [deck_len]
        exact Nat.le_trans (take_sum _ _) hsum
      have hb1 : (-1000 : Int) ≤ (zs[k] : Int) := by omega
      have hb2 : (zs[k] : Int) ≤ 1000 := by omega
      have hb3 : (deck (zs.take k)).length + zs[k] ≤ 100000 := by omega
      have hrep := rep_eN zs[k] k
      simp [p_l_deal_b0, hk]
      rw [if_pos hb2, hrep]
      simp
      rw [if_pos hb3]
      simp
      refine hF _ _ ⟨eN k, ?_, rfl⟩
      rw [deck_take hk, List.map_append]
      simp
    · obtain ⟨j, rfl, rfl⟩ := q
      simp
      have dl := deck_len zs 0
      refine out_for (fun k σ S => ∃ (hp : List (List Nat)) (cs : List Nat) (h' : Hh) (J : Sto) (j3 j5 j6 j7 j8 : D), σ = [.ref 1, eR zs, .lst (cs.map eN), j3, .ref (2 + T.length), j5, j6, j7, j8] ∧ S = hs h' ++ (T ++ .lst (hp.map eR) :: J) ∧ J.length = k ∧ hp.map List.length = zs.take k ∧ (hp.flatten ++ cs).Perm (deck zs)) (fun k d σ S e q => ?_) (fun σ S q => ?_) ⟨[], deck zs, h, [], j, .dead, .dead, .dead, .dead, by simp, rfl, rfl, rfl, List.Perm.refl _⟩
      · obtain ⟨hp, cs, h1, J, j3, j5, j6, j7, j8, rfl, rfl, hJ, hl, hpm⟩ := q
        have hk : k < zs.length := by
          have := (List.getElem?_eq_some_iff.mp e).1
          simpa using this
        have ed : d = eN zs[k] := by
          rw [List.getElem?_map, List.getElem?_eq_getElem hk] at e
          simpa using e.symm
        subst ed
        have hzk : zs[k] ≤ 64 := Nat.le_trans (mem_sum (List.getElem_mem hk)) hsum
        have hcs : cs.length + (zs.take k).sum = zs.sum := by
          have e1 := hpm.length_eq
          rw [List.length_append, List.length_flatten, hl, deck_len] at e1
          omega
        have hks : (zs.take k).sum + zs[k] ≤ zs.sum := by
          have := take_sum zs (k + 1)
          rw [List.take_succ, List.getElem?_eq_getElem hk, List.sum_append] at this
          simpa using this
        have hrk := okRg_0 (n := zs[k]) (by omega)
        refine ⟨by simp, _, rfl, fun F hF => ?_⟩
        simp [p_l_deal_b2, hrk, rgD_nat]
        refine out_for (fun i σ S => ∃ (row cs' : List Nat) (h' : Hh) (j7 j8 : D), σ = [.ref 1, eR zs, .lst (cs'.map eN), j3, .ref (2 + T.length), eN zs[k], .ref (2 + (T.length + (J.length + 1))), j7, j8] ∧ S = hs h' ++ (T ++ .lst (hp.map eR) :: (J ++ [.lst (row.map eN)])) ∧ row.length = i ∧ cs'.length + i = cs.length ∧ (row ++ cs').Perm cs) (fun i d σ S e q => ?_) (fun σ S q => ?_) ⟨[], cs, h1, j7, j8, rfl, rfl, rfl, rfl, List.Perm.refl _⟩
        · obtain ⟨row, cs', h2, j7, j8, rfl, rfl, hr, hc', hpm'⟩ := q
          have hi : i < zs[k] := by
            have := (List.getElem?_eq_some_iff.mp e).1
            simpa using this
          obtain ⟨r, h3, e3, hr3⟩ := next_ok h2 (T ++ .lst (hp.map eR) :: (J ++ [.lst (row.map eN)])) (cs'.length : Int) (by omega) (by omega)
          have hr4 : r < cs'.length := by omega
          have hx : row.length < 100000 := by omega
          obtain ⟨i', _, rfl⟩ := List.mem_map.mp (List.mem_of_getElem? e)
          refine ⟨by simp, _, rfl, fun F hF => ?_⟩
          have hlim : min r cs'.length + (cs'.length - (r + 1)) ≤ 100000 := by omega
          simp [p_l_deal_b1, e3, hr4, hx, hlim]
          refine hF _ _ ⟨row ++ [cs'[r]], cs'.eraseIdx r, h3, eN i', eN r, ?_, by simp, by simp [hr], by rw [List.length_eraseIdx, if_pos hr4]; omega, ?_⟩
          · rw [List.eraseIdx_eq_take_drop_succ, List.map_append, List.map_take, List.map_drop]
          · refine List.Perm.trans ?_ hpm'
            rw [List.append_assoc]
            exact List.Perm.append_left _ (erase_perm hr4)
        · obtain ⟨row, cs', h2, j7, j8, rfl, rfl, hr, hc', hpm'⟩ := q
          have hr' : row.length = zs[k] := by simpa using hr
          have hhp : hp.length = k := by
            have := congrArg List.length hl
            rw [List.length_map, List.length_take] at this
            omega
          have hlt : hp.length < 100000 := by omega
          simp [hlt]
          refine hF _ _ ⟨hp ++ [row], cs', h2, J ++ [.lst (row.map eN)], j3, eN zs[k], .ref (2 + (T.length + (J.length + 1))), j7, j8, by simp, by simp, by simp [hJ], ?_, ?_⟩
          · rw [List.map_append, hl, List.take_succ, List.getElem?_eq_getElem hk, List.map_singleton, hr']
            rfl
          · refine List.Perm.trans ?_ hpm
            rw [List.flatten_append, List.append_assoc]
            refine List.Perm.append_left _ ?_
            simpa using hpm'
      · obtain ⟨hp, cs, h1, J, j3, j5, j6, j7, j8, rfl, rfl, hJ, hl, hpm⟩ := q
        have hl' : hp.map List.length = zs := by rw [hl, List.length_map, List.take_length]
        have hcs : cs = [] := by
          have e1 := hpm.length_eq
          rw [List.length_append, List.length_flatten, hl', deck_len] at e1
          exact List.eq_nil_of_length_eq_zero (by omega)
        subst hcs
        rw [List.append_nil] at hpm
        simp
        exact hF _ _ (finP_hsL (by simp) ⟨hp, h1, rfl, rfl, hl', hpm⟩))
  obtain ⟨d, S2, e, hp, h', rfl, rfl, hr⟩ := this
  exact ⟨hp, h', e, hr⟩

structure FirstsOk (many : Nat) (fs : List Nat) : Prop where
  nd : fs.Nodup
  lt : ∀ f ∈ fs, f < many
  pos : fs ≠ []
theorem nodup_le : ∀ (n : Nat) (fs : List Nat), fs.Nodup → (∀ f ∈ fs, f < n) → fs.length ≤ n
  | 0, fs, _, h => by
    cases fs with
    | nil => simp
    | cons f fs => exact absurd (h f (List.mem_cons_self ..)) (by omega)
  | n + 1, fs, nd, h => by
    have ih := nodup_le n (fs.erase n) (nd.erase n) (fun f hf => by
      have h1 := h f (List.mem_of_mem_erase hf)
      have h2 : f ≠ n := fun z => by
        subst z
        exact (nd.not_mem_erase) hf
      omega)
    have := List.length_erase (a := n) (l := fs)
    split at this <;> omega
theorem FirstsOk.le {many : Nat} {fs : List Nat} (h : FirstsOk many fs) : fs.length ≤ many := nodup_le many fs h.nd h.lt
set_option maxHeartbeats 4000000 in
theorem firsts_ok (h : Hh) (T : Sto) (many : Nat) (hm : 1 ≤ many) (hm8 : many ≤ 8) : ∃ (fs : List Nat) (h' : Hh), f_l_firsts [.ref 1, eN many] (hs h ++ T) = .ok (eR fs) (hs h' ++ T) ∧ FirstsOk many fs := by
  have := fun_out (slots := 6) (n := 2) (m := p_l_firsts) (ds := [.ref 1, eN many]) (S := hs h ++ T) (Q := fun d S => ∃ (fs : List Nat) (h' : Hh), d = eR fs ∧ S = hs h' ++ T ∧ FirstsOk many fs) rfl (fun F hF => by
    have hrg := okRg_0 (n := many) (by omega)
    obtain ⟨c, h1, e1, hc⟩ := pick_ok h (T ++ [.lst []]) [.int 1, .int 1, .int 1, .int 2, .int 3, .int 8] (by simp) (by simp) (by simp)
    obtain ⟨n, rfl, hn⟩ : ∃ n : Nat, c = .int (n : Int) ∧ 1 ≤ n := by
      simp at hc
      rcases hc with rfl | rfl | rfl | rfl
      · exact ⟨1, rfl, by omega⟩
      · exact ⟨2, rfl, by omega⟩
      · exact ⟨3, rfl, by omega⟩
      · exact ⟨8, rfl, by omega⟩
    have hrg2 := okRg_0 (n := min many n) (by omega)
    simp [p_l_firsts, hrg, rgD_nat, e1, hrg2]
    refine out_for (fun k σ S => ∃ (fs left : List Nat) (h' : Hh) (j4 : D), σ = [.ref 1, eN many, .lst (left.map eN), .ref (2 + T.length), j4, .dead] ∧ S = hs h' ++ (T ++ [.lst (fs.map eN)]) ∧ fs.length = k ∧ fs.Nodup ∧ (∀ f ∈ fs, f < many) ∧ left = (List.range many).filter (fun x => !decide (x ∈ fs)) ∧ left.length + k = many) (fun k d σ S e q => ?_) (fun σ S q => ?_) ⟨[], List.range many, h1, .dead, rfl, rfl, rfl, List.nodup_nil, nofun, (List.filter_eq_self.mpr (by simp)).symm, by simp⟩
    · obtain ⟨fs, left, h2, j4, rfl, rfl, hk, hnd, hlt, hl, hll⟩ := q
      have hkn : k < min many n := by
        have := (List.getElem?_eq_some_iff.mp e).1
        simpa using this
      obtain ⟨r, h3, e3, hr3⟩ := next_ok h2 (T ++ [.lst (fs.map eN)]) (left.length : Int) (by omega) (by omega)
      have hr4 : r < left.length := by omega
      have hx : fs.length < 100000 := by omega
      obtain ⟨i', _, rfl⟩ := List.mem_map.mp (List.mem_of_getElem? e)
      obtain ⟨x, hx1⟩ : ∃ x, left[r]? = some x := ⟨_, List.getElem?_eq_getElem hr4⟩
      have hmem : x ∈ left := List.mem_of_getElem? hx1
      rw [hl, List.mem_filter] at hmem
      have hnew : x ∉ fs := by simpa using hmem.2
      have hxm : x < many := List.mem_range.mp hmem.1
      have hcomp := comp_pure (S := hs h3 ++ (T ++ [.lst ((fs ++ [x]).map eN)])) (src := []) (pair := false) (t := .nm 5) (wσ := [.ref 1, eN many, .lst (left.map eN), .ref (2 + T.length), eN i', .dead]) (c := p_l_firsts_c0) (e := p_l_firsts_e0) eN (fun a => !decide (a ∈ fs ++ [x])) eN left [] (fun a _ => by
        refine ⟨_, rfl, ?_, ?_⟩
        · have h1 := inD_eN a (fs ++ [x])
          simp only [List.map_append, List.map_singleton] at h1 ⊢
          simp [p_l_firsts_c0, h1]
        · simp [p_l_firsts_e0]) (by simp; omega)
      simp only [List.map_append, List.map_singleton] at hcomp
      have hl2 : left.filter (fun a => !decide (a ∈ fs ++ [x])) = (List.range many).filter (fun a => !decide (a ∈ fs ++ [x])) := by
        rw [hl, List.filter_filter]
        congr 1
        funext a
        by_cases q : a ∈ fs <;> simp [q]
      have hlen : (left.filter (fun a => !decide (a ∈ fs ++ [x]))).length + (k + 1) = many := by
        have nd2 : left.Nodup := by rw [hl]; exact List.Pairwise.filter _ List.nodup_range
        have e2 : left.filter (fun a => !decide (a ∈ fs ++ [x])) = left.erase x := by
          rw [nd2.erase_eq_filter]
          apply List.filter_congr
          intro a ha
          rw [hl, List.mem_filter] at ha
          have : a ∉ fs := by simpa using ha.2
          by_cases z : a = x <;> simp [this, z]
        rw [e2, List.length_erase_of_mem (List.mem_of_getElem? hx1)]
        omega
      refine ⟨by simp, _, rfl, fun F hF => ?_⟩
      simp [p_l_firsts_b0, e3, hx1, hx, wipeD, hcomp]
      exact hF _ _ ⟨fs ++ [x], _, h3, eN i', by simp, by simp, by simp [hk], by
        rw [List.nodup_append]
        exact ⟨hnd, by simp, fun a ha b hb => by simp at hb; subst hb; exact fun z => hnew (z ▸ ha)⟩, fun f hf => (List.mem_append.mp hf).elim (hlt f) fun z => by simp at z; omega, hl2, hlen⟩
    · obtain ⟨fs, left, h2, j4, rfl, rfl, hk, hnd, hlt, hl, hll⟩ := q
      simp
      refine hF _ _ (finP_hsL (by simp) ⟨fs, h2, rfl, rfl, hnd, hlt, fun z => ?_⟩)
      subst z
      simp at hk
      omega)
  obtain ⟨d, S2, e, fs, h', rfl, rfl, hr⟩ := this
  exact ⟨fs, h', e, hr⟩
end DL

namespace DL
open PySem L2
mutual
/-- data of bounded depth whose rows are not too long -/
def alk : Nat → D → Bool
  | _, .non => true
  | _, .bl _ => true
  | _, .int _ => true
  | _, .str x => PyData.canLay0 (.str x)
  | n, .tup ds => match n with | 0 => false | m + 1 => decide (ds.length ≤ 100000) && alks m ds
  | n, .lst ds => match n with | 0 => false | m + 1 => decide (ds.length ≤ 100000) && alks m ds
  | _, _ => false
def alks : Nat → List D → Bool
  | _, [] => true
  | n, d :: ds => alk n d && alks n ds
end
@[simp] theorem alk_int (n : Nat) (i : Int) : alk n (.int i) = true := by cases n <;> rfl
@[simp] theorem alk_bl (n : Nat) (i : Bool) : alk n (.bl i) = true := by cases n <;> rfl
@[simp] theorem alk_non (n : Nat) : alk n .non = true := by cases n <;> rfl
@[simp] theorem alk_str (n : Nat) (x : Str) : alk n (.str x) = PyData.canLay0 (.str x) := by cases n <;> rfl
@[simp] theorem alk_tup (n : Nat) (ds : List D) : alk (n + 1) (.tup ds) = (decide (ds.length ≤ 100000) && alks n ds) := by rw [alk]
@[simp] theorem alk_lst (n : Nat) (ds : List D) : alk (n + 1) (.lst ds) = (decide (ds.length ≤ 100000) && alks n ds) := by rw [alk]
@[simp] theorem alks_nil (n : Nat) : alks n [] = true := by rw [alks]
@[simp] theorem alks_cons (n : Nat) (d : D) (ds : List D) : alks n (d :: ds) = (alk n d && alks n ds) := by rw [alks]
theorem alks_all (n : Nat) (ds : List D) : alks n ds = ds.all (alk n) := by
  induction ds with
  | nil => simp
  | cons d ds ih => simp [ih]
theorem alks_map {α : Type} (n : Nat) (f : α → D) (xs : List α) (h : ∀ a ∈ xs, alk n (f a) = true) : alks n (xs.map f) = true := by
  rw [alks_all, List.all_eq_true]
  intro d hd
  obtain ⟨a, ha, rfl⟩ := List.mem_map.mp hd
  exact h a ha
@[simp] theorem alks_eN (n : Nat) (r : List Nat) : alks n (r.map eN) = true := alks_map _ _ _ fun _ _ => by simp
theorem alk_eR (n : Nat) (r : List Nat) (h : r.length ≤ 100000) : alk (n + 1) (eR r) = true := by simp [h]
theorem alk_eH (n : Nat) (r : List (List Nat)) (h : r.length ≤ 100000) (h2 : ∀ x ∈ r, x.length ≤ 100000) : alk (n + 2) (eH r) = true := by
  simp [h]
  exact alks_map _ _ _ fun x hx => alk_eR _ _ (h2 x hx)
@[simp] theorem dec_list : (Ty.tuple = Ty.list) = False := by simp
theorem str_eq (x : Str) : eqD (.str x) (.str x) = true := (eqD_iff _ _ rfl rfl).mpr rfl
set_option maxHeartbeats 1000000 in
theorem alike_ok : ∀ (n : Nat) (d : D) (S : Sto), alk n d = true → f_l_alike (n + 1) [d, d] S = .ok (.bl true) S := by
  intro n
  induction n with
  | zero =>
    intro d S h
    refine fun_eq rfl fun F hF => ?_
    cases d with
    | int i => simp [p_l_alike]; exact hF _ _ (finP_self rfl ⟨rfl, rfl⟩)
    | bl i => simp [p_l_alike]; exact hF _ _ (finP_self rfl ⟨rfl, rfl⟩)
    | non => simp [p_l_alike, v_eq, eqD, toPy, PyData.eqv]; exact hF _ _ (finP_self rfl ⟨rfl, rfl⟩)
    | str x =>
      have hx : PyData.canLay0 (.str x) = true := by simpa using h
      have hp : pln 64 (.str x) = true := hx
      simp [p_l_alike, v_eq, hp, str_eq]
      exact hF _ _ (finP_self rfl ⟨rfl, rfl⟩)
    | _ => simp [alk] at h
  | succ n ih =>
    intro d S h
    have seqs : ∀ ds : List D, ds.length ≤ 100000 → alks n ds = true → ∀ x : D, seqOf S x = some ds → ∀ wσ : Sl, compL S [] false (.nm 2) (wipeD [x, x, .dead] [2]) (mNotT (mTest (mApp (f_l_alike (n + 1)) (mCons (mOp fIx (mVar 0) (mVar 2)) (mCons (mOp fIx (mVar 1) (mVar 2)) mNil))))) (mVar 2) ((List.range ds.length).map eN) [] S = .ok [] S := by
      intro ds hl ha x hx wσ
      have hlv : live x = true := by cases x <;> first | rfl | (simp [seqOf, tupOf, lstOf] at hx)
      have := comp_pure (S := S) (src := []) (pair := false) (t := .nm 2) (wσ := wipeD [x, x, .dead] [2]) (c := mNotT (mTest (mApp (f_l_alike (n + 1)) (mCons (mOp fIx (mVar 0) (mVar 2)) (mCons (mOp fIx (mVar 1) (mVar 2)) mNil))))) (e := mVar 2) eN (fun _ => false) eN (List.range ds.length) [] (fun a ha' => by
        have hlt : a < ds.length := List.mem_range.mp ha'
        refine ⟨_, rfl, ?_, nofun⟩
        have hda : alk n ds[a] = true := by
          rw [alks_all, List.all_eq_true] at ha
          exact ha _ (List.getElem_mem hlt)
        have := ih ds[a] S hda
        simp [wipeD, hlv, hx, hlt, this]) (by simpa using hl)
      rw [List.filter_eq_nil_iff.mpr (by simp)] at this
      simpa using this
    refine fun_eq rfl fun F hF => ?_
    cases d with
    | int i => simp [p_l_alike]; exact hF _ _ (finP_self rfl ⟨rfl, rfl⟩)
    | bl i => simp [p_l_alike]; exact hF _ _ (finP_self rfl ⟨rfl, rfl⟩)
    | non => simp [p_l_alike, v_eq, eqD, toPy, PyData.eqv]; exact hF _ _ (finP_self rfl ⟨rfl, rfl⟩)
    | str x =>
      have hx : PyData.canLay0 (.str x) = true := by simpa using h
      have hp : pln 64 (.str x) = true := hx
      simp [p_l_alike, v_eq, hp, str_eq]
      exact hF _ _ (finP_self rfl ⟨rfl, rfl⟩)
    | tup ds =>
      have h' : ds.length ≤ 100000 ∧ alks n ds = true := by simpa using h
      have := seqs ds h'.1 h'.2 (.tup ds) rfl []
      have hrg := okRg_0 h'.1
      simp [p_l_alike, hrg, rgD_nat, this, v_eq]
      exact hF _ _ (finP_self rfl ⟨rfl, rfl⟩)
    | lst ds =>
      have h' : ds.length ≤ 100000 ∧ alks n ds = true := by simpa using h
      have := seqs ds h'.1 h'.2 (.lst ds) rfl []
      have hrg := okRg_0 h'.1
      simp [p_l_alike, hrg, rgD_nat, this, v_eq]
      exact hF _ _ (finP_self rfl ⟨rfl, rfl⟩)
    | _ => simp [alk] at h

theorem isint_ok (S : Sto) (i lo hi : Int) : f_is_integer [.int i, .int lo, .int hi] S = .ok (.bl (decide (lo ≤ i) && decide (i ≤ hi))) S := by
  refine fun_eq rfl fun F hF => ?_
  by_cases h : lo ≤ i
  · simp [p_is_integer, h]
    exact hF _ _ (finP_self rfl ⟨by simp [h], rfl⟩)
  · simp [p_is_integer, h]
    exact hF _ _ (finP_self rfl ⟨by simp [h], rfl⟩)
/-- what a pack is -/
structure PackOk (hp : List (List Nat)) : Prop where
  pos : 1 ≤ hp.length
  le : hp.length ≤ 8
  sz : ∀ r ∈ hp, r.length ≤ 8
  lt : ∀ r ∈ hp, ∀ c ∈ r, c < hp.length
  cnt : ∀ (i : Nat) (hi : i < hp.length), hp.flatten.count i = hp[i].length
theorem packOk_of {hp : List (List Nat)} {zs : List Nat} (h1 : 1 ≤ zs.length) (h8 : zs.length ≤ 8) (hz : ∀ z ∈ zs, z ≤ 8) (hl : hp.map List.length = zs) (hp' : hp.flatten.Perm (deck zs)) : PackOk hp := by
  have hlen : hp.length = zs.length := by rw [← hl, List.length_map]
  refine ⟨by omega, by omega, fun r hr => ?_, fun r hr c hc => ?_, fun i hi => ?_⟩
  · exact hz _ (by rw [← hl]; exact List.mem_map_of_mem hr)
  · have : c ∈ deck zs := hp'.mem_iff.mp (List.mem_flatten.mpr ⟨r, hr, hc⟩)
    have := (deck_lt zs 0 c this).2
    omega
  · have := deck_count zs 0 i
    rw [Nat.zero_add] at this
    rw [hp'.count_eq, this]
    subst hl
    simp [hi]
theorem isheap_ok (S : Sto) (r : List Nat) (many : Nat) (hr : r.length ≤ 8) (hm : 1 ≤ many) (hc : ∀ c ∈ r, c < many) : f_is_heap [eR r, .int (many : Int)] S = .ok (.bl true) S := by
  refine fun_eq rfl fun F hF => ?_
  have hcomp := comp_all (S := S) (src := []) (pair := false) (t := .nm 2) (wσ := [eR r, .int (many : Int), .dead]) (e := p_is_heap_e0) eN (fun _ => D.bl true) r (fun a ha => by
    have h1 := hc a ha
    have h2 : (a : Int) ≤ (many : Int) - 1 := by omega
    exact ⟨_, rfl, by simp [p_is_heap_e0, isint_ok, h2]⟩) (by simp; omega)
  have h8 : ¬ (8 : Int) < (r.length : Int) := by omega
  have hb : blsOf (r.map fun _ => D.bl true) = some (r.map fun _ => true) := by
    have := blsOf_map (r.map fun _ => true)
    rwa [List.map_map] at this
  simp [p_is_heap, h8, wipeD, hcomp, hb]
  exact hF _ _ (finP_self rfl ⟨by simp, rfl⟩)
theorem checkheaps_ok (S : Sto) (hp : List (List Nat)) (h : PackOk hp) : f_check_heaps [eH hp] S = .ok .non S := by
  refine fun_eq rfl fun F hF => ?_
  have h1 := h.pos
  have h8 := h.le
  have e0 : enumD 0 (hp.map eR) = (hp.zipIdx 0).map fun p => D.tup [.int (p.2 : Nat), eR p.1] := enumD_map eR hp 0
  have i1 : (1 : Int) ≤ (hp.length : Int) := by omega
  have i8 : (hp.length : Int) ≤ 8 := by omega
  simp [p_check_heaps, i1, i8, e0]
  refine out_for (fun k σ S' => ∃ j j', σ = [eH hp, j, j'] ∧ S' = S) (fun k d σ S' e q => ?_) (fun σ S' q => ?_) ⟨_, _, rfl, rfl⟩
  · obtain ⟨j, j', rfl, rfl⟩ := q
    obtain ⟨p, hp', rfl⟩ := List.mem_map.mp (List.mem_of_getElem? e)
    have hm : p.1 ∈ hp := by
      have := List.mem_zipIdx hp'
      simp at this
      rw [this.2]
      exact List.getElem_mem _
    have := isheap_ok S' p.1 hp.length (h.sz _ hm) h1 (h.lt _ hm)
    refine ⟨by simp, _, rfl, fun F hF => ?_⟩
    simp [p_check_heaps_b0, this]
    exact hF _ _ ⟨_, _, rfl, rfl⟩
  · obtain ⟨j, j', rfl, rfl⟩ := q
    simp
    exact hF _ _ (finP_self rfl ⟨rfl, rfl⟩)
@[simp] theorem v_countR (S : Sto) (r : List Nat) (i : Nat) : fCount (eR r) (.int (i : Int)) S = .ok (.int (r.count i : Nat)) S := by
  have hf : (r.map eN).all flatD = true := by simp [List.all_map]
  show (if flatD (.int (i : Int)) && (r.map eN).all flatD then R.ok (D.int (((r.map eN).countP fun z => eqD z (.int (i : Int)) : Nat) : Int)) S else .bad) = _
  rw [hf, show (flatD (.int (i : Int)) && true) = true from rfl, if_pos rfl, List.countP_map, List.count]
  congr 3
  apply List.countP_congr
  intro a _
  simp [Function.comp]
  omega
theorem intsOf_eN (xs : List Nat) : intsOf (xs.map eN) = some (xs.map fun x : Nat => (x : Int)) := by
  have := intsOf_map (xs.map fun x : Nat => (x : Int))
  rwa [List.map_map] at this
theorem sum_eN (xs : List Nat) : (xs.map fun x : Nat => (x : Int)).sum = (xs.sum : Int) := by
  induction xs with
  | nil => rfl
  | cons x xs ih => rw [List.map_cons, List.sum_cons, ih, List.sum_cons]; omega
theorem count_flatten (hp : List (List Nat)) (i : Nat) : (hp.map fun r => r.count i).sum = hp.flatten.count i := by
  induction hp with
  | nil => rfl
  | cons r hp ih => simp [ih, List.count_append]
def insPack (hp : List (List Nat)) : D := .ins 0 ["rows"] [eH hp]
theorem packinit_ok (S : Sto) (hp : List (List Nat)) (h : PackOk hp) : f_Pack_init [.ref S.length, eH hp] (S ++ [.ins 0 [] []]) = .ok .non (S ++ [.ins 0 ["rows"] [eH hp]]) := by
  have := fun_out (slots := 5) (n := 2) (m := p_Pack_init) (ds := [.ref S.length, eH hp]) (S := S ++ [.ins 0 [] []]) (Q := fun d S' => d = .non ∧ S' = S ++ [.ins 0 ["rows"] [eH hp]]) rfl (fun F hF => by
    have h1 := h.pos
    have h8 := h.le
    have e0 : enumD 0 (hp.map eR) = (hp.zipIdx 0).map fun p => D.tup [.int (p.2 : Nat), eR p.1] := enumD_map eR hp 0
    simp [p_Pack_init, checkheaps_ok _ hp h, e0]
    refine out_for (fun k σ S' => ∃ j j', σ = [.ref S.length, eH hp, j, j', .dead] ∧ S' = S ++ [.ins 0 [] []]) (fun k d σ S' e q => ?_) (fun σ S' q => ?_) ⟨_, _, rfl, rfl⟩
    · obtain ⟨j, j', rfl, rfl⟩ := q
      obtain ⟨p, hp', rfl⟩ := List.mem_map.mp (List.mem_of_getElem? e)
      have hm := List.mem_zipIdx hp'
      simp at hm
      have hcomp := comp_all (S := S ++ [.ins 0 [] []]) (src := []) (pair := false) (t := .nm 4) (wσ := [.ref S.length, eH hp, .int (p.2 : Int), eR p.1, .dead]) (e := p_Pack_init_e0) eR (fun r => eN (r.count p.2)) hp (fun r _ => ⟨_, rfl, by simp [p_Pack_init_e0]⟩) (by simp; omega)
      have hs1 : intsOf (hp.map fun r => eN (r.count p.2)) = some ((hp.map fun r => r.count p.2).map fun x : Nat => (x : Int)) := by
        have := intsOf_eN (hp.map fun r => r.count p.2)
        rwa [List.map_map] at this
      have hs2 : (((hp.map fun r => r.count p.2).map fun x : Nat => (x : Int)).sum) = (p.1.length : Int) := by
        rw [sum_eN, count_flatten, h.cnt p.2 hm.1, ← hm.2]
      refine ⟨by simp, _, rfl, fun F hF => ?_⟩
      simp only [List.map_map] at hs1 hs2
      simp [p_Pack_init_b0, wipeD, hcomp, hs1, hs2]
      exact hF _ _ ⟨_, _, rfl, rfl⟩
    · obtain ⟨j, j', rfl, rfl⟩ := q
      simp
      refine hF _ _ ⟨.non, S ++ [.ins 0 ["rows"] [eH hp]], ?_, rfl, rfl⟩
      simp [putN, putX]
      unfold fin
      rw [if_pos]
      · rw [fz_cl rfl]
        simp only [R.ok.injEq, true_and]
        exact List.take_of_length_le (by simp)
      · refine ⟨by simp, fun k o hk e => ?_⟩
        by_cases q : k < S.length
        · left
          rw [List.getElem?_append_left q] at e ⊢
          exact e
        · right
          have : k = S.length := by simp at hk; omega
          subst this
          simp at e
          subst e
          simp [clO])
  obtain ⟨d, S2, e, rfl, rfl⟩ := this
  exact e

@[simp] theorem optAll_nil {α β : Type} (f : α → Option β) : optAll f [] = some [] := rfl
@[simp] theorem optAll_cons {α β : Type} (f : α → Option β) (x : α) (xs : List α) : optAll f (x :: xs) = match f x with | some y => (optAll f xs).map (y :: ·) | none => none := rfl
theorem pack_ok (S : Sto) (σ : Sl) (m : M (List D)) (hp : List (List Nat)) (h : PackOk hp) (hm : m σ S = .ok [eH hp] S) : mFr (mNew 0 f_Pack_init m) σ S = .ok (insPack hp) S := by
  simp [hm, packinit_ok S hp h]
  refine fin_app ?_
  have h1 : ¬ (cl S.length (.ref S.length) = true) := by simp
  have h2 : fz S.length (S ++ [.ins 0 ["rows"] [eH hp]]) 3 (eH hp) = some (eH hp) := fz_cl (by simp)
  unfold fz
  rw [if_neg h1]
  simp only [sto_get0, optAll_cons, h2]
  rfl
theorem checkfirsts_ok (S : Sto) (many : Nat) (fs : List Nat) (h : FirstsOk many fs) : f_check_firsts [.int (many : Int), eR fs] S = .ok .non S := by
  refine fun_eq rfl fun F hF => ?_
  have h1 : 1 ≤ fs.length := List.length_pos_iff.mpr h.pos
  have h8 := h.le
  have e0 : enumD 0 (fs.map eN) = (fs.zipIdx 0).map fun p => D.tup [.int (p.2 : Nat), eN p.1] := enumD_map eN fs 0
  have i1 : (1 : Int) ≤ (fs.length : Int) := by omega
  have i8 : (fs.length : Int) ≤ (many : Int) := by omega
  simp [p_check_firsts, i1, h8, e0]
  refine out_for (fun k σ S' => ∃ j j', σ = [.int (many : Int), eR fs, j, j'] ∧ S' = S) (fun k d σ S' e q => ?_) (fun σ S' q => ?_) ⟨_, _, rfl, rfl⟩
  · obtain ⟨j, j', rfl, rfl⟩ := q
    obtain ⟨p, hp', rfl⟩ := List.mem_map.mp (List.mem_of_getElem? e)
    have hm := List.mem_zipIdx hp'
    simp at hm
    have hlt : p.1 < many := by rw [hm.2]; exact h.lt _ (List.getElem_mem _)
    have hi := isint_ok S' (p.1 : Int) 0 ((many : Int) - 1)
    have hle : (p.1 : Int) ≤ (many : Int) - 1 := by omega
    have hnot : p.1 ∉ fs.take p.2 := by
      intro z
      obtain ⟨i, hi, e⟩ := List.getElem_of_mem z
      rw [List.getElem_take] at e
      have hi' : i < p.2 := by simp at hi; omega
      have := (List.getElem_inj h.nd (h₀ := by omega) (h₁ := hm.1)).mp (e.trans hm.2)
      omega
    have hin := inD_eN p.1 (fs.take p.2)
    rw [List.map_take] at hin
    refine ⟨by simp, _, rfl, fun F hF => ?_⟩
    have hfl : flats ((fs.map eN).take p.2) = true := by rw [← List.map_take]; exact flat_eN _
    simp [p_check_firsts_b0, hi, hle, hin, hnot, hfl]
    exact hF _ _ ⟨_, _, rfl, rfl⟩
  · obtain ⟨j, j', rfl, rfl⟩ := q
    simp
    exact hF _ _ (finP_self rfl ⟨rfl, rfl⟩)
end DL

namespace DL
open PySem L2
section
variable {σ : Sl} {S : Sto} {p : Po}
noncomputable def rTry (r : RS) (cl : List Cla) : RS := match r with
  | .exc k ns ds σ S => hnd cl k ns ds σ S
  | r => r
@[simp] theorem ev_try (b : MS) (cl : List Cla) : mTry b cl σ S = rTry (b σ S) cl := rfl
@[simp] theorem rTry_nx (cl : List Cla) : rTry (.nx σ S) cl = .nx σ S := rfl
@[simp] theorem rTry_rt (cl : List Cla) (d : D) : rTry (.rt d S) cl = .rt d S := rfl
@[simp] theorem rTry_exc (cl : List Cla) (k : Nat) (ns : List Str) (ds : List D) : rTry (.exc k ns ds σ S) cl = hnd cl k ns ds σ S := rfl
@[simp] theorem ev_raise (k : Nat) (ns : List Str) (m : M (List D)) : mRaise k ns m σ S = mBS m (fun ds => fun σd S => if ds.length = ns.length then .exc k ns ds σd S else .bad) σ S := rfl
theorem hnd_hit {c : Cla} {cl : List Cla} {k : Nat} {ns : List Str} {ds : List D} {r : RS} (h : c.hit k = some true) (e : ∀ (a : Addr) (dd : Option Addr), kill c.i (c.su a k dd (σ.set c.i (.xc a dd ns ds)) S) = r) : hnd (c :: cl) k ns ds σ S = r := by
  unfold hnd
  rw [h]
  simp only
  rw [if_pos (fun a dd => by rw [e a dd, e 0 none])]
  exact e 0 none
theorem hnd_miss {c : Cla} {cl : List Cla} {k : Nat} {ns : List Str} {ds : List D} (h : c.hit k = some false) : hnd (c :: cl) k ns ds σ S = hnd cl k ns ds σ S := by
  conv => lhs; unfold hnd
  rw [h]
@[simp] theorem rFz_exc (k : Nat) (ns : List Str) (ds : List D) : rFz (.exc k ns ds S) = .exc k ns ds S := rfl
@[simp] theorem rLoc_exc (k : Nat) (ns : List Str) (ds : List D) : rLoc (.exc k ns ds S) = .exc k ns ds S := rfl
@[simp] theorem kill_nx (i : Nat) : kill i (.nx σ S) = .nx (σ.set i .dead) S := rfl
@[simp] theorem kill_rt (i : Nat) (d : D) : kill i (.rt d S) = .rt d S := rfl
@[simp] theorem live_xc (a : Addr) (dd : Option Addr) (ns : List Str) (ds : List D) : live (.xc a dd ns ds) = true := rfl
set_option smartUnfolding false in
@[simp] theorem ev_xf (a : Addr) (d : Option Addr) (f : Str) (m : M D) : mXf a d f m σ S = mB m (fun x => fun _ S => match x with
  | .xc a' d' ns ds => if a' = a ∧ d' = d then oB (fldD f ns ds) fun y => .ok y S else .bad
  | _ => .bad) σ S := by rfl
@[simp] theorem ev_xis (a : Addr) (k : Nat) (d : Option Addr) (c : Nat) (m : M D) : mXis a k d c m σ S = mB m (fun x => fun _ S => match x with
  | .xc a' d' _ _ => if a' = a ∧ d' = d then .ok (.bl (isx k c)) S else .bad
  | _ => .bad) σ S := rfl
end
theorem fun_exc {slots n : Nat} {m : MS} {ds : List D} {S : Sto} {k : Nat} {ns : List Str} {es : List D} (hl : ds.length = n) (hc : cll S.length es = true)
    (h : ∀ F : Nat → List Str → List D → Sto → Prop, (∀ T, F k ns es (S ++ T)) → Out (m (ds ++ List.replicate (slots - n) .dead) S) { X := F }) : mFun slots n m ds S = .exc k ns es S := by
  have h := h (fun k' ns' es' S' => k' = k ∧ ns' = ns ∧ es' = es ∧ ∃ T, S' = S ++ T) fun T => ⟨rfl, rfl, rfl, T, rfl⟩
  unfold mFun
  rw [if_pos hl]
  revert h
  cases m (ds ++ List.replicate (slots - n) .dead) S with
  | exc k' ns' es' σ' S' =>
    rintro ⟨rfl, rfl, rfl, T, rfl⟩
    show finX S (S ++ T) k' ns' es' = _
    unfold finX
    rw [if_pos ⟨okSt_app S T, hc⟩]
    simp
  | _ => exact fun h => h.elim
/-- values of a known type -/
def tyD : D → Bool
  | .non => true
  | .bl _ => true
  | .int _ => true
  | .str _ => true
  | .tup _ => true
  | .lst _ => true
  | .dic _ _ => true
  | _ => false
def tyT : D → Ty
  | .bl _ => .bool
  | .int _ => .int
  | .str _ => .str
  | .tup _ => .tuple
  | .lst _ => .list
  | .dic _ _ => .dict
  | _ => .none
theorem tyOf_D {d : D} (h : tyD d = true) (S : Sto) : tyOf S d = some (tyT d) := by
  cases d <;> first | rfl | cases h
theorem live_D {d : D} (h : tyD d = true) : live d = true := by
  cases d <;> first | rfl | cases h
/-- an integer in a range -/
def isI (d : D) (lo hi : Int) : Bool := match d with
  | .int i => decide (lo ≤ i) && decide (i ≤ hi)
  | _ => false
theorem isint_D (S : Sto) {d : D} (h : tyD d = true) (lo hi : Int) : f_is_integer [d, .int lo, .int hi] S = .ok (.bl (isI d lo hi)) S := by
  cases d with
  | int i => exact isint_ok S i lo hi
  | bl b => exact fun_eq rfl fun F hF => by simp [p_is_integer]; exact hF _ _ (finP_self rfl ⟨rfl, rfl⟩)
  | non => exact fun_eq rfl fun F hF => by simp [p_is_integer]; exact hF _ _ (finP_self rfl ⟨rfl, rfl⟩)
  | str _ => exact fun_eq rfl fun F hF => by simp [p_is_integer]; exact hF _ _ (finP_self rfl ⟨rfl, rfl⟩)
  | tup _ => exact fun_eq rfl fun F hF => by simp [p_is_integer]; exact hF _ _ (finP_self rfl ⟨rfl, rfl⟩)
  | lst _ => exact fun_eq rfl fun F hF => by simp [p_is_integer]; exact hF _ _ (finP_self rfl ⟨rfl, rfl⟩)
  | dic _ _ => exact fun_eq rfl fun F hF => by simp [p_is_integer]; exact hF _ _ (finP_self rfl ⟨rfl, rfl⟩)
  | _ => cases h
theorem isI_nat {d : D} {n : Nat} (h : isI d 0 ((n : Int) - 1) = true) : ∃ c, c < n ∧ d = eN c := by
  cases d with
  | int i =>
    unfold isI at h
    simp at h
    exact ⟨i.toNat, by omega, by show D.int i = D.int (i.toNat : Int); congr 1; omega⟩
  | _ => cases h
end DL

namespace DL
open PySem L2
theorem mW_stop {t : M Bool} {b : MS} {σ : Sl} {S S1 : Sto} (h : t σ S = .ok false S1) : mW t b σ S = .nx σ S1 := by
  have : mWhile t b 1 σ S = .nx σ S1 := by
    show mBS t (fun c => if c = true then mThen b (mWhile t b 0) else mPass) σ S = _
    unfold mBS
    rw [h]
    rfl
  rw [mW_of (n := 1) (by rw [this]; exact nofun), this]
theorem mW_step {t : M Bool} {b : MS} {σ σ2 : Sl} {S S1 S2 : Sto} (h : t σ S = .ok true S1) (h2 : b σ S1 = .nx σ2 S2) : mW t b σ S = mW t b σ2 S2 := by
  have st : ∀ n, mWhile t b (n + 1) σ S = mWhile t b n σ2 S2 := fun n => by
    show mBS t (fun c => if c = true then mThen b (mWhile t b n) else mPass) σ S = _
    unfold mBS
    rw [h]
    show mThen b (mWhile t b n) σ S1 = _
    unfold mThen
    rw [h2]
  by_cases q : ∃ n, mWhile t b n σ2 S2 ≠ .bad
  · obtain ⟨n, hn⟩ := q
    rw [mW_of hn, mW_of (n := n + 1) (by rw [st]; exact hn), st]
  · have q2 : ¬ ∃ n, mWhile t b n σ S ≠ .bad := fun ⟨n, hn⟩ => by
      cases n with
      | zero => exact hn rfl
      | succ n => rw [st] at hn; exact q ⟨n, hn⟩
    unfold mW
    rw [dif_neg q, dif_neg q2]
inductive Go : List (List Nat) → Nat → List (Nat × Nat) → List (List Nat) → Prop
  | stop {l : List (List Nat)} {h : Nat} : l[h]? = some [] → Go l h [] l
  | step {l : List (List Nat)} {h c : Nat} {r : List Nat} {f : List (Nat × Nat)} {l' : List (List Nat)} : l[h]? = some (c :: r) → Go (l.set h r) c f l' → Go l h ((h, c) :: f) l'
inductive Wk : List (List Nat) → List Nat → List (Nat × Nat) → List (List Nat) → Prop
  | nil {l : List (List Nat)} : Wk l [] [] l
  | cons {l : List (List Nat)} {a : Nat} {fs : List Nat} {f : List (Nat × Nat)} {l1 : List (List Nat)} {g : List (Nat × Nat)} {l2 : List (List Nat)} : Go l a f l1 → Wk l1 fs g l2 → Wk l (a :: fs) (f ++ g) l2
/-- cards lead to heaps that are there -/
def Bd (m : Nat) (l : List (List Nat)) : Prop := l.length = m ∧ ∀ r ∈ l, ∀ c ∈ r, c < m
theorem Bd.set {m : Nat} {l : List (List Nat)} {h c : Nat} {r : List Nat} (b : Bd m l) (e : l[h]? = some (c :: r)) : Bd m (l.set h r) ∧ c < m := by
  have hm := List.mem_of_getElem? e
  refine ⟨⟨by rw [List.length_set]; exact b.1, fun x hx y hy => ?_⟩, b.2 _ hm c (List.mem_cons_self ..)⟩
  rcases List.mem_or_eq_of_mem_set hx with q | q
  · exact b.2 x q y hy
  · exact b.2 _ hm y (List.mem_cons_of_mem _ (q ▸ hy))
theorem flat_set : ∀ {l : List (List Nat)} {h c : Nat} {r : List Nat}, l[h]? = some (c :: r) → l.flatten.length = (l.set h r).flatten.length + 1
  | x :: l, 0, c, r, e => by
    simp at e
    subst e
    simp
  | x :: l, h + 1, c, r, e => by
    have := flat_set (l := l) (h := h) (c := c) (r := r) (by simpa using e)
    simp at this ⊢
    omega
theorem Go.len {l l' : List (List Nat)} {h : Nat} {f : List (Nat × Nat)} (g : Go l h f l') : f.length + l'.flatten.length = l.flatten.length := by
  induction g with
  | stop e => simp
  | step e g ih => rw [flat_set e, List.length_cons]; omega
theorem Go.bd {m : Nat} {l l' : List (List Nat)} {h : Nat} {f : List (Nat × Nat)} (g : Go l h f l') (b : Bd m l) : Bd m l' := by
  induction g with
  | stop e => exact b
  | step e g ih => exact ih (b.set e).1
theorem go_ex (m : Nat) : ∀ (n : Nat) (l : List (List Nat)) (h : Nat), l.flatten.length = n → Bd m l → h < m → ∃ f l', Go l h f l' := by
  intro n
  induction n with
  | zero =>
    intro l h hn b hh
    have hl : h < l.length := by rw [b.1]; exact hh
    refine ⟨[], l, .stop ?_⟩
    rw [List.getElem?_eq_getElem hl]
    cases q : l[h] with
    | nil => rfl
    | cons c r =>
      have := flat_set (l := l) (h := h) (c := c) (r := r) (by rw [List.getElem?_eq_getElem hl, q])
      omega
  | succ n ih =>
    intro l h hn b hh
    have hl : h < l.length := by rw [b.1]; exact hh
    cases q : l[h] with
    | nil => exact ⟨[], l, .stop (by rw [List.getElem?_eq_getElem hl, q])⟩
    | cons c r =>
      have e : l[h]? = some (c :: r) := by rw [List.getElem?_eq_getElem hl, q]
      obtain ⟨b2, hc⟩ := b.set e
      obtain ⟨f, l', g⟩ := ih (l.set h r) c (by have := flat_set e; omega) b2 hc
      exact ⟨_, l', .step e g⟩
theorem wk_ex (m : Nat) : ∀ (fs : List Nat) (l : List (List Nat)), Bd m l → (∀ f ∈ fs, f < m) → ∃ g l', Wk l fs g l'
  | [], l, _, _ => ⟨[], l, .nil⟩
  | a :: fs, l, b, h => by
    obtain ⟨f, l1, g⟩ := go_ex m _ l a rfl b (h a (List.mem_cons_self ..))
    obtain ⟨f2, l2, w⟩ := wk_ex m fs l1 (g.bd b) (fun x hx => h x (List.mem_cons_of_mem _ hx))
    exact ⟨_, l2, .cons g w⟩
theorem Wk.len {l l' : List (List Nat)} {fs : List Nat} {g : List (Nat × Nat)} (w : Wk l fs g l') : g.length + l'.flatten.length = l.flatten.length := by
  induction w with
  | nil => simp
  | cons g w ih => have := g.len; rw [List.length_append]; omega
theorem Wk.bd {m : Nat} {l l' : List (List Nat)} {fs : List Nat} {g : List (Nat × Nat)} (w : Wk l fs g l') (b : Bd m l) : Bd m l' := by
  induction w with
  | nil => exact b
  | cons g w ih => exact ih (g.bd b)
theorem PackOk.bd {hp : List (List Nat)} (h : PackOk hp) : Bd hp.length hp := ⟨rfl, h.lt⟩
theorem PackOk.most {hp : List (List Nat)} (h : PackOk hp) : hp.flatten.length ≤ 64 := by
  rw [List.length_flatten]
  have : ∀ (l : List (List Nat)), (∀ r ∈ l, r.length ≤ 8) → (l.map List.length).sum ≤ 8 * l.length := by
    intro l
    induction l with
    | nil => simp
    | cons r l ih =>
      intro q
      have h1 := q r (List.mem_cons_self ..)
      have h2 := ih fun x hx => q x (List.mem_cons_of_mem _ hx)
      simp
      omega
  have := this hp h.sz
  have := h.le
  omega
abbrev eP (p : Nat × Nat) : D := .tup [eN p.1, eN p.2]
@[simp] theorem cll_eP (n : Nat) (r : List (Nat × Nat)) : cll n (r.map eP) = true := cll_map _ _ _ fun _ _ => rfl
@[simp] theorem eqD_nilR (r : List Nat) : eqD (.tup (r.map eN)) (.tup []) = decide (r = []) := eqD_eR r []
theorem lwalk_w (S : Sto) (x0 x1 x4 : D) {l l' : List (List Nat)} {h : Nat} {f : List (Nat × Nat)} (g : Go l h f l') : ∀ (found : List (Nat × Nat)) (j : D), found.length + f.length < 100000 →
    ∃ h' j', mW p_l_walk_t0 p_l_walk_b0 [x0, x1, .ref S.length, .ref (S.length + 1), x4, eN h, j] (S ++ [.lst (l.map eR), .lst (found.map eP)]) = .nx [x0, x1, .ref S.length, .ref (S.length + 1), x4, h', j'] (S ++ [.lst (l'.map eR), .lst ((found ++ f).map eP)]) := by
  induction g with
  | stop e =>
    intro found j _
    refine ⟨_, _, (mW_stop ?_).trans (by rw [List.append_nil])⟩
    simp [p_l_walk_t0, e, v_ne]
  | step e g ih =>
    rename_i l h c r f l'
    intro found j hl
    have hlt : found.length < 100000 := by simp at hl; omega
    have hh : h < l.length := (List.getElem?_eq_some_iff.mp e).1
    obtain ⟨h', j', ih⟩ := ih (found ++ [(h, c)]) (eN c) (by simp at hl ⊢; omega)
    refine ⟨h', j', (mW_step (σ2 := [x0, x1, .ref S.length, .ref (S.length + 1), x4, eN c, eN c]) (S2 := S ++ [.lst ((l.set h r).map eR), .lst ((found ++ [(h, c)]).map eP)]) (S1 := S ++ [.lst (l.map eR), .lst (found.map eP)]) ?_ ?_).trans (by rw [ih]; simp)⟩
    · simp [p_l_walk_t0, e, v_ne]
    · have := ixN_n hh
      simp [p_l_walk_b0, e, hlt, this]

theorem lwalk_f (S0 S : Sto) (x0 x1 : D) {l l' : List (List Nat)} {fs : List Nat} {g : List (Nat × Nat)} (w : Wk l fs g l') : ∀ (found : List (Nat × Nat)) (j4 j5 j6 : D), found.length + g.length < 100000 →
    ∃ j4' j5' j6', forL S0 [] false (.nm 4) p_l_walk_b1 (fs.map eN) [x0, x1, .ref S.length, .ref (S.length + 1), j4, j5, j6] (S ++ [.lst (l.map eR), .lst (found.map eP)]) = .nx [x0, x1, .ref S.length, .ref (S.length + 1), j4', j5', j6'] (S ++ [.lst (l'.map eR), .lst ((found ++ g).map eP)]) := by
  induction w with
  | nil =>
    intro found j4 j5 j6 _
    refine ⟨j4, j5, j6, ?_⟩
    simp [forL]
  | cons g w ih =>
    rename_i l a fs f l1 g' l2
    intro found j4 j5 j6 hl
    rw [List.length_append] at hl
    obtain ⟨h', j', e⟩ := lwalk_w S x0 x1 (eN a) g found j6 (by omega)
    obtain ⟨j4', j5', j6', ih⟩ := ih (found ++ f) (eN a) h' j' (by rw [List.length_append]; omega)
    refine ⟨j4', j5', j6', ?_⟩
    rw [List.append_assoc] at ih
    have hb : p_l_walk_b1 [x0, x1, .ref S.length, .ref (S.length + 1), eN a, j5, j6] (S ++ [.lst (l.map eR), .lst (found.map eP)]) = .nx [x0, x1, .ref S.length, .ref (S.length + 1), eN a, h', j'] (S ++ [.lst (l1.map eR), .lst ((found ++ f).map eP)]) := by
      simp [p_l_walk_b1, e]
    rw [List.map_cons]
    unfold forL
    rw [if_pos (by simp)]
    simp only [v_st1, v_slots1, v_setAll1, v_setAll0]
    unfold mThen
    rw [show List.set [x0, x1, .ref S.length, .ref (S.length + 1), j4, j5, j6] 4 (eN a) = [x0, x1, .ref S.length, .ref (S.length + 1), eN a, j5, j6] from rfl, hb]
    exact ih
theorem lwalk_ok (S : Sto) {l l' : List (List Nat)} {fs : List Nat} {g : List (Nat × Nat)} (w : Wk l fs g l') (hl : g.length < 100000) : f_l_walk [eH l, eR fs] S = .ok (.tup [.lst (g.map eP), eH l']) S := by
  refine fun_eq rfl fun F hF => ?_
  obtain ⟨j4, j5, j6, e⟩ := lwalk_f (S ++ [.lst (l.map eR), .lst []]) S (eH l) (eR fs) w [] .dead .dead .dead (by simpa using hl)
  simp only [List.map_nil, List.nil_append] at e
  simp [p_l_walk, e]
  refine hF _ _ (finP_app (d' := .tup [.lst (g.map eP), eH l']) ?_ ⟨rfl, rfl⟩)
  have h1 : fz S.length (S ++ [.lst (l'.map eR), .lst (g.map eP)]) 3 (.ref (S.length + 1)) = some (.lst (g.map eP)) := fz_lst (by omega) (by simp) (by simp)
  have h2 : fz S.length (S ++ [.lst (l'.map eR), .lst (g.map eP)]) 3 (eH l') = some (eH l') := fz_cl (by simp)
  unfold fz
  rw [if_neg (by simp)]
  simp only [optAll_cons, optAll_nil, h1, h2]
  rfl
def leftOf (hp : List (List Nat)) (t : List Nat) : List (List Nat) := List.zipWith (fun r n => r.drop n) hp t
theorem leftOf_get {hp : List (List Nat)} {t : List Nat} {h n : Nat} {r : List Nat} (e : hp[h]? = some r) (e2 : t[h]? = some n) : (leftOf hp t)[h]? = some (r.drop n) := by
  unfold leftOf
  rw [List.getElem?_zipWith, e, e2]
theorem leftOf_set {hp : List (List Nat)} : ∀ {t : List Nat} {h n : Nat} {r : List Nat}, hp[h]? = some r → t[h]? = some n → (leftOf hp t).set h (r.drop (n + 1)) = leftOf hp (t.set h (n + 1)) := by
  intro t h n r e e2
  apply List.ext_getElem?
  intro i
  unfold leftOf
  by_cases hi : h = i
  · subst hi
    have h1 : h < hp.length := (List.getElem?_eq_some_iff.mp e).1
    have h2 : h < t.length := (List.getElem?_eq_some_iff.mp e2).1
    rw [List.getElem?_set_self (by rw [List.length_zipWith]; omega), List.getElem?_zipWith, e, List.getElem?_set_self h2]
  · rw [List.getElem?_set_ne hi, List.getElem?_zipWith, List.getElem?_zipWith, List.getElem?_set_ne hi]
structure Cnt (hp : List (List Nat)) (t : List Nat) : Prop where
  len : t.length = hp.length
  le : ∀ (i n : Nat) (r : List Nat), t[i]? = some n → hp[i]? = some r → n ≤ r.length
theorem walked_w (S : Sto) (hp : List (List Nat)) (hb : Bd hp.length hp) (x1 x4 : D) {l l' : List (List Nat)} {h : Nat} {f : List (Nat × Nat)} (g : Go l h f l') : ∀ (t : List Nat) (found : List (Nat × Nat)) (j : D), l = leftOf hp t → Cnt hp t → found.length + f.length < 100000 →
    ∃ t' h' j', l' = leftOf hp t' ∧ Cnt hp t' ∧ mW p_walked_t0 p_walked_b0 [eH hp, x1, .ref S.length, .ref (S.length + 1), x4, eN h, j] (S ++ [.lst (found.map eP), .lst (t.map eN)]) = .nx [eH hp, x1, .ref S.length, .ref (S.length + 1), x4, h', j'] (S ++ [.lst ((found ++ f).map eP), .lst (t'.map eN)]) := by
  induction g with
  | stop e =>
    rename_i l h
    intro t found j hl hc _
    subst hl
    have hh : h < (leftOf hp t).length := (List.getElem?_eq_some_iff.mp e).1
    unfold leftOf at hh
    rw [List.length_zipWith] at hh
    obtain ⟨r, er⟩ : ∃ r, hp[h]? = some r := ⟨_, List.getElem?_eq_getElem (by omega)⟩
    obtain ⟨n, en⟩ : ∃ n, t[h]? = some n := ⟨_, List.getElem?_eq_getElem (by omega)⟩
    rw [leftOf_get er en] at e
    have hd : r.length ≤ n := by
      have := congrArg List.length (Option.some.inj e)
      rw [List.length_drop] at this
      simp at this
      omega
    refine ⟨t, _, _, rfl, hc, (mW_stop ?_).trans (by rw [List.append_nil])⟩
    have hnn : ¬ n < r.length := by omega
    simp [p_walked_t0, er, en, hnn]
  | step e g ih =>
    rename_i l h c r' f l'
    intro t found j hl hc hlen
    subst hl
    have hh : h < (leftOf hp t).length := (List.getElem?_eq_some_iff.mp e).1
    unfold leftOf at hh
    rw [List.length_zipWith] at hh
    obtain ⟨r, er⟩ : ∃ r, hp[h]? = some r := ⟨_, List.getElem?_eq_getElem (by omega)⟩
    obtain ⟨n, en⟩ : ∃ n, t[h]? = some n := ⟨_, List.getElem?_eq_getElem (by omega)⟩
    rw [leftOf_get er en] at e
    have hdr : r.drop n = c :: r' := Option.some.inj e
    have hn : n < r.length := by
      have := congrArg List.length hdr
      rw [List.length_drop] at this
      simp at this
      omega
    have hcn : r[n]? = some c := by
      have : (r.drop n)[0]? = some c := by rw [hdr]; rfl
      rwa [List.getElem?_drop, Nat.add_zero] at this
    have hr' : r' = r.drop (n + 1) := by
      have : (r.drop n).drop 1 = r' := by rw [hdr]; rfl
      rw [List.drop_drop] at this
      exact this.symm
    subst hr'
    have hlt : found.length < 100000 := by simp at hlen; omega
    have hc2 : Cnt hp (t.set h (n + 1)) := ⟨by rw [List.length_set]; exact hc.len, fun i m s e1 e2 => by
      by_cases hi : h = i
      · subst hi
        rw [List.getElem?_set_self (by omega)] at e1
        cases Option.some.inj e1
        rw [er] at e2
        cases Option.some.inj e2
        omega
      · rw [List.getElem?_set_ne hi] at e1
        exact hc.le i m s e1 e2⟩
    obtain ⟨t', h', j', e1, e2, ih⟩ := ih (t.set h (n + 1)) (found ++ [(h, c)]) (eN c) (leftOf_set er en) hc2 (by simp at hlen ⊢; omega)
    refine ⟨t', h', j', e1, e2, (mW_step (σ2 := [eH hp, x1, .ref S.length, .ref (S.length + 1), x4, eN c, eN c]) (S2 := S ++ [.lst ((found ++ [(h, c)]).map eP), .lst ((t.set h (n + 1)).map eN)]) (S1 := S ++ [.lst (found.map eP), .lst (t.map eN)]) ?_ ?_).trans (by rw [ih]; simp)⟩
    · simp [p_walked_t0, er, en, hn]
    · have hx : ixN t.length (h : Int) = some h := ixN_n (by omega)
      simp [p_walked_b0, er, en, hcn, hlt, hx]
      rfl
theorem walked_f (S0 S : Sto) (hp : List (List Nat)) (hb : Bd hp.length hp) (x1 : D) {l l' : List (List Nat)} {fs : List Nat} {g : List (Nat × Nat)} (w : Wk l fs g l') : ∀ (t : List Nat) (found : List (Nat × Nat)) (j4 j5 j6 : D), l = leftOf hp t → Cnt hp t → found.length + g.length < 100000 →
    ∃ t' j4' j5' j6', l' = leftOf hp t' ∧ Cnt hp t' ∧ forL S0 [] false (.nm 4) p_walked_b1 (fs.map eN) [eH hp, x1, .ref S.length, .ref (S.length + 1), j4, j5, j6] (S ++ [.lst (found.map eP), .lst (t.map eN)]) = .nx [eH hp, x1, .ref S.length, .ref (S.length + 1), j4', j5', j6'] (S ++ [.lst ((found ++ g).map eP), .lst (t'.map eN)]) := by
  induction w with
  | nil =>
    intro t found j4 j5 j6 hl hc _
    refine ⟨t, j4, j5, j6, hl, hc, ?_⟩
    simp [forL]
  | cons g w ih =>
    rename_i l a fs f l1 g' l2
    intro t found j4 j5 j6 hl hc hlen
    rw [List.length_append] at hlen
    obtain ⟨t1, h', j', e1, c1, e⟩ := walked_w S hp hb x1 (eN a) g t found j6 hl hc (by omega)
    obtain ⟨t2, j4', j5', j6', e2, c2, ih⟩ := ih t1 (found ++ f) (eN a) h' j' e1 c1 (by rw [List.length_append]; omega)
    refine ⟨t2, j4', j5', j6', e2, c2, ?_⟩
    rw [List.append_assoc] at ih
    have hb : p_walked_b1 [eH hp, x1, .ref S.length, .ref (S.length + 1), eN a, j5, j6] (S ++ [.lst (found.map eP), .lst (t.map eN)]) = .nx [eH hp, x1, .ref S.length, .ref (S.length + 1), eN a, h', j'] (S ++ [.lst ((found ++ f).map eP), .lst (t1.map eN)]) := by
      simp [p_walked_b1, e]
    rw [List.map_cons]
    unfold forL
    rw [if_pos (by simp)]
    simp only [v_st1, v_slots1, v_setAll1, v_setAll0]
    unfold mThen
    rw [show List.set [eH hp, x1, .ref S.length, .ref (S.length + 1), j4, j5, j6] 4 (eN a) = [eH hp, x1, .ref S.length, .ref (S.length + 1), eN a, j5, j6] from rfl, hb]
    exact ih
theorem leftOf_zero (hp : List (List Nat)) : leftOf hp (List.replicate hp.length 0) = hp := by
  unfold leftOf
  induction hp with
  | nil => rfl
  | cons r hp ih => rw [List.length_cons, List.replicate_succ, List.zipWith_cons_cons, ih]; rfl
theorem cnt_zero (hp : List (List Nat)) : Cnt hp (List.replicate hp.length 0) := ⟨by simp, fun i n r e _ => by
  have := List.mem_of_getElem? e
  rw [List.eq_of_mem_replicate this]
  omega⟩
theorem walked_ok (S : Sto) {hp l' : List (List Nat)} {fs : List Nat} {g : List (Nat × Nat)} (h : PackOk hp) (w : Wk hp fs g l') : ∃ t, l' = leftOf hp t ∧ Cnt hp t ∧ f_walked [eH hp, eR fs] S = .ok (.tup [.lst (g.map eP), .lst (t.map eN)]) S := by
  have hg : g.length < 100000 := by have := w.len; have := h.most; omega
  obtain ⟨t, j4, j5, j6, e1, c1, e⟩ := walked_f (S ++ [.lst [], .lst (List.replicate hp.length (eN 0))]) S hp h.bd (eR fs) w (List.replicate hp.length 0) [] .dead .dead .dead (leftOf_zero hp).symm (cnt_zero hp) (by simpa using hg)
  refine ⟨t, e1, c1, fun_eq rfl fun F hF => ?_⟩
  have hm := h.le
  have i1 : (hp.length : Int) ≤ 1000 := by omega
  have i2 : (-1000 : Int) ≤ (hp.length : Int) := by omega
  have hrep : repD (hp.length : Int) [.int 0] = List.replicate hp.length (eN 0) := by
    have := rep_eN hp.length 0
    rw [List.map_replicate] at this
    exact this
  simp only [List.map_nil, List.nil_append, List.map_replicate] at e
  simp [p_walked, i1, i2, hrep, e]
  refine hF _ _ (finP_app (d' := .tup [.lst (g.map eP), .lst (t.map eN)]) ?_ ⟨rfl, rfl⟩)
  have h1 : fz S.length (S ++ [.lst (g.map eP), .lst (t.map eN)]) 3 (.ref S.length) = some (.lst (g.map eP)) := fz_lst (by omega) (by simp) (by simp)
  have h2 : fz S.length (S ++ [.lst (g.map eP), .lst (t.map eN)]) 3 (.ref (S.length + 1)) = some (.lst (t.map eN)) := fz_lst (by omega) (by simp) (by simp)
  unfold fz
  rw [if_neg (by simp)]
  simp only [optAll_cons, optAll_nil, h1, h2]
  rfl
@[simp] theorem fld_rows (hp : List (List Nat)) : fldD "rows" ["rows"] [eH hp] = some (eH hp) := rfl
@[simp] theorem ins_pack (S : Sto) (hp : List (List Nat)) : insOf S (insPack hp) = some (0, [("rows" : Str)], [eH hp]) := rfl
@[simp] theorem live_pack (hp : List (List Nat)) : live (insPack hp) = true := rfl
@[simp] theorem cl_pack (n : Nat) (hp : List (List Nat)) : cl n (insPack hp) = true := by simp [insPack]
theorem zip_left : ∀ (hp : List (List Nat)) (t : List Nat), (hp.zip t).map (fun p => eR (p.1.drop p.2)) = (leftOf hp t).map eR
  | [], t => by simp [leftOf]
  | _ :: _, [] => by simp [leftOf]
  | r :: hp, n :: t => by
    have := zip_left hp t
    unfold leftOf at this ⊢
    rw [List.zip_cons_cons, List.map_cons, this, List.zipWith_cons_cons, List.map_cons]
theorem left_nil : ∀ (hp : List (List Nat)) (t : List Nat), Cnt hp t → (t = hp.map List.length ↔ leftOf hp t = List.replicate hp.length [])
  | [], [], _ => by simp [leftOf]
  | [], _ :: _, c => by have := c.len; simp at this
  | _ :: _, [], c => by have := c.len; simp at this
  | r :: hp, n :: t, c => by
    have ih := left_nil hp t ⟨by have := c.len; simpa using this, fun i n r e1 e2 => c.le (i + 1) n r (by simpa using e1) (by simpa using e2)⟩
    have hn := c.le 0 n r rfl rfl
    unfold leftOf at ih ⊢
    rw [List.map_cons, List.zipWith_cons_cons, List.length_cons, List.replicate_succ, List.cons.injEq, List.cons.injEq, ih, List.drop_eq_nil_iff]
    exact and_congr (by omega) Iff.rfl
theorem walk_ok (S : Sto) {hp l' : List (List Nat)} {fs : List Nat} {g : List (Nat × Nat)} (h : PackOk hp) (hf : FirstsOk hp.length fs) (w : Wk hp fs g l') : f_walk [insPack hp, eR fs] S = .ok (.lst (g.map eP)) S := by
  obtain ⟨t, _, _, e⟩ := walked_ok S h w
  refine fun_eq rfl fun F hF => ?_
  simp [p_walk, checkfirsts_ok S _ _ hf, e]
  exact hF _ _ (finP_self (by simp) ⟨rfl, rfl⟩)
theorem unturned_ok (S : Sto) {hp l' : List (List Nat)} {fs : List Nat} {g : List (Nat × Nat)} (h : PackOk hp) (hf : FirstsOk hp.length fs) (w : Wk hp fs g l') : f_unturned [insPack hp, eR fs] S = .ok (eH l') S := by
  obtain ⟨t, hl, hc, e⟩ := walked_ok S h w
  have hm := h.le
  refine fun_eq rfl fun F hF => ?_
  have hcomp := comp_all (S := S) (src := []) (pair := true) (t := .tp [3, 4]) (wσ := [insPack hp, eR fs, .lst (t.map eN), .dead, .dead]) (e := p_unturned_e0) (fun p : List Nat × Nat => .tup [eR p.1, eN p.2]) (fun p => eR (p.1.drop p.2)) (hp.zip t) (fun p _ => ⟨_, rfl, by simp [p_unturned_e0]⟩) (by simp; omega)
  have hz : (hp.zip t).map (fun p => eR (p.1.drop p.2)) = l'.map eR := by
    rw [hl]; exact zip_left hp t
  simp [p_unturned, checkfirsts_ok S _ _ hf, e, zipD_map, wipeD, hcomp]
  rw [hz]
  exact hF _ _ (finP_self (by simp) ⟨rfl, rfl⟩)
theorem goes_ok (S : Sto) {hp l' : List (List Nat)} {fs : List Nat} {g : List (Nat × Nat)} (h : PackOk hp) (hf : FirstsOk hp.length fs) (w : Wk hp fs g l') : f_goes [insPack hp, eR fs] S = .ok (.bl (decide (l' = List.replicate hp.length []))) S := by
  obtain ⟨t, hl, hc, e⟩ := walked_ok S h w
  have hm := h.le
  refine fun_eq rfl fun F hF => ?_
  have hcomp := comp_all (S := S) (src := []) (pair := false) (t := .nm 2) (wσ := [insPack hp, eR fs, .dead]) (e := p_goes_e0) eR (fun p => eN p.length) hp (fun p _ => ⟨_, rfl, by simp [p_goes_e0]⟩) (by simp; omega)
  have hc2 : eqD (.lst (t.map eN)) (.lst (hp.map fun p => eN p.length)) = decide (l' = List.replicate hp.length []) := by
    refine eqD_dec (by simp) (by rw [nb_lst]; exact nbs_map _ _ fun _ _ => rfl) ?_
    rw [hl, ← left_nil hp t hc, D.lst.injEq, show (hp.map fun p => eN p.length) = (hp.map List.length).map eN by rw [List.map_map]; rfl]
    exact eNs_inj
  have hp1 : plns 63 (hp.map fun p => eN p.length) = true := plns_map _ _ _ fun _ _ => by simp
  simp [p_goes, checkfirsts_ok S _ _ hf, e, wipeD, hcomp, v_eq, hp1, hc2]
  exact hF _ _ (finP_self (by simp) ⟨rfl, rfl⟩)
end DL

namespace DL
open PySem L2
theorem alk_eP (n : Nat) (g : List (Nat × Nat)) (h : g.length ≤ 100000) : alk (n + 2) (.lst (g.map eP)) = true := by
  simp [h]
  exact alks_map _ _ _ fun p _ => by simp
theorem drawn_pack (h : Hh) : ∃ (r : Nat) (h1 : Hh), f_l_next [.ref 1, .int 8] (hs h) = .ok (.int (r : Int)) (hs h1) ∧ r < 8 := by
  obtain ⟨r, h1, e, hr⟩ := next_ok h [] 8 (by omega) (by omega)
  simp only [List.append_nil] at e
  exact ⟨r, h1, e, by omega⟩
theorem drawn_sizes (h : Hh) (many most : Nat) (hm : many ≤ 8) : ∃ (zs : List Nat) (h1 : Hh), f_l_sizes [.ref 1, .int (many : Int), .int (most : Int)] (hs h) = .ok (eR zs) (hs h1) ∧ zs.length = many ∧ zs.sum ≤ most ∧ ∀ z ∈ zs, z ≤ 8 := by
  obtain ⟨zs, h1, e, hr⟩ := sizes_ok h [] many most hm
  simp only [List.append_nil] at e
  exact ⟨zs, h1, e, hr⟩
theorem drawn_deal (h : Hh) (zs : List Nat) (h1 : 1 ≤ zs.length) (hz : zs.length ≤ 8) (hsum : zs.sum ≤ 64) (hz8 : ∀ z ∈ zs, z ≤ 8) : ∃ (hp : List (List Nat)) (h1 : Hh), f_l_deal [.ref 1, eR zs] (hs h) = .ok (eH hp) (hs h1) ∧ hp.length = zs.length ∧ PackOk hp := by
  obtain ⟨hp, h2, e, hl, hpm⟩ := deal_ok h [] zs hz hsum
  simp only [List.append_nil] at e
  exact ⟨hp, h2, e, by rw [← hl, List.length_map], packOk_of h1 hz hz8 hl hpm⟩
theorem drawn_firsts (h : Hh) (many : Nat) (hm : 1 ≤ many) (hm8 : many ≤ 8) : ∃ (fs : List Nat) (h1 : Hh), f_l_firsts [.ref 1, .int (many : Int)] (hs h) = .ok (eR fs) (hs h1) ∧ FirstsOk many fs := by
  obtain ⟨fs, h1, e, hr⟩ := firsts_ok h [] many hm hm8
  simp only [List.append_nil] at e
  exact ⟨fs, h1, e, hr⟩
theorem rep_nil (n : Nat) : repD (n : Int) [.tup []] = (List.replicate n ([] : List Nat)).map eR := by
  unfold repD
  rw [Int.toNat_natCast]
  induction n with
  | zero => rfl
  | succ n ih => rw [List.replicate_succ, List.flatten_cons, ih, List.replicate_succ]; rfl
theorem packinit_n {S : Sto} {n : Nat} {hp : List (List Nat)} (h : PackOk hp) (hn : n = S.length) : f_Pack_init [.ref n, eH hp] (S ++ [.ins 0 [] []]) = .ok .non (S ++ [.ins 0 ["rows"] [eH hp]]) := by
  subst hn
  exact packinit_ok S hp h
theorem packfin_n {S : Sto} {n : Nat} {hp : List (List Nat)} (hn : n = S.length) : fin S (S ++ [.ins 0 ["rows"] [eH hp]]) (.ref n) = .ok (insPack hp) S := by
  subst hn
  refine fin_app ?_
  have h1 : ¬ (cl S.length (.ref S.length) = true) := by simp
  have h2 : fz S.length (S ++ [.ins 0 ["rows"] [eH hp]]) 3 (eH hp) = some (eH hp) := fz_cl (by simp)
  unfold fz
  rw [if_neg h1]
  simp only [sto_get0, optAll_cons, h2]
  rfl
end DL

namespace DL
open PySem L2
/-- a thing and, if it is a row, its things have known types -/
def tyH (d : D) : Bool := tyD d && match d with
  | .tup cs => cs.all tyD
  | _ => true
def hpB (n : Nat) (d : D) : Bool := match d with
  | .tup cs => decide (cs.length ≤ 8) && cs.all fun c => isI c 0 ((n : Int) - 1)
  | _ => false
theorem isheap_D (S : Sto) {d : D} (h : tyH d = true) (n : Nat) : f_is_heap [d, .int (n : Int)] S = .ok (.bl (hpB n d)) S := by
  cases d with
  | tup cs =>
    have hc : ∀ c ∈ cs, tyD c = true := by
      unfold tyH at h
      simp [tyD] at h
      exact h
    refine fun_eq rfl fun F hF => ?_
    by_cases h8 : cs.length ≤ 8
    · have hcomp := comp_all (S := S) (src := []) (pair := false) (t := .nm 2) (wσ := [.tup cs, .int (n : Int), .dead]) (e := p_is_heap_e0) (fun c : D => c) (fun c => D.bl (isI c 0 ((n : Int) - 1))) cs (fun c hcm => by
        have h1 := isint_D S (hc c hcm) 0 ((n : Int) - 1)
        exact ⟨_, rfl, by simp [p_is_heap_e0, h1, live_D (hc c hcm)]⟩) (by simp; omega)
      have h8' : ¬ (8 : Int) < (cs.length : Int) := by omega
      have hb : blsOf (cs.map fun c => D.bl (isI c 0 ((n : Int) - 1))) = some (cs.map fun c => isI c 0 ((n : Int) - 1)) := by
        have := blsOf_map (cs.map fun c => isI c 0 ((n : Int) - 1))
        rwa [List.map_map] at this
      rw [List.map_id'] at hcomp
      simp [p_is_heap, h8', wipeD, hcomp, hb]
      refine hF _ _ (finP_self rfl ⟨?_, rfl⟩)
      simp [hpB, h8]
    · have h8' : (8 : Int) < (cs.length : Int) := by omega
      simp [p_is_heap, h8']
      refine hF _ _ (finP_self rfl ⟨?_, rfl⟩)
      simp [hpB, h8]
  | int i => exact fun_eq rfl fun F hF => by simp [p_is_heap]; exact hF _ _ (finP_self rfl ⟨rfl, rfl⟩)
  | bl b => exact fun_eq rfl fun F hF => by simp [p_is_heap]; exact hF _ _ (finP_self rfl ⟨rfl, rfl⟩)
  | non => exact fun_eq rfl fun F hF => by simp [p_is_heap]; exact hF _ _ (finP_self rfl ⟨rfl, rfl⟩)
  | str _ => exact fun_eq rfl fun F hF => by simp [p_is_heap]; exact hF _ _ (finP_self rfl ⟨rfl, rfl⟩)
  | lst _ => exact fun_eq rfl fun F hF => by simp [p_is_heap]; exact hF _ _ (finP_self rfl ⟨rfl, rfl⟩)
  | dic _ _ => exact fun_eq rfl fun F hF => by simp [p_is_heap]; exact hF _ _ (finP_self rfl ⟨rfl, rfl⟩)
  | _ => unfold tyH at h; simp [tyD] at h
/-- no row of one to eight things -/
def bad0 (d : D) : Bool := match d with
  | .tup ds => !(decide (1 ≤ ds.length) && decide (ds.length ≤ 8))
  | _ => true
theorem checkheaps_none (S : Sto) {d : D} (h : tyD d = true) (hb : bad0 d = true) : f_check_heaps [d] S = .exc 3 ["index"] [.non] S := fun_exc rfl rfl fun F hF => by
  have hF0 := hF []
  rw [List.append_nil] at hF0
  cases d with
  | tup ds =>
    unfold bad0 at hb
    simp at hb
    by_cases h1 : (1 : Int) ≤ (ds.length : Int)
    · have h8 : ¬ (ds.length : Int) ≤ 8 := by
        rcases hb with rfl | hb
        · simp at h1
        · omega
      simp [p_check_heaps, h1, h8]
      exact hF0
    · simp [p_check_heaps, h1]
      exact hF0
  | int i => simp [p_check_heaps]; exact hF0
  | bl i => simp [p_check_heaps]; exact hF0
  | non => simp [p_check_heaps]; exact hF0
  | str i => simp [p_check_heaps]; exact hF0
  | lst i => simp [p_check_heaps]; exact hF0
  | dic _ _ => simp [p_check_heaps]; exact hF0
  | _ => cases h
theorem enumD_id (ds : List D) : enumD 0 ds = (ds.zipIdx 0).map fun p => D.tup [.int (p.2 : Nat), p.1] := by
  have := enumD_map (fun x : D => x) ds 0
  simpa using this
theorem checkheaps_at (S : Sto) (ds : List D) (k : Nat) (hk : k < ds.length) (h8 : ds.length ≤ 8) (ht : ∀ d ∈ ds, tyH d = true) (hg : ∀ j (hj : j < k), hpB ds.length ds[j] = true) (hb : hpB ds.length ds[k] = false) : f_check_heaps [.tup ds] S = .exc 3 ["index"] [eN k] S := fun_exc rfl rfl fun F hF => by
  have hF0 := hF []
  rw [List.append_nil] at hF0
  have i1 : (1 : Int) ≤ (ds.length : Int) := by omega
  have i8 : (ds.length : Int) ≤ 8 := by omega
  simp [p_check_heaps, i1, i8, enumD_id]
  refine out_for (fun j σ S' => j ≤ k ∧ ∃ a b, σ = [.tup ds, a, b] ∧ S' = S) (fun j x σ S' e q => ?_) (fun σ S' q => ?_) ⟨Nat.zero_le _, _, _, rfl, rfl⟩
  · obtain ⟨hj, a, b, rfl, rfl⟩ := q
    rw [List.getElem?_map, List.getElem?_zipIdx] at e
    obtain ⟨p, hp, rfl⟩ := Option.map_eq_some_iff.mp e
    obtain ⟨y, hy, rfl⟩ := Option.map_eq_some_iff.mp hp
    obtain ⟨hjl, rfl⟩ := List.getElem?_eq_some_iff.mp hy
    have hty := ht _ (List.getElem_mem hjl)
    have hlv : live ds[j] = true := live_D (by unfold tyH at hty; rw [Bool.and_eq_true] at hty; exact hty.1)
    have hi := isheap_D S' hty ds.length
    refine ⟨by simp, _, rfl, fun F2 hF2 => ?_⟩
    rcases Nat.lt_or_eq_of_le hj with hlt | rfl
    · rw [hg j hlt] at hi
      simp [p_check_heaps_b0, hi, hlv]
      exact hF2 _ _ ⟨hlt, _, _, rfl, rfl⟩
    · rw [hb] at hi
      simp [p_check_heaps_b0, hi, hlv]
      exact hF0
  · obtain ⟨hj, _⟩ := q
    rw [List.length_map, List.length_zipIdx] at hj
    omega
theorem tyH_ty {d : D} (h : tyH d = true) : tyD d = true := by
  unfold tyH at h
  rw [Bool.and_eq_true] at h
  exact h.1
/-- heaps, fitting or not -/
structure HeapsOk (hp : List (List Nat)) : Prop where
  pos : 1 ≤ hp.length
  le : hp.length ≤ 8
  sz : ∀ r ∈ hp, r.length ≤ 8
  lt : ∀ r ∈ hp, ∀ c ∈ r, c < hp.length
theorem row_nat {n : Nat} : ∀ {cs : List D}, (cs.all fun c => isI c 0 ((n : Int) - 1)) = true → ∃ r : List Nat, cs = r.map eN ∧ ∀ c ∈ r, c < n
  | [], _ => ⟨[], rfl, nofun⟩
  | c :: cs, h => by
    simp only [List.all_cons, Bool.and_eq_true] at h
    obtain ⟨x, hx, rfl⟩ := isI_nat h.1
    obtain ⟨r, rfl, hr⟩ := row_nat h.2
    refine ⟨x :: r, rfl, fun c hc => ?_⟩
    rcases List.mem_cons.mp hc with rfl | hc
    · exact hx
    · exact hr c hc
theorem rows_nat {n : Nat} : ∀ {ds : List D}, (∀ d ∈ ds, hpB n d = true) → ∃ hp : List (List Nat), ds = hp.map eR ∧ ∀ r ∈ hp, r.length ≤ 8 ∧ ∀ c ∈ r, c < n
  | [], _ => ⟨[], rfl, nofun⟩
  | d :: ds, h => by
    obtain ⟨hp, rfl, hh⟩ := rows_nat (n := n) (ds := ds) fun d hd => h d (List.mem_cons_of_mem _ hd)
    have h0 := h d List.mem_cons_self
    cases d with
    | tup cs =>
      unfold hpB at h0
      simp only [Bool.and_eq_true, decide_eq_true_eq] at h0
      obtain ⟨r, rfl, hr⟩ := row_nat h0.2
      refine ⟨r :: hp, rfl, fun x hx => ?_⟩
      rcases List.mem_cons.mp hx with rfl | hx
      · exact ⟨by simpa using h0.1, hr⟩
      · exact hh x hx
    | _ => cases h0
theorem checkheaps_any (S : Sto) (hp : List (List Nat)) (h : HeapsOk hp) : f_check_heaps [eH hp] S = .ok .non S := by
  refine fun_eq rfl fun F hF => ?_
  have h1 := h.pos
  have h8 := h.le
  have e0 : enumD 0 (hp.map eR) = (hp.zipIdx 0).map fun p => D.tup [.int (p.2 : Nat), eR p.1] := enumD_map eR hp 0
  have i1 : (1 : Int) ≤ (hp.length : Int) := by omega
  have i8 : (hp.length : Int) ≤ 8 := by omega
  simp [p_check_heaps, i1, i8, e0]
  refine out_for (fun k σ S' => ∃ j j', σ = [eH hp, j, j'] ∧ S' = S) (fun k d σ S' e q => ?_) (fun σ S' q => ?_) ⟨_, _, rfl, rfl⟩
  · obtain ⟨j, j', rfl, rfl⟩ := q
    obtain ⟨p, hp', rfl⟩ := List.mem_map.mp (List.mem_of_getElem? e)
    have hm : p.1 ∈ hp := by
      have := List.mem_zipIdx hp'
      simp at this
      rw [this.2]
      exact List.getElem_mem _
    have := isheap_ok S' p.1 hp.length (h.sz _ hm) h1 (h.lt _ hm)
    refine ⟨by simp, _, rfl, fun F hF => ?_⟩
    simp [p_check_heaps_b0, this]
    exact hF _ _ ⟨_, _, rfl, rfl⟩
  · obtain ⟨j, j', rfl, rfl⟩ := q
    simp
    exact hF _ _ (finP_self rfl ⟨rfl, rfl⟩)
theorem packinit_bad (S : Sto) (m : Nat) {d i : D} (hd : tyD d = true) (hi : cll S.length [i] = true) (h : f_check_heaps [d] S = .exc 3 ["index"] [i] S) : f_Pack_init [.ref m, d] S = .exc 3 ["index"] [i] S := fun_exc rfl hi fun F hF => by
  have hF0 := hF []
  rw [List.append_nil] at hF0
  simp [p_Pack_init, h, live_D hd]
  exact hF0
theorem packinit_unfit (S : Sto) (m : Nat) (hp : List (List Nat)) (h : HeapsOk hp) (k : Nat) (hk : k < hp.length) (hg : ∀ j (hj : j < k), hp.flatten.count j = hp[j].length) (hb : hp.flatten.count k ≠ hp[k].length) : f_Pack_init [.ref m, eH hp] S = .exc 4 ["heap"] [eN k] S := fun_exc rfl rfl fun F hF => by
  have hF0 := hF []
  rw [List.append_nil] at hF0
  have h1 := h.pos
  have h8 := h.le
  have e0 : enumD 0 (hp.map eR) = (hp.zipIdx 0).map fun p => D.tup [.int (p.2 : Nat), eR p.1] := enumD_map eR hp 0
  simp [p_Pack_init, checkheaps_any _ hp h, e0]
  refine out_for (fun k' σ S' => k' ≤ k ∧ ∃ j j', σ = [.ref m, eH hp, j, j', .dead] ∧ S' = S) (fun j x σ S' e q => ?_) (fun σ S' q => ?_) ⟨Nat.zero_le _, _, _, rfl, rfl⟩
  · obtain ⟨hj, a, b, rfl, rfl⟩ := q
    rw [List.getElem?_map, List.getElem?_zipIdx] at e
    obtain ⟨p, hp', rfl⟩ := Option.map_eq_some_iff.mp e
    obtain ⟨y, hy, rfl⟩ := Option.map_eq_some_iff.mp hp'
    obtain ⟨hjl, rfl⟩ := List.getElem?_eq_some_iff.mp hy
    simp only [Nat.zero_add] at *
    have hcomp := comp_all (S := S') (src := []) (pair := false) (t := .nm 4) (wσ := [.ref m, eH hp, .int (j : Int), eR hp[j], .dead]) (e := p_Pack_init_e0) eR (fun r => eN (r.count j)) hp (fun r _ => ⟨_, rfl, by simp [p_Pack_init_e0]⟩) (by simp; omega)
    have hs1 : intsOf (hp.map fun r => eN (r.count j)) = some ((hp.map fun r => r.count j).map fun x : Nat => (x : Int)) := by
      have := intsOf_eN (hp.map fun r => r.count j)
      rwa [List.map_map] at this
    have hs2 : (((hp.map fun r => r.count j).map fun x : Nat => (x : Int)).sum) = (hp.flatten.count j : Int) := by
      rw [sum_eN, count_flatten]
    refine ⟨by simp, _, rfl, fun F hF => ?_⟩
    simp only [List.map_map] at hs1 hs2
    rcases Nat.lt_or_eq_of_le hj with hlt | rfl
    · rw [hg j hlt] at hs2
      simp [p_Pack_init_b0, wipeD, hcomp, hs1, hs2]
      exact hF _ _ ⟨hlt, _, _, rfl, rfl⟩
    · have hne : ¬ ((hp.flatten.count j : Nat) : Int) = (hp[j].length : Int) := by omega
      simp [p_Pack_init_b0, wipeD, hcomp, hs1, hs2, hne]
      exact hF0
  · obtain ⟨hj, _⟩ := q
    rw [List.length_map, List.length_zipIdx] at hj
    omega
end DL

namespace DL
open PySem L2
def badF (many : Nat) (d : D) : Bool := match d with
  | .tup ds => !(decide (1 ≤ ds.length) && decide (ds.length ≤ many))
  | _ => true
theorem checkfirsts_none (S : Sto) (many : Nat) {d : D} (h : tyD d = true) (hb : badF many d = true) : f_check_firsts [.int (many : Int), d] S = .exc 5 [] [] S := fun_exc rfl rfl fun F hF => by
  have hF0 := hF []
  rw [List.append_nil] at hF0
  cases d with
  | tup ds =>
    unfold badF at hb
    simp at hb
    by_cases h1 : (1 : Int) ≤ (ds.length : Int)
    · have h8 : ¬ (ds.length : Int) ≤ (many : Int) := by
        rcases hb with rfl | hb
        · simp at h1
        · omega
      have h9 : ¬ ds.length ≤ many := by omega
      simp [p_check_firsts, h1, h9]
      exact hF0
    · simp [p_check_firsts, h1]
      exact hF0
  | int i => simp [p_check_firsts]; exact hF0
  | bl i => simp [p_check_firsts]; exact hF0
  | non => simp [p_check_firsts]; exact hF0
  | str i => simp [p_check_firsts]; exact hF0
  | lst i => simp [p_check_firsts]; exact hF0
  | dic _ _ => simp [p_check_firsts]; exact hF0
  | _ => cases h
theorem checkfirsts_at (S : Sto) (many : Nat) (pre : List Nat) (d : D) (rest : List D) (hd : tyD d = true) (hl : pre.length + 1 + rest.length ≤ many) (hn : pre.Nodup) (hlt : ∀ x ∈ pre, x < many) (hb : isI d 0 ((many : Int) - 1) = false ∨ ∃ c, d = eN c ∧ c < many ∧ c ∈ pre) : f_check_firsts [.int (many : Int), .tup (pre.map eN ++ d :: rest)] S = .exc 5 [] [] S := fun_exc rfl rfl fun F hF => by
  have hF0 := hF []
  rw [List.append_nil] at hF0
  obtain ⟨row, hrow⟩ : ∃ row, row = pre.map eN ++ d :: rest := ⟨_, rfl⟩
  have hlen : row.length = pre.length + 1 + rest.length := by rw [hrow]; simp; omega
  rw [← hrow]
  have i1 : (1 : Int) ≤ (row.length : Int) := by omega
  have i8 : row.length ≤ many := by omega
  simp [p_check_firsts, i1, i8, enumD_id]
  refine out_for (fun j σ S' => j ≤ pre.length ∧ ∃ a b, σ = [.int (many : Int), .tup row, a, b] ∧ S' = S) (fun j x σ S' e q => ?_) (fun σ S' q => ?_) ⟨Nat.zero_le _, _, _, rfl, rfl⟩
  · obtain ⟨hj, a, b, rfl, rfl⟩ := q
    rw [List.getElem?_map, List.getElem?_zipIdx] at e
    obtain ⟨p, hp, rfl⟩ := Option.map_eq_some_iff.mp e
    obtain ⟨y, hy, rfl⟩ := Option.map_eq_some_iff.mp hp
    have htk : row.take j = (pre.take j).map eN := by
      rw [hrow, List.take_append_of_le_length (by simpa using hj), List.map_take]
    have hfl : flats ((pre.take j).map eN) = true := flat_eN _
    refine ⟨by simp, _, rfl, fun F2 hF2 => ?_⟩
    rcases Nat.lt_or_eq_of_le hj with hlt2 | rfl
    · have hyc : y = eN pre[j] := by
        rw [hrow, List.getElem?_append_left (by simpa using hlt2), List.getElem?_map, List.getElem?_eq_getElem hlt2] at hy
        exact (Option.some.inj hy).symm
      have hcm := hlt _ (List.getElem_mem hlt2)
      have hi := isint_ok S' (pre[j] : Int) 0 ((many : Int) - 1)
      have hle : ((pre[j] : Nat) : Int) ≤ (many : Int) - 1 := by omega
      have hnot : pre[j] ∉ pre.take j := by
        intro z
        obtain ⟨i, hi, e⟩ := List.getElem_of_mem z
        rw [List.getElem_take] at e
        have hi' : i < j := by simp at hi; omega
        have := (List.getElem_inj hn (h₀ := by omega) (h₁ := hlt2)).mp e
        omega
      have hin := inD_eN pre[j] (pre.take j)
      subst hyc
      obtain ⟨c, hc⟩ : ∃ c, c = pre[j] := ⟨_, rfl⟩
      rw [← hc] at hi hle hnot hin ⊢
      have hF3 := hF2 _ _ ⟨hlt2, eN j, eN c, rfl, rfl⟩
      generalize (pre.take j).map eN = TK at *
      simp [p_check_firsts_b0, hi, hle, htk, hfl, hin, hnot]
      exact hF3
    · have hyd : y = d := by
        rw [hrow, List.getElem?_append_right (by simp)] at hy
        simpa using hy.symm
      subst hyd
      have hlv := live_D hd
      have hi := isint_D S' hd 0 ((many : Int) - 1)
      rcases hb with hb | ⟨c, rfl, hc, hcp⟩
      · rw [hb] at hi
        simp [p_check_firsts_b0, hi, hlv]
        exact hF0
      · have hi2 : isI (eN c) 0 ((many : Int) - 1) = true := by unfold isI; simp; omega
        rw [hi2] at hi
        rw [List.take_length] at htk hfl
        have hin := inD_eN c pre
        generalize pre.map eN = TK at *
        simp [p_check_firsts_b0, hi, htk, hfl, hin, hcp]
        exact hF0
  · obtain ⟨hj, _⟩ := q
    rw [List.length_map, List.length_zipIdx] at hj
    omega
end DL

namespace DL
open PySem L2
@[simp high] theorem hs_at (h : Hh) (x : Ob) (T U : Sto) : (hs h ++ (T ++ x :: U))[2 + T.length]? = some x := by
  rw [List.getElem?_append_right (by simp), List.getElem?_append_right (by simp)]
  simp
@[simp high] theorem hs_at1 (h : Hh) (x y : Ob) (T U : Sto) : (hs h ++ (T ++ x :: y :: U))[2 + T.length + 1]? = some y := by
  rw [List.getElem?_append_right (by simp; omega), List.getElem?_append_right (by rw [hs_len]; omega)]
  simp [show 2 + T.length + 1 - 2 - T.length = 1 by omega]
@[simp high] theorem hs_put (h : Hh) (x o : Ob) (T U : Sto) : (hs h ++ (T ++ x :: U)).set (2 + T.length) o = hs h ++ (T ++ o :: U) := by
  rw [List.set_append_right _ _ (by simp), List.set_append_right _ _ (by simp)]
  simp
@[simp high] theorem hs_put1 (h : Hh) (x y o : Ob) (T U : Sto) : (hs h ++ (T ++ x :: y :: U)).set (2 + T.length + 1) o = hs h ++ (T ++ x :: o :: U) := by
  rw [List.set_append_right _ _ (by simp; omega), List.set_append_right _ _ (by rw [hs_len]; omega)]
  simp [show 2 + T.length + 1 - 2 - T.length = 1 by omega]
theorem dr_next (h : Hh) (T : Sto) (m : Nat) (hm : 0 < m) (hm2 : m < 100000) : ∃ (r : Nat) (h1 : Hh), f_l_next [.ref 1, .int (m : Int)] (hs h ++ T) = .ok (.int (r : Int)) (hs h1 ++ T) ∧ r < m := by
  obtain ⟨r, h1, e, hr⟩ := next_ok h T (m : Int) (by omega) (by omega)
  exact ⟨r, h1, e, by omega⟩
theorem dr_sizes (h : Hh) (T : Sto) (many most : Nat) (hm : many ≤ 8) : ∃ (zs : List Nat) (h1 : Hh), f_l_sizes [.ref 1, .int (many : Int), .int (most : Int)] (hs h ++ T) = .ok (eR zs) (hs h1 ++ T) ∧ zs.length = many ∧ zs.sum ≤ most ∧ ∀ z ∈ zs, z ≤ 8 := sizes_ok h T many most hm
theorem dr_firsts (h : Hh) (T : Sto) (many : Nat) (hm : 1 ≤ many) (hm8 : many ≤ 8) : ∃ (fs : List Nat) (h1 : Hh), f_l_firsts [.ref 1, .int (many : Int)] (hs h ++ T) = .ok (eR fs) (hs h1 ++ T) ∧ FirstsOk many fs := firsts_ok h T many hm hm8
end DL

namespace DL
open PySem L2
theorem alike_ref (n : Nat) (ds : List D) (m : Nat) (S : Sto) (hS : S[m]? = some (.lst ds)) (hl : ds.length ≤ 100000) (ha : alks n ds = true) : f_l_alike (n + 2) [.lst ds, .ref m] S = .ok (.bl true) S := by
  refine fun_eq rfl fun F hF => ?_
  have hc : compL S [] false (.nm 2) (wipeD [.lst ds, .ref m, .dead] [2]) (mNotT (mTest (mApp (f_l_alike (n + 1)) (mCons (mOp fIx (mVar 0) (mVar 2)) (mCons (mOp fIx (mVar 1) (mVar 2)) mNil))))) (mVar 2) ((List.range ds.length).map eN) [] S = .ok [] S := by
    have := comp_pure (S := S) (src := []) (pair := false) (t := .nm 2) (wσ := wipeD [.lst ds, .ref m, .dead] [2]) (c := mNotT (mTest (mApp (f_l_alike (n + 1)) (mCons (mOp fIx (mVar 0) (mVar 2)) (mCons (mOp fIx (mVar 1) (mVar 2)) mNil))))) (e := mVar 2) eN (fun _ => false) eN (List.range ds.length) [] (fun a ha' => by
      have hlt : a < ds.length := List.mem_range.mp ha'
      refine ⟨_, rfl, ?_, nofun⟩
      have hda : alk n ds[a] = true := by
        rw [alks_all, List.all_eq_true] at ha
        exact ha _ (List.getElem_mem hlt)
      have := alike_ok n ds[a] S hda
      simp [wipeD, hS, hlt, this]) (by simpa using hl)
    rw [List.filter_eq_nil_iff.mpr (by simp)] at this
    simpa using this
  have hrg := okRg_0 hl
  simp [p_l_alike, hS, hrg, rgD_nat, hc, v_eq]
  exact hF _ _ (finP_self rfl ⟨rfl, rfl⟩)
end DL

namespace DL
open PySem L2
/-- the number of cards of a heap, 0 for one that is not there -/
def hl (l : List (List Nat)) (i : Nat) : Nat := (l[i]?.getD []).length
def Bal (m : Nat) (l : List (List Nat)) : Prop := ∀ i, i < m → hl l i = l.flatten.count i
/-- within a walk from a on, at h -/
def Mid (m a h : Nat) (l : List (List Nat)) : Prop := ∀ i, i < m → hl l i + (if i = a then 1 else 0) = l.flatten.count i + (if i = h then 1 else 0)
theorem count_set : ∀ {l : List (List Nat)} {h c : Nat} {r : List Nat} (i : Nat), l[h]? = some (c :: r) → l.flatten.count i = (l.set h r).flatten.count i + (if i = c then 1 else 0)
  | x :: l, 0, c, r, i, e => by
    simp at e
    subst e
    rw [List.flatten_cons, List.set_cons_zero, List.flatten_cons, List.count_append, List.count_append, List.count_cons]
    by_cases q : i = c
    · rw [if_pos q, if_pos (by simp [q])]; omega
    · rw [if_neg q, if_neg (by simp; exact fun z => q z.symm)]; omega
  | x :: l, h + 1, c, r, i, e => by
    have := count_set (l := l) (h := h) (c := c) (r := r) i (by simpa using e)
    simp at this ⊢
    omega
theorem hl_set {l : List (List Nat)} {h c : Nat} {r : List Nat} (i : Nat) (e : l[h]? = some (c :: r)) : hl l i = hl (l.set h r) i + (if i = h then 1 else 0) := by
  have hh : h < l.length := (List.getElem?_eq_some_iff.mp e).1
  unfold hl
  by_cases q : i = h
  · subst q
    rw [List.getElem?_set_self hh, e, if_pos rfl]
    simp
  · rw [List.getElem?_set_ne (fun z => q z.symm), if_neg q]
    omega
theorem Mid.step {m a h c : Nat} {l : List (List Nat)} {r : List Nat} (d : Mid m a h l) (e : l[h]? = some (c :: r)) : Mid m a c (l.set h r) := by
  intro i hi
  have h1 := d i hi
  have h2 := hl_set i e
  have h3 := count_set i e
  omega
theorem Mid.stop {m a h : Nat} {l : List (List Nat)} (d : Mid m a h l) (hh : h < m) (e : l[h]? = some []) : h = a ∧ Bal m l := by
  have h1 := d h hh
  have h2 : hl l h = 0 := by unfold hl; rw [e]; rfl
  rw [h2, if_pos rfl] at h1
  have ha : h = a := by
    by_cases q : h = a
    · exact q
    · rw [if_neg q] at h1; omega
  subst ha
  refine ⟨rfl, fun i hi => ?_⟩
  have := d i hi
  split at this <;> omega
theorem Bal.mid {m a : Nat} {l : List (List Nat)} (b : Bal m l) : Mid m a a l := fun i hi => by rw [b i hi]
theorem Go.bal {m a h : Nat} {l l' : List (List Nat)} {f : List (Nat × Nat)} (g : Go l h f l') (b : Bd m l) (hh : h < m) (d : Mid m a h l) : Bal m l' ∧ l'[a]? = some [] := by
  induction g with
  | stop e =>
    obtain ⟨h1, h2⟩ := d.stop hh e
    subst h1
    exact ⟨h2, e⟩
  | step e g ih =>
    obtain ⟨b2, hc⟩ := b.set e
    exact ih b2 hc (d.step e)
/-- what is left of a heap is the rest of it -/
def Suf (l hp : List (List Nat)) : Prop := ∀ (i : Nat) (r : List Nat), l[i]? = some r → ∃ s, hp[i]? = some s ∧ ∃ t, s = t ++ r
theorem Suf.refl (l : List (List Nat)) : Suf l l := fun i r e => ⟨r, e, [], rfl⟩
theorem Suf.trans {a b c : List (List Nat)} (h : Suf a b) (k : Suf b c) : Suf a c := fun i r e => by
  obtain ⟨s, h1, t, h2⟩ := h i r e
  obtain ⟨s', h3, t', h4⟩ := k i s h1
  exact ⟨s', h3, t' ++ t, by rw [h4, h2, List.append_assoc]⟩
theorem Suf.set {l : List (List Nat)} {h c : Nat} {r : List Nat} (e : l[h]? = some (c :: r)) : Suf (l.set h r) l := fun i s es => by
  have hh : h < l.length := (List.getElem?_eq_some_iff.mp e).1
  by_cases q : h = i
  · subst q
    rw [List.getElem?_set_self hh] at es
    cases Option.some.inj es
    exact ⟨_, e, [c], rfl⟩
  · rw [List.getElem?_set_ne q] at es
    exact ⟨s, es, [], rfl⟩
theorem Go.suf {h : Nat} {l l' : List (List Nat)} {f : List (Nat × Nat)} (g : Go l h f l') : Suf l' l := by
  induction g with
  | stop e => exact Suf.refl _
  | step e g ih => exact ih.trans (Suf.set e)
theorem Wk.suf {l l' : List (List Nat)} {fs : List Nat} {g : List (Nat × Nat)} (w : Wk l fs g l') : Suf l' l := by
  induction w with
  | nil => exact Suf.refl _
  | cons g w ih => exact ih.trans g.suf
theorem suf_nil {l l' : List (List Nat)} (s : Suf l' l) (hl : l'.length = l.length) {i : Nat} (e : l[i]? = some []) : l'[i]? = some [] := by
  have hi : i < l'.length := by rw [hl]; exact (List.getElem?_eq_some_iff.mp e).1
  obtain ⟨s', h1, t, h2⟩ := s i _ (List.getElem?_eq_getElem hi)
  rw [e] at h1
  cases Option.some.inj h1
  have := List.append_eq_nil_iff.mp h2.symm
  rw [List.getElem?_eq_getElem hi, this.2]
theorem Wk.bal {m : Nat} {l l' : List (List Nat)} {fs : List Nat} {g : List (Nat × Nat)} (w : Wk l fs g l') (b : Bd m l) (hf : ∀ f ∈ fs, f < m) (d : Bal m l) : Bal m l' ∧ ∀ f ∈ fs, l'[f]? = some [] := by
  induction w with
  | nil => exact ⟨d, nofun⟩
  | cons g w ih =>
    rename_i l a fs f l1 g' l2
    have ha := hf a (List.mem_cons_self ..)
    obtain ⟨d1, e1⟩ := g.bal b ha (Bal.mid d)
    have b1 := g.bd b
    obtain ⟨d2, e2⟩ := ih b1 (fun x hx => hf x (List.mem_cons_of_mem _ hx)) d1
    refine ⟨d2, fun x hx => ?_⟩
    rcases List.mem_cons.mp hx with rfl | hx
    · exact suf_nil w.suf (by rw [(w.bd b1).1, b1.1]) e1
    · exact e2 x hx
theorem PackOk.bal {hp : List (List Nat)} (h : PackOk hp) : Bal hp.length hp := fun i hi => by
  rw [h.cnt i hi]
  unfold hl
  rw [List.getElem?_eq_getElem hi]
  rfl
/-- where the lowest card of a heap leads -/
def low (hp : List (List Nat)) (i : Nat) : Option Nat := (hp[i]?.getD []).getLast?
inductive Home (hp : List (List Nat)) (fs : List Nat) : Nat → Prop
  | first {i : Nat} : i ∈ fs → Home hp fs i
  | step {i c : Nat} : low hp i = some c → Home hp fs c → Home hp fs i
theorem low_suf {l hp : List (List Nat)} (s : Suf l hp) {i : Nat} {r : List Nat} {c : Nat} (e : l[i]? = some (r ++ [c])) : low hp i = some c := by
  obtain ⟨s', h1, t, h2⟩ := s i _ e
  unfold low
  rw [h1, h2]
  simp
/-- if all is turned in the end, all heaps that hold cards come home -/
theorem Go.home {m a h : Nat} {hp l l' : List (List Nat)} {fs : List Nat} {f : List (Nat × Nat)} (g : Go l h f l') (ha : a ∈ fs) (b : Bd m l) (hh : h < m) (d : Mid m a h l) (s : Suf l hp) (q : ∀ (i c : Nat) (r : List Nat), l'[i]? = some (c :: r) → Home hp fs i) :
    ∀ (i c : Nat) (r : List Nat), l[i]? = some (c :: r) → Home hp fs i := by
  induction g with
  | stop e => exact q
  | step e g ih =>
    rename_i l h c r f l'
    obtain ⟨b2, hc⟩ := b.set e
    have ih := ih b2 hc (d.step e) ((Suf.set e).trans s) q
    have hl : h < l.length := (List.getElem?_eq_some_iff.mp e).1
    intro i c' r' e'
    by_cases z : h = i
    · subst z
      cases r with
      | cons x r => exact ih h x r (by rw [List.getElem?_set_self hl])
      | nil =>
        refine .step (low_suf (r := []) s e) ?_
        have hcl : c < (l.set h []).length := by rw [b2.1]; exact hc
        cases y : (l.set h [])[c] with
        | nil =>
          have := (Mid.stop (d.step e) hc (by rw [List.getElem?_eq_getElem hcl, y])).1
          rw [this]
          exact .first ha
        | cons x r => exact ih c x r (by rw [List.getElem?_eq_getElem hcl, y])
    · exact ih i c' r' (by rw [List.getElem?_set_ne z]; exact e')
theorem Wk.home {m : Nat} {hp l l' : List (List Nat)} {fs gs : List Nat} {g : List (Nat × Nat)} (w : Wk l gs g l') (hg : ∀ f ∈ gs, f ∈ fs) (hf : ∀ f ∈ gs, f < m) (b : Bd m l) (d : Bal m l) (s : Suf l hp) (q : ∀ (i c : Nat) (r : List Nat), l'[i]? = some (c :: r) → Home hp fs i) :
    ∀ (i c : Nat) (r : List Nat), l[i]? = some (c :: r) → Home hp fs i := by
  induction w with
  | nil => exact q
  | cons g w ih =>
    rename_i l a gs f l1 g' l2
    have ha := hf a (List.mem_cons_self ..)
    have hm : Mid m a a l := Bal.mid d
    obtain ⟨d1, _⟩ := g.bal b ha hm
    exact g.home (hg a (List.mem_cons_self ..)) b ha hm s (ih (fun x hx => hg x (List.mem_cons_of_mem _ hx)) (fun x hx => hf x (List.mem_cons_of_mem _ hx)) (g.bd b) d1 (g.suf.trans s) q)
/-- a heap that keeps cards does not come home -/
theorem not_home {m : Nat} {hp l : List (List Nat)} {fs : List Nat} (b : Bd m l) (d : Bal m l) (s : Suf l hp) (hf : ∀ f ∈ fs, l[f]? = some []) {i : Nat} (h : Home hp fs i) : ∀ (c : Nat) (r : List Nat), l[i]? = some (c :: r) → False := by
  induction h with
  | first hi =>
    intro c r e
    rw [hf _ hi] at e
    cases e
  | step hc h ih =>
    rename_i i c
    intro x r e
    have e2 : l[i]? = some ((x :: r).dropLast ++ [(x :: r).getLast (List.cons_ne_nil _ _)]) := by rw [List.dropLast_concat_getLast]; exact e
    have hlow := low_suf s e2
    rw [hc] at hlow
    have ec : c = (x :: r).getLast (List.cons_ne_nil _ _) := Option.some.inj hlow
    have hmem : c ∈ x :: r := by rw [ec]; exact List.getLast_mem _
    have hm := List.mem_of_getElem? e
    have hcm : c < m := b.2 _ hm c hmem
    have hcnt : 0 < l.flatten.count c := List.count_pos_iff.mpr (List.mem_flatten.mpr ⟨_, hm, hmem⟩)
    rw [← d c hcm] at hcnt
    have hcl : c < l.length := by rw [b.1]; exact hcm
    unfold hl at hcnt
    rw [List.getElem?_eq_getElem hcl] at hcnt
    cases y : l[c] with
    | nil => rw [y] at hcnt; simp at hcnt
    | cons u v => exact ih u v (by rw [List.getElem?_eq_getElem hcl, y])
/-- all cards are turned just if all heaps with cards come home -/
theorem turned_iff {hp l' : List (List Nat)} {fs : List Nat} {g : List (Nat × Nat)} (h : PackOk hp) (hf : FirstsOk hp.length fs) (w : Wk hp fs g l') : l' = List.replicate hp.length [] ↔ ∀ (i : Nat) (c : Nat) (r : List Nat), hp[i]? = some (c :: r) → Home hp fs i := by
  have hb := w.bd h.bd
  obtain ⟨d, e⟩ := w.bal h.bd hf.lt h.bal
  constructor
  · intro hl'
    refine w.home (fun f hf => hf) hf.lt h.bd h.bal (Suf.refl _) fun i c r e => ?_
    rw [hl'] at e
    have := List.eq_of_mem_replicate (List.mem_of_getElem? e)
    cases this
  · intro hh
    rw [List.eq_replicate_iff]
    refine ⟨hb.1, fun r hr => ?_⟩
    obtain ⟨i, hi, ei⟩ := List.getElem_of_mem hr
    cases r with
    | nil => rfl
    | cons c r =>
      have e1 : l'[i]? = some (c :: r) := by rw [List.getElem?_eq_getElem hi, ei]
      obtain ⟨s', h1, t, h2⟩ := w.suf i _ e1
      have hne : ∃ c' r', hp[i]? = some (c' :: r') := by
        cases t with
        | nil => exact ⟨c, r, by rw [h1, h2]; rfl⟩
        | cons x t => exact ⟨x, t ++ c :: r, by rw [h1, h2]; rfl⟩
      obtain ⟨c', r', h3⟩ := hne
      exact (not_home hb d w.suf e (hh i c' r' h3) c r e1).elim
end DL

namespace DL
open PySem L2
def at' (H : List (List Nat)) (i : Nat) : List Nat := H[i]?.getD []
def put (H : List (List Nat)) (h c : Nat) : List (List Nat) := H.set h (at' H h ++ [c])
@[simp] theorem put_len (H : List (List Nat)) (h c : Nat) : (put H h c).length = H.length := by simp [put]
theorem at_set {H : List (List Nat)} {h : Nat} (hh : h < H.length) (r : List Nat) (i : Nat) : at' (H.set h r) i = if i = h then r else at' H i := by
  unfold at'
  by_cases q : i = h
  · subst q
    rw [List.getElem?_set_self hh, if_pos rfl]
    rfl
  · rw [List.getElem?_set_ne (fun z => q z.symm), if_neg q]
theorem at_put {H : List (List Nat)} {h : Nat} (hh : h < H.length) (c i : Nat) : at' (put H h c) i = if i = h then at' H h ++ [c] else at' H i := at_set hh _ i
def ly (f : Nat) : List Nat → Nat → List (List Nat) → List (List Nat) × List Nat
  | [], _, H => (H, [])
  | c :: r, h, H => if f ∈ c :: r then ly f r c (put H h c) else (H, c :: r)
def lys : List Nat → List Nat → List (List Nat) → List (List Nat) × List Nat
  | [], r, H => (H, r)
  | f :: fs, r, H => lys fs (ly f r f H).2 (ly f r f H).1
def Inv8 (m : Nat) (H l hp : List (List Nat)) : Prop := H.length = m ∧ l.length = m ∧ ∀ i, i < m → at' H i ++ at' l i = at' hp i
theorem at_some {l : List (List Nat)} {h : Nat} {r : List Nat} (e : l[h]? = some r) : at' l h = r := by unfold at'; rw [e]; rfl
theorem Inv8.step {m : Nat} {H l hp : List (List Nat)} {h c : Nat} {r : List Nat} (v : Inv8 m H l hp) (hh : h < m) (e : l[h]? = some (c :: r)) : Inv8 m (put H h c) (l.set h r) hp := by
  refine ⟨by rw [put_len]; exact v.1, by rw [List.length_set]; exact v.2.1, fun i hi => ?_⟩
  have := v.2.2 i hi
  rw [at_put (by rw [v.1]; exact hh), at_set (by rw [v.2.1]; exact hh)]
  by_cases q : i = h
  · subst q
    rw [if_pos rfl, if_pos rfl, ← this, at_some e]
    simp
  · rw [if_neg q, if_neg q]
    exact this
theorem go_last {m a h : Nat} {l l' : List (List Nat)} {f : List (Nat × Nat)} (g : Go l h f l') (b : Bd m l) (hh : h < m) (d : Mid m a h l) : f ≠ [] → a ∈ f.map Prod.snd := by
  induction g with
  | stop e => intro z; exact absurd rfl z
  | step e g ih =>
    intro _
    obtain ⟨b2, hc⟩ := b.set e
    have d2 := d.step e
    cases g with
    | stop e2 =>
      have := (d2.stop hc e2).1
      simp [this]
    | step e2 g2 =>
      have := ih b2 hc d2 (by simp)
      exact List.mem_cons_of_mem _ this
theorem lyA {m a h : Nat} {hp l l' : List (List Nat)} {f : List (Nat × Nat)} (g : Go l h f l') : Bd m l → h < m → Mid m a h l → ∀ (rest : List Nat), a ∉ rest → ∀ H, Inv8 m H l hp → ∃ H', ly a (f.map Prod.snd ++ rest) h H = (H', rest) ∧ Inv8 m H' l' hp := by
  induction g with
  | stop e =>
    intro b hh d rest hr H v
    refine ⟨H, ?_, v⟩
    cases rest with
    | nil => rfl
    | cons c r => exact if_neg hr
  | step e g ih =>
    rename_i l h c r f l'
    intro b hh d rest hr H v
    have hm := go_last (Go.step e g) b hh d (by simp)
    obtain ⟨b2, hc⟩ := b.set e
    obtain ⟨H', e1, v1⟩ := ih b2 hc (d.step e) rest hr _ (v.step hh e)
    refine ⟨H', ?_, v1⟩
    show (if a ∈ c :: (f.map Prod.snd ++ rest) then ly a (f.map Prod.snd ++ rest) c (put H h c) else _) = _
    rw [if_pos (by
      rcases List.mem_cons.mp hm with z | z
      · rw [z]; exact List.mem_cons_self ..
      · exact List.mem_cons_of_mem _ (List.mem_append_left _ z))]
    exact e1
theorem flat_sub {l : List (List Nat)} {h c : Nat} {r : List Nat} (e : l[h]? = some (c :: r)) : c ∈ l.flatten ∧ ∀ x ∈ (l.set h r).flatten, x ∈ l.flatten := by
  have hm := List.mem_of_getElem? e
  refine ⟨List.mem_flatten.mpr ⟨_, hm, List.mem_cons_self ..⟩, fun x hx => ?_⟩
  obtain ⟨s, hs, hxs⟩ := List.mem_flatten.mp hx
  rcases List.mem_or_eq_of_mem_set hs with q | q
  · exact List.mem_flatten.mpr ⟨s, q, hxs⟩
  · exact List.mem_flatten.mpr ⟨_, hm, List.mem_cons_of_mem _ (q ▸ hxs)⟩
theorem Go.cards {l l' : List (List Nat)} {h : Nat} {f : List (Nat × Nat)} (g : Go l h f l') : (∀ x ∈ f.map Prod.snd, x ∈ l.flatten) ∧ ∀ x ∈ l'.flatten, x ∈ l.flatten := by
  induction g with
  | stop e => exact ⟨nofun, fun x h => h⟩
  | step e g ih =>
    obtain ⟨h1, h2⟩ := flat_sub e
    refine ⟨fun x hx => ?_, fun x hx => h2 x (ih.2 x hx)⟩
    rcases List.mem_cons.mp hx with z | z
    · rw [z]; exact h1
    · exact h2 x (ih.1 x z)
theorem Wk.cards {l l' : List (List Nat)} {fs : List Nat} {g : List (Nat × Nat)} (w : Wk l fs g l') : ∀ x ∈ g.map Prod.snd, x ∈ l.flatten := by
  induction w with
  | nil => exact nofun
  | cons g w ih =>
    intro x hx
    rw [List.map_append] at hx
    rcases List.mem_append.mp hx with z | z
    · exact g.cards.1 x z
    · exact g.cards.2 x (ih x z)
theorem lysA {m : Nat} {hp l l' : List (List Nat)} {fs : List Nat} {g : List (Nat × Nat)} (w : Wk l fs g l') : Bd m l → Bal m l → (∀ f ∈ fs, f < m) → ∀ H, Inv8 m H l hp → ∃ H', lys fs (g.map Prod.snd) H = (H', []) ∧ Inv8 m H' l' hp := by
  induction w with
  | nil => exact fun _ _ _ H v => ⟨H, rfl, v⟩
  | cons g w ih =>
    rename_i l a fs f l1 g2 l2
    intro b d hf H v
    have ha := hf a (List.mem_cons_self ..)
    obtain ⟨d1, e1⟩ := g.bal b ha d.mid
    have hr : a ∉ g2.map Prod.snd := fun z => by
      have h1 := w.cards a z
      have h2 := d1 a ha
      have h3 : hl l1 a = 0 := by unfold hl; rw [e1]; rfl
      have := List.count_pos_iff.mpr h1
      omega
    obtain ⟨H1, e2, v1⟩ := lyA (hp := hp) g b ha d.mid (g2.map Prod.snd) hr H v
    obtain ⟨H', e3, v2⟩ := ih (g.bd b) d1 (fun x hx => hf x (List.mem_cons_of_mem _ hx)) H1 v1
    refine ⟨H', ?_, v2⟩
    show lys fs (ly a ((f ++ g2).map Prod.snd) a H).2 (ly a ((f ++ g2).map Prod.snd) a H).1 = _
    rw [List.map_append, e2]
    exact e3
theorem get_at {l : List (List Nat)} {i : Nat} (hi : i < l.length) : l[i]? = some (at' l i) := by unfold at'; rw [List.getElem?_eq_getElem hi]; rfl
theorem lyB {m f : Nat} (hf : f < m) : ∀ (r : List Nat) (h : Nat) (H H' : List (List Nat)) (r' : List Nat), ly f r h H = (H', r') → (h = f ∨ f ∈ r) → H.length = m → h < m → (∀ c ∈ r, c < m) →
    H'.length = m ∧ f ∉ r' ∧ ∀ l2 : List (List Nat), l2.length = m → at' l2 f = [] → ∃ (l1 : List (List Nat)) (g : List (Nat × Nat)), Go l1 h g l2 ∧ r = g.map Prod.snd ++ r' ∧ l1.length = m ∧ (∀ i, i < m → at' H' i ++ at' l2 i = at' H i ++ at' l1 i) ∧ (∀ i, i ≠ h → i ∉ r → at' l1 i = at' l2 i) ∧
      ∀ i, i < m → (at' l1 i).length + (if i = f then 1 else 0) = (at' l2 i).length + (g.map Prod.snd).count i + (if i = h then 1 else 0) := by
  have stp : ∀ (r : List Nat) (h : Nat) (H : List (List Nat)), f ∉ r → (h = f ∨ f ∈ r) → H.length = m → H.length = m ∧ f ∉ r ∧ ∀ l2 : List (List Nat), l2.length = m → at' l2 f = [] → ∃ (l1 : List (List Nat)) (g : List (Nat × Nat)), Go l1 h g l2 ∧ r = g.map Prod.snd ++ r ∧ l1.length = m ∧ (∀ i, i < m → at' H i ++ at' l2 i = at' H i ++ at' l1 i) ∧ (∀ i, i ≠ h → i ∉ r → at' l1 i = at' l2 i) ∧
      ∀ i, i < m → (at' l1 i).length + (if i = f then 1 else 0) = (at' l2 i).length + (g.map Prod.snd).count i + (if i = h then 1 else 0) := fun r h H hn hc hl => by
    have e : h = f := hc.resolve_right hn
    subst e
    refine ⟨hl, hn, fun l2 h2 h3 => ⟨l2, [], .stop (by rw [get_at (by omega), h3]), rfl, h2, fun _ _ => rfl, fun _ _ _ => rfl, fun i hi => by simp⟩⟩
  intro r
  induction r with
  | nil =>
    intro h H H' r' e hc hl hh hcs
    cases e
    exact stp [] h H (by simp) hc hl
  | cons c r ih =>
    intro h H H' r' e hc hl hh hcs
    by_cases q : f ∈ c :: r
    · have e2 : ly f r c (put H h c) = (H', r') := by rw [← e]; exact (if_pos q).symm
      have hcm := hcs c (List.mem_cons_self ..)
      obtain ⟨k1, k2, k3⟩ := ih c (put H h c) H' r' e2 ((List.mem_cons.mp q).imp (fun z => z.symm) id) (by rw [put_len]; exact hl) hcm (fun x hx => hcs x (List.mem_cons_of_mem _ hx))
      refine ⟨k1, k2, fun l2 h2 h3 => ?_⟩
      obtain ⟨l1, g, go, er, l1m, hat, hun, hct⟩ := k3 l2 h2 h3
      have hhl : h < l1.length := by omega
      have hs1 : (l1.set h (c :: at' l1 h))[h]? = some (c :: at' l1 h) := List.getElem?_set_self hhl
      have hs2 : (l1.set h (c :: at' l1 h)).set h (at' l1 h) = l1 := by
        rw [List.set_set]
        refine List.ext_getElem? fun i => ?_
        by_cases q : h = i
        · subst q; rw [List.getElem?_set_self hhl, get_at hhl]
        · rw [List.getElem?_set_ne q]
      refine ⟨l1.set h (c :: at' l1 h), (h, c) :: g, .step hs1 (by rw [hs2]; exact go), by rw [er]; rfl, by simp [l1m], fun i hi => ?_, fun i hi hr => ?_, fun i hi => ?_⟩
      · have := hat i hi
        rw [at_put (by omega)] at this
        rw [at_set hhl, this]
        by_cases q : i = h
        · subst q; rw [if_pos rfl, if_pos rfl]; simp
        · rw [if_neg q, if_neg q]
      · rw [at_set hhl, if_neg hi]
        exact hun i (fun z => hr (by rw [z]; exact List.mem_cons_self ..)) (fun z => hr (List.mem_cons_of_mem _ z))
      · have := hct i hi
        rw [at_set hhl, List.map_cons, List.count_cons]
        by_cases q1 : i = h
        · subst q1
          rw [if_pos rfl, if_pos rfl, List.length_cons]
          by_cases q2 : c = i
          · subst q2; simp at this ⊢; omega
          · have q3 : ¬ i = c := fun z => q2 z.symm
            simp [q2, q3] at this ⊢; omega
        · rw [if_neg q1, if_neg q1]
          by_cases q2 : c = i
          · subst q2; simp at this ⊢; omega
          · have q3 : ¬ i = c := fun z => q2 z.symm
            simp [q2, q3] at this ⊢; omega
    · have e2 : (H, c :: r) = (H', r') := by rw [← e]; exact (if_neg q).symm
      cases e2
      exact stp (c :: r) h H q hc hl
theorem at_rep (m i : Nat) : at' (List.replicate m []) i = [] := by
  unfold at'
  by_cases h : i < m
  · rw [List.getElem?_replicate, if_pos h]; rfl
  · rw [List.getElem?_replicate, if_neg h]; rfl
theorem lysB {m : Nat} : ∀ (fs r : List Nat) (H H' : List (List Nat)), lys fs r H = (H', []) → fs.Nodup → (∀ f ∈ fs, f < m) → (∀ c ∈ r, c < m) → H.length = m →
    ∃ (l1 : List (List Nat)) (g : List (Nat × Nat)), Wk l1 fs g (List.replicate m []) ∧ g.map Prod.snd = r ∧ H'.length = m ∧ l1.length = m ∧ (∀ i, i < m → at' H' i = at' H i ++ at' l1 i) ∧ (∀ i, i ∉ fs → i ∉ r → at' l1 i = []) ∧ ∀ i, i < m → (at' l1 i).length = r.count i
  | [], r, H, H', e, _, _, _, hl => by
    cases e
    exact ⟨List.replicate m [], [], .nil, rfl, hl, by simp, fun i _ => by rw [at_rep]; simp, fun i _ _ => at_rep m i, fun i _ => by rw [at_rep]; rfl⟩
  | f :: fs, r, H, H', e, nd, hf, hc, hl => by
    have hfm := hf f (List.mem_cons_self ..)
    obtain ⟨hnf, nd2⟩ := List.nodup_cons.mp nd
    obtain ⟨H1, r1, e1⟩ : ∃ H1 r1, ly f r f H = (H1, r1) := ⟨_, _, rfl⟩
    have e' : lys fs r1 H1 = (H', []) := by
      have : lys fs (ly f r f H).2 (ly f r f H).1 = (H', []) := e
      rw [e1] at this
      exact this
    obtain ⟨k1, k2, k3⟩ := lyB hfm r f H H1 r1 e1 (.inl rfl) hl hfm hc
    have hsub : ∀ c ∈ r1, c < m := by
      obtain ⟨_, g, _, er, _⟩ := k3 (List.replicate m []) (by simp) (at_rep m f)
      intro c hc1
      exact hc c (by rw [er]; exact List.mem_append_right _ hc1)
    obtain ⟨l2, g2, w, eg, hm', hl2, hat, hun, hct⟩ := lysB fs r1 H1 H' e' nd2 (fun x hx => hf x (List.mem_cons_of_mem _ hx)) hsub k1
    obtain ⟨l1, g1, go, er, hl1, hat1, hun1, hct1⟩ := k3 l2 hl2 (hun f hnf k2)
    refine ⟨l1, g1 ++ g2, .cons go w, by rw [List.map_append, eg, er], hm', hl1, fun i hi => by rw [hat i hi, hat1 i hi], fun i hi hr => ?_, fun i hi => ?_⟩
    · rw [hun1 i (fun z => hi (by rw [z]; exact List.mem_cons_self ..)) hr]
      refine hun i (fun z => hi (List.mem_cons_of_mem _ z)) (fun z => hr (by rw [er]; exact List.mem_append_right _ z))
    · have h1 := hct1 i hi
      have h2 := hct i hi
      rw [er, List.count_append]
      omega
end DL

namespace DL
open PySem L2
/-- each leads to the next one, the last one to y -/
def Path (lw : List (Option Nat)) : List Nat → Nat → Prop
  | [], _ => True
  | x :: xs, y => lw[x]? = some (some (xs.headD y)) ∧ Path lw xs y
theorem path_app {lw : List (Option Nat)} : ∀ {a b : List Nat} {y : Nat}, Path lw (a ++ b) y ↔ Path lw a (b.headD y) ∧ Path lw b y
  | [], b, y => by simp [Path]
  | x :: a, b, y => by
    have ih := path_app (lw := lw) (a := a) (b := b) (y := y)
    simp only [List.cons_append, Path, ih]
    have : (a ++ b).headD y = a.headD (b.headD y) := by cases a <;> simp
    rw [this, and_assoc]
def Cyc (lw : List (Option Nat)) (r : List Nat) : Prop := r ≠ [] ∧ r.Nodup ∧ Path lw r (r.headD 0)
theorem Cyc.rot {lw : List (Option Nat)} {a b : List Nat} (h : Cyc lw (a ++ b)) : Cyc lw (b ++ a) := by
  obtain ⟨h1, h2, h3⟩ := h
  cases a with
  | nil => simpa using ⟨h1, h2, h3⟩
  | cons x a =>
    cases b with
    | nil => rw [List.append_nil] at h1 h2 h3; exact ⟨h1, h2, h3⟩
    | cons y b =>
      refine ⟨by simp, ?_, ?_⟩
      · exact (List.perm_append_comm.nodup_iff).mp h2
      · obtain ⟨p1, p2⟩ := path_app.mp h3
        exact path_app.mpr ⟨p2, p1⟩
theorem path_uniq {lw : List (Option Nat)} {x : Nat} : ∀ (s t : List Nat) (y : Nat), Path lw (y :: s) x → Path lw (y :: t) x → x ∉ s → x ∉ t → s = t
  | [], [], _, _, _, _, _ => rfl
  | [], z :: t, y, h1, h2, _, n2 => by
    have e := h1.1.symm.trans h2.1
    simp at e
    subst e
    exact absurd (List.mem_cons_self ..) n2
  | z :: s, [], y, h1, h2, n1, _ => by
    have e := h1.1.symm.trans h2.1
    simp at e
    subst e
    exact absurd (List.mem_cons_self ..) n1
  | z :: s, z' :: t, y, h1, h2, n1, n2 => by
    have e := h1.1.symm.trans h2.1
    simp at e
    subst e
    rw [path_uniq s t z h1.2 h2.2 (fun q => n1 (List.mem_cons_of_mem _ q)) (fun q => n2 (List.mem_cons_of_mem _ q))]
/-- a ring, from its least heap on -/
def IsRing (lw : List (Option Nat)) (r : List Nat) : Prop := Cyc lw r ∧ ∀ x ∈ r, r.headD 0 ≤ x
theorem cyc_share {lw : List (Option Nat)} {r r' : List Nat} (h : Cyc lw r) (h' : Cyc lw r') {x : Nat} (hx : x ∈ r) (hx' : x ∈ r') : ∀ z, z ∈ r ↔ z ∈ r' := by
  obtain ⟨a, b, rfl⟩ := List.append_of_mem hx
  obtain ⟨a', b', rfl⟩ := List.append_of_mem hx'
  have c1 := Cyc.rot h
  have c2 := Cyc.rot h'
  have e : b ++ a = b' ++ a' := path_uniq (b ++ a) (b' ++ a') x c1.2.2 c2.2.2 (List.nodup_cons.mp c1.2.1).1 (List.nodup_cons.mp c2.2.1).1
  intro z
  have e1 : z ∈ b ++ a ↔ z ∈ b' ++ a' := by rw [e]
  simp only [List.mem_append, List.mem_cons] at e1 ⊢
  constructor
  · rintro (q | q | q)
    · rcases e1.mp (.inr q) with w | w
      · exact .inr (.inr w)
      · exact .inl w
    · exact .inr (.inl q)
    · rcases e1.mp (.inl q) with w | w
      · exact .inr (.inr w)
      · exact .inl w
  · rintro (q | q | q)
    · rcases e1.mpr (.inr q) with w | w
      · exact .inr (.inr w)
      · exact .inl w
    · exact .inr (.inl q)
    · rcases e1.mpr (.inl q) with w | w
      · exact .inr (.inr w)
      · exact .inl w
theorem head_mem {r : List Nat} (h : r ≠ []) : r.headD 0 ∈ r := by cases r with | nil => exact absurd rfl h | cons x r => simp
theorem ring_uniq {lw : List (Option Nat)} {r r' : List Nat} (h : IsRing lw r) (h' : IsRing lw r') {x : Nat} (hx : x ∈ r) (hx' : x ∈ r') : r = r' := by
  have hs := cyc_share h.1 h'.1 hx hx'
  have e : r.headD 0 = r'.headD 0 := by
    have h1 := h.2 _ ((hs _).mpr (head_mem h'.1.1))
    have h2 := h'.2 _ ((hs _).mp (head_mem h.1.1))
    omega
  obtain ⟨⟨n1, d1, p1⟩, _⟩ := h
  obtain ⟨⟨n2, d2, p2⟩, _⟩ := h'
  cases r with
  | nil => exact absurd rfl n1
  | cons y s =>
    cases r' with
    | nil => exact absurd rfl n2
    | cons y' t =>
      simp at e
      subst e
      rw [path_uniq s t y p1 p2 (List.nodup_cons.mp d1).1 (List.nodup_cons.mp d2).1]
def lmin : List Nat → Nat
  | [] => 0
  | [x] => x
  | x :: y :: r => min x (lmin (y :: r))
theorem lmin_le : ∀ {r : List Nat} {x : Nat}, x ∈ r → lmin r ≤ x
  | [y], x, h => by simp at h; subst h; exact Nat.le_refl _
  | y :: z :: r, x, h => by
    rcases List.mem_cons.mp h with rfl | h
    · exact Nat.min_le_left _ _
    · exact Nat.le_trans (Nat.min_le_right _ _) (lmin_le h)
theorem lmin_mem : ∀ {r : List Nat}, r ≠ [] → lmin r ∈ r
  | [y], _ => by simp [lmin]
  | y :: z :: r, _ => by
    have := lmin_mem (r := z :: r) (by simp)
    show min y (lmin (z :: r)) ∈ _
    rcases Nat.le_total y (lmin (z :: r)) with q | q
    · rw [Nat.min_eq_left q]; exact List.mem_cons_self ..
    · rw [Nat.min_eq_right q]; exact List.mem_cons_of_mem _ this
def rot (r : List Nat) : List Nat := r.drop (r.idxOf (lmin r)) ++ r.take (r.idxOf (lmin r))
theorem rot_ring {lw : List (Option Nat)} {r : List Nat} (h : Cyc lw r) : IsRing lw (rot r) ∧ ∀ x, x ∈ rot r ↔ x ∈ r := by
  have hm := lmin_mem h.1
  have hi : r.idxOf (lmin r) < r.length := List.idxOf_lt_length_of_mem hm
  have hmem : ∀ x, x ∈ rot r ↔ x ∈ r := fun x => by
    unfold rot
    rw [List.mem_append, or_comm, ← List.mem_append, List.take_append_drop]
  refine ⟨⟨?_, fun x hx => ?_⟩, hmem⟩
  · unfold rot
    refine Cyc.rot ?_
    rw [List.take_append_drop]
    exact h
  · have e : (rot r).headD 0 = lmin r := by
      unfold rot
      rw [List.drop_eq_getElem_cons hi]
      simp
    rw [e]
    exact lmin_le ((hmem x).mp hx)
inductive Chase (lw : List (Option Nat)) (K : List Nat) : List Nat → Nat → List Nat → Nat → Prop
  | stop {P : List Nat} {h : Nat} : (lw[h]? = some none ∨ h ∈ K ∨ h ∈ P) → Chase lw K P h P h
  | step {P P' : List Nat} {h h' c : Nat} : lw[h]? = some (some c) → h ∉ K → h ∉ P → Chase lw K (P ++ [h]) c P' h' → Chase lw K P h P' h'
/-- who leads, leads to a heap that is there -/
def ClL (lw : List (Option Nat)) : Prop := ∀ (i c : Nat), lw[i]? = some (some c) → c < lw.length
theorem chase_ex {lw : List (Option Nat)} (hl : ClL lw) (K : List Nat) : ∀ (n : Nat) (P : List Nat) (h : Nat), P.length + n = lw.length → P.Nodup → (∀ x ∈ P, x < lw.length) → h < lw.length → ∃ P' h', Chase lw K P h P' h' := by
  intro n
  induction n with
  | zero =>
    intro P h hn nd hP hh
    by_cases q : h ∈ P
    · exact ⟨P, h, .stop (.inr (.inr q))⟩
    · exfalso
      have := nodup_le lw.length (h :: P) (List.nodup_cons.mpr ⟨q, nd⟩) (fun x hx => by
        rcases List.mem_cons.mp hx with rfl | hx
        · exact hh
        · exact hP x hx)
      simp at this
      omega
  | succ n ih =>
    intro P h hn nd hP hh
    by_cases q : h ∈ P
    · exact ⟨P, h, .stop (.inr (.inr q))⟩
    · by_cases q2 : h ∈ K
      · exact ⟨P, h, .stop (.inr (.inl q2))⟩
      · cases e : lw[h]? with
        | none => rw [List.getElem?_eq_getElem hh] at e; cases e
        | some o =>
          cases o with
          | none => exact ⟨P, h, .stop (.inl e)⟩
          | some c =>
            obtain ⟨P', h', ch⟩ := ih (P ++ [h]) c (by simp; omega) (by
              rw [List.nodup_append]
              exact ⟨nd, by simp, fun a ha b hb => by simp at hb; subst hb; exact fun z => q (z ▸ ha)⟩) (fun x hx => by
              rcases List.mem_append.mp hx with hx | hx
              · exact hP x hx
              · simp at hx; subst hx; exact hh) (hl h c e)
            exact ⟨P', h', .step e q2 q ch⟩
theorem Chase.spec {lw : List (Option Nat)} {K P P' : List Nat} {h h' : Nat} (c : Chase lw K P h P' h') (nd : P.Nodup) : ∃ Q, P' = P ++ Q ∧ Path lw Q h' ∧ Q.headD h' = h ∧ P'.Nodup ∧ (∀ x ∈ Q, x ∉ K ∧ ∃ y, lw[x]? = some (some y)) ∧ (lw[h']? = some none ∨ h' ∈ K ∨ h' ∈ P') := by
  induction c with
  | stop e => exact ⟨[], by simp, trivial, rfl, nd, nofun, e⟩
  | step e n1 n2 c ih =>
    rename_i P P' h h' y
    obtain ⟨Q, e1, p, e2, nd2, hq, fin⟩ := ih (by
      rw [List.nodup_append]
      exact ⟨nd, by simp, fun a ha b hb => by simp at hb; subst hb; exact fun z => n2 (z ▸ ha)⟩)
    refine ⟨h :: Q, by rw [e1]; simp, ⟨by rw [e2]; exact e, p⟩, rfl, nd2, fun x hx => ?_, fin⟩
    rcases List.mem_cons.mp hx with rfl | hx
    · exact ⟨n1, y, e⟩
    · exact hq x hx
structure RI (lw : List (Option Nat)) (k : Nat) (F : List (List Nat)) (K : List Nat) : Prop where
  kn : ∀ x ∈ K, ∃ c, lw[x]? = some (some c)
  nd : K.Nodup
  snd : ∀ r ∈ F, IsRing lw r ∧ ∀ x ∈ r, x ∈ K
  cpl : ∀ r, IsRing lw r → (∃ x ∈ r, x ∈ K) → r ∈ F
  fnd : F.Nodup
  all : ∀ i, i < k → lw[i]? = some none ∨ i ∈ K
theorem path_mem {lw : List (Option Nat)} : ∀ {r : List Nat} {y x : Nat}, Path lw r y → x ∈ r → ∃ c, lw[x]? = some (some c) ∧ (c ∈ r ∨ c = y)
  | z :: r, y, x, h, hx => by
    rcases List.mem_cons.mp hx with rfl | hx
    · refine ⟨_, h.1, ?_⟩
      cases r with
      | nil => exact .inr rfl
      | cons w r => exact .inl (by simp)
    · obtain ⟨c, e, q⟩ := path_mem h.2 hx
      exact ⟨c, e, q.imp (List.mem_cons_of_mem _) id⟩
theorem cyc_next {lw : List (Option Nat)} {r : List Nat} (h : Cyc lw r) {x c : Nat} (hx : x ∈ r) (e : lw[x]? = some (some c)) : c ∈ r := by
  obtain ⟨c', e', q⟩ := path_mem h.2.2 hx
  rw [e] at e'
  cases Option.some.inj (Option.some.inj e')
  rcases q with q | q
  · exact q
  · rw [q]; exact head_mem h.1
/-- a ring through a heap on the way holds where the way ends -/
theorem ring_end {lw : List (Option Nat)} {r : List Nat} (h : Cyc lw r) : ∀ {Q : List Nat} {y x : Nat}, Path lw Q y → x ∈ Q → x ∈ r → y ∈ r
  | z :: Q, y, x, p, hx, hr => by
    rcases List.mem_cons.mp hx with rfl | hx
    · have hn := cyc_next h hr p.1
      cases Q with
      | nil => exact hn
      | cons w Q => exact ring_end h p.2 (List.mem_cons_self ..) hn
    · exact ring_end h p.2 hx hr
def found' (F : List (List Nat)) (P : List Nat) (h : Nat) : List (List Nat) := if h ∈ P then F ++ [rot (P.drop (P.idxOf h))] else F
theorem RI.step {lw : List (Option Nat)} {k : Nat} {F : List (List Nat)} {K P : List Nat} {h : Nat} (hl : ClL lw) (ri : RI lw k F K) (c : Chase lw K [] k P h) : RI lw (k + 1) (found' F P h) (K ++ P) := by
  obtain ⟨Q, e1, p, e2, nd, hq, fin⟩ := c.spec List.nodup_nil
  rw [List.nil_append] at e1
  subst e1
  have kn : ∀ x ∈ K ++ P, ∃ c, lw[x]? = some (some c) := fun x hx => (List.mem_append.mp hx).elim (ri.kn x) fun z => (hq x z).2
  have all : ∀ i, i < k + 1 → lw[i]? = some none ∨ i ∈ K ++ P := fun i hi => by
    by_cases q : i = k
    · subst q
      cases P with
      | nil =>
        simp at e2
        subst e2
        rcases fin with f | f | f
        · exact .inl f
        · exact .inr (List.mem_append_left _ f)
        · cases f
      | cons z P =>
        simp at e2
        subst e2
        exact .inr (List.mem_append_right _ (List.mem_cons_self ..))
    · exact (ri.all i (by omega)).imp id (List.mem_append_left _)
  have ndK : (K ++ P).Nodup := List.nodup_append.mpr ⟨ri.nd, nd, fun a ha b hb z => (hq b hb).1 (z ▸ ha)⟩
  by_cases hp : h ∈ P
  · have hi : P.idxOf h < P.length := List.idxOf_lt_length_of_mem hp
    have hd : P.drop (P.idxOf h) = h :: P.drop (P.idxOf h + 1) := by
      rw [List.drop_eq_getElem_cons hi]
      congr 1
      exact List.getElem_idxOf hi
    have hc : Cyc lw (P.drop (P.idxOf h)) := by
      refine ⟨by rw [hd]; simp, nd.sublist (List.drop_sublist _ _), ?_⟩
      have : Path lw (P.take (P.idxOf h) ++ P.drop (P.idxOf h)) h := by rw [List.take_append_drop]; exact p
      have := (path_app.mp this).2
      rw [hd] at this ⊢
      exact this
    obtain ⟨hr, hm⟩ := rot_ring hc
    have hin : ∀ x ∈ rot (P.drop (P.idxOf h)), x ∈ P := fun x hx => List.mem_of_mem_drop ((hm x).mp hx)
    have hh : h ∈ rot (P.drop (P.idxOf h)) := (hm h).mpr (by rw [hd]; exact List.mem_cons_self ..)
    have ef : found' F P h = F ++ [rot (P.drop (P.idxOf h))] := if_pos hp
    rw [ef]
    refine ⟨kn, ndK, fun r h1 => ?_, fun r h1 ⟨x, h2, h3⟩ => ?_, ?_, all⟩
    · rcases List.mem_append.mp h1 with q | q
      · exact ⟨(ri.snd r q).1, fun x hx => List.mem_append_left _ ((ri.snd r q).2 x hx)⟩
      · simp at q
        subst q
        exact ⟨hr, fun x hx => List.mem_append_right _ (hin x hx)⟩
    · rcases List.mem_append.mp h3 with q | q
      · exact List.mem_append_left _ (ri.cpl r h1 ⟨x, h2, q⟩)
      · have := ring_end h1.1 p q h2
        rw [ring_uniq h1 hr this hh]
        simp
    · rw [List.nodup_append]
      refine ⟨ri.fnd, by simp, fun a ha b hb z => ?_⟩
      simp at hb
      subst hb z
      exact (hq h hp).1 ((ri.snd _ ha).2 h hh)
  · have ef : found' F P h = F := if_neg hp
    rw [ef]
    refine ⟨kn, ndK, fun r h1 => ⟨(ri.snd r h1).1, fun x hx => List.mem_append_left _ ((ri.snd r h1).2 x hx)⟩, fun r h1 ⟨x, h2, h3⟩ => ?_, ri.fnd, all⟩
    rcases List.mem_append.mp h3 with q | q
    · exact ri.cpl r h1 ⟨x, h2, q⟩
    · have hy := ring_end h1.1 p q h2
      rcases fin with f | f | f
      · obtain ⟨c, ec, _⟩ := path_mem h1.1.2.2 hy
        rw [f] at ec
        cases ec
      · have hF := ri.cpl r h1 ⟨h, hy, f⟩
        exact absurd ((ri.snd r hF).2 x h2) (hq x q).1
      · exact absurd f hp
theorem RI.start (lw : List (Option Nat)) : RI lw 0 [] [] := ⟨nofun, List.nodup_nil, nofun, fun _ _ ⟨_, _, h⟩ => (List.not_mem_nil h).elim, List.nodup_nil, nofun⟩
theorem RI.done {lw : List (Option Nat)} {F : List (List Nat)} {K : List Nat} (ri : RI lw lw.length F K) (r : List Nat) : r ∈ F ↔ IsRing lw r := by
  refine ⟨fun h => (ri.snd r h).1, fun h => ri.cpl r h ?_⟩
  obtain ⟨c, e, _⟩ := path_mem h.1.2.2 (head_mem h.1.1)
  refine ⟨_, head_mem h.1.1, ?_⟩
  have hi : r.headD 0 < lw.length := (List.getElem?_eq_some_iff.mp e).1
  rcases ri.all _ hi with q | q
  · rw [q] at e; cases e
  · exact q
end DL

namespace DL
open PySem L2
def eO : Option Nat → D
  | none => .non
  | some c => eN c
@[simp] theorem eO_none : eO none = .non := rfl
@[simp] theorem eO_some (c : Nat) : eO (some c) = eN c := rfl
@[simp] theorem cll_eO (n : Nat) (r : List (Option Nat)) : cll n (r.map eO) = true := cll_map _ _ _ fun a _ => by cases a <;> rfl
@[simp] theorem nbs_eO (r : List (Option Nat)) : nbs (r.map eO) = true := nbs_map _ _ fun a _ => by cases a <;> rfl
@[simp] theorem plns_eO (n : Nat) (r : List (Option Nat)) : plns n (r.map eO) = true := plns_map _ _ _ fun a _ => by cases a <;> simp
theorem atI_last' {α : Type} (xs : List α) : atI xs (-1) = xs.getLast? := by
  unfold atI ixN
  cases xs with
  | nil => rfl
  | cons x xs =>
    rw [if_neg (by omega), if_pos (by simp; omega), List.getLast?_eq_getElem?, show ((-1 : Int) + ((x :: xs).length : Nat)).toNat = (x :: xs).length - 1 by simp; omega]
    rfl
@[simp] theorem atI_m1 {α : Type} (xs : List α) : atI xs (-1) = xs.getLast? := atI_last' xs
def lw1 (fs : List Nat) (p : List Nat × Nat) : Option Nat := if p.2 ∈ fs ∨ p.1 = [] then none else p.1.getLast?
def lws (hp : List (List Nat)) (fs : List Nat) : List (Option Nat) := (hp.zipIdx).map (lw1 fs)
@[simp] theorem lws_len (hp : List (List Nat)) (fs : List Nat) : (lws hp fs).length = hp.length := by simp [lws]
theorem lws_get {hp : List (List Nat)} {fs : List Nat} {i : Nat} {r : List Nat} (e : hp[i]? = some r) : (lws hp fs)[i]? = some (lw1 fs (r, i)) := by
  unfold lws
  rw [List.getElem?_map, List.getElem?_zipIdx, e]
  simp
theorem lowestof_ok (S : Sto) (hp : List (List Nat)) (fs : List Nat) (h8 : hp.length ≤ 8) : f_lowest_of [eH hp, eR fs] S = .ok (.lst ((lws hp fs).map eO)) S := by
  refine fun_eq rfl fun F hF => ?_
  have e0 : enumD 0 (hp.map eR) = (hp.zipIdx 0).map fun p => D.tup [.int (p.2 : Nat), eR p.1] := enumD_map eR hp 0
  simp [p_lowest_of, e0]
  refine out_for (fun k σ S' => ∃ j j', σ = [eH hp, eR fs, .ref S.length, j, j'] ∧ S' = S ++ [.lst (((lws hp fs).take k).map eO)]) (fun k d σ S' e q => ?_) (fun σ S' q => ?_) ⟨_, _, rfl, by simp⟩
  · obtain ⟨j, j', rfl, rfl⟩ := q
    have hk : k < hp.length := by
      have := (List.getElem?_eq_some_iff.mp e).1
      simpa using this
    have ed : d = .tup [.int (k : Int), eR hp[k]] := by
      rw [List.getElem?_map, List.getElem?_zipIdx, List.getElem?_eq_getElem hk] at e
      simpa using e.symm
    subst ed
    have hlt : min k hp.length < 100000 := by omega
    have ht : (lws hp fs).take (k + 1) = (lws hp fs).take k ++ [lw1 fs (hp[k], k)] := by
      rw [List.take_succ, lws_get (List.getElem?_eq_getElem hk)]
      rfl
    refine ⟨by simp, _, rfl, fun F hF => ?_⟩
    by_cases q1 : k ∈ fs
    · simp [p_lowest_of_b0, q1, hlt]
      refine hF _ _ ⟨.int (k : Int), eR hp[k], rfl, ?_⟩
      rw [ht]
      simp [lw1, q1]
    · by_cases q2 : hp[k] = []
      · simp [p_lowest_of_b0, q1, q2, v_eq, hlt]
        refine hF _ _ ⟨.int (k : Int), eR hp[k], by simp [q2], ?_⟩
        rw [ht]
        simp [lw1, q1, q2]
      · obtain ⟨c, ec⟩ : ∃ c, hp[k].getLast? = some c := ⟨_, List.getLast?_eq_getLast q2⟩
        simp [p_lowest_of_b0, q1, q2, v_eq, hlt, ec]
        refine hF _ _ ⟨.int (k : Int), eR hp[k], rfl, ?_⟩
        rw [ht]
        simp [lw1, q1, q2, ec]
  · obtain ⟨j, j', rfl, rfl⟩ := q
    simp
    refine hF _ _ (finP_app (d' := .lst ((lws hp fs).map eO)) ?_ ⟨rfl, rfl⟩)
    refine fz_lst (Nat.le_refl _) ?_ (by simp)
    rw [sto_get0]
    simp
    rw [List.take_of_length_le (by simp)]
theorem PackOk.cll {hp : List (List Nat)} (h : PackOk hp) (fs : List Nat) : ClL (lws hp fs) := fun i c e => by
  have hi : i < hp.length := by have := (List.getElem?_eq_some_iff.mp e).1; simpa using this
  rw [lws_get (List.getElem?_eq_getElem hi)] at e
  unfold lw1 at e
  split at e
  · cases e
  · rw [lws_len]
    exact h.lt _ (List.getElem_mem hi) c (List.mem_of_getLast? (Option.some.inj e))
abbrev eK (n : Nat) : Key := .inl (n : Int)
theorem dget_eK (x : Nat) : ∀ K : List Nat, (dget (.inl (x : Int)) (K.map eK) (K.map fun _ => D.bl true)).isSome = decide (x ∈ K)
  | [] => rfl
  | y :: K => by
    have ih := dget_eK x K
    rw [List.map_cons, List.map_cons]
    unfold dget
    by_cases q : y = x
    · subst q
      simp
    · rw [if_neg (by simp [eK]; omega), ih]
      simp
      intro z
      exact absurd z.symm q
theorem hasK_eK (x : Nat) (K : List Nat) : hasK (.inl (x : Int)) (K.map eK) = decide (x ∈ K) := by
  unfold hasK
  rw [List.any_map, Bool.eq_iff_iff]
  simp
  constructor
  · rintro ⟨y, hy, e⟩
    have : y = x := by omega
    exact this ▸ hy
  · intro h
    exact ⟨x, h, rfl⟩
theorem dputN_new {x : Nat} {K : List Nat} (h : x ∉ K) : dputN (.inl (x : Int)) (K.map eK) = (K ++ [x]).map eK := by
  unfold dputN
  rw [hasK_eK, decide_eq_false h]
  simp
theorem dputX_new {x : Nat} {K : List Nat} (h : x ∉ K) : dputX (.inl (x : Int)) (D.bl true) (K.map eK) (K.map fun _ => D.bl true) = (K ++ [x]).map fun _ => D.bl true := by
  unfold dputX
  rw [hasK_eK, decide_eq_false h]
  simp
def kd (K : List Nat) : Ob := .dic (K.map eK) (K.map fun _ => .bl true)
theorem v_din (neg : Bool) (j n : Nat) (S : Sto) (K : List Nat) (h : S[n]? = some (kd K)) : fDIn neg (.int (j : Int)) (.ref n) S = .ok (.bl (if neg then !decide (j ∈ K) else decide (j ∈ K))) S := by
  unfold fDIn dicOf
  simp only [h, kd, dget_eK]
theorem v_dput (σ : Sl) (x n : Nat) (S : Sto) (K : List Nat) (h : S[n]? = some (kd K)) (hl : K.length < LIM) (hx : x ∉ K) : fDPut (.ref n) (.int (x : Int)) (.bl true) σ S = .nx σ (S.set n (kd (K ++ [x]))) := by
  unfold fDPut
  simp only [h, kd]
  rw [if_pos (by simpa using hl), dputN_new hx, dputX_new hx]
section
variable {S J U : Sto} {x y z o : Ob}
@[simp high] theorem stJ_get : (S ++ x :: y :: (J ++ z :: U))[S.length + (J.length + 2)]? = some z := by
  have e : S ++ x :: y :: (J ++ z :: U) = (S ++ x :: y :: J) ++ z :: U := by simp
  have l : S.length + (J.length + 2) = (S ++ x :: y :: J).length := by simp
  rw [e, l]
  exact sto_get0
@[simp high] theorem stJ_set : (S ++ x :: y :: (J ++ z :: U)).set (S.length + (J.length + 2)) o = S ++ x :: y :: (J ++ o :: U) := by
  have e : S ++ x :: y :: (J ++ z :: U) = (S ++ x :: y :: J) ++ z :: U := by simp
  have l : S.length + (J.length + 2) = (S ++ x :: y :: J).length := by simp
  rw [e, l, sto_set0]
  simp
end
theorem Chase.le {lw : List (Option Nat)} {K P P' : List Nat} {h h' : Nat} (c : Chase lw K P h P' h') : P.length ≤ P'.length := by
  induction c with
  | stop e => exact Nat.le_refl _
  | step e n1 n2 c ih => simp at ih; omega
theorem chase_ok (S J : Sto) (lw : List (Option Nat)) (F : Ob) (K : List Nat) (x3 x6 x7 x8 : D) {P P' : List Nat} {h h' : Nat} (c : Chase lw K P h P' h') (hcl : ClL lw) (hl : P'.length < 100000) : h < lw.length →
    mW p_rings_of_t0 p_rings_of_b0 [.lst (lw.map eO), .ref S.length, .ref (S.length + 1), x3, eN h, .ref (S.length + (J.length + 2)), x6, x7, x8] (S ++ F :: kd K :: (J ++ [.lst (P.map eN)])) =
      .nx [.lst (lw.map eO), .ref S.length, .ref (S.length + 1), x3, eN h', .ref (S.length + (J.length + 2)), x6, x7, x8] (S ++ F :: kd K :: (J ++ [.lst (P'.map eN)])) := by
  have hd : ∀ P : List Nat, ∀ h : Nat, fDIn true (.int (h : Int)) (.ref (S.length + 1)) (S ++ F :: kd K :: (J ++ [.lst (P.map eN)])) = .ok (.bl (!decide (h ∈ K))) (S ++ F :: kd K :: (J ++ [.lst (P.map eN)])) := fun P h => v_din true h _ _ K (by simp)
  induction c with
  | stop e =>
    rename_i P h
    intro hh
    refine mW_stop ?_
    rcases e with e | e | e
    · simp [p_rings_of_t0, e]
    · cases q : lw[h]? with
      | none => rw [List.getElem?_eq_getElem hh] at q; cases q
      | some o =>
        cases o with
        | none => simp [p_rings_of_t0, q]
        | some c => simp [p_rings_of_t0, q, hd, e]
    · cases q : lw[h]? with
      | none => rw [List.getElem?_eq_getElem hh] at q; cases q
      | some o =>
        cases o with
        | none => simp [p_rings_of_t0, q]
        | some c =>
          by_cases k : h ∈ K
          · simp [p_rings_of_t0, q, hd, k]
          · simp [p_rings_of_t0, q, hd, e, k]
  | step e n1 n2 c ih =>
    rename_i P P' h h' y
    intro hh
    have hP : P.length < 100000 := by
      have := c.le
      simp at this
      omega
    refine (mW_step (σ2 := [.lst (lw.map eO), .ref S.length, .ref (S.length + 1), x3, eN y, .ref (S.length + (J.length + 2)), x6, x7, x8]) (S1 := S ++ F :: kd K :: (J ++ [.lst (P.map eN)])) (S2 := S ++ F :: kd K :: (J ++ [.lst ((P ++ [h]).map eN)])) ?_ ?_).trans (ih hl (hcl h y e))
    · simp [p_rings_of_t0, e, hd, n1, n2]
    · simp [p_rings_of_b0, e, hP]

theorem minL_nat : ∀ (ns : List Nat) (n : Nat), minL (n : Int) (ns.map fun x : Nat => (x : Int)) = (lmin (n :: ns) : Nat)
  | [], n => rfl
  | m :: ns, n => by
    have ih := minL_nat ns (min n m)
    show minL (if (m : Int) < (n : Int) then (m : Int) else (n : Int)) (ns.map fun x : Nat => (x : Int)) = _
    rw [show (if (m : Int) < (n : Int) then (m : Int) else (n : Int)) = ((min n m : Nat) : Int) by split <;> omega, ih]
    congr 1
    cases ns with
    | nil => rfl
    | cons a ns => simp [lmin]
theorem v_minR (S : Sto) (r : List Nat) (h : r ≠ []) : fMin [.lst (r.map eN)] S = .ok (.int (lmin r : Nat)) S := by
  cases r with
  | nil => exact absurd rfl h
  | cons x r =>
    show (match lstOf S (.lst ((x :: r).map eN)) with | some xs => (match intsOf xs with | some (m :: ns) => R.ok (D.int (minL m ns)) S | _ => .bad) | none => .bad) = _
    simp only [v_lst1, intsOf_eN, List.map_cons]
    have := intsOf_eN (x :: r)
    rw [List.map_cons] at this
    rw [this]
    simp only [List.map_cons, minL_nat]
theorem ixOf_eN (y : Nat) : ∀ {r : List Nat}, y ∈ r → ixOf (.int (y : Int)) (r.map eN) = some (r.idxOf y)
  | x :: r, h => by
    rw [List.map_cons]
    unfold ixOf
    by_cases q : x = y
    · subst q
      simp
    · have : eqD (eN x) (.int (y : Int)) = false := by rw [eqD_int]; exact decide_eq_false (by omega)
      rw [this]
      have hy : y ∈ r := by
        rcases List.mem_cons.mp h with z | z
        · exact absurd z.symm q
        · exact z
      simp [ixOf_eN y hy, List.idxOf_cons, beq_eq_false_iff_ne.mpr q]
theorem v_index (S : Sto) (x : D) (r : List Nat) (y : Nat) (hx : lstOf S x = some (r.map eN)) (h : y ∈ r) : fIndex x [.int (y : Int)] S = .ok (.int (r.idxOf y : Nat)) S := by
  have hf : (r.map eN).all flatD = true := by simp [List.all_map]
  unfold fIndex
  simp only [hx, hf, ixOf_eN y h, v_flat, Bool.and_self, if_true]
@[simp] theorem v_sl3 (S : Sto) (n : Nat) (lo hi : Option Int) : fSl (.ref n) lo hi S = oB (lO S[n]?) fun ds => .ok (.lst (cutD ds lo hi)) S := by
  show (match lstOf S (.ref n) with | some ds => R.ok (D.lst (cutD ds lo hi)) S | none => .bad) = _
  rw [v_lst2]
  cases lO S[n]? <;> rfl
theorem kn_loop (S0 : Sto) (S J : Sto) (F : Ob) (x0 x3 x4 x6 x7 : D) (n : Nat) (hn : n = J.length) : ∀ (Q K P0 : List Nat) (x8 : D), (K ++ Q).Nodup → K.length + Q.length < 100000 → S0[S.length + (n + 2)]? = some (.lst (P0.map eN)) →
    ∃ j8, forL S0 [S.length + (n + 2)] false (.nm 8) p_rings_of_b1 (Q.map eN) [x0, .ref S.length, .ref (S.length + 1), x3, x4, .ref (S.length + (n + 2)), x6, x7, x8] (S ++ F :: kd K :: (J ++ [.lst (P0.map eN)])) =
      .nx [x0, .ref S.length, .ref (S.length + 1), x3, x4, .ref (S.length + (n + 2)), x6, x7, j8] (S ++ F :: kd (K ++ Q) :: (J ++ [.lst (P0.map eN)]))
  | [], K, P0, x8, _, _, hS => by
    subst hn
    refine ⟨x8, ?_⟩
    rw [List.append_nil]
    show forL S0 _ false _ _ [] _ _ = _
    unfold forL
    rw [if_pos (by rw [gd_one, hS]; simp)]
  | q :: Q, K, P0, x8, nd, hl, hS => by
    have nd2 : (K ++ [q] ++ Q).Nodup := by rw [List.append_assoc]; exact nd
    have hq : q ∉ K := fun z => (List.nodup_append.mp nd).2.2 q z q (List.mem_cons_self ..) rfl
    obtain ⟨j8, ih⟩ := kn_loop S0 S J F x0 x3 x4 x6 x7 n hn Q (K ++ [q]) P0 (eN q) nd2 (by simp at hl ⊢; omega) hS
    subst hn
    refine ⟨j8, ?_⟩
    rw [List.map_cons]
    unfold forL
    rw [if_pos (by rw [gd_one, hS]; simp)]
    simp only [v_st1, v_slots1, v_setAll1, v_setAll0]
    have hb : p_rings_of_b1 [x0, .ref S.length, .ref (S.length + 1), x3, x4, .ref (S.length + (J.length + 2)), x6, x7, eN q] (S ++ F :: kd K :: (J ++ [.lst (P0.map eN)])) = .nx [x0, .ref S.length, .ref (S.length + 1), x3, x4, .ref (S.length + (J.length + 2)), x6, x7, eN q] (S ++ F :: kd (K ++ [q]) :: (J ++ [.lst (P0.map eN)])) := by
      show mDPut (mVar 2) (mVar 8) (mC (.bl true)) _ _ = _
      unfold mDPut
      simp
      rw [v_dput _ q _ _ K (by simp) (by simp at hl ⊢; omega) hq]
      simp
    unfold mThen
    rw [show List.set [x0, .ref S.length, .ref (S.length + 1), x3, x4, .ref (S.length + (J.length + 2)), x6, x7, x8] 8 (eN q) = [x0, .ref S.length, .ref (S.length + 1), x3, x4, .ref (S.length + (J.length + 2)), x6, x7, eN q] from rfl, hb]
    rw [List.append_assoc] at ih
    exact ih

theorem toPys_eN (r : List Nat) : toPys (r.map eN) = (r.map fun x : Nat => (x : Int)).map PyData.int := by
  induction r with
  | nil => rfl
  | cons x r ih => simp [toPys, toPy, ih]
theorem dataLt_eR (a b : List Nat) : PySem.W.dataLt (toPy (eR a)) (toPy (eR b)) = decide ((a.map fun x : Nat => (x : Int)) < (b.map fun x : Nat => (x : Int))) := by
  have h : ∀ r : List Nat, toPy (eR r) = .tuple ((r.map fun x : Nat => (x : Int)).map PyData.int) := fun r => by rw [← toPys_eN]; rfl
  rw [h, h, PySem.W.dataLt_tuple]
  exact PySem.W.dataLt_ints _ _
theorem lt_map (a b : List Nat) : (a.map fun x : Nat => (x : Int)) < (b.map fun x : Nat => (x : Int)) ↔ a < b := by
  induction a generalizing b with
  | nil => cases b <;> simp
  | cons x a ih =>
    cases b with
    | nil => simp
    | cons y b =>
      rw [List.map_cons, List.map_cons, List.cons_lt_cons_iff, List.cons_lt_cons_iff, ih]
      exact or_congr (by omega) (and_congr (by omega) Iff.rfl)
theorem dataLe_eR (a b : List Nat) : PySem.W.dataLe false toPy (eR a) (eR b) = decide (a ≤ b) := by
  rw [PySem.W.dataLe_eq]
  show (!PySem.W.dataLt (toPy (eR b)) (toPy (eR a))) = _
  rw [dataLt_eR, Bool.eq_iff_iff]
  simp only [Bool.not_eq_true', decide_eq_false_iff_not, decide_eq_true_eq, lt_map]
  exact List.not_lt
theorem srt_map (F : List (List Nat)) : (F.map eR).mergeSort (PySem.W.dataLe false toPy) = (F.mergeSort fun a b => decide (a ≤ b)).map eR := by
  rw [List.map_mergeSort (s := PySem.W.dataLe false toPy) (f := eR) (fun a _ b _ => (dataLe_eR a b).symm)]
theorem srt_eq {F L : List (List Nat)} (hp : F.Perm L) (hs : L.Pairwise (· ≤ ·)) : (F.mergeSort fun a b => decide (a ≤ b)) = L := by
  refine List.Perm.eq_of_pairwise (le := fun a b => a ≤ b) (fun a b _ _ h1 h2 => List.le_antisymm h1 h2) ?_ hs ((List.mergeSort_perm _ _).trans hp)
  have := List.pairwise_mergeSort (le := fun a b : List Nat => decide (a ≤ b)) (fun a b c h1 h2 => by simp at h1 h2 ⊢; exact List.le_trans h1 h2) (fun a b => by simp; exact List.le_total a b) F
  exact this.imp fun h => by simpa using h
theorem alike_eNs : ∀ a b : List Nat, PySem.W.alikeAll (toPys (a.map eN)) (toPys (b.map eN)) = true := fun a b => by
  rw [toPys_eN, toPys_eN]
  exact PySem.W.alike_ints _ _
theorem srtOk_rings {F : List (List Nat)} (h : ∀ r ∈ F, r ≠ []) : SrtOk (F.map eR) := by
  refine ⟨?_, ?_, fun d hd => ?_⟩
  · rw [List.map_map]
    refine PySem.W.AllAlike.of fun a b => ?_
    show PySem.W.alike (toPy (eR a)) (toPy (eR b)) = true
    exact alike_eNs a b
  · refine .inl fun d hd => ?_
    rw [List.map_map] at hd
    obtain ⟨r, hr, rfl⟩ := List.mem_map.mp hd
    cases r with
    | nil => exact absurd rfl (h _ hr)
    | cons x r => exact ⟨toPy (eN x), toPys (r.map eN), rfl⟩
  · obtain ⟨r, hr, rfl⟩ := List.mem_map.mp hd
    exact pln_eR 7 r
theorem v_sorted {S : Sto} {x : D} {xs : List D} (h : lstOf S x = some xs) (hs : SrtOk xs) : fSorted [x] S = .ok (xs.mergeSort (PySem.W.dataLe false toPy)) S := by
  unfold fSorted
  simp only [h]
  rw [if_pos hs]
set_option maxHeartbeats 1000000 in
/-- whatever is done behind -/
theorem ringsof_gen (S : Sto) (lw : List (Option Nat)) (hcl : ClL lw) (h8 : lw.length ≤ 8) (RET : MS) (po : Po)
    (hret : ∀ (F : List (List Nat)) (K : List Nat) (J : Sto) (j3 j4 j5 j6 j7 j8 : D), F.Nodup → (∀ r, r ∈ F ↔ IsRing lw r) → fSorted [D.ref S.length] (S ++ .lst (F.map eR) :: kd K :: J) = .ok ((F.mergeSort fun a b => decide (a ≤ b)).map eR) (S ++ .lst (F.map eR) :: kd K :: J) → Out (RET [.lst (lw.map eO), .ref S.length, .ref (S.length + 1), j3, j4, j5, j6, j7, j8] (S ++ .lst (F.map eR) :: kd K :: J)) po) :
    Out ((mSeq (mPar [1, 2] (mCons (mLoc (mLst (mNil))) (mCons (mDicL) (mNil)))) (mSeq (mFor (mRgI (mCons (mApp fLen (mCons (mVar 0) (mNil))) (mNil))) (.nm 3) (p_rings_of_b2)) RET)) [.lst (lw.map eO), .dead, .dead, .dead, .dead, .dead, .dead, .dead, .dead] S) po := by
  have hrg := okRg_0 (n := lw.length) (by omega)
  simp [mDicL, hrg, rgD_nat]
  refine out_for (fun k σ S' => ∃ (F : List (List Nat)) (K : List Nat) (J : Sto) (j3 j4 j5 j6 j7 j8 : D), σ = [.lst (lw.map eO), .ref S.length, .ref (S.length + 1), j3, j4, j5, j6, j7, j8] ∧ S' = S ++ .lst (F.map eR) :: kd K :: J ∧ RI lw k F K ∧ F.length ≤ k ∧ K.length ≤ 8 * k) (fun k d σ S' e q => ?_) (fun σ S' q => ?_) ⟨[], [], [], _, _, _, _, _, _, rfl, rfl, RI.start lw, by simp, by simp⟩
  · obtain ⟨F, K, J, j3, j4, j5, j6, j7, j8, rfl, rfl, ri, hFl, hKl⟩ := q
    have hk : k < lw.length := by
      have := (List.getElem?_eq_some_iff.mp e).1
      simpa using this
    have ed : d = eN k := by
      rw [List.getElem?_map, List.getElem?_range hk] at e
      simpa using e.symm
    subst ed
    obtain ⟨P, h, c⟩ := chase_ex hcl K lw.length [] k (by simp) List.nodup_nil nofun hk
    obtain ⟨Q, eQ, pth, hhead, ndP, hq, fin⟩ := c.spec List.nodup_nil
    have hPl : P.length ≤ 8 := by
      have := nodup_le lw.length P ndP (fun x hx => by
        rw [eQ, List.nil_append] at hx
        obtain ⟨_, y, ey⟩ := hq x hx
        exact (List.getElem?_eq_some_iff.mp ey).1)
      omega
    have ri2 := ri.step hcl c
    have hc := chase_ok S J lw (.lst (F.map eR)) K (eN k) j6 j7 j8 c hcl (by omega) hk
    simp only [List.map_nil] at hc
    refine ⟨by simp, _, rfl, fun F' hF' => ?_⟩
    have hlF : F.length < 100000 := by omega
    by_cases hp : h ∈ P
    · have hne : P.drop (P.idxOf h) ≠ [] := by
        have hi : P.idxOf h < P.length := List.idxOf_lt_length_of_mem hp
        intro z
        rw [List.drop_eq_nil_iff] at z
        omega
      have ef : found' F P h = F ++ [rot (P.drop (P.idxOf h))] := if_pos hp
      rw [ef] at ri2
      obtain ⟨R, hR⟩ : ∃ R, R = P.drop (P.idxOf h) := ⟨_, rfl⟩
      rw [← hR] at ri2 hne
      have hR' : (P.map eN).drop (P.idxOf h) = R.map eN := by rw [hR, List.map_drop]
      obtain ⟨j8', hkn⟩ := kn_loop (S ++ .lst ((F ++ [rot R]).map eR) :: kd K :: (J ++ [.lst (P.map eN)])) S J (.lst ((F ++ [rot R]).map eR)) (.lst (lw.map eO)) (eN k) (eN h) (.lst (R.map eN)) (eN (R.idxOf (lmin R))) J.length rfl P K P j8 ri2.nd (by omega) (by simp)
      simp only [List.map_append, List.map_cons, List.map_nil] at hkn
      have hix := v_index (S ++ .lst (F.map eR) :: kd K :: (J ++ [.lst (P.map eN)])) (.ref (S.length + (J.length + 2))) P h (by rw [v_lst2, stJ_get]; rfl) hp
      have hix2 := v_index (S ++ .lst (F.map eR) :: kd K :: (J ++ [.lst (P.map eN)])) (.lst (R.map eN)) _ _ (by rw [v_lst1]) (lmin_mem hne)
      have hro : (R.map eN).drop (R.idxOf (lmin R)) ++ (R.map eN).take (R.idxOf (lmin R)) = (rot R).map eN := by
        unfold rot
        rw [List.map_append, List.map_drop, List.map_take]
      have hRl : R.length ≤ 8 := by rw [hR, List.length_drop]; omega
      have hll : R.length - List.idxOf (lmin R) R + min (List.idxOf (lmin R) R) R.length ≤ 100000 := by omega
      simp [p_rings_of_b2, hc, hp, hix, v_minR _ _ hne, hR', hix2, hro, hlF, hkn, hll]
      refine hF' _ _ ⟨F ++ [rot R], K ++ P, J ++ [.lst (P.map eN)], _, _, _, _, _, _, rfl, by simp, ri2, by simp; exact hFl, by simp; omega⟩
    · have ef : found' F P h = F := if_neg hp
      rw [ef] at ri2
      obtain ⟨j8', hkn⟩ := kn_loop (S ++ .lst (F.map eR) :: kd K :: (J ++ [.lst (P.map eN)])) S J (.lst (F.map eR)) (.lst (lw.map eO)) (eN k) (eN h) j6 j7 J.length rfl P K P j8 ri2.nd (by omega) (by simp)
      simp [p_rings_of_b2, hc, hp, hlF, hkn]
      refine hF' _ _ ⟨F, K ++ P, J ++ [.lst (P.map eN)], _, _, _, _, _, _, rfl, rfl, ri2, by omega, by simp; omega⟩
  · obtain ⟨F, K, J, j3, j4, j5, j6, j7, j8, rfl, rfl, ri, hFl, hKl⟩ := q
    simp at ri
    have hso : fSorted [D.ref S.length] (S ++ .lst (F.map eR) :: kd K :: J) = .ok ((F.mergeSort fun a b => decide (a ≤ b)).map eR) (S ++ .lst (F.map eR) :: kd K :: J) := by
      rw [← srt_map]
      exact v_sorted (by rw [v_lst2, sto_get0]; rfl) (srtOk_rings fun r hr => (ri.snd r hr).1.1.1)
    refine ⟨by simp, ?_⟩
    simp
    exact hret _ _ _ _ _ _ _ _ _ ri.fnd ri.done hso
theorem ringsof_ok (S : Sto) (lw : List (Option Nat)) (hcl : ClL lw) (h8 : lw.length ≤ 8) : ∃ F : List (List Nat), F.Nodup ∧ (∀ r, r ∈ F ↔ IsRing lw r) ∧ f_rings_of [.lst (lw.map eO)] S = .ok (.lst ((F.mergeSort fun a b => decide (a ≤ b)).map eR)) S := by
  have := fun_out (slots := 9) (n := 1) (m := p_rings_of) (ds := [.lst (lw.map eO)]) (S := S) (Q := fun d S' => ∃ F : List (List Nat), F.Nodup ∧ (∀ r, r ∈ F ↔ IsRing lw r) ∧ d = .lst ((F.mergeSort fun a b => decide (a ≤ b)).map eR) ∧ S' = S) rfl (fun F hF => by
    refine ringsof_gen S lw hcl h8 _ _ fun F K J j3 j4 j5 j6 j7 j8 h1 h2 hso => ?_
    simp [hso]
    refine hF _ _ (finP_same ?_ ⟨F, h1, h2, rfl, rfl⟩)
    simp)
  obtain ⟨d, S2, e, F, h1, h2, rfl, rfl⟩ := this
  exact ⟨F, h1, h2, e⟩
end DL

namespace DL
open PySem L2
def nx (hp : List (List Nat)) (fs : List Nat) (h : Nat) : Nat := if h ∈ fs then h else (low hp h).getD 0
def orb (hp : List (List Nat)) (fs : List Nat) : Nat → Nat → Nat
  | 0, h => h
  | k + 1, h => nx hp fs (orb hp fs k h)
theorem orb_succ (hp : List (List Nat)) (fs : List Nat) (k h : Nat) : orb hp fs (k + 1) h = orb hp fs k (nx hp fs h) := by
  induction k with
  | zero => rfl
  | succ k ih => show nx hp fs (orb hp fs (k + 1) h) = _; rw [ih]; rfl
def Full (hp : List (List Nat)) (h : Nat) : Prop := ∃ c, low hp h = some c
theorem low_get {hp : List (List Nat)} {i c : Nat} (e : low hp i = some c) : ∃ h : i < hp.length, hp[i].getLast? = some c := by
  unfold low at e
  cases q : hp[i]? with
  | none => rw [q] at e; cases e
  | some r =>
    obtain ⟨h, e2⟩ := List.getElem?_eq_some_iff.mp q
    rw [q] at e
    exact ⟨h, by rw [e2]; exact e⟩
theorem low_of {hp : List (List Nat)} {i : Nat} (h : i < hp.length) : low hp i = hp[i].getLast? := by
  unfold low
  rw [List.getElem?_eq_getElem h]
  rfl
theorem low_full {hp : List (List Nat)} (h : PackOk hp) {i c : Nat} (e : low hp i = some c) : c < hp.length ∧ Full hp c := by
  obtain ⟨hi, e2⟩ := low_get e
  have hm := List.mem_of_getLast? e2
  have hc := h.lt _ (List.getElem_mem hi) c hm
  refine ⟨hc, ?_⟩
  have h1 := h.cnt c hc
  have h2 : 0 < hp.flatten.count c := List.count_pos_iff.mpr (List.mem_flatten.mpr ⟨_, List.getElem_mem hi, hm⟩)
  have h3 : hp[c] ≠ [] := fun z => by rw [z] at h1; simp at h1; rw [h1] at h2; simp at h2
  exact ⟨_, by rw [low_of hc]; exact List.getLast?_eq_getLast h3⟩
theorem Full.lt {hp : List (List Nat)} {h : Nat} (f : Full hp h) : h < hp.length := by
  obtain ⟨c, e⟩ := f
  exact (low_get e).1
theorem lws_iff {hp : List (List Nat)} {fs : List Nat} {x c : Nat} : (lws hp fs)[x]? = some (some c) ↔ x ∉ fs ∧ low hp x = some c := by
  by_cases hx : x < hp.length
  · rw [lws_get (List.getElem?_eq_getElem hx), low_of hx]
    unfold lw1
    by_cases q : x ∈ fs
    · rw [if_pos (.inl q)]; simp [q]
    · by_cases q2 : hp[x] = []
      · rw [if_pos (.inr q2)]; simp [q2]
      · rw [if_neg (by simp [q, q2])]; simp [q]
  · rw [List.getElem?_eq_none (by rw [lws_len]; omega)]
    constructor
    · intro z; cases z
    · rintro ⟨_, e⟩
      exact absurd (low_get e).1 hx
theorem nx_low {hp : List (List Nat)} {fs : List Nat} {h c : Nat} (q : h ∉ fs) (e : low hp h = some c) : nx hp fs h = c := by
  unfold nx
  rw [if_neg q, e]
  rfl
theorem nx_full {hp : List (List Nat)} {fs : List Nat} {h : Nat} (p : PackOk hp) (f : Full hp h) : Full hp (nx hp fs h) := by
  by_cases q : h ∈ fs
  · unfold nx; rw [if_pos q]; exact f
  · obtain ⟨c, e⟩ := f
    rw [nx_low q e]
    exact (low_full p e).2
theorem orb_full {hp : List (List Nat)} {fs : List Nat} {h : Nat} (p : PackOk hp) (f : Full hp h) : ∀ k, Full hp (orb hp fs k h)
  | 0 => f
  | k + 1 => nx_full p (orb_full p f k)
theorem orb_stay {hp : List (List Nat)} {fs : List Nat} {h k : Nat} (e : orb hp fs k h ∈ fs) : ∀ n, orb hp fs (k + n) h ∈ fs
  | 0 => e
  | n + 1 => by
    have := orb_stay e n
    show nx hp fs (orb hp fs (k + n) h) ∈ fs
    unfold nx
    rw [if_pos this]
    exact this
theorem path_orb {hp : List (List Nat)} {fs : List Nat} : ∀ (P : List Nat) (y : Nat), Path (lws hp fs) P y → (∀ i, i < P.length → P[i]? = some (orb hp fs i (P.headD y))) ∧ orb hp fs P.length (P.headD y) = y
  | [], y, _ => ⟨nofun, rfl⟩
  | x :: P, y, h => by
    obtain ⟨h1, h2⟩ := path_orb P y h.2
    obtain ⟨q1, q2⟩ := lws_iff.mp h.1
    have e := nx_low q1 q2
    refine ⟨fun i hi => ?_, ?_⟩
    · cases i with
      | zero => rfl
      | succ i =>
        show P[i]? = some (orb hp fs (i + 1) x)
        rw [orb_succ, e]
        exact h1 i (by simp at hi; omega)
    · show orb hp fs (P.length + 1) x = y
      rw [orb_succ, e]
      exact h2
def orbL (hp : List (List Nat)) (fs : List Nat) (k h : Nat) : List Nat := (List.range k).map fun i => orb hp fs i h
theorem orbL_succ (hp : List (List Nat)) (fs : List Nat) (k h : Nat) : orbL hp fs (k + 1) h = orbL hp fs k h ++ [orb hp fs k h] := by
  unfold orbL
  rw [List.range_succ, List.map_append]
  rfl
theorem orb_path {hp : List (List Nat)} {fs : List Nat} {h : Nat} (p : PackOk hp) (f : Full hp h) : ∀ k, (∀ i, i < k → orb hp fs i h ∉ fs) → Path (lws hp fs) (orbL hp fs k h) (orb hp fs k h)
  | 0, _ => trivial
  | k + 1, q => by
    have ih := orb_path p f k fun i hi => q i (by omega)
    rw [orbL_succ, path_app]
    refine ⟨ih, ?_, trivial⟩
    obtain ⟨c, e⟩ := orb_full (fs := fs) p f k
    have qk := q k (by omega)
    refine lws_iff.mpr ⟨qk, ?_⟩
    show low hp (orb hp fs k h) = some (nx hp fs (orb hp fs k h))
    rw [nx_low qk e]
    exact e
theorem home_of_orb {hp : List (List Nat)} {fs : List Nat} (p : PackOk hp) : ∀ (n h : Nat), Full hp h → orb hp fs n h ∈ fs → Home hp fs h
  | 0, h, _, e => .first e
  | n + 1, h, f, e => by
    by_cases q : h ∈ fs
    · exact .first q
    · obtain ⟨c, ec⟩ := f
      rw [orb_succ, nx_low q ec] at e
      exact .step ec (home_of_orb p n c (low_full p ec).2 e)
theorem home_path {hp : List (List Nat)} {fs : List Nat} {h : Nat} (q : Home hp fs h) : ∃ (P : List Nat) (f : Nat), f ∈ fs ∧ Path (lws hp fs) P f ∧ P.headD f = h ∧ P.Nodup := by
  induction q with
  | first e => exact ⟨[], _, e, trivial, rfl, List.nodup_nil⟩
  | step e hc ih =>
    rename_i i c
    obtain ⟨P, f, hf, pt, hh, nd⟩ := ih
    by_cases q : i ∈ fs
    · exact ⟨[], _, q, trivial, rfl, List.nodup_nil⟩
    · by_cases q2 : i ∈ P
      · obtain ⟨a, b, rfl⟩ := List.append_of_mem q2
        exact ⟨i :: b, f, hf, (path_app.mp pt).2, rfl, (List.nodup_append.mp nd).2.1⟩
      · refine ⟨i :: P, f, hf, ⟨?_, pt⟩, rfl, List.nodup_cons.mpr ⟨q2, nd⟩⟩
        rw [hh]
        exact lws_iff.mpr ⟨q, e⟩
theorem path_lt {hp : List (List Nat)} {fs : List Nat} {P : List Nat} {y : Nat} (h : Path (lws hp fs) P y) : ∀ x ∈ P, x < hp.length := fun x hx => by
  obtain ⟨c, e, _⟩ := path_mem h hx
  exact (low_get (lws_iff.mp e).2).1
theorem home_iff {hp : List (List Nat)} {fs : List Nat} {h : Nat} (p : PackOk hp) (f : Full hp h) : Home hp fs h ↔ orb hp fs hp.length h ∈ fs := by
  refine ⟨fun q => ?_, home_of_orb p _ h f⟩
  obtain ⟨P, y, hy, pt, hh, nd⟩ := home_path q
  have hl := nodup_le hp.length P nd (path_lt pt)
  have := (path_orb P y pt).2
  rw [hh] at this
  have := orb_stay (hp := hp) (fs := fs) (h := h) (k := P.length) (by rw [this]; exact hy) (hp.length - P.length)
  rwa [Nat.add_sub_cancel' hl] at this
theorem ring_home {hp : List (List Nat)} {fs : List Nat} {r : List Nat} (c : Cyc (lws hp fs) r) {x : Nat} (q : Home hp fs x) : x ∈ r → False := by
  induction q with
  | first e =>
    intro hx
    obtain ⟨c, e2, _⟩ := path_mem c.2.2 hx
    exact (lws_iff.mp e2).1 e
  | step e _ ih =>
    intro hx
    obtain ⟨c', e2, _⟩ := path_mem c.2.2 hx
    have h2 := (lws_iff.mp e2).2
    rw [e] at h2
    cases h2
    exact ih (cyc_next c hx e2)
theorem cyc_drop {lw : List (Option Nat)} {P : List Nat} {h : Nat} (p : Path lw P h) (nd : P.Nodup) (hp : h ∈ P) : Cyc lw (P.drop (P.idxOf h)) := by
  have hi : P.idxOf h < P.length := List.idxOf_lt_length_of_mem hp
  have hd : P.drop (P.idxOf h) = h :: P.drop (P.idxOf h + 1) := by
    rw [List.drop_eq_getElem_cons hi]
    congr 1
    exact List.getElem_idxOf hi
  refine ⟨by rw [hd]; simp, nd.sublist (List.drop_sublist _ _), ?_⟩
  have : Path lw (P.take (P.idxOf h) ++ P.drop (P.idxOf h)) h := by rw [List.take_append_drop]; exact p
  have := (path_app.mp this).2
  rw [hd] at this ⊢
  exact this
theorem ex_ring {hp : List (List Nat)} {fs : List Nat} {h : Nat} (p : PackOk hp) (f : Full hp h) (n : ¬ Home hp fs h) : ∃ r, IsRing (lws hp fs) r := by
  obtain ⟨P, y, c⟩ := chase_ex (p.cll fs) [] (lws hp fs).length [] h (by simp) List.nodup_nil nofun (by rw [lws_len]; exact f.lt)
  obtain ⟨Q, eQ, pth, hhead, ndP, hq, fin⟩ := c.spec List.nodup_nil
  rw [List.nil_append] at eQ
  subst eQ
  rcases fin with z | z | z
  · exfalso
    apply n
    obtain ⟨h1, h2⟩ := path_orb P y pth
    rw [hhead] at h2
    obtain ⟨d, ed⟩ := orb_full (fs := fs) p f P.length
    refine home_of_orb p P.length h f ?_
    rw [h2] at ed ⊢
    by_cases q : y ∈ fs
    · exact q
    · rw [lws_iff.mpr ⟨q, ed⟩] at z
      cases z
  · cases z
  · exact ⟨_, (rot_ring (cyc_drop pth ndP z)).1⟩
theorem path_nodup {lw : List (Option Nat)} {x : Nat} : ∀ (s : List Nat) (z : Nat), Path lw (z :: s) x → x ∉ s → (z :: s).Nodup
  | [], z, _, _ => by simp
  | w :: s, z, h, n => by
    refine List.nodup_cons.mpr ⟨fun q => ?_, path_nodup s w h.2 fun q => n (List.mem_cons_of_mem _ q)⟩
    obtain ⟨B, C, e⟩ := List.append_of_mem q
    rw [e] at h n
    have h2 : Path lw (z :: C) x := (path_app (a := z :: B) (b := z :: C)).mp (by simpa using h) |>.2
    have := path_uniq (B ++ z :: C) C z h h2 n (fun q => n (by simp [q]))
    have := congrArg List.length this
    simp at this
    omega
def ags (hp : List (List Nat)) (fs : List Nat) (h : Nat) : List Nat := (List.range' 1 hp.length).filter fun i => decide (orb hp fs i h = h)
def lr (hp : List (List Nat)) (fs : List Nat) (h : Nat) : Option (List Nat) := match ags hp fs h with
  | k :: _ => if lmin (orbL hp fs k h) = h then some (orbL hp fs k h) else none
  | [] => none
def gr (hp : List (List Nat)) (fs : List Nat) (h : Nat) : Option (List Nat) := if h ∉ fs ∧ hp[h]?.getD [] ≠ [] ∧ orb hp fs hp.length h ∉ fs then lr hp fs h else none
theorem ags_mem {hp : List (List Nat)} {fs : List Nat} {h i : Nat} : i ∈ ags hp fs h ↔ (1 ≤ i ∧ i ≤ hp.length) ∧ orb hp fs i h = h := by
  unfold ags
  rw [List.mem_filter, List.mem_range'_1]
  simp
  intro _
  omega
theorem ags_head {hp : List (List Nat)} {fs : List Nat} {h k : Nat} {t : List Nat} (e : ags hp fs h = k :: t) : ∀ i, i ∈ ags hp fs h → k ≤ i := by
  have : (ags hp fs h).Pairwise (· < ·) := (List.pairwise_lt_range' (s := 1) (n := hp.length) (step := 1)).filter _
  rw [e] at this ⊢
  intro i hi
  rcases List.mem_cons.mp hi with z | z
  · omega
  · have := (List.pairwise_cons.mp this).1 i z
    omega
theorem full_of {hp : List (List Nat)} {h : Nat} (q : hp[h]?.getD [] ≠ []) : Full hp h := ⟨_, List.getLast?_eq_getLast q⟩
theorem orbL_cons (hp : List (List Nat)) (fs : List Nat) (k h : Nat) : orbL hp fs (k + 1) h = h :: (List.range k).map fun i => orb hp fs (i + 1) h := by
  unfold orbL
  rw [List.range_succ_eq_map, List.map_cons, List.map_map]
  rfl
theorem gr_iff {hp : List (List Nat)} {fs : List Nat} (p : PackOk hp) {h : Nat} {r : List Nat} : gr hp fs h = some r ↔ IsRing (lws hp fs) r ∧ r.headD 0 = h := by
  constructor
  · intro e
    unfold gr at e
    split at e
    · rename_i q
      obtain ⟨q1, q2, q3⟩ := q
      have f := full_of q2
      have hn : ∀ i, i ≤ hp.length → orb hp fs i h ∉ fs := fun i hi z => q3 (by
        have := orb_stay z (hp.length - i)
        rwa [Nat.add_sub_cancel' hi] at this)
      unfold lr at e
      split at e
      · rename_i k t ek
        split at e
        · rename_i hmin
          cases e
          have hk := ags_mem.mp (by rw [ek]; exact List.mem_cons_self .. : k ∈ ags hp fs h)
          have pt := orb_path (fs := fs) p f k fun i hi => hn i (by omega)
          rw [hk.2] at pt
          cases k with
          | zero => omega
          | succ k =>
            rw [orbL_cons] at pt hmin ⊢
            have hnd := path_nodup _ h pt (fun z => by
              obtain ⟨i, hi, ei⟩ := List.mem_map.mp z
              rw [List.mem_range] at hi
              have := ags_head ek (i + 1) (ags_mem.mpr ⟨by omega, ei⟩)
              omega)
            refine ⟨⟨⟨by simp, hnd, pt⟩, fun x hx => ?_⟩, rfl⟩
            have := lmin_le hx
            rw [hmin] at this
            exact this
        · cases e
      · cases e
    · cases e
  · rintro ⟨⟨c, hm⟩, hh⟩
    have hmem := head_mem c.1
    rw [hh] at hmem hm
    obtain ⟨d, ed, _⟩ := path_mem c.2.2 hmem
    obtain ⟨q1, q2⟩ := lws_iff.mp ed
    have f : Full hp h := ⟨d, q2⟩
    have q2' : hp[h]?.getD [] ≠ [] := fun z => by unfold low at q2; rw [z] at q2; cases q2
    have q3 : orb hp fs hp.length h ∉ fs := fun z => ring_home c ((home_iff p f).mpr z) hmem
    have pt := c.2.2
    rw [hh] at pt
    obtain ⟨o1, o2⟩ := path_orb r h pt
    have hhd : r.headD h = h := by cases r with | nil => rfl | cons a r => exact hh
    rw [hhd] at o1 o2
    have hrl := nodup_le hp.length r c.2.1 (path_lt pt)
    have hr0 : 0 < r.length := List.length_pos_iff.mpr c.1
    have hin := ags_mem.mpr ⟨⟨hr0, hrl⟩, o2⟩
    unfold gr
    rw [if_pos ⟨q1, q2', q3⟩]
    unfold lr
    cases ek : ags hp fs h with
    | nil => rw [ek] at hin; cases hin
    | cons k t =>
      have hk := ags_mem.mp (by rw [ek]; exact List.mem_cons_self .. : k ∈ ags hp fs h)
      have hkr := ags_head ek _ hin
      have hkk : k = r.length := by
        by_cases z : k < r.length
        · exfalso
          have h1 := o1 k z
          have h2 := o1 0 hr0
          rw [hk.2] at h1
          have h3 : orb hp fs 0 h = h := rfl
          rw [h3] at h2
          have := (List.getElem?_inj hr0 c.2.1).mp (h2.trans h1.symm)
          omega
        · omega
      have e : orbL hp fs k h = r := by
        rw [hkk]
        refine List.ext_getElem? fun i => ?_
        unfold orbL
        by_cases z : i < r.length
        · rw [List.getElem?_map, List.getElem?_range z, o1 i z]
          rfl
        · rw [List.getElem?_eq_none (by simp; omega), List.getElem?_eq_none (by omega)]
      simp only [e]
      rw [if_pos]
      have h1 := lmin_le hmem
      have h2 := hm _ (lmin_mem c.1)
      omega
end DL

namespace DL
open PySem L2
def rgs (hp : List (List Nat)) (fs : List Nat) : List (List Nat) := (List.range hp.length).filterMap (gr hp fs)
theorem rgs_mem {hp : List (List Nat)} {fs : List Nat} (p : PackOk hp) (r : List Nat) : r ∈ rgs hp fs ↔ IsRing (lws hp fs) r := by
  unfold rgs
  rw [List.mem_filterMap]
  constructor
  · rintro ⟨h, _, e⟩
    exact ((gr_iff p).mp e).1
  · intro c
    exact ⟨r.headD 0, List.mem_range.mpr (path_lt c.1.2.2 _ (head_mem c.1.1)), (gr_iff p).mpr ⟨c, rfl⟩⟩
theorem rgs_lt {hp : List (List Nat)} {fs : List Nat} (p : PackOk hp) : (rgs hp fs).Pairwise (· < ·) := by
  unfold rgs
  refine List.Pairwise.filterMap (R := (· < ·)) (S := (· < ·)) _ (fun a b hab r hr r' hr' => ?_) List.pairwise_lt_range
  obtain ⟨c1, e1⟩ := (gr_iff p).mp hr
  obtain ⟨c2, e2⟩ := (gr_iff p).mp hr'
  have n1 := c1.1.1
  have n2 := c2.1.1
  cases r with
  | nil => exact absurd rfl n1
  | cons x r =>
    cases r' with
    | nil => exact absurd rfl n2
    | cons y r' =>
      simp at e1 e2
      subst e1 e2
      exact List.cons_lt_cons_iff.mpr (.inl hab)
theorem rgs_eq {hp : List (List Nat)} {fs : List Nat} (p : PackOk hp) {F : List (List Nat)} (nd : F.Nodup) (h : ∀ r, r ∈ F ↔ IsRing (lws hp fs) r) : (F.mergeSort fun a b => decide (a ≤ b)) = rgs hp fs := by
  refine srt_eq ?_ ((rgs_lt p).imp fun h => List.le_of_lt h)
  refine (List.perm_ext_iff_of_nodup nd ?_).mpr fun r => by rw [h, rgs_mem p]
  exact (rgs_lt p).imp fun h e => by subst e; exact List.lt_irrefl _ h
theorem ringsof_ok' (S : Sto) {hp : List (List Nat)} (p : PackOk hp) (fs : List Nat) : f_rings_of [.lst ((lws hp fs).map eO)] S = .ok (.lst ((rgs hp fs).map eR)) S := by
  obtain ⟨F, h1, h2, e⟩ := ringsof_ok S (lws hp fs) (p.cll fs) (by rw [lws_len]; exact p.le)
  rw [e, rgs_eq p h1 h2]
theorem rings_ok (S : Sto) {hp : List (List Nat)} {fs : List Nat} (p : PackOk hp) (hf : FirstsOk hp.length fs) : f_rings [insPack hp, eR fs] S = .ok (.lst ((rgs hp fs).map eR)) S := by
  refine fun_eq rfl fun F hF => ?_
  simp [p_rings, checkfirsts_ok S _ _ hf, lowestof_ok S hp fs p.le, ringsof_ok' S p fs]
  exact hF _ _ (finP_self (by simp) ⟨rfl, rfl⟩)
theorem eqD_rg (L : List (List Nat)) : eqD (.lst (L.map eR)) (.lst []) = decide (L = []) := by
  refine eqD_dec (by simp) (by simp) ?_
  simp
theorem tree_ok (S : Sto) {hp : List (List Nat)} {fs : List Nat} (p : PackOk hp) (hf : FirstsOk hp.length fs) : f_tree [insPack hp, eR fs] S = .ok (if rgs hp fs = [] then .tup ((lws hp fs).map eO) else .non) S := by
  refine fun_eq rfl fun F hF => ?_
  by_cases q : rgs hp fs = []
  · simp [p_tree, checkfirsts_ok S _ _ hf, lowestof_ok S hp fs p.le, ringsof_ok' S p fs, v_eq, eqD_rg, q]
    exact hF _ _ (finP_self (by simp) ⟨by rw [if_pos q], rfl⟩)
  · simp [p_tree, checkfirsts_ok S _ _ hf, lowestof_ok S hp fs p.le, ringsof_ok' S p fs, v_eq, eqD_rg, q]
    exact hF _ _ (finP_self (by simp) ⟨by rw [if_neg q], rfl⟩)
theorem rows_get {hp : List (List Nat)} {i : Nat} (h : i < hp.length) : (hp.map eR)[i]? = some (eR hp[i]) := by
  rw [List.getElem?_map, List.getElem?_eq_getElem h]; rfl
theorem last_get {r : List Nat} {c : Nat} (e : r.getLast? = some c) : (r.map eN)[r.length - 1]? = some (eN c) := by
  rw [List.getElem?_map, ← List.getLast?_eq_getElem?, e]; rfl
theorem lhome_ok (S : Sto) {hp : List (List Nat)} {fs : List Nat} (p : PackOk hp) {h : Nat} (f : Full hp h) : f_l_home [eH hp, eR fs, eN h] S = .ok (.bl (decide (orb hp fs hp.length h ∈ fs))) S := by
  have h8 := p.le
  refine fun_eq rfl fun F hF => ?_
  have hrg := okRg_0 (n := hp.length) (by omega)
  simp [p_l_home, hrg, rgD_nat]
  refine out_for (fun k σ S' => ∃ j4, σ = [eH hp, eR fs, eN h, eN (orb hp fs k h), j4] ∧ S' = S) (fun k d σ S' e q => ?_) (fun σ S' q => ?_) ⟨_, rfl, rfl⟩
  · obtain ⟨j4, rfl, rfl⟩ := q
    refine ⟨by simp, _, rfl, fun F hF => ?_⟩
    by_cases q : orb hp fs k h ∈ fs
    · simp [p_l_home_b0, q]
      refine hF _ _ ⟨d, ?_, rfl⟩
      show _ = [eH hp, eR fs, eN h, eN (nx hp fs (orb hp fs k h)), d]
      unfold nx
      rw [if_pos q]
    · obtain ⟨c, ec⟩ := orb_full (fs := fs) p f k
      obtain ⟨hi, el⟩ := low_get ec
      have hne : hp[orb hp fs k h] ≠ [] := fun z => by rw [z] at el; cases el
      have hpos := List.length_pos_iff.mpr hne
      have h88 := p.sz _ (List.getElem_mem hi)
      have es : ((hp[orb hp fs k h].length : Int) - 1) = ((hp[orb hp fs k h].length - 1 : Nat) : Int) := by omega
      simp [p_l_home_b0, q, rows_get hi, es, last_get el]
      refine hF _ _ ⟨d, ?_, rfl⟩
      show _ = [eH hp, eR fs, eN h, eN (nx hp fs (orb hp fs k h)), d]
      rw [nx_low q ec]
  · obtain ⟨j4, rfl, rfl⟩ := q
    simp
    exact hF _ _ (finP_self (by simp) ⟨rfl, rfl⟩)
section
variable {S J U : Sto} {x y z o : Ob}
@[simp high] theorem stK_get : (S ++ x :: (J ++ z :: U))[S.length + (J.length + 1)]? = some z := by
  have e : S ++ x :: (J ++ z :: U) = (S ++ x :: J) ++ z :: U := by simp
  have l : S.length + (J.length + 1) = (S ++ x :: J).length := by simp
  rw [e, l]
  exact sto_get0
@[simp high] theorem stK_set : (S ++ x :: (J ++ z :: U)).set (S.length + (J.length + 1)) o = S ++ x :: (J ++ o :: U) := by
  have e : S ++ x :: (J ++ z :: U) = (S ++ x :: J) ++ z :: U := by simp
  have l : S.length + (J.length + 1) = (S ++ x :: J).length := by simp
  rw [e, l, sto_set0]
  simp
end
theorem orbL_get (hp : List (List Nat)) (fs : List Nat) {k i h : Nat} (hi : i < k) : ((orbL hp fs k h).map eN)[i]? = some (eN (orb hp fs i h)) := by
  unfold orbL
  rw [List.getElem?_map, List.getElem?_map, List.getElem?_range hi]
  rfl
theorem orbL_getE (hp : List (List Nat)) (fs : List Nat) (k i h : Nat) (hi : i < (orbL hp fs k h).length) : (orbL hp fs k h)[i] = orb hp fs i h := by simp [orbL]
@[simp] theorem orbL_len (hp : List (List Nat)) (fs : List Nat) (k h : Nat) : (orbL hp fs k h).length = k := by simp [orbL]
theorem orbL_take (hp : List (List Nat)) (fs : List Nat) {k n h : Nat} (hk : k ≤ n) : (orbL hp fs n h).take k = orbL hp fs k h := by
  unfold orbL
  rw [← List.map_take, List.take_range, Nat.min_eq_left hk]
set_option maxHeartbeats 1000000 in
theorem lrings_ok (S : Sto) {hp : List (List Nat)} {fs : List Nat} (p : PackOk hp) : f_l_rings [eH hp, eR fs] S = .ok (.lst ((rgs hp fs).map eR)) S := by
  have h8 := p.le
  refine fun_eq rfl fun F hF => ?_
  have hrg := okRg_0 (n := hp.length) (by omega)
  simp [p_l_rings, hrg, rgD_nat]
  refine out_for (fun k σ S' => ∃ (J : Sto) (j3 j4 j5 j6 j7 : D), σ = [eH hp, eR fs, .ref S.length, j3, j4, j5, j6, j7] ∧ S' = S ++ .lst (((List.range k).filterMap (gr hp fs)).map eR) :: J) (fun k d σ S' e q => ?_) (fun σ S' q => ?_) ⟨[], _, _, _, _, _, rfl, rfl⟩
  · obtain ⟨J, j3, j4, j5, j6, j7, rfl, rfl⟩ := q
    have hk : k < hp.length := by
      have := (List.getElem?_eq_some_iff.mp e).1
      simpa using this
    have ed : d = eN k := by
      rw [List.getElem?_map, List.getElem?_range hk] at e
      simpa using e.symm
    subst ed
    obtain ⟨L, hL⟩ : ∃ L, L = (List.range k).filterMap (gr hp fs) := ⟨_, rfl⟩
    have hLl : L.length ≤ k := by
      have := List.length_filterMap_le (gr hp fs) (List.range k)
      rw [← hL] at this
      simpa using this
    have hLk : L.length < 100000 := by omega
    have hnext : (List.range (k + 1)).filterMap (gr hp fs) = L ++ (gr hp fs k).toList := by
      rw [List.range_succ, List.filterMap_append, ← hL]
      cases q : gr hp fs k <;> simp [q]
    rw [← hL]
    have hget : hp[k]?.getD [] = hp[k] := by rw [List.getElem?_eq_getElem hk]; rfl
    refine ⟨by simp, _, rfl, fun F' hF' => ?_⟩
    by_cases c1 : k ∈ fs
    · have hg : gr hp fs k = none := if_neg (by simp [c1])
      simp [p_l_rings_b1, c1]
      exact hF' _ _ ⟨J, _, _, _, _, _, rfl, by rw [hnext, hg]; simp⟩
    · by_cases c2 : hp[k] = []
      · have hg : gr hp fs k = none := if_neg (by simp [c2, hget])
        simp [p_l_rings_b1, c1, rows_get hk, v_ne, c2]
        exact hF' _ _ ⟨J, _, _, _, _, _, rfl, by rw [hnext, hg]; simp⟩
      · have f : Full hp k := full_of (by rw [hget]; exact c2)
        have ho := lhome_ok (fs := fs) (S ++ .lst (L.map eR) :: J) p f
        by_cases c3 : orb hp fs hp.length k ∈ fs
        · have hg : gr hp fs k = none := if_neg (by simp [c3])
          simp [p_l_rings_b1, c1, rows_get hk, v_ne, c2, ho, c3]
          exact hF' _ _ ⟨J, _, _, _, _, _, rfl, by rw [hnext, hg]; simp⟩
        · have hg : gr hp fs k = lr hp fs k := if_pos ⟨c1, by rw [hget]; exact c2, c3⟩
          simp [p_l_rings_b1, c1, rows_get hk, v_ne, c2, ho, c3, hrg, rgD_nat]
          refine out_for (fun i σ S' => ∃ j5 j6 : D, σ = [eH hp, eR fs, .ref S.length, eN k, .ref (S.length + (J.length + 1)), j5, j6, j7] ∧ S' = S ++ .lst (L.map eR) :: (J ++ [.lst ((orbL hp fs (i + 1) k).map eN)])) (fun i d σ S' e q => ?_) (fun σ S' q => ?_) ⟨_, _, rfl, rfl⟩
          · obtain ⟨j5, j6, rfl, rfl⟩ := q
            have hi : i < hp.length := by
              have := (List.getElem?_eq_some_iff.mp e).1
              simpa using this
            have ed : d = eN i := by
              rw [List.getElem?_map, List.getElem?_range hi] at e
              simpa using e.symm
            subst ed
            have nfs : orb hp fs i k ∉ fs := fun z => c3 (by
              have := orb_stay z (hp.length - i)
              rwa [Nat.add_sub_cancel' (Nat.le_of_lt hi)] at this)
            obtain ⟨c, ec⟩ := orb_full (fs := fs) p f i
            obtain ⟨hio, el⟩ := low_get ec
            have hne : hp[orb hp fs i k] ≠ [] := fun z => by rw [z] at el; cases el
            have hpos := List.length_pos_iff.mpr hne
            have h88 := p.sz _ (List.getElem_mem hio)
            have es : ((hp[orb hp fs i k].length : Int) - 1) = ((hp[orb hp fs i k].length - 1 : Nat) : Int) := by omega
            have hi9 : i + 1 < 100000 := by omega
            refine ⟨by simp, _, rfl, fun F'' hF'' => ?_⟩
            simp [p_l_rings_b0, orbL_getE, rows_get hio, es, last_get el, hi9]
            refine hF'' _ _ ⟨_, _, rfl, ?_⟩
            rw [orbL_succ hp fs (i + 1)]
            have : orb hp fs (i + 1) k = c := nx_low nfs ec
            rw [this, List.map_append]
            rfl
          · obtain ⟨j5, j6, rfl, rfl⟩ := q
            have hrg2 : okRg (1, (hp.length : Int) + 1) = true := by
              simp [okRg] <;> omega
            have hrd : rgD 1 ((hp.length : Int) + 1) = (List.range' 1 hp.length).map eN := by
              unfold rgD
              rw [show ((hp.length : Int) + 1 - 1).toNat = hp.length by omega, List.range'_eq_map_range, List.map_map]
              refine List.map_congr_left fun i _ => ?_
              show D.int (1 + (i : Int)) = D.int ((1 + i : Nat) : Int)
              congr 1
            obtain ⟨S', hS'⟩ : ∃ S', S' = S ++ .lst (L.map eR) :: (J ++ [.lst ((orbL hp fs (hp.length + 1) k).map eN)]) := ⟨_, rfl⟩
            have hcomp := comp_pure (S := S') (src := []) (pair := false) (t := .nm 5) (wσ := [eH hp, eR fs, .ref S.length, eN k, .ref (S.length + (J.length + 1)), .dead, j6, j7]) (c := p_l_rings_c0) (e := p_l_rings_e0) eN (fun i => decide (orb hp fs i k = k)) eN (List.range' 1 hp.length) [] (fun i hi => by
              rw [List.mem_range'_1] at hi
              have hi2 : i < hp.length + 1 := by omega
              refine ⟨_, rfl, ?_, fun _ => ?_⟩
              · subst hS'
                simp [p_l_rings_c0, orbL_getE, hi2]
                omega
              · simp [p_l_rings_e0]) (by simp; omega)
            rw [hS', List.nil_append, show List.filter (fun i => decide (orb hp fs i k = k)) (List.range' 1 hp.length) = ags hp fs k from rfl] at hcomp
            cases ek : ags hp fs k with
            | nil =>
              rw [ek] at hcomp
              have hgn : gr hp fs k = none := by rw [hg]; unfold lr; rw [ek]
              simp [hrg2, hrd, wipeD, hcomp, v_ne]
              exact hF' _ _ ⟨J ++ [.lst ((orbL hp fs (hp.length + 1) k).map eN)], _, _, _, _, _, rfl, by rw [hnext, hgn]; simp⟩
            | cons a t =>
              rw [ek] at hcomp
              have ha := (ags_mem.mp (by rw [ek]; exact List.mem_cons_self .. : a ∈ ags hp fs k)).1
              have htk : ((orbL hp fs (hp.length + 1) k).map eN).take a = (orbL hp fs a k).map eN := by
                rw [← List.map_take, orbL_take hp fs (by omega)]
              have hne : orbL hp fs a k ≠ [] := fun z => by
                have := congrArg List.length z
                simp at this
                omega
              by_cases hm : lmin (orbL hp fs a k) = k
              · have hgn : gr hp fs k = some (orbL hp fs a k) := by rw [hg]; unfold lr; rw [ek]; exact if_pos hm
                have hmi : ((lmin (orbL hp fs a k) : Nat) : Int) = (k : Int) := by omega
                simp [hrg2, hrd, wipeD, hcomp, v_ne, htk, v_minR _ _ hne, hmi, hLk]
                exact hF' _ _ ⟨J ++ [.lst ((orbL hp fs (hp.length + 1) k).map eN)], _, _, _, _, _, rfl, by rw [hnext, hgn]; simp⟩
              · have hgn : gr hp fs k = none := by rw [hg]; unfold lr; rw [ek]; exact if_neg hm
                have hmi : ¬ ((lmin (orbL hp fs a k) : Nat) : Int) = (k : Int) := by omega
                simp [hrg2, hrd, wipeD, hcomp, v_ne, htk, v_minR _ _ hne, hmi, hLk]
                exact hF' _ _ ⟨J ++ [.lst ((orbL hp fs (hp.length + 1) k).map eN)], _, _, _, _, _, rfl, by rw [hnext, hgn]; simp⟩
  · obtain ⟨J, j3, j4, j5, j6, j7, rfl, rfl⟩ := q
    simp
    refine hF _ _ (finP_app (d' := .lst ((rgs hp fs).map eR)) ?_ ⟨rfl, rfl⟩)
    refine fz_lst (Nat.le_refl _) ?_ (by simp)
    rw [sto_get0]
    simp [rgs]
end DL

namespace DL
open PySem L2
def lsO (r : List Nat) : Ob := .lst (r.map eN)
def SameRows (hp hp' : List (List Nat)) : Prop := hp'.map List.length = hp.map List.length ∧ hp'.flatten.Perm hp.flatten
theorem flat_perm : ∀ {l : List (List Nat)} {k : Nat} {r r' : List Nat}, l[k]? = some r → r'.Perm r → (l.set k r').flatten.Perm l.flatten
  | x :: l, 0, r, r', e, p => by
    simp at e
    subst e
    simpa using p.append_right _
  | x :: l, k + 1, r, r', e, p => by
    have := flat_perm (l := l) (k := k) (by simpa using e) p
    simpa using this.append_left x
theorem len_set {l : List (List Nat)} {k : Nat} {r r' : List Nat} (e : l[k]? = some r) (h : r'.length = r.length) : (l.set k r').map List.length = l.map List.length := by
  refine List.ext_getElem? fun i => ?_
  rw [List.getElem?_map, List.getElem?_map]
  by_cases q : k = i
  · subst q
    have hk := (List.getElem?_eq_some_iff.mp e).1
    rw [List.getElem?_set_self hk, e]
    simp [h]
  · rw [List.getElem?_set_ne q]
theorem PackOk.same {hp hp' : List (List Nat)} (p : PackOk hp) (s : SameRows hp hp') : PackOk hp' := by
  obtain ⟨s1, s2⟩ := s
  have hl : hp'.length = hp.length := by simpa using congrArg List.length s1
  refine ⟨by rw [hl]; exact p.pos, by rw [hl]; exact p.le, fun r hr => ?_, fun r hr c hc => ?_, fun i hi => ?_⟩
  · have : r.length ∈ hp.map List.length := by rw [← s1]; exact List.mem_map_of_mem hr
    obtain ⟨r', h1, h2⟩ := List.mem_map.mp this
    rw [← h2]
    exact p.sz r' h1
  · have : c ∈ hp.flatten := s2.mem_iff.mp (List.mem_flatten.mpr ⟨r, hr, hc⟩)
    obtain ⟨r', h1, h2⟩ := List.mem_flatten.mp this
    rw [hl]
    exact p.lt r' h1 c h2
  · rw [s2.count_eq, p.cnt i (by omega)]
    have h1 : (hp'.map List.length)[i]? = (hp.map List.length)[i]? := by rw [s1]
    rw [List.getElem?_map, List.getElem?_map, List.getElem?_eq_getElem hi, List.getElem?_eq_getElem (by omega)] at h1
    simpa using h1.symm
section
variable {h : Hh} {T X : Sto} {k : Nat} {o : Ob}
@[simp] theorem hsX_get : (hs h ++ (T ++ X))[2 + (T.length + k)]? = X[k]? := by
  rw [← List.append_assoc, List.getElem?_append_right (by simp), show 2 + (T.length + k) - (hs h ++ T).length = k by simp; omega]
@[simp] theorem hsX_set : (hs h ++ (T ++ X)).set (2 + (T.length + k)) o = hs h ++ (T ++ X.set k o) := by
  rw [← List.append_assoc, List.set_append_right _ _ (by simp), show 2 + (T.length + k) - (hs h ++ T).length = k by simp; omega, List.append_assoc]
end
theorem lsO_get {hp : List (List Nat)} {k : Nat} (hk : k < hp.length) : (hp.map lsO)[k]? = some (.lst (hp[k].map eN)) := by
  rw [List.getElem?_map, List.getElem?_eq_getElem hk]; rfl
set_option maxHeartbeats 1000000 in
theorem homed_ok (h : Hh) (T : Sto) {hp : List (List Nat)} (fs : List Nat) (p : PackOk hp) : ∃ (hp' : List (List Nat)) (h' : Hh), f_l_homed [.ref 1, eH hp, eR fs] (hs h ++ T) = .ok (eH hp') (hs h' ++ T) ∧ SameRows hp hp' := by
  have h8 := p.le
  have := fun_out (slots := 11) (n := 3) (m := p_l_homed) (ds := [.ref 1, eH hp, eR fs]) (S := hs h ++ T) (Q := fun d S => ∃ (hp' : List (List Nat)) (h' : Hh), d = eH hp' ∧ S = hs h' ++ T ∧ SameRows hp hp') rfl (fun F hF => by
    have hrg := okRg_0 (n := hp.length) (by omega)
    obtain ⟨ds, S', ec, eds, eS⟩ := out_comp (S0 := hs h ++ T) (src := []) (pair := false) (t := .nm 3) (wσ := [.ref 1, eH hp, eR fs, .dead, .dead, .dead, .dead, .dead, .dead, .dead, .dead]) (c := fun _ S => .ok true S) (e := p_l_homed_e0) (Q := fun ds S => ds = (List.range hp.length).map (fun i => D.ref (2 + (T.length + i))) ∧ S = hs h ++ (T ++ hp.map lsO)) (fun k acc S => acc = (List.range k).map (fun i => D.ref (2 + (T.length + i))) ∧ S = hs h ++ (T ++ (hp.take k).map lsO)) (items := hp.map eR) (fun k d acc S e q => by
      obtain ⟨rfl, rfl⟩ := q
      have hk : k < hp.length := by
        have := (List.getElem?_eq_some_iff.mp e).1
        simpa using this
      have ed : d = eR hp[k] := by
        rw [rows_get hk] at e
        exact (Option.some.inj e).symm
      subst ed
      refine ⟨by simp, _, rfl, true, _, rfl, fun _ => ⟨by simp; omega, .ref (2 + (T.length + k)), hs h ++ (T ++ (hp.take (k + 1)).map lsO), ?_, ?_, rfl⟩, nofun⟩
      · have ht : (hp.take (k + 1)).map lsO = (hp.take k).map lsO ++ [lsO hp[k]] := by rw [List.take_succ, List.getElem?_eq_getElem hk, List.map_append]; rfl
        rw [ht]
        obtain ⟨X, hX⟩ : ∃ X, X = (hp.take k).map lsO := ⟨_, rfl⟩
        have hXl : X.length = k := by rw [hX]; simp; omega
        rw [← hX]
        subst hXl
        simp [p_l_homed_e0, lsO]
      · rw [List.range_succ, List.map_append]
        rfl) (fun acc S q => by
      obtain ⟨rfl, rfl⟩ := q
      refine ⟨by simp, by simp, ?_⟩
      rw [List.length_map, List.take_length]) (acc := []) (S := hs h ++ T) ⟨rfl, by simp⟩
    subst eds eS
    simp [p_l_homed, wipeD, ec, hrg, rgD_nat]
    refine out_for (fun k σ S => ∃ (hp' : List (List Nat)) (h' : Hh) (j3 j5 j6 j7 j8 : D), σ = [.ref 1, eH hp, eR fs, j3, .lst ((List.range hp.length).map fun i => D.ref (2 + (T.length + i))), j5, j6, j7, j8, .dead, .dead] ∧ S = hs h' ++ (T ++ hp'.map lsO) ∧ SameRows hp hp') (fun k d σ S e q => ?_) (fun σ S q => ?_) ⟨hp, h, _, _, _, _, _, rfl, rfl, rfl, List.Perm.refl _⟩
    · obtain ⟨hp', h1, j3, j5, j6, j7, j8, rfl, rfl, sr⟩ := q
      have hk : k < hp.length := by
        have := (List.getElem?_eq_some_iff.mp e).1
        simpa using this
      have ed : d = eN k := by
        rw [List.getElem?_map, List.getElem?_range hk] at e
        simpa using e.symm
      subst ed
      have hl : hp'.length = hp.length := by simpa using congrArg List.length sr.1
      have hk' : k < hp'.length := by omega
      have p' := p.same sr
      have h88 := p'.sz _ (List.getElem_mem hk')
      have hrk := okRg_0 (n := hp'[k].length) (by omega)
      have hcomp := comp_pure (S := hs h1 ++ (T ++ hp'.map lsO)) (src := []) (pair := false) (t := .nm 9) (wσ := [.ref 1, eH hp, eR fs, eN k, .lst ((List.range hp.length).map fun i => D.ref (2 + (T.length + i))), j5, j6, j7, j8, .dead, .dead]) (c := p_l_homed_c0) (e := p_l_homed_e1) eN (fun i => decide (hp'[k][i]?.getD 0 ∈ fs)) eN (List.range hp'[k].length) [] (fun i hi => by
        rw [List.mem_range] at hi
        refine ⟨_, rfl, ?_, fun _ => ?_⟩
        · simp [p_l_homed_c0, hk, lsO_get hk', hi]
        · simp [p_l_homed_e1]) (by simp; omega)
      obtain ⟨so, hso⟩ : ∃ so, so = (List.range hp'[k].length).filter (fun i => decide (hp'[k][i]?.getD 0 ∈ fs)) := ⟨_, rfl⟩
      have hsm : ∀ i ∈ so, i < hp'[k].length := fun i hi => by
        rw [hso] at hi
        exact List.mem_range.mp (List.mem_filter.mp hi).1
      have hsl : so.length ≤ 8 := by
        have := List.length_filter_le (fun i => decide (hp'[k][i]?.getD 0 ∈ fs)) (List.range hp'[k].length)
        rw [← hso, List.length_range] at this
        omega
      rw [List.nil_append, ← hso] at hcomp
      refine ⟨by simp, _, rfl, fun F' hF' => ?_⟩
      by_cases hn : so = []
      · subst hn
        simp [p_l_homed_b0, hk, lsO_get hk', hrk, rgD_nat, wipeD, hcomp, v_ne]
        exact hF' _ _ ⟨hp', h1, _, _, _, _, _, rfl, rfl, sr⟩
      · obtain ⟨a, h2, e2, ha⟩ := next_ok h1 (T ++ hp'.map lsO) 2 (by omega) (by omega)
        have hne : eqD (.lst (so.map eN)) (.lst []) = false := by
          cases so with
          | nil => exact absurd rfl hn
          | cons b so => simp
        by_cases ha0 : a = 0
        · subst ha0
          have hp0 := List.length_pos_iff.mpr hn
          obtain ⟨b, h3, e3, hb⟩ := next_ok h2 (T ++ hp'.map lsO) (so.length : Int) (by omega) (by omega)
          have hb' : b < so.length := by omega
          have hi := hsm _ (List.getElem_mem hb')
          have es : ((hp'[k].length : Int) - 1) = ((hp'[k].length - 1 : Nat) : Int) := by omega
          have hi2 : hp'[k].length - 1 < hp'[k].length := by omega
          simp [p_l_homed_b0, hk, lsO_get hk', hrk, rgD_nat, wipeD, hcomp, v_ne, hne, e2, e3, hb', es, hi, hi2]
          have hx1 : ixN hp'[k].length ((hp'[k].length - 1 : Nat) : Int) = some (hp'[k].length - 1) := ixN_n hi2
          obtain ⟨r1, hr1⟩ : ∃ r1, r1 = hp'[k].set (hp'[k].length - 1) hp'[k][so[b]] := ⟨_, rfl⟩
          obtain ⟨hp1, hhp1⟩ : ∃ hp1, hp1 = hp'.set k r1 := ⟨_, rfl⟩
          have hs1 : (hp'.map lsO).set k (.lst ((hp'[k].map eN).set (hp'[k].length - 1) (eN hp'[k][so[b]]))) = hp1.map lsO := by
            rw [hhp1, hr1, List.map_set]
            unfold lsO
            rw [List.map_set]
          have hk1 : k < hp1.length := by rw [hhp1]; simpa using hk'
          have hg1 : hp1[k] = r1 := by simp [hhp1]
          have hg2 := lsO_get hk1
          rw [hg1] at hg2
          have hl1 : r1.length = hp'[k].length := by rw [hr1]; simp
          have hx2 : ixN r1.length ((so[b] : Nat) : Int) = some so[b] := ixN_n (by omega)
          rw [hx1]
          simp [hs1, hk, hg2, hx2]
          refine hF' _ _ ⟨hp'.set k (r1.set so[b] hp'[k][hp'[k].length - 1]), h3, _, _, _, _, _, rfl, ?_, ?_⟩
          · congr 1
            rw [hhp1, List.map_set, List.set_set, List.map_set]
            unfold lsO
            rw [List.map_set]
          · have hpm : (r1.set so[b] hp'[k][hp'[k].length - 1]).Perm hp'[k] := by
              rw [hr1]
              exact List.set_set_perm hi2 hi
            refine ⟨?_, ?_⟩
            · rw [len_set (List.getElem?_eq_getElem hk') hpm.length_eq]
              exact sr.1
            · exact (flat_perm (List.getElem?_eq_getElem hk') hpm).trans sr.2
        · simp [p_l_homed_b0, hk, lsO_get hk', hrk, rgD_nat, wipeD, hcomp, v_ne, hne, e2, ha0]
          exact hF' _ _ ⟨hp', h2, _, _, _, _, _, rfl, rfl, sr⟩
    · obtain ⟨hp', h1, j3, j5, j6, j7, j8, rfl, rfl, sr⟩ := q
      have hl : hp'.length = hp.length := by simpa using congrArg List.length sr.1
      have hcomp := comp_all (S := hs h1 ++ (T ++ hp'.map lsO)) (src := []) (pair := false) (t := .nm 10) (wσ := [.ref 1, eH hp, eR fs, j3, .lst ((List.range hp.length).map fun i => D.ref (2 + (T.length + i))), j5, j6, j7, j8, .dead, .dead]) (e := p_l_homed_e2) (fun i => D.ref (2 + (T.length + i))) (fun i => eR (hp'[i]?.getD [])) (List.range hp.length) (fun i hi => by
        rw [List.mem_range] at hi
        have hi' : i < hp'.length := by omega
        refine ⟨_, rfl, ?_⟩
        have he : hp'[i]?.getD [] = hp'[i] := by rw [List.getElem?_eq_getElem hi']; rfl
        rw [he]
        simp [p_l_homed_e2, lsO_get hi']) (by simp; omega)
      have hz : ((List.range hp.length).map fun i => eR (hp'[i]?.getD [])) = hp'.map eR := by
        rw [← hl]
        refine List.ext_getElem? fun i => ?_
        by_cases q : i < hp'.length
        · rw [List.getElem?_map, List.getElem?_range q, List.getElem?_map, List.getElem?_eq_getElem q]
          simp [q]
        · rw [List.getElem?_eq_none (by simp; omega), List.getElem?_eq_none (by simp; omega)]
      rw [hz] at hcomp
      simp [wipeD, hcomp]
      exact hF _ _ (finP_hsL (by simp) ⟨hp', h1, rfl, rfl, sr⟩))
  obtain ⟨d, S2, e, hp', h', rfl, rfl, hr⟩ := this
  exact ⟨hp', h', e, hr⟩
end DL

namespace DL
open PySem L2
def zat (zs : List Nat) (c : Nat) : Nat := zs[c]?.getD 0
/-- what may come behind a row -/
def nxt (zs : List Nat) (r : List Nat) : List Nat := (List.range zs.length).filter fun c => decide (r.count c < zat zs c)
def Rw (zs : List Nat) : Nat → List (List Nat)
  | 0 => [[]]
  | k + 1 => (Rw zs k).flatMap fun r => (nxt zs r).map fun c => r ++ [c]
def RowOk (zs r : List Nat) : Prop := (∀ c ∈ r, c < zs.length) ∧ ∀ c, c < zs.length → r.count c ≤ zat zs c
theorem nxt_mem {zs r : List Nat} {c : Nat} : c ∈ nxt zs r ↔ c < zs.length ∧ r.count c < zat zs c := by
  unfold nxt
  rw [List.mem_filter, List.mem_range]
  simp
theorem count_snoc (r : List Nat) (c i : Nat) : (r ++ [c]).count i = r.count i + if c = i then 1 else 0 := by
  rw [List.count_append, List.count_singleton]
  simp
theorem Rw_mem (zs : List Nat) : ∀ (k : Nat) (r : List Nat), r ∈ Rw zs k ↔ r.length = k ∧ RowOk zs r
  | 0, r => by
    simp only [Rw, List.mem_singleton]
    constructor
    · rintro rfl
      exact ⟨rfl, nofun, fun c _ => by simp⟩
    · rintro ⟨h, _⟩
      exact List.eq_nil_of_length_eq_zero h
  | k + 1, r => by
    simp only [Rw, List.mem_flatMap, List.mem_map]
    constructor
    · rintro ⟨s, hs, c, hc, rfl⟩
      obtain ⟨h1, h2, h3⟩ := (Rw_mem zs k s).mp hs
      obtain ⟨h4, h5⟩ := nxt_mem.mp hc
      refine ⟨by simp [h1], fun d hd => ?_, fun d hd => ?_⟩
      · rcases List.mem_append.mp hd with z | z
        · exact h2 d z
        · simp at z; subst z; exact h4
      · rw [count_snoc]
        have := h3 d hd
        split
        · rename_i z; subst z; omega
        · omega
    · rintro ⟨h1, h2, h3⟩
      have hne : r ≠ [] := fun z => by rw [z] at h1; simp at h1
      have hd := List.dropLast_concat_getLast hne
      refine ⟨r.dropLast, (Rw_mem zs k _).mpr ⟨by simp; omega, fun c hc => h2 c ((List.dropLast_sublist r).subset hc), fun c hc => ?_⟩, r.getLast hne, nxt_mem.mpr ⟨h2 _ (List.getLast_mem hne), ?_⟩, hd⟩
      · have := h3 c hc
        rw [← hd, count_snoc] at this
        omega
      · have := h3 _ (h2 _ (List.getLast_mem hne))
        have e := count_snoc r.dropLast (r.getLast hne) (r.getLast hne)
        rw [hd, if_pos rfl] at e
        omega
theorem nxt_nodup (zs r : List Nat) : (nxt zs r).Nodup := List.Pairwise.filter _ List.nodup_range
theorem Rw_nodup (zs : List Nat) : ∀ k, (Rw zs k).Nodup
  | 0 => by simp [Rw]
  | k + 1 => by
    have ih := Rw_nodup zs k
    unfold Rw
    unfold List.Nodup
    rw [List.pairwise_flatMap]
    refine ⟨fun r _ => ?_, ih.imp fun {a b} hab x hx y hy z => ?_⟩
    · exact List.Pairwise.map _ (fun a b (hab : a ≠ b) z => hab (by simpa using z)) (nxt_nodup zs r)
    · obtain ⟨c, _, rfl⟩ := List.mem_map.mp hx
      obtain ⟨d, _, rfl⟩ := List.mem_map.mp hy
      exact hab (List.append_inj_left' z rfl)
theorem Rw_len (zs : List Nat) : ∀ k, (Rw zs k).length ≤ zs.length ^ k
  | 0 => by simp [Rw]
  | k + 1 => by
    have ih := Rw_len zs k
    have h : ∀ l : List (List Nat), (l.flatMap fun r => (nxt zs r).map fun c => r ++ [c]).length ≤ l.length * zs.length := by
      intro l
      induction l with
      | nil => simp
      | cons a l ih =>
        rw [List.flatMap_cons, List.length_append, List.length_cons, Nat.add_mul, List.length_map]
        have : (nxt zs a).length ≤ zs.length := by
          have := List.length_filter_le (fun c => decide (a.count c < zat zs c)) (List.range zs.length)
          rw [List.length_range] at this
          exact this
        omega
    unfold Rw
    have := h (Rw zs k)
    rw [Nat.pow_succ]
    exact Nat.le_trans this (Nat.mul_le_mul_right _ ih)
def cuts : List Nat → List Nat → List (List Nat)
  | [], _ => []
  | z :: zs, r => r.take z :: cuts zs (r.drop z)
@[simp] theorem cuts_len : ∀ (zs r : List Nat), (cuts zs r).length = zs.length
  | [], _ => rfl
  | z :: zs, r => by simp [cuts, cuts_len zs]
theorem cuts_flat : ∀ (zs r : List Nat), r.length = zs.sum → (cuts zs r).flatten = r ∧ (cuts zs r).map List.length = zs
  | [], r, h => by
    simp at h
    subst h
    exact ⟨rfl, rfl⟩
  | z :: zs, r, h => by
    rw [List.sum_cons] at h
    obtain ⟨h1, h2⟩ := cuts_flat zs (r.drop z) (by simp; omega)
    refine ⟨?_, ?_⟩
    · show r.take z ++ (cuts zs (r.drop z)).flatten = r
      rw [h1, List.take_append_drop]
    · show (r.take z).length :: (cuts zs (r.drop z)).map List.length = z :: zs
      rw [h2]
      simp
      omega
theorem cuts_of : ∀ (hp : List (List Nat)), cuts (hp.map List.length) hp.flatten = hp
  | [] => rfl
  | r :: hp => by
    show (r ++ hp.flatten).take r.length :: cuts (hp.map List.length) ((r ++ hp.flatten).drop r.length) = r :: hp
    rw [List.take_left, List.drop_left, cuts_of hp]
/-- all packs of sizes -/
def dls (zs : List Nat) : List (List (List Nat)) := (Rw zs zs.sum).map (cuts zs)
theorem zat_get {zs : List Nat} {i : Nat} (h : i < zs.length) : zat zs i = zs[i] := by
  unfold zat
  rw [List.getElem?_eq_getElem h]
  rfl
theorem ind_sum (x : Nat) : ∀ m, ((List.range m).map fun c => if x = c then 1 else 0).sum = if x < m then 1 else 0
  | 0 => by simp
  | m + 1 => by
    rw [List.range_succ, List.map_append, List.sum_append, ind_sum x m]
    simp
    split <;> split <;> split <;> omega
theorem sum_add (f g : Nat → Nat) (l : List Nat) : (l.map fun c => f c + g c).sum = (l.map f).sum + (l.map g).sum := by
  induction l with
  | nil => rfl
  | cons a l ih => simp [ih]; omega
theorem len_counts {m : Nat} : ∀ (r : List Nat), (∀ c ∈ r, c < m) → ((List.range m).map fun c => r.count c).sum = r.length
  | [], _ => by
    have : ∀ l : List Nat, (l.map fun c => ([] : List Nat).count c).sum = 0 := fun l => by
      induction l with
      | nil => rfl
      | cons a l ih => rw [List.map_cons, List.sum_cons, ih]; rfl
    exact this _
  | x :: r, h => by
    have e : ((List.range m).map fun c => (x :: r).count c) = (List.range m).map fun c => r.count c + if x = c then 1 else 0 := List.map_congr_left fun c _ => by
      rw [List.count_cons]
      simp
    rw [e, sum_add, len_counts r fun c hc => h c (List.mem_cons_of_mem _ hc), ind_sum, if_pos (h x (List.mem_cons_self ..))]
    simp
theorem sum_le_of (f g : Nat → Nat) : ∀ l : List Nat, (∀ c ∈ l, f c ≤ g c) → (l.map f).sum ≤ (l.map g).sum
  | [], _ => Nat.le_refl _
  | a :: l, h => by
    have := sum_le_of f g l fun c hc => h c (List.mem_cons_of_mem _ hc)
    have := h a (List.mem_cons_self ..)
    simp
    omega
theorem sum_le_eq (f g : Nat → Nat) : ∀ l : List Nat, (∀ c ∈ l, f c ≤ g c) → (l.map f).sum = (l.map g).sum → ∀ c ∈ l, f c = g c
  | a :: l, h, e, c, hc => by
    have h1 := sum_le_of f g l fun c hc => h c (List.mem_cons_of_mem _ hc)
    have h2 := h a (List.mem_cons_self ..)
    simp at e
    rcases List.mem_cons.mp hc with rfl | hc
    · omega
    · exact sum_le_eq f g l (fun c hc => h c (List.mem_cons_of_mem _ hc)) (by omega) c hc
theorem zat_sum (zs : List Nat) : ((List.range zs.length).map (zat zs)).sum = zs.sum := by
  congr 1
  refine List.ext_getElem? fun i => ?_
  by_cases hi : i < zs.length
  · rw [List.getElem?_map, List.getElem?_range hi, List.getElem?_eq_getElem hi]
    show some (zat zs i) = _
    rw [zat_get hi]
  · rw [List.getElem?_eq_none (by simp; omega), List.getElem?_eq_none (by omega)]
theorem sum_count {zs r : List Nat} (h : RowOk zs r) (h3 : r.length = zs.sum) {c : Nat} (hc : c < zs.length) : r.count c = zat zs c :=
  sum_le_eq (fun c => r.count c) (zat zs) (List.range zs.length) (fun c hc => h.2 c (List.mem_range.mp hc)) (by rw [len_counts r h.1, zat_sum, h3]) c (List.mem_range.mpr hc)
theorem dls_mem {zs : List Nat} {hp : List (List Nat)} : hp ∈ dls zs ↔ hp.map List.length = zs ∧ (∀ c ∈ hp.flatten, c < zs.length) ∧ ∀ c, c < zs.length → hp.flatten.count c = zat zs c := by
  unfold dls
  rw [List.mem_map]
  constructor
  · rintro ⟨r, hr, rfl⟩
    obtain ⟨h1, h2⟩ := (Rw_mem zs _ r).mp hr
    obtain ⟨e1, e2⟩ := cuts_flat zs r h1
    rw [e1]
    exact ⟨e2, h2.1, fun c hc => sum_count h2 h1 hc⟩
  · rintro ⟨h1, h2, h3⟩
    refine ⟨hp.flatten, (Rw_mem zs _ _).mpr ⟨by rw [List.length_flatten, h1], h2, fun c hc => by rw [h3 c hc]; exact Nat.le_refl _⟩, ?_⟩
    rw [← h1]
    exact cuts_of hp
theorem dls_nodup (zs : List Nat) : (dls zs).Nodup := by
  unfold dls
  refine List.pairwise_map.mpr ((Rw_nodup zs zs.sum).imp_of_mem fun {a b} ha hb hab z => hab ?_)
  have h1 := ((Rw_mem zs _ a).mp ha).1
  have h2 := ((Rw_mem zs _ b).mp hb).1
  rw [← (cuts_flat zs a h1).1, ← (cuts_flat zs b h2).1, z]
end DL

namespace DL
open PySem L2
def lf (zs r : List Nat) : List Nat := (List.range zs.length).map fun c => zat zs c - r.count c
def eW (zs r : List Nat) : D := .tup [eR r, eR (lf zs r)]
@[simp] theorem lf_len (zs r : List Nat) : (lf zs r).length = zs.length := by simp [lf]
theorem lf_nil (zs : List Nat) : lf zs [] = zs := by
  refine List.ext_getElem? fun i => ?_
  unfold lf
  by_cases hi : i < zs.length
  · rw [List.getElem?_map, List.getElem?_range hi, List.getElem?_eq_getElem hi]
    show some (zat zs i - 0) = _
    rw [zat_get hi]
    rfl
  · rw [List.getElem?_eq_none (by simp; omega), List.getElem?_eq_none (by omega)]
theorem lf_get {zs r : List Nat} {c : Nat} (hc : c < zs.length) : (lf zs r)[c]? = some (zat zs c - r.count c) := by
  unfold lf
  rw [List.getElem?_map, List.getElem?_range hc]
  rfl
theorem lf_set {zs r : List Nat} {c : Nat} (hc : c < zs.length) : (lf zs r).set c (zat zs c - r.count c - 1) = lf zs (r ++ [c]) := by
  refine List.ext_getElem? fun i => ?_
  by_cases hi : i < zs.length
  · rw [lf_get hi, count_snoc]
    by_cases q : c = i
    · subst q
      rw [List.getElem?_set_self (by simpa using hc), if_pos rfl]
      congr 1
    · rw [List.getElem?_set_ne q, lf_get hi, if_neg q]
      rfl
  · rw [List.getElem?_eq_none (by simp; omega), List.getElem?_eq_none (by simp; omega)]
theorem set_parts {l : List Nat} {c x : Nat} (hc : c < l.length) : (l.map eN).take c ++ D.int (x : Int) :: (l.map eN).drop (c + 1) = (l.set c x).map eN := by
  rw [List.set_eq_take_append_cons_drop, if_pos hc, List.map_append, List.map_cons, List.map_take, List.map_drop]
theorem cuts_get : ∀ (zs r : List Nat) (j : Nat) (hj : j < zs.length), (cuts zs r)[j]? = some ((r.drop (zs.take j).sum).take zs[j])
  | z :: zs, r, 0, _ => by simp [cuts]
  | z :: zs, r, j + 1, hj => by
    have := cuts_get zs (r.drop z) j (by simpa using hj)
    rw [List.drop_drop] at this
    simpa [cuts] using this
theorem cut_mid' (ds : List D) (m n : Nat) : cutD ds (some (m : Int)) (some ((m : Int) + (n : Int))) = (ds.drop m).take n := by
  have := cut_mid ds m (m + n)
  rw [Nat.add_sub_cancel_left] at this
  rw [← this]
  congr 1
theorem nxt_take_snoc (zs r : List Nat) (k : Nat) : (List.range (k + 1)).filter (fun c => decide (r.count c < zat zs c)) = (List.range k).filter (fun c => decide (r.count c < zat zs c)) ++ (if r.count k < zat zs k then [k] else []) := by
  rw [List.range_succ, List.filter_append]
  congr 1
  by_cases q : r.count k < zat zs k <;> simp [q]
set_option maxHeartbeats 1000000 in
theorem deals_ok (S : Sto) (x : D) (zs : List Nat) (hx : x = eR zs ∨ x = .lst (zs.map eN)) (hm : zs.length ≤ 8) (hs : zs.sum ≤ 64) (hsz : ∀ k, k ≤ zs.sum → (Rw zs k).length ≤ 50000) : f_l_deals [x] S = .ok (.lst ((dls zs).map eH)) S := by
  have hT : ∀ S, fTuple [x] S = .ok (eR zs) S := fun S => by rcases hx with rfl | rfl <;> simp
  have hS : ∀ S, fSum [x] S = .ok (.int (zs.sum : Nat)) S := fun S => by
    rcases hx with rfl | rfl <;> simp [intsOf_eN, sum_eN]
  have hL : ∀ S, fLen [x] S = .ok (.int (zs.length : Nat)) S := fun S => by rcases hx with rfl | rfl <;> simp
  have hI : ∀ S, itsOf S x = some (zs.map eN) := fun S => by rcases hx with rfl | rfl <;> simp
  have hsr : srcOf x = [] := by rcases hx with rfl | rfl <;> rfl
  have hlv : live x = true := by rcases hx with rfl | rfl <;> rfl
  refine fun_eq rfl fun F hF => ?_
  have hrg := okRg_0 (n := zs.sum) (by omega)
  have hrm := okRg_0 (n := zs.length) (by omega)
  simp [p_l_deals, hT, hS, hrg, rgD_nat, hlv]
  refine out_for (fun k σ B => ∃ y j2 j3 j4 j5 j6 : D, σ = [x, y, j2, j3, j4, j5, j6, .dead, .dead, .dead, .dead] ∧ (∃ J, B = S ++ J) ∧ (y = .lst ((Rw zs k).map (eW zs)) ∨ ∃ n, y = .ref n ∧ B[n]? = some (.lst ((Rw zs k).map (eW zs))))) (fun k d σ B e q => ?_) (fun σ B q => ?_) ⟨_, _, _, _, _, _, rfl, ⟨[], by simp⟩, .inl (by simp [Rw, eW, lf_nil])⟩
  · obtain ⟨y, j2, j3, j4, j5, j6, rfl, ⟨J, hJ⟩, hy⟩ := q
    have hk : k < zs.sum := by
      have := (List.getElem?_eq_some_iff.mp e).1
      simpa using this
    have hn1 := hsz (k + 1) (by omega)
    refine ⟨by simp, _, rfl, fun F' hF' => ?_⟩
    -- one level
    have hlev : ∀ (S0 : Sto) (src : List Nat), (∀ acc, Gd S0 src (B ++ [.lst acc])) → Out (forL S0 src false (.tp [4, 5]) p_l_deals_b1 ((Rw zs k).map (eW zs)) [x, y, d, .ref B.length, j4, j5, j6, .dead, .dead, .dead, .dead] (B ++ [.lst []])) { N := Ka (mSet 1 (mVar 3)) { N := F', R := F, B := Ka (mSeq (mSet 7 (mLoc (mLst mNil))) (mSeq (mFor (mSeqI (mVar 1)) (Tgt.tp [4, 5]) p_l_deals_b4) (mRet (mVar 7)))) { N := fun x S' => F D.non S', R := F }, C := F' }, R := F, B := Ka (mSeq (mSet 7 (mLoc (mLst mNil))) (mSeq (mFor (mSeqI (mVar 1)) (Tgt.tp [4, 5]) p_l_deals_b4) (mRet (mVar 7)))) { N := fun x S' => F D.non S', R := F }, C := F' } := fun S0 src hg => by
      refine out_for (fun i σ B' => ∃ j4 j5 j6 : D, σ = [x, y, d, .ref B.length, j4, j5, j6, .dead, .dead, .dead, .dead] ∧ B' = B ++ [.lst ((((Rw zs k).take i).flatMap fun r => (nxt zs r).map fun c => r ++ [c]).map (eW zs))]) (fun i d' σ B' e q => ?_) (fun σ B' q => ?_) ⟨_, _, _, rfl, by simp⟩
      · obtain ⟨j4, j5, j6, rfl, rfl⟩ := q
        have hi : i < (Rw zs k).length := by
          have := (List.getElem?_eq_some_iff.mp e).1
          simpa using this
        have ed : d' = eW zs (Rw zs k)[i] := by
          rw [List.getElem?_map, List.getElem?_eq_getElem hi] at e
          exact (Option.some.inj e).symm
        subst ed
        obtain ⟨r, hr⟩ : ∃ r, r = (Rw zs k)[i] := ⟨_, rfl⟩
        have htk : (Rw zs k).take (i + 1) = (Rw zs k).take i ++ [r] := by rw [List.take_succ, List.getElem?_eq_getElem hi, hr]; rfl
        have hrl : r.length = k := ((Rw_mem zs k r).mp (by rw [hr]; exact List.getElem_mem hi)).1
        rw [← hr]
        obtain ⟨A, hA⟩ : ∃ A, A = (((Rw zs k).take i).flatMap fun r => (nxt zs r).map fun c => r ++ [c]) := ⟨_, rfl⟩
        have hAn : ((Rw zs k).take (i + 1)).flatMap (fun r => (nxt zs r).map fun c => r ++ [c]) = A ++ (nxt zs r).map fun c => r ++ [c] := by
          rw [htk, List.flatMap_append, ← hA]
          simp
        have hAl : A.length ≤ (Rw zs (k + 1)).length := by
          have : (A ++ (((Rw zs k).drop i).flatMap fun r => (nxt zs r).map fun c => r ++ [c])) = Rw zs (k + 1) := by
            rw [hA, ← List.flatMap_append, List.take_append_drop]
            rfl
          rw [← this, List.length_append]
          omega
        rw [← hA]
        refine ⟨hg _, [eR r, eR (lf zs r)], rfl, fun F'' hF'' => ?_⟩
        simp [p_l_deals_b1, hL, hrm, rgD_nat, hlv]
        refine out_for (fun c σ B' => ∃ j6 : D, σ = [x, y, d, .ref B.length, eR r, eR (lf zs r), j6, .dead, .dead, .dead, .dead] ∧ B' = B ++ [.lst ((A ++ ((List.range c).filter fun c => decide (r.count c < zat zs c)).map fun c => r ++ [c]).map (eW zs))]) (fun c d' σ B' e q => ?_) (fun σ B' q => ?_) ⟨_, rfl, by simp⟩
        · obtain ⟨j6, rfl, rfl⟩ := q
          have hc : c < zs.length := by
            have := (List.getElem?_eq_some_iff.mp e).1
            simpa using this
          have ed : d' = eN c := by
            rw [List.getElem?_map, List.getElem?_range hc] at e
            simpa using e.symm
          subst ed
          have hcl : c < (lf zs r).length := by rw [lf_len]; exact hc
          obtain ⟨A2, hA2⟩ : ∃ A2, A2 = A ++ ((List.range c).filter fun c => decide (r.count c < zat zs c)).map fun c => r ++ [c] := ⟨_, rfl⟩
          have hA2l : A2.length < 100000 := by
            have := List.length_filter_le (fun c => decide (r.count c < zat zs c)) (List.range c)
            rw [hA2, List.length_append, List.length_map]
            rw [List.length_range] at this
            omega
          have hA2n : (A ++ ((List.range (c + 1)).filter fun c => decide (r.count c < zat zs c)).map fun c => r ++ [c]) = A2 ++ (if r.count c < zat zs c then [r ++ [c]] else []) := by
            rw [nxt_take_snoc, List.map_append, ← List.append_assoc, ← hA2]
            split <;> rfl
          rw [← hA2]
          have hg2 : ((lf zs r).map eN)[c]? = some (eN (zat zs c - r.count c)) := by rw [List.getElem?_map, lf_get hc]; rfl
          have hrl2 : r.length + 1 ≤ 100000 := by omega
          have hl1 : min c zs.length + 1 ≤ 100000 := by omega
          have hl2 : min c zs.length + 1 + (zs.length - (c + 1)) ≤ 100000 := by omega
          refine ⟨by simp, _, rfl, fun F3 hF3 => ?_⟩
          by_cases q : r.count c < zat zs c
          · have q0 : 0 < zat zs c - r.count c := by omega
            have es : ((zat zs c - r.count c : Nat) : Int) - 1 = ((zat zs c - r.count c - 1 : Nat) : Int) := by omega
            have hsp := set_parts (x := zat zs c - r.count c - 1) hcl
            rw [lf_set hc] at hsp
            simp [p_l_deals_b0, hg2]
            rw [if_pos q0]
            simp [hg2, es, hrl2, hl1, hl2, hA2l, hsp]
            refine hF3 _ _ ⟨_, rfl, ?_⟩
            rw [hA2n, if_pos q, List.map_append]
            congr 3
            show _ ++ [D.tup [_, _]] = _ ++ [D.tup [eR (r ++ [c]), eR (lf zs (r ++ [c]))]]
            unfold eR
            rw [List.map_append]
            rfl
          · have q0 : ¬ 0 < zat zs c - r.count c := by omega
            simp [p_l_deals_b0, hg2]
            rw [if_neg q0]
            simp
            refine hF3 _ _ ⟨_, rfl, ?_⟩
            rw [hA2n, if_neg q, List.append_nil]
        · obtain ⟨j6, rfl, rfl⟩ := q
          rw [List.length_map, List.length_range]
          refine ⟨by simp, hF'' _ _ ⟨_, _, _, rfl, ?_⟩⟩
          rw [hAn]
          rfl
      · obtain ⟨j4, j5, j6, rfl, rfl⟩ := q
        rw [List.length_map, List.take_length]
        refine ⟨hg _, ?_⟩
        simp
        refine hF' _ _ ⟨.ref B.length, _, _, _, _, _, rfl, ⟨J ++ [_], by rw [hJ, List.append_assoc]⟩, .inr ⟨B.length, rfl, ?_⟩⟩
        rw [sto_get0]
        rfl
    rcases hy with rfl | ⟨n, rfl, hn⟩
    · simp [p_l_deals_b2]
      exact hlev _ [] (fun acc => by simp)
    · have hnl : n < B.length := (List.getElem?_eq_some_iff.mp hn).1
      have hg2 : (B ++ [Ob.lst []])[n]? = some (.lst ((Rw zs k).map (eW zs))) := by rw [List.getElem?_append_left hnl]; exact hn
      simp [p_l_deals_b2, hg2]
      refine hlev _ [n] (fun acc => ?_)
      rw [gd_one, List.getElem?_append_left hnl, List.getElem?_append_left hnl]
  · obtain ⟨y, j2, j3, j4, j5, j6, rfl, ⟨J, hJ⟩, hy⟩ := q
    rw [List.length_map, List.length_range] at hy
    have hn0 := hsz zs.sum (Nat.le_refl _)
    have hlast : ∀ (S0 : Sto) (src : List Nat), (∀ U, Gd S0 src (B ++ U)) → Out (forL S0 src false (.tp [4, 5]) p_l_deals_b4 ((Rw zs zs.sum).map (eW zs)) [x, y, j2, j3, j4, j5, j6, .ref B.length, .dead, .dead, .dead] (B ++ [.lst []])) { N := Ka (mRet (mVar 7)) { N := fun x S' => F D.non S', R := F }, R := F } := fun S0 src hg => by
      refine out_for (fun i σ B' => ∃ (j4 j5 j8 j9 j10 : D) (U : Sto), σ = [x, y, j2, j3, j4, j5, j6, .ref B.length, j8, j9, j10] ∧ B' = B ++ .lst ((((Rw zs zs.sum).take i).map (cuts zs)).map eH) :: U) (fun i d' σ B' e q => ?_) (fun σ B' q => ?_) ⟨_, _, _, _, _, [], rfl, by simp⟩
      · obtain ⟨j4, j5, j8, j9, j10, U, rfl, rfl⟩ := q
        have hi : i < (Rw zs zs.sum).length := by
          have := (List.getElem?_eq_some_iff.mp e).1
          simpa using this
        have ed : d' = eW zs (Rw zs zs.sum)[i] := by
          rw [List.getElem?_map, List.getElem?_eq_getElem hi] at e
          exact (Option.some.inj e).symm
        subst ed
        obtain ⟨r, hr⟩ : ∃ r, r = (Rw zs zs.sum)[i] := ⟨_, rfl⟩
        have htk : (Rw zs zs.sum).take (i + 1) = (Rw zs zs.sum).take i ++ [r] := by rw [List.take_succ, List.getElem?_eq_getElem hi, hr]; rfl
        obtain ⟨A, hA⟩ : ∃ A, A = ((Rw zs zs.sum).take i).map (cuts zs) := ⟨_, rfl⟩
        have hAn : ((Rw zs zs.sum).take (i + 1)).map (cuts zs) = A ++ [cuts zs r] := by rw [htk, List.map_append, ← hA]; rfl
        have hAl : A.length < 100000 := by rw [hA]; simp; omega
        rw [← hr, ← hA]
        refine ⟨hg _, [eR r, eR (lf zs r)], rfl, fun F'' hF'' => ?_⟩
        simp [p_l_deals_b4, hI, hlv, hsr]
        refine out_for (fun j σ B' => ∃ j10 : D, σ = [x, y, j2, j3, eR r, eR (lf zs r), j6, .ref B.length, .ref (B.length + (U.length + 1)), eN (zs.take j).sum, j10] ∧ B' = B ++ .lst (A.map eH) :: (U ++ [.lst (((cuts zs r).take j).map eR)])) (fun j d' σ B' e q => ?_) (fun σ B' q => ?_) ⟨_, rfl, by simp⟩
        · obtain ⟨j10, rfl, rfl⟩ := q
          have hj : j < zs.length := by
            have := (List.getElem?_eq_some_iff.mp e).1
            simpa using this
          have ed : d' = eN zs[j] := by
            rw [List.getElem?_map, List.getElem?_eq_getElem hj] at e
            exact (Option.some.inj e).symm
          subst ed
          have hcn : (cuts zs r).take (j + 1) = (cuts zs r).take j ++ [(r.drop (zs.take j).sum).take zs[j]] := by
            rw [List.take_succ, cuts_get zs r j hj]
            rfl
          have hsn : (zs.take (j + 1)).sum = (zs.take j).sum + zs[j] := by
            rw [List.take_succ, List.getElem?_eq_getElem hj, List.sum_append]
            simp
          obtain ⟨H, hH⟩ : ∃ H, H = (cuts zs r).take j := ⟨_, rfl⟩
          have hHl : H.length < 100000 := by rw [hH]; simp; omega
          obtain ⟨a, ha⟩ : ∃ a, a = (zs.take j).sum := ⟨_, rfl⟩
          rw [← ha] at hcn hsn ⊢
          rw [← hH] at hcn ⊢
          refine ⟨by simp, _, rfl, fun F3 hF3 => ?_⟩
          simp [p_l_deals_b3, cut_mid', hHl]
          refine hF3 _ _ ⟨eN zs[j], ?_, ?_⟩
          · rw [hsn]
            have : ((a + zs[j] : Nat) : Int) = (a : Int) + (zs[j] : Int) := by omega
            show _ = [x, y, j2, j3, eR r, eR (lf zs r), j6, .ref B.length, .ref (B.length + (U.length + 1)), D.int ((a + zs[j] : Nat) : Int), eN zs[j]]
            rw [this]
          · rw [hcn, List.map_append]
            show _ = B ++ .lst (A.map eH) :: (U ++ [.lst (H.map eR ++ [D.tup (((r.drop a).take zs[j]).map eN)])])
            rw [List.map_take, List.map_drop]
        · obtain ⟨j10, rfl, rfl⟩ := q
          have hct : (cuts zs r).take zs.length = cuts zs r := List.take_of_length_le (by simp)
          rw [List.length_map, hct]
          refine ⟨by simp, ?_⟩
          simp [hAl]
          refine hF'' _ _ ⟨_, _, _, _, _, U ++ [.lst ((cuts zs r).map eR)], rfl, ?_⟩
          rw [hAn, List.map_append]
          rfl
      · obtain ⟨j4, j5, j8, j9, j10, U, rfl, rfl⟩ := q
        rw [List.length_map, List.take_length, show (Rw zs zs.sum).map (cuts zs) = dls zs from rfl]
        refine ⟨hg _, ?_⟩
        simp
        refine hF _ _ ?_
        rw [hJ, List.append_assoc]
        refine finP_app (d' := .lst ((dls zs).map eH)) ?_ ⟨rfl, rfl⟩
        refine fz_lst (by simp) ?_ ?_
        · rw [← List.append_assoc]
          exact sto_get0
        · rw [cll_map]
          intro a _
          simp
    rcases hy with rfl | ⟨n, rfl, hn⟩
    · simp
      exact hlast _ [] (fun acc => by simp)
    · have hnl : n < B.length := (List.getElem?_eq_some_iff.mp hn).1
      have hg2 : (B ++ [Ob.lst []])[n]? = some (.lst ((Rw zs zs.sum).map (eW zs))) := by rw [List.getElem?_append_left hnl]; exact hn
      simp [hg2]
      refine hlast _ [n] (fun U => ?_)
      rw [gd_one, List.getElem?_append_left hnl, List.getElem?_append_left hnl]
end DL

namespace DL
open PySem L2
theorem count_take (S : Sto) (row : List Nat) (k c : Nat) : fCount (.tup ((row.map eN).take k)) (.int (c : Int)) S = .ok (.int ((row.take k).count c : Nat)) S := by
  rw [← List.map_take]
  exact v_countR S (row.take k) c
theorem count_drop (S : Sto) (row : List Nat) (k c : Nat) : fCount (.tup ((row.map eN).drop k)) (.int (c : Int)) S = .ok (.int ((row.drop k).count c : Nat)) S := by
  rw [← List.map_drop]
  exact v_countR S (row.drop k) c
theorem checkrow_ok (S : Sto) (m : Nat) (row : List Nat) (hm : 1 ≤ m) (hc : ∀ c ∈ row, c < m) (h8 : ∀ (k : Nat) (hk : k < row.length), (row.take k).count row[k] < 8) : f_check_row [.int (m : Int), eR row] S = .ok .non S := by
  refine fun_eq rfl fun F hF => ?_
  have e0 : enumD 0 (row.map eN) = (row.zipIdx 0).map fun p => D.tup [.int (p.2 : Nat), eN p.1] := enumD_map eN row 0
  simp [p_check_row, e0]
  refine out_for (fun k σ S' => ∃ j j', σ = [.int (m : Int), eR row, j, j'] ∧ S' = S) (fun k d σ S' e q => ?_) (fun σ S' q => ?_) ⟨_, _, rfl, rfl⟩
  · obtain ⟨j, j', rfl, rfl⟩ := q
    have hk : k < row.length := by
      have := (List.getElem?_eq_some_iff.mp e).1
      simpa using this
    have ed : d = .tup [.int (k : Int), eN row[k]] := by
      rw [List.getElem?_map, List.getElem?_zipIdx, List.getElem?_eq_getElem hk] at e
      simpa using e.symm
    subst ed
    have h1 := hc _ (List.getElem_mem hk)
    have h2 := h8 k hk
    have hi := isint_ok S' (row[k] : Nat) 0 ((m : Int) - 1)
    have b1 : decide ((0 : Int) ≤ (row[k] : Nat)) = true := decide_eq_true (by omega)
    have b2 : decide (((row[k] : Nat) : Int) ≤ (m : Int) - 1) = true := decide_eq_true (by omega)
    rw [b1, b2] at hi
    have b3 : ¬ (8 : Int) ≤ (((row.take k).count row[k] : Nat) : Int) := by omega
    refine ⟨by simp, _, rfl, fun F' hF' => ?_⟩
    simp [p_check_row_b0, hi, count_take, b3]
    exact hF' _ _ ⟨_, _, rfl, rfl⟩
  · obtain ⟨j, j', rfl, rfl⟩ := q
    simp
    exact hF _ _ (finP_self (by simp) ⟨rfl, rfl⟩)
theorem stX_get {S X : Sto} {i : Nat} : (S ++ X)[S.length + i]? = X[i]? := by
  rw [List.getElem?_append_right (by omega), Nat.add_sub_cancel_left]
theorem stX_set {S X : Sto} {i : Nat} {o : Ob} : (S ++ X).set (S.length + i) o = S ++ X.set i o := by
  rw [List.set_append_right _ _ (by omega), Nat.add_sub_cancel_left]
theorem put_map {H : List (List Nat)} {h c : Nat} : (H.map lsO).set h (.lst ((at' H h).map eN ++ [eN c])) = (put H h c).map lsO := by
  unfold put
  rw [List.map_set]
  unfold lsO
  rw [List.map_append]
  rfl
theorem lsO_at {H : List (List Nat)} {h : Nat} (hh : h < H.length) : (H.map lsO)[h]? = some (.lst ((at' H h).map eN)) := by
  rw [List.getElem?_map, get_at hh]; rfl
theorem lay_w (S : Sto) (m f : Nat) (row : List Nat) (x1 x8 : D) : ∀ (r : List Nat) (a h : Nat) (H : List (List Nat)), row.drop a = r → a ≤ row.length → (∀ c ∈ r, c < m) → h < m → H.length = m → (∀ i, (at' H i).length + r.length < 1000) →
    ∃ (h' a' : Nat), mW p_laid_t0 p_laid_b0 [.int (m : Int), x1, eR row, .lst ((List.range m).map fun i => D.ref (S.length + i)), eN a, eN f, eN h, eN (r.count f), x8] (S ++ H.map lsO) = .nx [.int (m : Int), x1, eR row, .lst ((List.range m).map fun i => D.ref (S.length + i)), eN a', eN f, eN h', .int 0, x8] (S ++ (ly f r h H).1.map lsO) ∧ row.drop a' = (ly f r h H).2 ∧ a' ≤ row.length
  | [], a, h, H, e, hal, hc, hh, hl, hb => by
    refine ⟨h, a, mW_stop ?_, e, hal⟩
    simp [p_laid_t0, ly]
  | c :: r, a, h, H, e, hal, hc, hh, hl, hb => by
    have hal2 : a + 1 ≤ row.length := by
      have := congrArg List.length e
      simp at this
      omega
    by_cases q : f ∈ c :: r
    · have ha : (row.map eN)[a]? = some (eN c) := by
        rw [List.getElem?_map]
        have : (row.drop a)[0]? = some c := by rw [e]; rfl
        rw [List.getElem?_drop] at this
        rw [show a = a + 0 by omega, this]
        rfl
      have e2 : row.drop (a + 1) = r := by
        rw [← List.drop_drop, e]
        rfl
      obtain ⟨h', a', ih, ih2⟩ := lay_w S m f row x1 x8 r (a + 1) c (put H h c) e2 hal2 (fun x hx => hc x (List.mem_cons_of_mem _ hx)) (hc c (List.mem_cons_self ..)) (by simp [hl]) (fun i => by
        have h1 := hb i
        have h2 := hb h
        rw [at_put (by omega)]
        split
        · simp at h2 ⊢; omega
        · simp at h1 ⊢; omega)
      have el : ly f (c :: r) h H = ly f r c (put H h c) := if_pos q
      have hpos := List.count_pos_iff.mpr q
      rw [el]
      refine ⟨h', a', (mW_step (σ2 := [.int (m : Int), x1, eR row, .lst ((List.range m).map fun i => D.ref (S.length + i)), eN (a + 1), eN f, eN c, eN (r.count f), x8]) (S1 := S ++ H.map lsO) (S2 := S ++ (put H h c).map lsO) ?_ ?_).trans ih, ih2⟩
      · have : (0 : Int) < (((c :: r).count f : Nat) : Int) := by omega
        simp [p_laid_t0]
        exact List.mem_cons.mp q
      · have hb2 : (at' H h).length < 100000 := by have := hb h; omega
        have hgt : (S ++ H.map lsO)[S.length + h]? = some (.lst ((at' H h).map eN)) := by rw [stX_get, lsO_at (by omega)]
        have hea : (((a + 1 : Nat) : Int)) = (a : Int) + 1 := by omega
        by_cases qc : c = f
        · have qi : (c : Int) = (f : Int) := by omega
          have hct : (((c :: r).count f : Nat) : Int) - 1 = ((r.count f : Nat) : Int) := by
            rw [List.count_cons, if_pos (by simp [qc])]
            omega
          simp [p_laid_b0, ha, hh, hgt, hb2, stX_set, put_map, qi, hct, hea]
        · have qi : ¬ (c : Int) = (f : Int) := by omega
          have hct : (c :: r).count f = r.count f := by
            rw [List.count_cons, if_neg (by simp [qc])]
            omega
          simp [p_laid_b0, ha, hh, hgt, hb2, stX_set, put_map, qi, hct, hea]
    · have el : ly f (c :: r) h H = (H, c :: r) := if_neg q
      rw [el]
      have h0 : (c :: r).count f = 0 := List.count_eq_zero.mpr q
      refine ⟨h, a, ?_, e, hal⟩
      rw [h0]
      refine mW_stop ?_
      simp [p_laid_t0]
theorem lys_snoc : ∀ (fs : List Nat) (f : Nat) (r : List Nat) (H : List (List Nat)), lys (fs ++ [f]) r H = ly f (lys fs r H).2 f (lys fs r H).1
  | [], f, r, H => rfl
  | a :: fs, f, r, H => lys_snoc fs f _ _
theorem ly_bd {m n f : Nat} : ∀ (r : List Nat) (h : Nat) (H : List (List Nat)), h < m → H.length = m → (∀ c ∈ r, c < m) → (∀ i, (at' H i).length + r.length ≤ n) → (ly f r h H).1.length = m ∧ (∀ c ∈ (ly f r h H).2, c < m) ∧ ∀ i, (at' (ly f r h H).1 i).length + (ly f r h H).2.length ≤ n
  | [], h, H, _, hl, hc, hb => ⟨hl, hc, hb⟩
  | c :: r, h, H, hh, hl, hc, hb => by
    unfold ly
    split
    · refine ly_bd r c (put H h c) (hc c (List.mem_cons_self ..)) (by simp [hl]) (fun x hx => hc x (List.mem_cons_of_mem _ hx)) fun i => ?_
      have h1 := hb i
      have h2 := hb h
      rw [at_put (by omega)]
      split
      · simp at h2 ⊢; omega
      · simp at h1 ⊢; omega
    · exact ⟨hl, hc, hb⟩
theorem lys_bd {m n : Nat} : ∀ (fs r : List Nat) (H : List (List Nat)), (∀ f ∈ fs, f < m) → H.length = m → (∀ c ∈ r, c < m) → (∀ i, (at' H i).length + r.length ≤ n) → (lys fs r H).1.length = m ∧ (∀ c ∈ (lys fs r H).2, c < m) ∧ ∀ i, (at' (lys fs r H).1 i).length + (lys fs r H).2.length ≤ n
  | [], r, H, _, hl, hc, hb => ⟨hl, hc, hb⟩
  | f :: fs, r, H, hf, hl, hc, hb => by
    obtain ⟨h1, h2, h3⟩ := ly_bd (f := f) r f H (hf f (List.mem_cons_self ..)) hl hc hb
    exact lys_bd fs _ _ (fun x hx => hf x (List.mem_cons_of_mem _ hx)) h1 h2 h3
theorem Go.count {l l' : List (List Nat)} {h : Nat} {f : List (Nat × Nat)} (g : Go l h f l') (i : Nat) : l.flatten.count i = (f.map Prod.snd).count i + l'.flatten.count i := by
  induction g with
  | stop e => simp
  | step e g ih =>
    rename_i c _ _ _
    rw [count_set i e, ih, List.map_cons, List.count_cons]
    by_cases q : i = c
    · subst q; simp; omega
    · have q2 : ¬ c = i := fun z => q z.symm
      simp [q, q2]
theorem Wk.count {l l' : List (List Nat)} {fs : List Nat} {g : List (Nat × Nat)} (w : Wk l fs g l') (i : Nat) : l.flatten.count i = (g.map Prod.snd).count i + l'.flatten.count i := by
  induction w with
  | nil => simp
  | cons g w ih => rw [g.count i, ih, List.map_append, List.count_append]; omega
theorem rep_flat (m : Nat) : (List.replicate m ([] : List Nat)).flatten = [] := by
  induction m with
  | zero => rfl
  | succ m ih => rw [List.replicate_succ, List.flatten_cons, ih]; rfl
/-- what is laid is a pack whose walk is the row -/
theorem laid_spec {m : Nat} {fs row : List Nat} {H : List (List Nat)} (hm : 1 ≤ m) (hm8 : m ≤ 8) (hf : FirstsOk m fs) (hc : ∀ c ∈ row, c < m) (h8 : ∀ c, row.count c ≤ 8) (e : lys fs row (List.replicate m []) = (H, [])) :
    PackOk H ∧ H.length = m ∧ (∃ g, Wk H fs g (List.replicate m []) ∧ g.map Prod.snd = row) ∧ (∀ i, i < m → (at' H i).length = row.count i) ∧ ∀ i, H.flatten.count i = row.count i := by
  obtain ⟨l1, g, w, eg, hl, hl1, hat, _, hct⟩ := lysB fs row _ H e hf.nd hf.lt hc (by simp)
  have e1 : H = l1 := by
    refine List.ext_getElem? fun i => ?_
    by_cases hi : i < m
    · rw [get_at (by omega), get_at (by omega), hat i hi, at_rep]
      rfl
    · rw [List.getElem?_eq_none (by omega), List.getElem?_eq_none (by omega)]
  subst e1
  have hcn : ∀ i, H.flatten.count i = row.count i := fun i => by
    rw [w.count i, eg, rep_flat]
    simp
  refine ⟨⟨by omega, by omega, fun r hr => ?_, fun r hr c hcr => ?_, fun i hi => ?_⟩, hl, ⟨g, w, eg⟩, hct, hcn⟩
  · obtain ⟨i, hi, er⟩ := List.getElem_of_mem hr
    have h1 := hct i (by omega)
    have h2 := h8 i
    have h3 : at' H i = r := by unfold at'; rw [List.getElem?_eq_getElem hi, er]; rfl
    rw [h3] at h1
    omega
  · have h1 : 0 < H.flatten.count c := List.count_pos_iff.mpr (List.mem_flatten.mpr ⟨r, hr, hcr⟩)
    rw [hcn] at h1
    rw [hl]
    exact hc c (List.count_pos_iff.mp h1)
  · have h1 := hct i (by omega)
    have h3 : at' H i = H[i] := by unfold at'; rw [List.getElem?_eq_getElem hi]; rfl
    rw [hcn, ← h3, h1]
end DL

namespace DL
open PySem L2
def laidD (m : Nat) (fs row : List Nat) : D := if (lys fs row (List.replicate m [])).2 = [] then insPack (lys fs row (List.replicate m [])).1 else .non
theorem cnt8 {row : List Nat} (h8 : ∀ c, row.count c ≤ 8) (k : Nat) (hk : k < row.length) : (row.take k).count row[k] < 8 := by
  have h1 := h8 row[k]
  have h2 : (row.take (k + 1)).count row[k] ≤ row.count row[k] := by
    have : (row.take (k + 1) ++ row.drop (k + 1)).count row[k] = row.count row[k] := by rw [List.take_append_drop]
    rw [List.count_append] at this
    omega
  have e : row.take (k + 1) = row.take k ++ [row[k]] := by rw [List.take_succ, List.getElem?_eq_getElem hk]; rfl
  rw [e, count_snoc, if_pos rfl] at h2
  omega
set_option maxHeartbeats 1000000 in
theorem laid_ok (S : Sto) {m : Nat} {fs row : List Nat} (hm : 1 ≤ m) (hm8 : m ≤ 8) (hf : FirstsOk m fs) (hc : ∀ c ∈ row, c < m) (h8 : ∀ c, row.count c ≤ 8) (hrl : row.length ≤ 64) : f_laid [.int (m : Int), eR fs, eR row] S = .ok (laidD m fs row) S := by
  refine fun_eq rfl fun F hF => ?_
  have hi := isint_ok S (m : Int) 1 8
  rw [decide_eq_true (show (1 : Int) ≤ (m : Int) by omega), decide_eq_true (show (m : Int) ≤ 8 by omega)] at hi
  have hcf := checkfirsts_ok S m fs hf
  have hcr := checkrow_ok S m row hm hc (cnt8 h8)
  have hrg := okRg_0 (n := m) (by omega)
  obtain ⟨ds, S', ec, eds, eS⟩ := out_comp (S0 := S) (src := []) (pair := false) (t := .nm 8) (wσ := [.int (m : Int), eR fs, eR row, .dead, .dead, .dead, .dead, .dead, .dead]) (c := fun _ S => .ok true S) (e := p_laid_e0) (Q := fun ds S' => ds = (List.range m).map (fun i => D.ref (S.length + i)) ∧ S' = S ++ (List.replicate m []).map lsO) (fun k acc S' => acc = (List.range k).map (fun i => D.ref (S.length + i)) ∧ S' = S ++ (List.replicate k []).map lsO) (items := (List.range m).map eN) (fun k d acc S' e q => by
    obtain ⟨rfl, rfl⟩ := q
    have hk : k < m := by
      have := (List.getElem?_eq_some_iff.mp e).1
      simpa using this
    refine ⟨by simp, _, rfl, true, _, rfl, fun _ => ⟨by simp; omega, .ref (S.length + k), S ++ (List.replicate (k + 1) []).map lsO, ?_, ?_, rfl⟩, nofun⟩
    · have ht : (List.replicate (k + 1) ([] : List Nat)).map lsO = (List.replicate k []).map lsO ++ [.lst []] := by
        rw [List.replicate_succ', List.map_append]
        rfl
      rw [ht]
      obtain ⟨X, hX⟩ : ∃ X, X = (List.replicate k ([] : List Nat)).map lsO := ⟨_, rfl⟩
      have hXl : X.length = k := by rw [hX]; simp
      rw [← hX]
      subst hXl
      simp [p_laid_e0]
    · rw [List.range_succ, List.map_append]
      rfl) (fun acc S' q => by
    obtain ⟨rfl, rfl⟩ := q
    refine ⟨by simp, by simp, by simp⟩) (acc := []) (S := S) ⟨rfl, by simp⟩
  subst eds eS
  obtain ⟨H0, hH0⟩ : ∃ H0, H0 = List.replicate m ([] : List Nat) := ⟨_, rfl⟩
  rw [← hH0] at ec
  have hb0 : ∀ i, (at' H0 i).length + row.length ≤ row.length := fun i => by rw [hH0, at_rep]; simp
  simp [p_laid, hi, hcf, hcr, hrg, rgD_nat, wipeD, ec]
  refine out_for (fun k σ S' => ∃ (a : Nat) (j5 j6 j7 : D), σ = [.int (m : Int), eR fs, eR row, .lst ((List.range m).map fun i => D.ref (S.length + i)), eN a, j5, j6, j7, .dead] ∧ S' = S ++ (lys (fs.take k) row H0).1.map lsO ∧ row.drop a = (lys (fs.take k) row H0).2 ∧ a ≤ row.length) (fun k d σ S' e q => ?_) (fun σ S' q => ?_) ⟨0, _, _, _, rfl, rfl, rfl, by omega⟩
  · obtain ⟨a, j5, j6, j7, rfl, rfl, hd, hal⟩ := q
    have hk : k < fs.length := by
      have := (List.getElem?_eq_some_iff.mp e).1
      simpa using this
    have ed : d = eN fs[k] := by
      rw [List.getElem?_map, List.getElem?_eq_getElem hk] at e
      exact (Option.some.inj e).symm
    subst ed
    have hsn : lys (fs.take (k + 1)) row H0 = ly fs[k] (lys (fs.take k) row H0).2 fs[k] (lys (fs.take k) row H0).1 := by
      rw [show fs.take (k + 1) = fs.take k ++ [fs[k]] by rw [List.take_succ, List.getElem?_eq_getElem hk]; rfl, lys_snoc]
    obtain ⟨b1, b2, b3⟩ := lys_bd (m := m) (n := row.length) (fs.take k) row H0 (fun f h => hf.lt f (List.mem_of_mem_take h)) (by rw [hH0]; simp) hc hb0
    obtain ⟨h', a', ew, ed', ha'⟩ := lay_w S m fs[k] row (eR fs) .dead (lys (fs.take k) row H0).2 a fs[k] (lys (fs.take k) row H0).1 hd hal b2 (hf.lt _ (List.getElem_mem hk)) b1 (fun i => by have := b3 i; omega)
    rw [← hd] at ew
    refine ⟨by simp, _, rfl, fun F' hF' => ?_⟩
    simp [p_laid_b1, count_drop]
    rw [ew]
    refine hF' _ _ ⟨a', _, _, _, rfl, ?_, ?_, ha'⟩
    · rw [hsn, hd]
    · rw [hsn, ed']
  · obtain ⟨a, j5, j6, j7, rfl, rfl, hd, hal⟩ := q
    rw [List.length_map, List.take_length] at hd ⊢
    obtain ⟨H, hH⟩ : ∃ H, H = (lys fs row H0).1 := ⟨_, rfl⟩
    obtain ⟨b1, b2, b3⟩ := lys_bd (m := m) (n := row.length) fs row H0 hf.lt (by rw [hH0]; simp) hc hb0
    rw [← hH] at b1 b3 ⊢
    obtain ⟨V, hV⟩ : ∃ V, V = S ++ H.map lsO := ⟨_, rfl⟩
    have hres : laidD m fs row = if (lys fs row H0).2 = [] then insPack H else .non := by
      unfold laidD
      rw [← hH0, ← hH]
    by_cases q : (lys fs row H0).2 = []
    · have ha : a = row.length := by
        rw [q, List.drop_eq_nil_iff] at hd
        omega
      have hpk := (laid_spec hm hm8 hf hc h8 (H := H) (by rw [← hH0, hH, ← q])).1
      have hcomp := comp_all (S := V) (src := []) (pair := false) (t := .nm 8) (wσ := [.int (m : Int), eR fs, eR row, .lst ((List.range m).map fun i => D.ref (S.length + i)), eN a, j5, j6, j7, .dead]) (e := p_laid_e1) (fun i => D.ref (S.length + i)) (fun i => eR (at' H i)) (List.range m) (fun i hi => by
        rw [List.mem_range] at hi
        have hg : V[S.length + i]? = some (.lst ((at' H i).map eN)) := by rw [hV, stX_get, lsO_at (by omega)]
        refine ⟨_, rfl, ?_⟩
        simp [p_laid_e1, hg]) (by simp; omega)
      have hz : ((List.range m).map fun i => eR (at' H i)) = H.map eR := by
        refine List.ext_getElem? fun i => ?_
        by_cases q : i < m
        · rw [List.getElem?_map, List.getElem?_range q, List.getElem?_map, get_at (by omega)]
          rfl
        · rw [List.getElem?_eq_none (by simp; omega), List.getElem?_eq_none (by simp; omega)]
      rw [hz] at hcomp
      have p1 := packinit_n (S := V) (n := V.length) hpk rfl
      have p2 := packfin_n (S := V) (n := V.length) (hp := H) rfl
      rw [← hV]
      simp [ha] at hcomp ⊢
      simp [wipeD, hcomp, p1, p2]
      rw [hV]
      exact hF _ _ (finP_same (by simp) ⟨by rw [hres, if_pos q], rfl⟩)
    · have ha : ¬ (a : Int) = (row.length : Int) := fun z => q (by rw [← hd, List.drop_eq_nil_iff]; omega)
      simp [ha]
      exact hF _ _ (finP_same (by simp) ⟨by rw [hres, if_neg q], rfl⟩)
end DL

namespace DL
open PySem L2
theorem Go.det {l l' : List (List Nat)} {h : Nat} {f : List (Nat × Nat)} (g : Go l h f l') : ∀ {f2 : List (Nat × Nat)} {l2 : List (List Nat)}, Go l h f2 l2 → f = f2 ∧ l' = l2 := by
  induction g with
  | stop e =>
    intro f2 l2 g2
    cases g2 with
    | stop _ => exact ⟨rfl, rfl⟩
    | step e2 _ => rw [e] at e2; cases e2
  | step e g ih =>
    intro f2 l2 g2
    cases g2 with
    | stop e2 => rw [e] at e2; cases e2
    | step e2 g2 =>
      rw [e] at e2
      cases e2
      obtain ⟨h1, h2⟩ := ih g2
      exact ⟨by rw [h1], h2⟩
theorem Wk.det {l l' : List (List Nat)} {fs : List Nat} {g : List (Nat × Nat)} (w : Wk l fs g l') : ∀ {g2 : List (Nat × Nat)} {l2 : List (List Nat)}, Wk l fs g2 l2 → g = g2 ∧ l' = l2 := by
  induction w with
  | nil => intro g2 l2 w2; cases w2; exact ⟨rfl, rfl⟩
  | cons g w ih =>
    intro g2 l2 w2
    cases w2 with
    | cons gg ww =>
      obtain ⟨h1, h2⟩ := g.det gg
      subst h1 h2
      obtain ⟨h3, h4⟩ := ih ww
      exact ⟨by rw [h3], h4⟩
open Classical in
noncomputable def wrow (hp : List (List Nat)) (fs : List Nat) : List Nat := if h : ∃ g l', Wk hp fs g l' then (Classical.choose h).map Prod.snd else []
theorem wrow_eq {hp l' : List (List Nat)} {fs : List Nat} {g : List (Nat × Nat)} (w : Wk hp fs g l') : wrow hp fs = g.map Prod.snd := by
  have h : ∃ g l', Wk hp fs g l' := ⟨g, l', w⟩
  unfold wrow
  rw [dif_pos h]
  obtain ⟨l2, w2⟩ := Classical.choose_spec h
  rw [(w.det w2).1]
theorem inv_rep (hp : List (List Nat)) : Inv8 hp.length (List.replicate hp.length []) hp hp := ⟨by simp, rfl, fun i _ => by rw [at_rep]; rfl⟩
def cnts (m : Nat) (row : List Nat) : List Nat := (List.range m).map fun c => row.count c
@[simp] theorem cnts_len (m : Nat) (row : List Nat) : (cnts m row).length = m := by simp [cnts]
theorem cnts_at {m : Nat} {row : List Nat} {c : Nat} (h : c < m) : zat (cnts m row) c = row.count c := by
  unfold zat cnts
  rw [List.getElem?_map, List.getElem?_range h]
  rfl
theorem single {α : Type} {l : List α} {a : α} (nd : l.Nodup) (h : a ∈ l) (h2 : ∀ b ∈ l, b = a) : l = [a] := by
  cases l with
  | nil => cases h
  | cons x l =>
    have hx := h2 x (List.mem_cons_self ..)
    subst hx
    cases l with
    | nil => rfl
    | cons y l =>
      have hy := h2 y (by simp)
      subst hy
      exact absurd (List.mem_cons_self ..) (List.nodup_cons.mp nd).1
theorem at_nil {l : List (List Nat)} (h : l.flatten.length = 0) (i : Nat) : at' l i = [] := by
  unfold at'
  cases q : l[i]? with
  | none => rfl
  | some r =>
    have : r ∈ l := List.mem_of_getElem? q
    show r = []
    cases r with
    | nil => rfl
    | cons c r =>
      have h1 : c ∈ l.flatten := List.mem_flatten.mpr ⟨_, this, List.mem_cons_self ..⟩
      rw [List.eq_nil_of_length_eq_zero h] at h1
      cases h1
theorem due_spec {m : Nat} {fs row : List Nat} (hm : 1 ≤ m) (hm8 : m ≤ 8) (hf : FirstsOk m fs) (hc : ∀ c ∈ row, c < m) (h8 : ∀ c, row.count c ≤ 8) :
    (dls (cnts m row)).filter (fun hp => decide (wrow hp fs = row)) = if (lys fs row (List.replicate m [])).2 = [] then [(lys fs row (List.replicate m [])).1] else [] := by
  have key : ∀ hp ∈ dls (cnts m row), wrow hp fs = row → lys fs row (List.replicate m []) = (hp, []) := fun hp hh hw => by
    obtain ⟨h1, h2, h3⟩ := dls_mem.mp hh
    have hl : hp.length = m := by simpa using congrArg List.length h1
    have bd : Bd m hp := ⟨hl, fun r hr c hcr => by simpa using h2 c (List.mem_flatten.mpr ⟨r, hr, hcr⟩)⟩
    have bal : Bal m hp := fun i hi => by
      rw [h3 i (by simpa using hi)]
      have : (hp.map List.length)[i]? = (cnts m row)[i]? := by rw [h1]
      rw [List.getElem?_map] at this
      unfold DL.hl zat
      rw [← this, List.getElem?_eq_getElem (by omega)]
      rfl
    obtain ⟨g, l', w⟩ := wk_ex m fs hp bd hf.lt
    rw [wrow_eq w] at hw
    have iv := inv_rep hp
    rw [hl] at iv
    obtain ⟨H', e, v⟩ := lysA w bd bal hf.lt _ iv
    rw [hw] at e
    have hz : l'.flatten.length = 0 := by
      have a1 := w.len
      have a2 : hp.flatten.length = row.length := by
        rw [List.length_flatten, h1]
        exact len_counts row hc
      have a3 : g.length = row.length := by rw [← hw]; simp
      omega
    rw [e]
    congr 1
    refine List.ext_getElem? fun i => ?_
    by_cases hi : i < m
    · have := v.2.2 i hi
      rw [at_nil hz, List.append_nil] at this
      rw [get_at (by rw [v.1]; exact hi), get_at (by omega), this]
    · rw [List.getElem?_eq_none (by rw [v.1]; omega), List.getElem?_eq_none (by omega)]
  by_cases q : (lys fs row (List.replicate m [])).2 = []
  · rw [if_pos q]
    obtain ⟨H, hH⟩ : ∃ H, H = (lys fs row (List.replicate m [])).1 := ⟨_, rfl⟩
    have e : lys fs row (List.replicate m []) = (H, []) := Prod.ext hH.symm q
    obtain ⟨pk, hl, ⟨g, w, eg⟩, hs, hcn⟩ := laid_spec hm hm8 hf hc h8 e
    rw [← hH]
    refine single (List.Pairwise.filter _ (dls_nodup _)) (List.mem_filter.mpr ⟨dls_mem.mpr ⟨?_, fun c hcf => ?_, fun c hcm => ?_⟩, ?_⟩) (fun b hb => ?_)
    · refine List.ext_getElem? fun i => ?_
      by_cases hi : i < m
      · unfold cnts
        rw [List.getElem?_map, get_at (by omega), List.getElem?_map, List.getElem?_range hi]
        show some (at' H i).length = _
        rw [hs i hi]
        rfl
      · rw [List.getElem?_eq_none (by simp; omega), List.getElem?_eq_none (by simp; omega)]
    · have := List.count_pos_iff.mpr hcf
      rw [hcn] at this
      simpa using hc c (List.count_pos_iff.mp this)
    · rw [hcn, cnts_at (by simpa using hcm)]
    · rw [wrow_eq w, eg]
      simp
    · obtain ⟨h1, h2⟩ := List.mem_filter.mp hb
      have := key b h1 (by simpa using h2)
      rw [e] at this
      exact (Prod.mk.inj this).1.symm
  · rw [if_neg q, List.filter_eq_nil_iff]
    intro hp hh hw
    exact q (by rw [key hp hh (by simpa using hw)])
end DL

namespace DL
open PySem L2
theorem isC_pack (m : M D) (σ : Sl) (S S' : Sto) (hp : List (List Nat)) (h : m σ S = .ok (insPack hp) S') : mIsC 0 m σ S = .ok (.bl true) S' := by
  unfold mIsC mB
  rw [h]
  rfl
def rIsC (k : Nat) (d : D) (S : Sto) : R D := match tyOf S d with
  | some _ => .ok (.bl false) S
  | none => match insOf S d with
    | some (k', _, _) => if k' = k then .ok (.bl true) S else .bad
    | none => .bad
@[simp] theorem ev_isC (k : Nat) (m : M D) (σ : Sl) (S : Sto) : mIsC k m σ S = mB m (fun x => fun _ S => rIsC k x S) σ S := by
  unfold mIsC rIsC
  rfl
@[simp] theorem isNon_pack (hp : List (List Nat)) : isNon (insPack hp) = false := rfl
@[simp] theorem rIsC_pack (hp : List (List Nat)) (S : Sto) : rIsC 0 (insPack hp) S = .ok (.bl true) S := rfl
theorem heaps_ok (S : Sto) (hp : List (List Nat)) : f_Pack_heaps [insPack hp] S = .ok (eH hp) S := by
  refine fun_eq rfl fun F hF => ?_
  simp [p_Pack_heaps]
  exact hF _ _ (finP_self (by simp) ⟨rfl, rfl⟩)
/-- the cards that were turned, heap by heap -/
def plain (hp l' : List (List Nat)) : List (List Nat) := (List.range hp.length).map fun i => (at' hp i).take ((at' hp i).length - (at' l' i).length)
theorem walked_laid {hp l' : List (List Nat)} {fs : List Nat} {g : List (Nat × Nat)} (p : PackOk hp) (hf : FirstsOk hp.length fs) (w : Wk hp fs g l') : lys fs (g.map Prod.snd) (List.replicate hp.length []) = (plain hp l', []) := by
  obtain ⟨H', e, v⟩ := lysA w p.bd p.bal hf.lt _ (inv_rep hp)
  rw [e]
  congr 1
  refine List.ext_getElem? fun i => ?_
  unfold plain
  by_cases hi : i < hp.length
  · have := v.2.2 i hi
    rw [get_at (by rw [v.1]; exact hi), List.getElem?_map, List.getElem?_range hi]
    show _ = some ((at' hp i).take ((at' hp i).length - (at' l' i).length))
    rw [← this]
    simp
  · rw [List.getElem?_eq_none (by rw [v.1]; omega), List.getElem?_eq_none (by simp; omega)]
theorem draw_row (h : Hh) (few n : Nat) (hfew : 1 ≤ few) (hfew8 : few ≤ 8) (hn : n ≤ 8) (wσ : Sl) (he : ∀ (h : Hh) (d : D), p_law_k08_e2 (setAll wσ [16] [d]) (hs h) = f_l_next [.ref 1, .int (few : Int)] (hs h)) : ∃ (row : List Nat) (h' : Hh), compL (hs h) [] false (.nm 16) wσ (fun _ S => .ok true S) p_law_k08_e2 ((List.range n).map eN) [] (hs h) = .ok (row.map eN) (hs h') ∧ row.length = n ∧ ∀ c ∈ row, c < few := by
  obtain ⟨ds, S', e, row, h', e1, e2, e3, e4⟩ := out_comp (S0 := hs h) (src := []) (pair := false) (t := .nm 16) (wσ := wσ) (c := fun _ S => .ok true S) (e := p_law_k08_e2) (items := (List.range n).map eN) (Q := fun ds S => ∃ (row : List Nat) (h' : Hh), ds = row.map eN ∧ S = hs h' ∧ row.length = n ∧ ∀ c ∈ row, c < few) (fun k ds S => ∃ (row : List Nat) (h' : Hh), ds = row.map eN ∧ S = hs h' ∧ row.length = k ∧ ∀ c ∈ row, c < few) (fun k d acc S e q => by
    obtain ⟨row, h1, rfl, rfl, hl, hc⟩ := q
    have hk : k < n := by
      have := (List.getElem?_eq_some_iff.mp e).1
      simpa using this
    obtain ⟨c, h2, e2, hc2⟩ := next_ok h1 [] (few : Int) (by omega) (by omega)
    simp only [List.append_nil] at e2
    refine ⟨by simp, [d], rfl, true, _, rfl, fun _ => ⟨by simp; omega, eN c, hs h2, (he h1 d).trans e2, row ++ [c], h2, by simp, rfl, by simp [hl], fun x hx => ?_⟩, nofun⟩
    rcases List.mem_append.mp hx with z | z
    · exact hc x z
    · simp at z; subst z; omega) (fun acc S q => by
    obtain ⟨row, h1, rfl, rfl, hl, hc⟩ := q
    exact ⟨by simp, row, h1, rfl, rfl, by simpa using hl, hc⟩) (acc := []) (S := hs h) ⟨[], h, rfl, rfl, rfl, nofun⟩
  subst e1 e2
  exact ⟨row, h', e, e3, e4⟩
set_option maxHeartbeats 4000000 in
theorem law_k08_true (ns : List Int) (hn : ns.length ≤ 63) : ∃ S, f_law_k08 [.scr ns] [] = .ok (.bl true) S := by
  obtain ⟨h0, e0⟩ := mix_ok ns hn 8
  have := fun_out (slots := 19) (n := 1) (m := p_law_k08) (ds := [.scr ns]) (S := []) (Q := fun d S => d = .bl true) rfl (fun F hF => by
    have e5 : rgD 0 4 = (List.range 4).map eN := rgD_nat 4
    have e6 : okRg (0, 4) = true := rfl
    simp [p_law_k08, e0, e5, e6]
    refine out_for (fun _ σ S => ∃ (h : Hh) (j2 j3 j4 j5 j6 j7 j8 j9 j10 j11 j12 j13 j14 j15 j16 j17 j18 : D), σ = [.scr ns, .ref 1, j2, j3, j4, j5, j6, j7, j8, j9, j10, j11, j12, j13, j14, j15, j16, j17, j18] ∧ S = hs h) (fun k d σ S e q => ?_) (fun σ S q => ?_) ⟨h0, _, _, _, _, _, _, _, _, _, _, _, _, _, _, _, _, _, rfl, rfl⟩
    · obtain ⟨h, j2, j3, j4, j5, j6, j7, j8, j9, j10, j11, j12, j13, j14, j15, j16, j17, j18, rfl, rfl⟩ := q
      refine ⟨by simp, _, rfl, fun F' hF' => ?_⟩
      obtain ⟨r, h1, e1, hr⟩ := drawn_pack h
      obtain ⟨fs, h2, e2, hfs⟩ := drawn_firsts h1 (1 + r) (by omega) (by omega)
      obtain ⟨zs, h3, e3, hzl, hzs, hz8⟩ := drawn_sizes h2 (1 + r) 64 (by omega)
      obtain ⟨hp, h4, e4, hpl, hpk⟩ := drawn_deal h3 zs (by omega) (by omega) hzs hz8
      have hlen : hp.length = 1 + r := by omega
      have h8 := hpk.le
      rw [← hlen] at hfs
      obtain ⟨g, l', w⟩ := wk_ex hp.length fs hp hpk.bd hfs.lt
      have hgl : g.length ≤ 64 := by have := w.len; have := hpk.most; omega
      have hbl := w.bd hpk.bd
      have ew := lwalk_ok (hs h4) w (by omega)
      have hc : ((1 + r : Nat) : Int) = 1 + (r : Int) := by omega
      have hc64 : ((64 : Nat) : Int) = 64 := rfl
      rw [hc] at e2 e3
      rw [hc64] at e3
      have hmany : 1 + (r : Int) = (hp.length : Int) := by omega
      rw [hmany] at e2 e3
      have hrg := okRg_0 (n := hp.length) (by omega)
      obtain ⟨row, hrow⟩ : ∃ row, row = g.map Prod.snd := ⟨_, rfl⟩
      have hc1 := comp_all (S := hs h4) (src := []) (pair := false) (t := .nm 14) (wσ := [.scr ns, .ref 1, d, eN hp.length, eR fs, eH hp, .lst (g.map eP), eH l', j8, j9, j10, j11, j12, j13, .dead, j15, j16, j17, j18]) (e := p_law_k08_e0) eP (fun p => eN p.2) g (fun p _ => ⟨_, rfl, by simp [p_law_k08_e0, eP]⟩) (by simp; omega)
      have hz1 : (g.map fun p => eN p.2) = row.map eN := by rw [hrow, List.map_map]; rfl
      rw [hz1] at hc1
      have hc2 := comp_all (S := hs h4) (src := []) (pair := false) (t := .nm 15) (wσ := [.scr ns, .ref 1, d, eN hp.length, eR fs, eH hp, .lst (g.map eP), eH l', eR row, j9, j10, j11, j12, j13, j14, .dead, j16, j17, j18]) (e := p_law_k08_e1) eN (fun i => eR ((at' hp i).take ((at' hp i).length - (at' l' i).length))) (List.range hp.length) (fun i hi => by
        rw [List.mem_range] at hi
        refine ⟨_, rfl, ?_⟩
        have g1 : (hp.map eR)[i]? = some (eR (at' hp i)) := by rw [List.getElem?_map, get_at hi]; rfl
        have g2 : (l'.map eR)[i]? = some (eR (at' l' i)) := by rw [List.getElem?_map, get_at (by rw [hbl.1]; exact hi)]; rfl
        have hle : (at' l' i).length ≤ (at' hp i).length := by
          obtain ⟨_, _, v⟩ := lysA w hpk.bd hpk.bal hfs.lt _ (inv_rep hp)
          have := congrArg List.length (v.2.2 i hi)
          rw [List.length_append] at this
          omega
        have es : ((at' hp i).length : Int) - ((at' l' i).length : Int) = (((at' hp i).length - (at' l' i).length : Nat) : Int) := by omega
        simp [p_law_k08_e1, g1, g2, es]) (by simp; omega)
      have hz2 : ((List.range hp.length).map fun i => eR ((at' hp i).take ((at' hp i).length - (at' l' i).length))) = (plain hp l').map eR := by unfold plain; rw [List.map_map]; rfl
      rw [hz2] at hc2
      have hrc : ∀ c ∈ row, c < hp.length := fun c hcr => by
        rw [hrow] at hcr
        obtain ⟨x, h1, h2⟩ := List.mem_flatten.mp (w.cards c hcr)
        exact hpk.lt x h1 c h2
      have hr8 : ∀ c, row.count c ≤ 8 := fun c => by
        have h1 := w.count c
        rw [← hrow] at h1
        by_cases q : c < hp.length
        · have h2 := hpk.cnt c q
          have h3 := hpk.sz _ (List.getElem_mem q)
          omega
        · have : row.count c = 0 := List.count_eq_zero.mpr fun z => q (hrc c z)
          omega
      have hrl : row.length ≤ 64 := by rw [hrow]; simpa using hgl
      have el := laid_ok (hs h4) hpk.pos h8 hfs hrc hr8 hrl
      have hwl := walked_laid hpk hfs w
      rw [← hrow] at hwl
      have eD : laidD hp.length fs row = insPack (plain hp l') := by unfold laidD; rw [hwl]; rfl
      rw [eD] at el
      have hpp := (laid_spec hpk.pos h8 hfs hrc hr8 hwl).1
      have hall : ∀ q : List (List Nat), PackOk q → alk 7 (eH q) = true := fun q pq => alk_eH 5 q (by have := pq.le; omega) (fun x hx => by have := pq.sz x hx; omega)
      have a1 : f_l_alike 8 [eH (plain hp l'), eH (plain hp l')] (hs h4) = .ok (.bl true) (hs h4) := alike_ok 7 _ _ (hall _ hpp)
      have hh1 := heaps_ok (hs h4) (plain hp l')
      obtain ⟨r2, h5, f1, hr2⟩ := next_ok h4 [] 3 (by omega) (by omega)
      obtain ⟨n, h6, f2, hn2⟩ := next_ok h5 [] 6 (by omega) (by omega)
      simp only [List.append_nil] at f1 f2
      obtain ⟨few, hfew⟩ : ∃ few, few = 1 + r2 := ⟨_, rfl⟩
      have hfi : 1 + (r2 : Int) = (few : Int) := by omega
      obtain ⟨row2, h7, f3, hrl2, hrc2⟩ := draw_row h6 few n (by omega) (by omega) (by omega) [.scr ns, .ref 1, d, eN hp.length, eR fs, eH hp, .lst (g.map eP), eH l', eR row, eH (plain hp l'), insPack (plain hp l'), eN few, j12, j13, j14, j15, .dead, j17, j18] (fun h d => by simp [p_law_k08_e2])
      obtain ⟨fs2, h8', f4, hfs2⟩ := drawn_firsts h7 few (by omega) (by omega)
      have hrn := okRg_0 (n := n) (by omega)
      have hrf := okRg_0 (n := few) (by omega)
      have hcn : ∀ c, row2.count c ≤ 8 := fun c => by have := List.count_le_length (a := c) (l := row2); omega
      have hc3 := comp_all (S := hs h8') (src := []) (pair := false) (t := .nm 15) (wσ := [.scr ns, .ref 1, d, eN hp.length, eR fs2, eH hp, .lst (g.map eP), eH l', eR row2, eH (plain hp l'), insPack (plain hp l'), eN few, j12, j13, j14, .dead, j16, j17, j18]) (e := p_law_k08_e4) eN (fun i => eN (row2.count i)) (List.range few) (fun i hi => by
        refine ⟨_, rfl, ?_⟩
        have hin := comp_pure (S := hs h8') (src := []) (pair := false) (t := .nm 17) (wσ := [.scr ns, .ref 1, d, eN hp.length, eR fs2, eH hp, .lst (g.map eP), eH l', eR row2, eH (plain hp l'), insPack (plain hp l'), eN few, j12, j13, j14, eN i, j16, .dead, j18]) (c := p_law_k08_c0) (e := p_law_k08_e3) eN (fun c => decide (c = i)) eN row2 [] (fun c _ => ⟨_, rfl, by
            simp [p_law_k08_c0]
            omega, fun _ => by simp [p_law_k08_e3]⟩) (by simp; omega)
        have hln : (row2.filter fun c => decide (c = i)).length = row2.count i := by
          rw [List.count_eq_length_filter]
          congr 1
        simp [p_law_k08_e4, wipeD, hin, hln]) (by simp; omega)
      have hz3 : ((List.range few).map fun i => eN (row2.count i)) = (cnts few row2).map eN := by unfold cnts; rw [List.map_map]; rfl
      rw [hz3] at hc3
      have hsum : (cnts few row2).sum = row2.length := len_counts row2 hrc2
      have ed := deals_ok (hs h8') (.lst ((cnts few row2).map eN)) (cnts few row2) (.inr rfl) (by simp; omega) (by omega) (fun k hk => by
        have h1 := Rw_len (cnts few row2) k
        rw [cnts_len] at h1
        have h2 : few ^ k ≤ 3 ^ k := Nat.pow_le_pow_left (by omega) k
        have h3 : 3 ^ k ≤ 3 ^ 5 := Nat.pow_le_pow_right (by omega) (by omega)
        omega)
      have hdl : (dls (cnts few row2)).length ≤ 50000 := by
        unfold dls
        rw [List.length_map]
        have h1 := Rw_len (cnts few row2) (cnts few row2).sum
        rw [cnts_len] at h1
        have h2 : few ^ (cnts few row2).sum ≤ 3 ^ (cnts few row2).sum := Nat.pow_le_pow_left (by omega) _
        have h3 : 3 ^ (cnts few row2).sum ≤ 3 ^ 5 := Nat.pow_le_pow_right (by omega) (by omega)
        omega
      have hc4 := comp_pure (S := hs h8') (src := []) (pair := false) (t := .nm 18) (wσ := [.scr ns, .ref 1, d, eN hp.length, eR fs2, eH hp, .lst (g.map eP), eH l', eR row2, eH (plain hp l'), insPack (plain hp l'), eN few, .lst ((cnts few row2).map eN), j13, j14, j15, j16, j17, .dead]) (c := p_law_k08_c1) (e := p_law_k08_e6) eH (fun hq => decide (wrow hq fs2 = row2)) eH (dls (cnts few row2)) [] (fun hq hhq => by
        obtain ⟨q1, q2, q3⟩ := dls_mem.mp hhq
        have ql : hq.length = few := by simpa using congrArg List.length q1
        have bd : Bd few hq := ⟨ql, fun r hr c hcr => by simpa using q2 c (List.mem_flatten.mpr ⟨r, hr, hcr⟩)⟩
        obtain ⟨g2, l2, w2⟩ := wk_ex few fs2 hq bd hfs2.lt
        have hg2 : g2.length ≤ 5 := by
          have h1 := w2.len
          have h2 : hq.flatten.length = (cnts few row2).sum := by rw [List.length_flatten, q1]
          omega
        have ew2 := lwalk_ok (hs h8') w2 (by omega)
        have hin := comp_all (S := hs h8') (src := []) (pair := false) (t := .nm 14) (wσ := [.scr ns, .ref 1, d, eN hp.length, eR fs2, eH hp, .lst (g.map eP), eH l', eR row2, eH (plain hp l'), insPack (plain hp l'), eN few, .lst ((cnts few row2).map eN), j13, .dead, j15, j16, j17, eH hq]) (e := p_law_k08_e5) eP (fun p => eN p.2) g2 (fun p _ => ⟨_, rfl, by simp [p_law_k08_e5, eP]⟩) (by simp; omega)
        have hz : (g2.map fun p => eN p.2) = (wrow hq fs2).map eN := by rw [wrow_eq w2, List.map_map]; rfl
        rw [hz] at hin
        have heq := eqD_eR (wrow hq fs2) row2
        refine ⟨_, rfl, ?_, fun _ => by simp [p_law_k08_e6]⟩
        simp [p_law_k08_c1, wipeD, ew2, hin, v_eq, heq]) (by simp; omega)
      rw [List.nil_append, due_spec (by omega) (by omega) hfs2 hrc2 hcn] at hc4
      have el2 := laid_ok (hs h8') (m := few) (by omega) (by omega) hfs2 hrc2 hcn (by omega)
      simp only [p_law_k08_b0]
      by_cases q : (lys fs2 row2 (List.replicate few [])).2 = []
      · obtain ⟨H, hH⟩ : ∃ H, H = (lys fs2 row2 (List.replicate few [])).1 := ⟨_, rfl⟩
        have eD2 : laidD few fs2 row2 = insPack H := by unfold laidD; rw [if_pos q, hH]
        have hHp := (laid_spec (by omega) (by omega) hfs2 hrc2 hcn (H := H) (Prod.ext hH.symm q)).1
        rw [eD2] at el2
        rw [if_pos q, ← hH] at hc4
        have a2 : f_l_alike 8 [eH H, eH H] (hs h8') = .ok (.bl true) (hs h8') := alike_ok 7 _ _ (hall _ hHp)
        have hh2 := heaps_ok (hs h8') H
        simp [e1, hmany, e2, e3, e4, ew, hc1, wipeD, hrg, rgD_nat, hc2, el, hh1, a1, f1, hfi, f2, hrn, f3, f4, hrf, hc3, ed, hc4, el2, v_eq, hh2, a2]
        exact hF' _ _ ⟨h8', _, _, _, _, _, _, _, _, _, _, _, _, _, _, _, _, _, rfl, rfl⟩
      · have eD2 : laidD few fs2 row2 = .non := by unfold laidD; rw [if_neg q]
        rw [eD2] at el2
        rw [if_neg q] at hc4
        simp [e1, hmany, e2, e3, e4, ew, hc1, wipeD, hrg, rgD_nat, hc2, el, hh1, a1, f1, hfi, f2, hrn, f3, f4, hrf, hc3, ed, hc4, el2, v_eq]
        exact hF' _ _ ⟨h8', _, _, _, _, _, _, _, _, _, _, _, _, _, _, _, _, _, rfl, rfl⟩
    · obtain ⟨h, j2, j3, j4, j5, j6, j7, j8, j9, j10, j11, j12, j13, j14, j15, j16, j17, j18, rfl, rfl⟩ := q
      simp
      exact hF _ _ ⟨_, _, fin_same (S := []) (T := hs h) rfl, rfl⟩)
  obtain ⟨d, S2, e, rfl⟩ := this
  exact ⟨S2, e⟩
end DL

namespace DL
open PySem L2
section
variable {σ : Sl} {S : Sto}
@[simp] theorem ev_me (k : Nat) (nm : Str) (fn : List D → Sto → R D) (m : M D) : mMe k nm fn m σ S = mB m (fun x => fun _ S => oB (insOf S x) fun q => if q.1 = k ∧ nm ∉ q.2.1 then rPr (fn [x] S) else .bad) σ S := by
  unfold mMe
  congr 1
  funext x _ S
  cases insOf S x with
  | none => rfl
  | some q =>
    obtain ⟨k', ns, ds⟩ := q
    by_cases h : k' = k ∧ nm ∉ ns
    · simp only [oB, if_pos h]
      cases fn [x] S <;> rfl
    · simp only [oB, if_neg h]
end
def tbN : List Str := ["base", "begun", "whole", "done"]
/-- a table of which k cards are turned -/
def tbO (hp : List (List Nat)) (fs : List Nat) (g : List (Nat × Nat)) (k : Nat) : Ob := .ins 1 ["base", "begun", "whole", "done"] [insPack hp, eR fs, .tup (g.map eP), .tup ((g.take k).map eP)]
theorem okSt_put {S : Sto} {j : Nat} {o : Ob} (h : clO S.length o = true) : OkSt S (S.set j o) := ⟨by simp, fun k o' hk e => by
  by_cases q : k = j
  · subst q
    rw [List.getElem?_set_self hk] at e
    cases e
    exact .inr h
  · rw [List.getElem?_set_ne fun z => q z.symm] at e
    exact .inl e⟩
theorem finP_put {S : Sto} {j : Nat} {o : Ob} {d : D} {Q : D → Sto → Prop} (h : clO S.length o = true) (hd : cl S.length d = true) (q : Q d (S.set j o)) : FinP S Q d (S.set j o) := by
  refine ⟨d, S.set j o, ?_, q⟩
  unfold fin
  rw [if_pos (okSt_put h), fz_cl hd]
  simp only [R.ok.injEq, true_and]
  exact List.take_of_length_le (by simp)
theorem finP_last {S : Sto} {o o' : Ob} {d : D} {Q : D → Sto → Prop} (h : clO (S ++ [o]).length o' = true) (hd : cl (S ++ [o]).length d = true) (q : Q d (S ++ [o'])) : FinP (S ++ [o]) Q d (S ++ [o']) := by
  have e : S ++ [o'] = (S ++ [o]).set S.length o' := by simp
  rw [e] at q ⊢
  exact finP_put h hd q
theorem cut_end (ds : List D) (d : D) : cutD (ds ++ [d]) none (some (-1)) = ds := by
  unfold cutD
  have : HT.sIx (ds ++ [d]).length (ds ++ [d]).length (some (-1)) = ds.length := by
    unfold HT.sIx
    simp
    omega
  rw [HT.sIx_none, this]
  simp
theorem atI_end (ds : List D) (d : D) : atI (ds ++ [d]) (-1) = some d := by
  unfold atI
  have : ixN (ds ++ [d]).length (-1) = some ds.length := by
    unfold ixN
    simp
    omega
  rw [this]
  simp
theorem s_bb : ("begun" == ("base" : Str)) = false ∧ ("whole" == ("base" : Str)) = false ∧ ("whole" == ("begun" : Str)) = false ∧ ("done" == ("base" : Str)) = false ∧ ("done" == ("begun" : Str)) = false ∧ ("done" == ("whole" : Str)) = false := by decide +kernel
theorem pn1 : putN "base" [] = (["base"] : List Str) := by decide +kernel
theorem pn2 : putN "begun" ["base"] = (["base", "begun"] : List Str) := by decide +kernel
theorem pn3 : putN "whole" ["base", "begun"] = (["base", "begun", "whole"] : List Str) := by decide +kernel
theorem pn4 : putN "done" ["base", "begun", "whole"] = (["base", "begun", "whole", "done"] : List Str) := by decide +kernel
theorem pn5 : putN "done" ["base", "begun", "whole", "done"] = (["base", "begun", "whole", "done"] : List Str) := by decide +kernel
theorem px1 (a : D) : putX "base" a [] [] = [a] := rfl
theorem px2 (a b : D) : putX "begun" b ["base"] [a] = [a, b] := by kernel_rfl
theorem px3 (a b c : D) : putX "whole" c ["base", "begun"] [a, b] = [a, b, c] := by kernel_rfl
theorem px4 (a b c d : D) : putX "done" d ["base", "begun", "whole"] [a, b, c] = [a, b, c, d] := by kernel_rfl
theorem px5 (a b c d e : D) : putX "done" e ["base", "begun", "whole", "done"] [a, b, c, d] = [a, b, c, e] := by kernel_rfl
theorem fd1 (a b c d : D) : fldD "base" ["base", "begun", "whole", "done"] [a, b, c, d] = some a := by kernel_rfl
theorem fd2 (a b c d : D) : fldD "begun" ["base", "begun", "whole", "done"] [a, b, c, d] = some b := by kernel_rfl
theorem fd3 (a b c d : D) : fldD "whole" ["base", "begun", "whole", "done"] [a, b, c, d] = some c := by kernel_rfl
theorem fd4 (a b c d : D) : fldD "done" ["base", "begun", "whole", "done"] [a, b, c, d] = some d := by kernel_rfl
theorem fdr (a : D) : fldD "rows" ["rows"] [a] = some a := by kernel_rfl
section
variable {hp l' : List (List Nat)} {fs : List Nat} {g : List (Nat × Nat)}
theorem tinit_ok (S : Sto) (n : Nat) (hn : n = S.length) (p : PackOk hp) (hf : FirstsOk hp.length fs) (w : Wk hp fs g l') : f_Table_init [.ref n, insPack hp, eR fs] (S ++ [.ins 1 [] []]) = .ok .non (S ++ [tbO hp fs g 0]) := by
  subst hn
  have hw := fun S => walked_ok S p w
  have hg : (g.map eP).length ≤ 100000 := by have := w.len; have := p.most; simp; omega
  have ck := fun S => checkfirsts_ok S hp.length fs hf
  have := fun_out (slots := 3) (n := 3) (m := p_Table_init) (ds := [.ref S.length, insPack hp, eR fs]) (S := S ++ [.ins 1 [] []]) (Q := fun d S2 => d = .non ∧ S2 = S ++ [tbO hp fs g 0]) rfl (fun F hF => by
    obtain ⟨t, _, _, e⟩ := hw (S ++ [.ins 1 ["base", "begun"] [insPack hp, eR fs]])
    unfold tbO at hF
    have hl0 : ((g.take 0).map eP) = [] := by simp
    rw [hl0] at hF
    unfold insPack at *
    have hGc : ∀ n, cll n (g.map eP) = true := fun n => by simp [cll_all]
    generalize g.map eP = GE at *
    simp [p_Table_init, fdr, ck, pn1, pn2, pn3, pn4, px1, px2, px3, px4, e, hg]
    exact hF _ _ (finP_last (by simp [clO, hGc]) rfl ⟨rfl, rfl⟩))
  obtain ⟨d, S2, e, rfl, rfl⟩ := this
  exact e
variable {S : Sto} {n k : Nat} (hn : S[n]? = some (tbO hp fs g k)) (hgl : g.length ≤ 64)
include hn hgl
theorem tturn_ok (hk : k < g.length) : f_Table_turn [.ref n] S = .ok (eP g[k]) (S.set n (tbO hp fs g (k + 1))) := by
  have hnl : n < S.length := (List.getElem?_eq_some_iff.mp hn).1
  have := fun_out (slots := 1) (n := 1) (m := p_Table_turn) (ds := [.ref n]) (S := S) (Q := fun d S2 => d = eP g[k] ∧ S2 = S.set n (tbO hp fs g (k + 1))) rfl (fun F hF => by
    have e1 : (((g.take k).map eP).length : Int) = (k : Int) := by rw [List.length_map, List.length_take]; omega
    have e2 : ((g.map eP).length : Int) = (g.length : Int) := by rw [List.length_map]
    have e3 : ¬ (k : Int) = (g.length : Int) := by omega
    have e4 : cutD (g.map eP) none (some ((k : Int) + 1)) = (g.take (k + 1)).map eP := by
      have := cut_to (g.map eP) (k + 1)
      rw [show ((k + 1 : Nat) : Int) = (k : Int) + 1 by omega] at this
      rw [this, List.map_take]
    have e5 : ((g.take (k + 1)).map eP).getLast? = some (eP g[k]) := by
      rw [List.take_succ_eq_append_getElem hk, List.map_append]
      simp
    have c1 : ∀ m, cll m (g.map eP) = true := fun m => by simp [cll_all]
    have c2 : ∀ m, cll m ((g.take (k + 1)).map eP) = true := fun m => cll_map _ _ _ fun _ _ => by simp
    unfold tbO at hn hF
    have gs : ∀ o, (S.set n o)[n]? = some o := fun o => List.getElem?_set_self hnl
    generalize (g.take k).map eP = G0 at *
    generalize (g.take (k + 1)).map eP = G1 at *
    generalize g.map eP = GE at *
    simp [p_Table_turn, hn, fd3, fd4, e1, e2, e3, e4, pn5, px5, gs, e5]
    exact hF _ _ (finP_put (by simp [clO, c1, c2]) (by simp) ⟨rfl, rfl⟩))
  obtain ⟨d, S2, e, rfl, rfl⟩ := this
  exact e
theorem tturn_end (hk : k = g.length) : f_Table_turn [.ref n] S = .ok .non S := fun_eq rfl fun F hF => by
  have e1 : ((g.take k).map eP).length = g.length := by rw [hk, List.take_length, List.length_map]
  have e2 : (g.map eP).length = g.length := List.length_map ..
  unfold tbO at hn
  generalize (g.take k).map eP = G0 at *
  generalize g.map eP = GE at *
  simp [p_Table_turn, hn, fd3, fd4, e1, e2]
  exact hF _ _ (finP_self rfl ⟨rfl, rfl⟩)
theorem tundo_ok (hk : k ≤ g.length) : f_Table_undo [.ref n] S = .ok (.bl (decide (0 < k))) (S.set n (tbO hp fs g (k - 1))) := by
  have hnl : n < S.length := (List.getElem?_eq_some_iff.mp hn).1
  have := fun_out (slots := 1) (n := 1) (m := p_Table_undo) (ds := [.ref n]) (S := S) (Q := fun d S2 => d = .bl (decide (0 < k)) ∧ S2 = S.set n (tbO hp fs g (k - 1))) rfl (fun F hF => by
    cases k with
    | zero =>
      have hs : S.set n (tbO hp fs g 0) = S := by
        obtain ⟨h1, h2⟩ := List.getElem?_eq_some_iff.mp hn
        rw [← h2]
        exact List.set_getElem_self h1
      unfold tbO at hn
      have hl0 : (g.take 0).map eP = [] := by simp
      rw [hl0] at hn
      have e0 : ∀ S, fEq (.tup []) (.tup []) S = .ok (.bl true) S := fun S => by rw [v_eq S _ _ rfl rfl]; simp
      simp [p_Table_undo, hn, fd4, e0]
      exact hF _ _ (finP_self rfl ⟨by simp, by show S = S.set n (tbO hp fs g 0); rw [hs]⟩)
    | succ k =>
      have e1 : (g.take (k + 1)).map eP = (g.take k).map eP ++ [eP g[k]] := by rw [List.take_succ_eq_append_getElem (by omega), List.map_append]; rfl
      have e0 : ∀ S, fEq (.tup ((g.take (k + 1)).map eP)) (.tup []) S = .ok (.bl false) S := fun S => by
        rw [v_eq S _ (.tup []) (by show plns 63 _ = true; exact plns_map _ _ _ fun _ _ => by simp) rfl]
        show R.ok (D.bl (eqD (.tup ((g.take (k + 1)).map eP)) (.tup []))) S = _
        have e2 : ∃ x xs, (g.take (k + 1)).map eP = x :: xs := by
          cases h : (g.take (k + 1)).map eP with
          | nil => rw [e1] at h; simp at h
          | cons x xs => exact ⟨x, xs, rfl⟩
        obtain ⟨x, xs, h⟩ := e2
        rw [h, eqD_t10]
      have e2 : cutD ((g.take (k + 1)).map eP) none (some (-1)) = (g.take k).map eP := by rw [e1]; exact cut_end _ _
      have c1 : ∀ m, cll m (g.map eP) = true := fun m => by simp [cll_all]
      have c2 : ∀ m, cll m ((g.take k).map eP) = true := fun m => cll_map _ _ _ fun _ _ => by simp
      have gs : ∀ o, (S.set n o)[n]? = some o := fun o => List.getElem?_set_self hnl
      have hF2 := hF (.bl true) (S.set n (tbO hp fs g k))
      simp only [Nat.add_sub_cancel] at hF2
      unfold tbO at hn hF2
      generalize (g.take (k + 1)).map eP = G1 at *
      generalize (g.take k).map eP = G0 at *
      generalize g.map eP = GE at *
      simp [p_Table_undo, hn, fd4, e0, e2, pn5, px5]
      exact hF2 (finP_put (by simp [clO, c1, c2]) rfl ⟨by simp, rfl⟩))
  obtain ⟨d, S2, e, rfl, rfl⟩ := this
  exact e
theorem tshown_ok : f_Table_shown [.ref n] S = .ok (.lst ((g.take k).map eP)) S := fun_eq rfl fun F hF => by
  have c2 : cll S.length ((g.take k).map eP) = true := cll_map _ _ _ fun _ _ => by simp
  unfold tbO at hn
  generalize (g.take k).map eP = G0 at *
  generalize g.map eP = GE at *
  simp [p_Table_shown, hn, fd4]
  exact hF _ _ (finP_self (by simp [c2]) ⟨rfl, rfl⟩)
theorem tshownK_ok : f_Table_shownK [.ref n] S = .ok (.ref S.length) (S ++ [.lst ((g.take k).map eP)]) := by
  have := funK_out (slots := 1) (n := 1) (m := p_Table_shownK) (ds := [.ref n]) (S := S) (Q := fun d S2 => d = .ref S.length ∧ S2 = S ++ [.lst ((g.take k).map eP)]) rfl (fun F hF => by
    unfold tbO at hn
    generalize (g.take k).map eP = G0 at *
    generalize g.map eP = GE at *
    simp [p_Table_shownK, hn, fd4]
    exact hF _ _ ⟨rfl, rfl⟩)
  obtain ⟨d, S2, e, rfl, rfl⟩ := this
  exact e
theorem tlen_ok (hk : k ≤ g.length) : f_Table_len [.ref n] S = .ok (.int (k : Int)) S := fun_eq rfl fun F hF => by
  have e1 : ((g.take k).map eP).length = k := by rw [List.length_map, List.length_take]; omega
  unfold tbO at hn
  generalize (g.take k).map eP = G0 at *
  generalize g.map eP = GE at *
  simp [p_Table_len, hn, fd4, e1]
  exact hF _ _ (finP_self rfl ⟨rfl, rfl⟩)
theorem tpack_ok : f_Table_pack [.ref n] S = .ok (insPack hp) S := fun_eq rfl fun F hF => by
  unfold tbO at hn
  simp [p_Table_pack, hn, fd1]
  exact hF _ _ (finP_self (by simp) ⟨rfl, rfl⟩)
theorem tfirsts_ok : f_Table_firsts [.ref n] S = .ok (eR fs) S := fun_eq rfl fun F hF => by
  unfold tbO at hn
  simp [p_Table_firsts, hn, fd2]
  exact hF _ _ (finP_self (by simp) ⟨rfl, rfl⟩)
theorem tcopyK_ok (p : PackOk hp) (hf : FirstsOk hp.length fs) (w : Wk hp fs g l') : f_Table_copyK [.ref n] S = .ok (.ref S.length) (S ++ [tbO hp fs g k]) := by
  have hnl : n < S.length := (List.getElem?_eq_some_iff.mp hn).1
  have := funK_out (slots := 2) (n := 1) (m := p_Table_copyK) (ds := [.ref n]) (S := S) (Q := fun d S2 => d = .ref S.length ∧ S2 = S ++ [tbO hp fs g k]) rfl (fun F hF => by
    have h1 := tinit_ok S S.length rfl p hf w
    have hn2 : (S ++ [tbO hp fs g 0])[n]? = some (tbO hp fs g k) := by rw [List.getElem?_append_left hnl]; exact hn
    unfold tbO at hn hn2 h1 hF
    generalize (g.take k).map eP = G0 at *
    generalize (g.take 0).map eP = G1 at *
    generalize g.map eP = GE at *
    simp [p_Table_copyK, hn, fd1, fd2, h1, hn2, fd4, pn5, px5]
    exact hF _ _ ⟨rfl, rfl⟩)
  obtain ⟨d, S2, e, rfl, rfl⟩ := this
  exact e
/-- what lies there still -/
def lieL (hp : List (List Nat)) (d : List (Nat × Nat)) : List (List Nat) := (hp.zipIdx 0).map fun p => p.1.drop ((d.map Prod.fst).count p.2)
theorem tlies_ok (p : PackOk hp) (hk : k ≤ g.length) : f_Table_lies [.ref n] S = .ok (eH (lieL hp (g.take k))) S := fun_eq rfl fun F hF => by
  have h8 := p.le
  have e0 : enumD 0 (hp.map eR) = (hp.zipIdx 0).map fun p => D.tup [.int (p.2 : Nat), eR p.1] := enumD_map eR hp 0
  have hl : (g.take k).length ≤ 64 := by rw [List.length_take]; omega
  have c1 := fun j => comp_all (S := S) (src := []) (pair := false) (t := .tp [2, 3]) (wσ := [.ref n, j, .dead, .dead, .dead]) (e := p_Table_lies_e0) eP (fun p => eN p.1) (g.take k) (fun p _ => ⟨_, rfl, by simp [p_Table_lies_e0]⟩) (by simp; omega)
  have hm : ((g.take k).map fun p => eN p.1) = ((g.take k).map Prod.fst).map eN := by rw [List.map_map]; rfl
  rw [hm] at c1
  have c2 := comp_all (S := S) (src := []) (pair := true) (t := .tp [2, 4]) (wσ := [.ref n, .lst (((g.take k).map Prod.fst).map eN), .dead, .dead, .dead]) (e := p_Table_lies_e1) (fun p : List Nat × Nat => D.tup [.int (p.2 : Nat), eR p.1]) (fun p => eR (p.1.drop (((g.take k).map Prod.fst).count p.2))) (hp.zipIdx 0) (fun p hp' => ⟨_, rfl, by
    have hct : fCountL (.lst (((g.take k).map Prod.fst).map eN)) [.int (p.2 : Int)] S = .ok (.int (((g.take k).map Prod.fst).count p.2 : Nat)) S := by
      unfold fCountL
      simp only [v_lst1, intsOf_eN]
      congr 3
      generalize (g.take k).map Prod.fst = GF
      induction GF with
      | nil => rfl
      | cons a t ih =>
        rw [List.map_cons, List.count_cons, List.count_cons, ih]
        congr 1
        by_cases q : a = p.2
        · simp [q]
        · have : ¬ ((a : Int) = (p.2 : Int)) := by omega
          simp [q, this]
    generalize (g.take k).map Prod.fst = GF at *
    generalize GF.map eN = GN at *
    simp [p_Table_lies_e1, hct]⟩) (by simp; omega)
  have hm2 : ((hp.zipIdx 0).map fun p => eR (p.1.drop (((g.take k).map Prod.fst).count p.2))) = (lieL hp (g.take k)).map eR := by unfold lieL; rw [List.map_map]; rfl
  rw [hm2] at c2
  have hll : ((lieL hp (g.take k)).map eR).length ≤ 100000 := by unfold lieL; simp; omega
  have hcl : cll S.length ((lieL hp (g.take k)).map eR) = true := cll_map _ _ _ fun _ _ => by simp
  unfold tbO insPack at hn
  have heq : D.tup ((lieL hp (g.take k)).map eR) = eH (lieL hp (g.take k)) := rfl
  generalize (lieL hp (g.take k)).map eR = LL at *
  generalize ((g.take k).map Prod.fst).map eN = GN at *
  generalize (g.take k).map eP = G0 at *
  generalize g.map eP = GE at *
  simp [p_Table_lies, hn, fd4, fd1, fdr, wipeD, c1, e0, c2, hll]
  exact hF _ _ (finP_self (by simp [hcl]) ⟨heq, rfl⟩)
end
end DL

namespace DL
open PySem L2
theorem alike_ref1 (n : Nat) (ds : List D) (m : Nat) (S : Sto) (hS : S[m]? = some (.lst ds)) (hl : ds.length ≤ 100000) (ha : alks n ds = true) : f_l_alike (n + 2) [.ref m, .lst ds] S = .ok (.bl true) S := by
  refine fun_eq rfl fun F hF => ?_
  have hc : compL S [] false (.nm 2) (wipeD [.ref m, .lst ds, .dead] [2]) (mNotT (mTest (mApp (f_l_alike (n + 1)) (mCons (mOp fIx (mVar 0) (mVar 2)) (mCons (mOp fIx (mVar 1) (mVar 2)) mNil))))) (mVar 2) ((List.range ds.length).map eN) [] S = .ok [] S := by
    have := comp_pure (S := S) (src := []) (pair := false) (t := .nm 2) (wσ := wipeD [.ref m, .lst ds, .dead] [2]) (c := mNotT (mTest (mApp (f_l_alike (n + 1)) (mCons (mOp fIx (mVar 0) (mVar 2)) (mCons (mOp fIx (mVar 1) (mVar 2)) mNil))))) (e := mVar 2) eN (fun _ => false) eN (List.range ds.length) [] (fun a ha' => by
      have hlt : a < ds.length := List.mem_range.mp ha'
      refine ⟨_, rfl, ?_, nofun⟩
      have hda : alk n ds[a] = true := by
        rw [alks_all, List.all_eq_true] at ha
        exact ha _ (List.getElem_mem hlt)
      have := alike_ok n ds[a] S hda
      simp [wipeD, hS, hlt, this]) (by simpa using hl)
    rw [List.filter_eq_nil_iff.mpr (by simp)] at this
    simpa using this
  have hrg := okRg_0 hl
  simp [p_l_alike, hS, hrg, rgD_nat, hc, v_eq]
  exact hF _ _ (finP_self rfl ⟨rfl, rfl⟩)
@[simp] theorem s_turn_base : (Str.ofString "turn" = Str.ofString "base") = False := eq_false (by decide +kernel)
@[simp] theorem s_turn_begun : (Str.ofString "turn" = Str.ofString "begun") = False := eq_false (by decide +kernel)
@[simp] theorem s_turn_whole : (Str.ofString "turn" = Str.ofString "whole") = False := eq_false (by decide +kernel)
@[simp] theorem s_turn_done : (Str.ofString "turn" = Str.ofString "done") = False := eq_false (by decide +kernel)
@[simp] theorem s_shown_base : (Str.ofString "shown" = Str.ofString "base") = False := eq_false (by decide +kernel)
@[simp] theorem s_shown_begun : (Str.ofString "shown" = Str.ofString "begun") = False := eq_false (by decide +kernel)
@[simp] theorem s_shown_whole : (Str.ofString "shown" = Str.ofString "whole") = False := eq_false (by decide +kernel)
@[simp] theorem s_shown_done : (Str.ofString "shown" = Str.ofString "done") = False := eq_false (by decide +kernel)
@[simp] theorem s_lies_base : (Str.ofString "lies" = Str.ofString "base") = False := eq_false (by decide +kernel)
@[simp] theorem s_lies_begun : (Str.ofString "lies" = Str.ofString "begun") = False := eq_false (by decide +kernel)
@[simp] theorem s_lies_whole : (Str.ofString "lies" = Str.ofString "whole") = False := eq_false (by decide +kernel)
@[simp] theorem s_lies_done : (Str.ofString "lies" = Str.ofString "done") = False := eq_false (by decide +kernel)
@[simp] theorem s_undo_base : (Str.ofString "undo" = Str.ofString "base") = False := eq_false (by decide +kernel)
@[simp] theorem s_undo_begun : (Str.ofString "undo" = Str.ofString "begun") = False := eq_false (by decide +kernel)
@[simp] theorem s_undo_whole : (Str.ofString "undo" = Str.ofString "whole") = False := eq_false (by decide +kernel)
@[simp] theorem s_undo_done : (Str.ofString "undo" = Str.ofString "done") = False := eq_false (by decide +kernel)
@[simp] theorem s_copy_base : (Str.ofString "copy" = Str.ofString "base") = False := eq_false (by decide +kernel)
@[simp] theorem s_copy_begun : (Str.ofString "copy" = Str.ofString "begun") = False := eq_false (by decide +kernel)
@[simp] theorem s_copy_whole : (Str.ofString "copy" = Str.ofString "whole") = False := eq_false (by decide +kernel)
@[simp] theorem s_copy_done : (Str.ofString "copy" = Str.ofString "done") = False := eq_false (by decide +kernel)
theorem packeq9 (S : Sto) (a : List (List Nat)) : f_Pack_eq [insPack a, insPack a] S = .ok (.bl true) S := fun_eq rfl fun F hF => by
  unfold insPack
  have h1 : rIsC 0 (.ins 0 ["rows"] [eH a]) S = .ok (.bl true) S := rfl
  simp [p_Pack_eq, h1, fldD, v_eq]
  exact hF _ _ (finP_self rfl ⟨rfl, rfl⟩)
theorem eqO9 (S : Sto) (a : List (List Nat)) : fEqO 0 f_Pack_eq (insPack a) (insPack a) S = .ok (.bl true) S := by
  have h3 : ∀ hp, insOf S (insPack hp) = some (0, [("rows" : Str)], [eH hp]) := fun hp => by unfold insPack; exact v_ins1 _ _ _
  have h4 : sideOk 0 S (insPack a) = true := rfl
  unfold fEqO
  simp only [h3, h4, packeq9, and_self, if_true]
section
variable {hp l' : List (List Nat)} {fs : List Nat} {g : List (Nat × Nat)}
theorem lieL_at (d : List (Nat × Nat)) {i : Nat} (h : i < hp.length) : (lieL hp d)[i]? = some (hp[i].drop ((d.map Prod.fst).count i)) := by
  unfold lieL
  rw [List.getElem?_map, List.getElem?_zipIdx, List.getElem?_eq_getElem h]
  simp
theorem lieL_len (d : List (Nat × Nat)) : (lieL hp d).length = hp.length := by unfold lieL; simp
variable {S : Sto} {n k : Nat} (hn : S[n]? = some (tbO hp fs g k)) (hgl : g.length ≤ 64) (p : PackOk hp) (hf : FirstsOk hp.length fs) (w : Wk hp fs g l') (hk : k ≤ g.length)
include hn hgl p hf w hk
theorem stands_ok : f_l_stands_so [.ref n, eH hp, eR fs, .int (k : Int)] S = .ok (.bl true) S := fun_eq rfl fun F hF => by
  have hnl : n < S.length := (List.getElem?_eq_some_iff.mp hn).1
  have hnU : ∀ U : Sto, (S ++ U)[n]? = some (tbO hp fs g k) := fun U => by rw [List.getElem?_append_left hnl]; exact hn
  have h8 := p.le
  have lw := lwalk_ok S w (by omega)
  have hrg : rgD 0 (hp.length : Int) = (List.range hp.length).map eN := rgD_nat _
  have hok : okRg (0, (hp.length : Int)) = true := okRg_0 (by omega)
  have htk : (g.map eP).take k = (g.take k).map eP := List.map_take.symm
  have hll : (g.take k).length = k := by rw [List.length_take]; omega
  simp [p_l_stands_so, lw, hrg, hok]
  rw [htk]
  refine out_for (fun i σ S' => ∃ j6 j8, σ = [.ref n, eH hp, eR fs, .int (k : Int), .lst ((g.take k).map eP), .ref S.length, j6, .dead, j8] ∧ S' = S ++ [.lst (((lieL hp (g.take k)).take i).map eR)]) (fun i d σ S' e q => ?_) (fun σ S' q => ?_) ⟨_, _, rfl, by simp⟩
  · obtain ⟨j6, j8, rfl, rfl⟩ := q
    have hi : i < hp.length := by
      have := (List.getElem?_eq_some_iff.mp e).1
      simpa using this
    have hd : d = .int (i : Int) := by
      rw [List.getElem?_map, List.getElem?_range hi] at e
      exact (Option.some.inj e).symm
    subst hd
    refine ⟨by simp, _, rfl, fun F2 hF2 => ?_⟩
    have hc := comp_pure (S := S ++ [.lst (((lieL hp (g.take k)).take i).map eR)]) (src := []) (pair := false) (t := .nm 8) (wσ := [.ref n, eH hp, eR fs, .int (k : Int), .lst ((g.take k).map eP), .ref S.length, .int (i : Int), .dead, .dead]) (c := p_l_stands_so_c0) (e := p_l_stands_so_e0) eP (fun p => decide ((p.1 : Int) = (i : Int))) eP (g.take k) [] (fun a _ => ⟨_, rfl, by simp [p_l_stands_so_c0], fun _ => by simp [p_l_stands_so_e0]⟩) (by simp; omega)
    rw [List.nil_append] at hc
    have hcnt : (((g.take k).filter fun p => decide ((p.1 : Int) = (i : Int))).map eP).length = ((g.take k).map Prod.fst).count i := by
      rw [List.length_map, List.count, List.countP_map, List.countP_eq_length_filter]
      congr 1
      refine List.filter_congr fun x _ => ?_
      show decide ((x.1 : Int) = (i : Int)) = (x.1 == i)
      rw [Bool.eq_iff_iff]
      simp
      omega
    have hrow : (hp.map eR)[i]? = some (eR hp[i]) := by rw [List.getElem?_map, List.getElem?_eq_getElem hi]; rfl
    have hF3 := hF2 [.ref n, eH hp, eR fs, .int (k : Int), .lst ((g.take k).map eP), .ref S.length, .int (i : Int), .dead, j8] (S ++ [.lst (((lieL hp (g.take k)).take (i + 1)).map eR)]) ⟨_, _, rfl, rfl⟩
    have hsn : (lieL hp (g.take k)).take (i + 1) = (lieL hp (g.take k)).take i ++ [hp[i].drop (((g.take k).map Prod.fst).count i)] := by
      have hil : i < (lieL hp (g.take k)).length := by rw [lieL_len]; exact hi
      rw [List.take_succ_eq_append_getElem hil]
      have := lieL_at (hp := hp) (g.take k) hi
      rw [List.getElem?_eq_getElem hil] at this
      rw [Option.some.inj this]
    rw [hsn, List.map_append] at hF3
    have hlen : (((lieL hp (g.take k)).take i).map eR).length < 100000 := by simp [lieL_len]; omega
    generalize ((lieL hp (g.take k)).take i).map eR = LI at *
    generalize (((g.take k).filter fun p => decide ((p.1 : Int) = (i : Int))).map eP) = FI at *
    generalize ((g.take k).map Prod.fst).count i = CI at *
    generalize (g.take k).map eP = G0 at *
    simp [p_l_stands_so_b0, wipeD, hc, hcnt, hrow, hlen]
    simp only [List.map_cons, List.map_nil] at hF3
    have hdr : (hp[i].map eN).drop CI = (hp[i].drop CI).map eN := List.map_drop.symm
    rw [hdr]
    exact hF3
  · obtain ⟨j6, j8, rfl, rfl⟩ := q
    rw [List.length_map, List.length_range]
    have hfull : (lieL hp (g.take k)).take hp.length = lieL hp (g.take k) := List.take_of_length_le (by rw [lieL_len]; exact Nat.le_refl _)
    rw [hfull]
    refine ⟨by simp, ?_⟩
    have a1 := tpack_ok (hnU [.lst ((lieL hp (g.take k)).map eR)]) hgl
    have a2 := tfirsts_ok (hnU [.lst ((lieL hp (g.take k)).map eR)]) hgl
    have a3 := tlen_ok (hnU [.lst ((lieL hp (g.take k)).map eR)]) hgl hk
    have a4 := tshownK_ok (hnU [.lst ((lieL hp (g.take k)).map eR)]) hgl
    have a5 := tlies_ok (hnU [.lst ((lieL hp (g.take k)).map eR), .lst ((g.take k).map eP)]) hgl p hk
    have a6 := tshown_ok (hnU [.lst ((lieL hp (g.take k)).map eR), .lst ((g.take k).map eP ++ [.str "more"])]) hgl
    have hp1 := packinit_n (S := S ++ [.lst ((lieL hp (g.take k)).map eR)]) (n := S.length + 1) p (by simp)
    have hp2 := packfin_n (S := S ++ [.lst ((lieL hp (g.take k)).map eR)]) (n := S.length + 1) (hp := hp) (by simp)
    have b1 := eqO9 (S ++ [.lst ((lieL hp (g.take k)).map eR)]) hp
    have b2 : fLenO 1 f_Table_len [.ref n] (S ++ [.lst ((lieL hp (g.take k)).map eR)]) = .ok (.int (k : Int)) (S ++ [.lst ((lieL hp (g.take k)).map eR)]) := by
      have hi : insOf (S ++ [.lst ((lieL hp (g.take k)).map eR)]) (.ref n) = some (1, (["base", "begun", "whole", "done"] : List Str), [insPack hp, eR fs, .tup (g.map eP), .tup ((g.take k).map eP)]) := by rw [v_ins2, hnU]; rfl
      unfold fLenO
      simp only [hi, if_true, a3]
      rw [if_pos ⟨by omega, by omega⟩]
    have hf8 : fs.length ≤ 100000 := by
      have := nodup_le hp.length fs hf.nd hf.lt
      omega
    have b3 := alike_ok 7 (.lst [eR fs, .int (k : Int)]) (S ++ [.lst ((lieL hp (g.take k)).map eR)]) (by simp [hf8])
    have hg5 : ∀ m, alks m ((g.take k).map eP) = true ∨ m = 0 := fun m => by
      cases m with
      | zero => exact .inr rfl
      | succ m => exact .inl (alks_map _ _ _ fun _ _ => by simp)
    have hgk : alks 6 ((g.take k).map eP) = true := (hg5 6).resolve_right (by decide)
    have hgl2 : ((g.take k).map eP).length ≤ 100000 := by rw [List.length_map]; omega
    have b4 := alike_ref1 6 ((g.take k).map eP) (S.length + 1) (S ++ [.lst ((lieL hp (g.take k)).map eR), .lst ((g.take k).map eP)]) (by simp) hgl2 hgk
    have b5 := alike_ok 7 (eH (lieL hp (g.take k))) (S ++ [.lst ((lieL hp (g.take k)).map eR), .lst ((g.take k).map eP)]) (alk_eH 5 _ (by rw [lieL_len]; omega) fun x hx => by
      unfold lieL at hx
      obtain ⟨q, hq, rfl⟩ := List.mem_map.mp hx
      have := p.sz _ (List.fst_mem_of_mem_zipIdx hq)
      rw [List.length_drop]
      omega)
    have b6 := alike_ok 7 (.lst ((g.take k).map eP)) (S ++ [.lst ((lieL hp (g.take k)).map eR), .lst ((g.take k).map eP ++ [.str "more"])]) (by show (decide (((g.take k).map eP).length ≤ 100000) && alks 6 ((g.take k).map eP)) = true; rw [hgk, decide_eq_true hgl2]; rfl)
    have heq : eH (lieL hp (g.take k)) = .tup ((lieL hp (g.take k)).map eR) := rfl
    have hl1 : ((lieL hp (g.take k)).map eR).length ≤ 100000 := by rw [List.length_map, lieL_len]; omega
    have hl2 : ((g.take k).map eP).length < 100000 := by rw [List.length_map]; omega
    have hni : ∀ U : Sto, iO (S ++ U)[n]? = some (1, (["base", "begun", "whole", "done"] : List Str), [insPack hp, eR fs, .tup (g.map eP), .tup ((g.take k).map eP)]) := fun U => by rw [hnU]; rfl
    rw [heq] at a5 b5
    generalize (lieL hp (g.take k)).map eR = LI at *
    generalize (g.take k).map eP = G0 at *
    generalize g.map eP = GE at *
    simp only [List.append_assoc, List.cons_append, List.nil_append, List.length_append, List.length_cons, List.length_nil, Nat.zero_add] at hp1 hp2 a4
    simp [hni, a1, hp1, hp2, b1, a2, b2, b3, a4, b4, a5, hl1, b5, hl2, a6, b6]
    exact hF _ _ (finP_app rfl ⟨rfl, rfl⟩)
end
end DL

namespace DL
open PySem L2
theorem refused_ok (S : Sto) (hp : List (List Nat)) (d : D) (hd : live d = true) (h : ∀ T, f_check_firsts [.int (hp.length : Int), d] T = .exc 5 [] [] T) : f_l_refused [insPack hp, d] S = .ok (.bl true) S := fun_eq rfl fun F hF => by
  have h1 : f_Table_init [.ref S.length, insPack hp, d] (S ++ [.ins 1 [] []]) = .exc 5 [] [] (S ++ [.ins 1 [] []]) := fun_exc rfl rfl fun F hF => by
    have hF0 := hF []
    rw [List.append_nil] at hF0
    have h' := h (S ++ [.ins 1 [] []])
    unfold insPack
    simp [p_Table_init, fdr, h', hd]
    exact hF0
  have hh : hnd [⟨hitL [5] [3, 4], 3, p_l_refused_s0⟩] 5 [] [] [insPack hp, d, .bl false, .dead] (S ++ [.ins 1 [] []]) = .nx [insPack hp, d, .bl true, .dead] (S ++ [.ins 1 [] []]) := hnd_hit rfl fun a dd => by
    simp [p_l_refused_s0, isx]
  simp [p_l_refused, hd, h1, hh]
  exact hF _ _ (finP_app rfl ⟨rfl, rfl⟩)
def odd9 (n : Int) : List D := [.non, .tup [], .tup [.int n], .tup [.int 0, .int 0], .lst [.int 0], .tup [.bl true], .int 0, .tup [.int 0, .int n], .tup [.int 0, .bl true], .tup [.int 0, .non], .tup [.str "0"], .tup [.lst [.int 0]]]
theorem odd9_ok (n : Nat) (h1 : 1 ≤ n) : ∀ d ∈ odd9 (n : Int), live d = true ∧ ∀ T, f_check_firsts [.int (n : Int), d] T = .exc 5 [] [] T := fun d hd => by
  unfold odd9 at hd
  simp only [List.mem_cons, List.not_mem_nil, or_false] at hd
  have one : ∀ x : D, tyD x = true → isI x 0 ((n : Int) - 1) = false → ∀ T, f_check_firsts [.int (n : Int), .tup [x]] T = .exc 5 [] [] T := fun x hx hi T => checkfirsts_at T n [] x [] hx (by simpa using h1) List.nodup_nil nofun (.inl hi)
  have two : ∀ x : D, tyD x = true → (isI x 0 ((n : Int) - 1) = false ∨ x = .int 0) → ∀ T, f_check_firsts [.int (n : Int), .tup [.int 0, x]] T = .exc 5 [] [] T := fun x hx hi T => by
    by_cases q : n = 1
    · exact checkfirsts_none T n rfl (by unfold badF; simp; omega)
    · refine checkfirsts_at T n [0] x [] hx (by simp; omega) (by simp) (fun y hy => by rw [List.mem_singleton.mp hy]; omega) ?_
      rcases hi with hi | rfl
      · exact .inl hi
      · exact .inr ⟨0, rfl, by omega, by simp⟩
  have big : isI (.int (n : Int)) 0 ((n : Int) - 1) = false := by unfold isI; simp; omega
  rcases hd with rfl | rfl | rfl | rfl | rfl | rfl | rfl | rfl | rfl | rfl | rfl | rfl
  · exact ⟨rfl, fun T => checkfirsts_none T n rfl rfl⟩
  · exact ⟨rfl, fun T => checkfirsts_none T n rfl rfl⟩
  · exact ⟨rfl, one _ rfl big⟩
  · exact ⟨rfl, two _ rfl (.inr rfl)⟩
  · exact ⟨rfl, fun T => checkfirsts_none T n rfl rfl⟩
  · exact ⟨rfl, one _ rfl rfl⟩
  · exact ⟨rfl, fun T => checkfirsts_none T n rfl rfl⟩
  · exact ⟨rfl, two _ rfl (.inl big)⟩
  · exact ⟨rfl, two _ rfl (.inl rfl)⟩
  · exact ⟨rfl, two _ rfl (.inl rfl)⟩
  · exact ⟨rfl, one _ rfl rfl⟩
  · exact ⟨rfl, one _ rfl rfl⟩
theorem hsg (h : Hh) (T : Sto) (i : Nat) : (hs h ++ T)[2 + i]? = T[i]? := by
  rw [List.getElem?_append_right (by simp)]
  simp
theorem hss (h : Hh) (T : Sto) (i : Nat) (o : Ob) : (hs h ++ T).set (2 + i) o = hs h ++ T.set i o := by
  rw [List.set_append_right _ _ (by simp)]
  simp
theorem strEq (S : Sto) (a b : Str) (ha : pln 64 (.str a) = true) (hb : pln 64 (.str b) = true) : fEq (.str a) (.str b) S = .ok (.bl (decide (a = b))) S := by
  rw [v_eq S (.str a) (.str b) ha hb]
  show R.ok (D.bl (eqD (.str a) (.str b))) S = _
  rw [eqD_dec rfl rfl (p := a = b) (by simp)]
/-- what lies in the law's store -/
structure TI (hp : List (List Nat)) (fs : List Nat) (g : List (Nat × Nat)) (T : Sto) (cur sd kl k : Nat) (ks : List (Nat × Nat)) : Prop where
  c : T[cur]? = some (tbO hp fs g k)
  s : T[sd]? = some (tbO hp fs g 0)
  l : T[kl]? = some (.lst (ks.map fun p => .tup [.ref (2 + p.1), .int (p.2 : Int)]))
  e : ∀ p ∈ ks, T[p.1]? = some (tbO hp fs g p.2) ∧ p.2 ≤ g.length ∧ p.1 ≠ cur
  n : cur ≠ sd
  b : k ≤ g.length
section
variable {hp l' : List (List Nat)} {fs : List Nat} {g : List (Nat × Nat)} {T : Sto} {cur sd kl k : Nat} {ks : List (Nat × Nat)}
theorem TI.nk (i : TI hp fs g T cur sd kl k ks) : kl ≠ cur := fun z => by
  have h1 := i.c
  have h2 := i.l
  rw [z, h1] at h2
  unfold tbO at h2
  cases h2
/-- the table is changed -/
theorem TI.put (i : TI hp fs g T cur sd kl k ks) {k' : Nat} (hk : k' ≤ g.length) : TI hp fs g (T.set cur (tbO hp fs g k')) cur sd kl k' ks := by
  have hl : cur < T.length := (List.getElem?_eq_some_iff.mp i.c).1
  refine ⟨List.getElem?_set_self hl, ?_, ?_, fun p hp => ?_, i.n, hk⟩
  · rw [List.getElem?_set_ne i.n]; exact i.s
  · rw [List.getElem?_set_ne i.nk.symm]; exact i.l
  · obtain ⟨h1, h2, h3⟩ := i.e p hp
    exact ⟨by rw [List.getElem?_set_ne h3.symm]; exact h1, h2, h3⟩
/-- a copy is kept -/
theorem TI.copy (i : TI hp fs g T cur sd kl k ks) (sw : Bool) : TI hp fs g ((T ++ [tbO hp fs g k]).set kl (.lst ((ks ++ [(if sw then cur else T.length, k)]).map fun p => .tup [.ref (2 + p.1), .int (p.2 : Int)]))) (if sw then T.length else cur) sd kl k (ks ++ [(if sw then cur else T.length, k)]) := by
  have hlk : kl < T.length := (List.getElem?_eq_some_iff.mp i.l).1
  have hlc : cur < T.length := (List.getElem?_eq_some_iff.mp i.c).1
  have hls : sd < T.length := (List.getElem?_eq_some_iff.mp i.s).1
  have nks : kl ≠ sd := fun z => by
    have h1 := i.s
    have h2 := i.l
    rw [z, h1] at h2
    unfold tbO at h2
    cases h2
  have old : ∀ j, j < T.length → j ≠ kl → ∀ o : Ob, ((T ++ [tbO hp fs g k]).set kl o)[j]? = T[j]? := fun j hj hjk o => by
    rw [List.getElem?_set_ne hjk.symm, List.getElem?_append_left hj]
  have new : ∀ o : Ob, ((T ++ [tbO hp fs g k]).set kl o)[T.length]? = some (tbO hp fs g k) := fun o => by
    rw [List.getElem?_set_ne (by omega)]
    simp
  refine ⟨?_, by rw [old sd hls nks.symm]; exact i.s, by rw [List.getElem?_set_self (by simp; omega)], fun p hpm => ?_, ?_, i.b⟩
  · cases sw with
    | true => exact new _
    | false => show ((T ++ [tbO hp fs g k]).set kl _)[cur]? = _; rw [old cur hlc i.nk.symm]; exact i.c
  · rcases List.mem_append.mp hpm with z | z
    · obtain ⟨h1, h2, h3⟩ := i.e p z
      have hlp : p.1 < T.length := (List.getElem?_eq_some_iff.mp h1).1
      have npk : p.1 ≠ kl := fun y => by
        have h4 := i.l
        rw [← y, h1] at h4
        unfold tbO at h4
        cases h4
      refine ⟨by rw [old p.1 hlp npk]; exact h1, h2, ?_⟩
      cases sw with
      | true => show p.1 ≠ T.length; omega
      | false => exact h3
    · rw [List.mem_singleton.mp z]
      cases sw with
      | true => exact ⟨by show ((T ++ [tbO hp fs g k]).set kl _)[cur]? = _; rw [old cur hlc i.nk.symm]; exact i.c, i.b, by show cur ≠ T.length; omega⟩
      | false => exact ⟨new _, i.b, by show T.length ≠ cur; omega⟩
  · cases sw with
    | true => show T.length ≠ sd; omega
    | false => exact i.n
/-- one more card is asked for -/
theorem turn_b0 (i : TI hp fs g T cur sd kl k ks) (hgl : g.length ≤ 64) (h : Hh) (a0 a1 a2 a3 a4 a6 a8 a10 a11 a12 a13 a14 a15 a16 a17 : D) (po : Po) (hpo : ∀ (T' : Sto) (k' : Nat) (j : D), TI hp fs g T' cur sd kl k' ks → T'.length = T.length → po.N [a0, a1, a2, a3, a4, .ref (2 + cur), a6, .int (k' : Int), a8, .lst (g.map eP), a10, a11, a12, a13, j, a15, a16, a17] (hs h ++ T')) :
    Out (p_law_k09_b0 [a0, a1, a2, a3, a4, .ref (2 + cur), a6, .int (k : Int), a8, .lst (g.map eP), a10, a11, a12, a13, a14, a15, a16, a17] (hs h ++ T)) po := by
  have hc : (hs h ++ T)[2 + cur]? = some (tbO hp fs g k) := by rw [hsg]; exact i.c
  have hl : (g.map eP).length = g.length := List.length_map ..
  have hci : iO (hs h ++ T)[2 + cur]? = some (1, (["base", "begun", "whole", "done"] : List Str), [insPack hp, eR fs, .tup (g.map eP), .tup ((g.take k).map eP)]) := by rw [hc]; rfl
  by_cases q : k < g.length
  · have h1 := tturn_ok hc hgl q
    rw [hss] at h1
    have h2 : (g.map eP)[k]? = some (eP g[k]) := by rw [List.getElem?_map, List.getElem?_eq_getElem q]; rfl
    have h3 := alike_ok 7 (eP g[k]) (hs h ++ T.set cur (tbO hp fs g (k + 1))) (by simp)
    have hp2 := hpo (T.set cur (tbO hp fs g (k + 1))) (k + 1) (eP g[k]) (i.put (by omega)) (by simp)
    have q' : (k : Int) < (g.length : Int) := by omega
    have hmin : (if (k : Int) + 1 < (g.length : Int) then (k : Int) + 1 else (g.length : Int)) = ((k + 1 : Nat) : Int) := by split <;> omega
    have h1' : f_Table_turn [.ref (2 + cur)] (hs h ++ T) = .ok (.tup [.int (g[k].1 : Int), .int (g[k].2 : Int)]) (hs h ++ T.set cur (tbO hp fs g (k + 1))) := h1
    have h2' : ∀ (hh : k < (g.map eP).length), (g.map eP)[k] = .tup [.int (g[k].1 : Int), .int (g[k].2 : Int)] := fun hh => Option.some.inj ((List.getElem?_eq_getElem hh).symm.trans h2)
    have h3' : f_l_alike 8 [.tup [.int (g[k].1 : Int), .int (g[k].2 : Int)], .tup [.int (g[k].1 : Int), .int (g[k].2 : Int)]] (hs h ++ T.set cur (tbO hp fs g (k + 1))) = .ok (.bl true) (hs h ++ T.set cur (tbO hp fs g (k + 1))) := h3
    have hp3 : po.N [a0, a1, a2, a3, a4, .ref (2 + cur), a6, .int ((k + 1 : Nat) : Int), a8, .lst (g.map eP), a10, a11, a12, a13, .tup [.int (g[k].1 : Int), .int (g[k].2 : Int)], a15, a16, a17] (hs h ++ T.set cur (tbO hp fs g (k + 1))) := hp2
    clear hp2 h3 h2
    generalize (g.take k).map eP = G0 at *
    generalize g.map eP = GE at *
    simp [p_law_k09_b0, hl, q, h2', hci, h1', h3', hmin]
    exact hp3
  · have hk : k = g.length := by have := i.b; omega
    have h1 := tturn_end hc hgl hk
    have h3 := alike_ok 7 .non (hs h ++ T) (by simp)
    have hp2 := hpo T k .non i rfl
    have q' : ¬ (k : Int) < (g.length : Int) := by omega
    have hmin : (if (k : Int) + 1 < (g.length : Int) then (k : Int) + 1 else (g.length : Int)) = (k : Int) := by split <;> omega
    generalize (g.take k).map eP = G0 at *
    generalize g.map eP = GE at *
    simp [p_law_k09_b0, hl, q, hci, h1, h3, hmin]
    exact hp2
theorem str9 : ∀ a ∈ (["turn", "many", "undo", "copy"] : List Str), pln 64 (.str a) = true := by decide +kernel
theorem sq9 : ((Str.ofString "turn" = Str.ofString "undo") = False ∧ (Str.ofString "turn" = Str.ofString "copy") = False ∧ (Str.ofString "turn" = Str.ofString "many") = False) ∧ ((Str.ofString "many" = Str.ofString "undo") = False ∧ (Str.ofString "many" = Str.ofString "copy") = False) ∧ (Str.ofString "copy" = Str.ofString "undo") = False := ⟨⟨eq_false (by decide +kernel), eq_false (by decide +kernel), eq_false (by decide +kernel)⟩, ⟨eq_false (by decide +kernel), eq_false (by decide +kernel)⟩, eq_false (by decide +kernel)⟩
set_option maxHeartbeats 4000000 in
theorem step_b1 (i : TI hp fs g T cur sd kl k ks) (hgl : g.length ≤ 64) (p : PackOk hp) (hf : FirstsOk hp.length fs) (w : Wk hp fs g l') (hks : ks.length ≤ 50) (h : Hh) (ns : List Int) (a2 a10 a11 a12 a13 a14 a15 a16 a17 : D) (po : Po)
    (hpo : ∀ (h' : Hh) (T' : Sto) (cur' k' : Nat) (ks' : List (Nat × Nat)) (j11 j12 j13 j14 : D), TI hp fs g T' cur' sd kl k' ks' → ks'.length ≤ ks.length + 1 → po.N [.scr ns, .ref 1, a2, eR fs, eH hp, .ref (2 + cur'), .ref (2 + sd), .int (k' : Int), .ref (2 + kl), .lst (g.map eP), a10, j11, j12, j13, j14, a15, a16, a17] (hs h' ++ T')) :
    Out (p_law_k09_b1 [.scr ns, .ref 1, a2, eR fs, eH hp, .ref (2 + cur), .ref (2 + sd), .int (k : Int), .ref (2 + kl), .lst (g.map eP), a10, a11, a12, a13, a14, a15, a16, a17] (hs h ++ T)) po := by
  obtain ⟨PO, hPO⟩ : ∃ PO : Po, { po with N := fun σ S => Out ((mIfS (mNotT (mTest (mApp f_l_stands_so (mCons (mVar 5) (mCons (mVar 4) (mCons (mVar 3) (mCons (mVar 7) (mNil)))))))) (mRet (mC (.bl false))) (mPass)) σ S) po } = PO := ⟨_, rfl⟩
  have fin : ∀ (h' : Hh) (T' : Sto) (cur' k' : Nat) (ks' : List (Nat × Nat)) (j11 j12 j13 j14 : D), TI hp fs g T' cur' sd kl k' ks' → ks'.length ≤ ks.length + 1 → PO.N [.scr ns, .ref 1, a2, eR fs, eH hp, .ref (2 + cur'), .ref (2 + sd), .int (k' : Int), .ref (2 + kl), .lst (g.map eP), a10, j11, j12, j13, j14, a15, a16, a17] (hs h' ++ T') := fun h' T' cur' k' ks' j11 j12 j13 j14 i' hl => by
    rw [← hPO]
    show Out ((mIfS (mNotT (mTest (mApp f_l_stands_so (mCons (mVar 5) (mCons (mVar 4) (mCons (mVar 3) (mCons (mVar 7) (mNil)))))))) (mRet (mC (.bl false))) (mPass)) [.scr ns, .ref 1, a2, eR fs, eH hp, .ref (2 + cur'), .ref (2 + sd), .int (k' : Int), .ref (2 + kl), .lst (g.map eP), a10, j11, j12, j13, j14, a15, a16, a17] (hs h' ++ T')) po
    have st := stands_ok (S := hs h' ++ T') (n := 2 + cur') (by rw [hsg]; exact i'.c) hgl p hf w i'.b
    have := hpo h' T' cur' k' ks' j11 j12 j13 j14 i' hl
    generalize g.map eP = GE at *
    simp [st]
    exact this
  obtain ⟨d, h1, e1, hd⟩ := pick_ok h T [.str "turn", .str "turn", .str "many", .str "undo", .str "copy"] (by simp) (by simp) (fun d hd => by
    simp only [List.mem_cons, List.not_mem_nil, or_false] at hd
    rcases hd with rfl | rfl | rfl | rfl | rfl <;> rfl)
  have hc : ∀ h, (hs h ++ T)[2 + cur]? = some (tbO hp fs g k) := fun h => by rw [hsg]; exact i.c
  have hci : ∀ h, iO (hs h ++ T)[2 + cur]? = some (1, (["base", "begun", "whole", "done"] : List Str), [insPack hp, eR fs, .tup (g.map eP), .tup ((g.take k).map eP)]) := fun h => by rw [hc]; rfl
  obtain ⟨⟨s1, s2, s3⟩, ⟨s4, s5⟩, s6⟩ := sq9
  have se := fun S (a b : Str) (ha : a ∈ (["turn", "many", "undo", "copy"] : List Str)) (hb : b ∈ (["turn", "many", "undo", "copy"] : List Str)) => strEq S a b (str9 a ha) (str9 b hb)
  have loop : ∀ (m : Nat) (h1 : Hh) (j11 j13 : D), m ≤ 100 → Out (forL (hs h1 ++ T) [] false (.nm 13) p_law_k09_b0 ((List.range m).map eN) [.scr ns, .ref 1, a2, eR fs, eH hp, .ref (2 + cur), .ref (2 + sd), .int (k : Int), .ref (2 + kl), .lst (g.map eP), a10, j11, a12, j13, a14, a15, a16, a17] (hs h1 ++ T)) PO := fun m h1 j11 j13 hm => by
    refine out_for (fun _ σ S => ∃ (T' : Sto) (k' : Nat) (j13 j14 : D), TI hp fs g T' cur sd kl k' ks ∧ σ = [.scr ns, .ref 1, a2, eR fs, eH hp, .ref (2 + cur), .ref (2 + sd), .int (k' : Int), .ref (2 + kl), .lst (g.map eP), a10, j11, a12, j13, j14, a15, a16, a17] ∧ S = hs h1 ++ T') (fun q x σ S e ih => ?_) (fun σ S ih => ?_) ⟨T, k, _, _, i, rfl, rfl⟩
    · obtain ⟨T', k', j13, j14, i', rfl, rfl⟩ := ih
      refine ⟨by simp, _, rfl, fun F hF => ?_⟩
      exact turn_b0 i' hgl h1 (.scr ns) (.ref 1) a2 (eR fs) (eH hp) (.ref (2 + sd)) (.ref (2 + kl)) a10 j11 a12 x j14 a15 a16 a17 _ fun T'' k'' j i'' _ => hF _ _ ⟨T'', k'', _, _, i'', rfl, rfl⟩
    · obtain ⟨T', k', j13, j14, i', rfl, rfl⟩ := ih
      exact ⟨by simp, fin h1 T' cur k' ks _ _ _ _ i' (by omega)⟩
  have r1 : rgD 0 1 = (List.range 1).map eN := rgD_nat 1
  have o1 : okRg (0, 1) = true := rfl
  simp only [List.mem_cons, List.not_mem_nil, or_false] at hd
  unfold p_law_k09_b1
  have hset : mSet 11 (mApp f_l_pick (mCons (mVar 1) (mCons (mFz (mLst (mCons (mC (.str "turn")) (mCons (mC (.str "turn")) (mCons (mC (.str "many")) (mCons (mC (.str "undo")) (mCons (mC (.str "copy")) (mNil)))))))) (mNil)))) [.scr ns, .ref 1, a2, eR fs, eH hp, .ref (2 + cur), .ref (2 + sd), .int (k : Int), .ref (2 + kl), .lst (g.map eP), a10, a11, a12, a13, a14, a15, a16, a17] (hs h ++ T) = .nx [.scr ns, .ref 1, a2, eR fs, eH hp, .ref (2 + cur), .ref (2 + sd), .int (k : Int), .ref (2 + kl), .lst (g.map eP), a10, d, a12, a13, a14, a15, a16, a17] (hs h1 ++ T) := by
    generalize g.map eP = GE at *
    simp [e1]
  rw [seq_nx hset]
  refine out_seq ?_
  rw [hPO]
  clear hset e1
  have q1 : ∀ S, fEq (.str "turn") (.str "undo") S = .ok (.bl false) S := fun S => by rw [se S "turn" "undo" (by simp) (by simp)]; simp [s1]
  have q2 : ∀ S, fEq (.str "turn") (.str "copy") S = .ok (.bl false) S := fun S => by rw [se S "turn" "copy" (by simp) (by simp)]; simp [s2]
  have q3 : ∀ S, fEq (.str "turn") (.str "many") S = .ok (.bl false) S := fun S => by rw [se S "turn" "many" (by simp) (by simp)]; simp [s3]
  have q4 : ∀ S, fEq (.str "many") (.str "undo") S = .ok (.bl false) S := fun S => by rw [se S "many" "undo" (by simp) (by simp)]; simp [s4]
  have q5 : ∀ S, fEq (.str "many") (.str "copy") S = .ok (.bl false) S := fun S => by rw [se S "many" "copy" (by simp) (by simp)]; simp [s5]
  have q6 : ∀ S, fEq (.str "many") (.str "many") S = .ok (.bl true) S := fun S => by rw [se S "many" "many" (by simp) (by simp)]; simp
  have q7 : ∀ S, fEq (.str "copy") (.str "undo") S = .ok (.bl false) S := fun S => by rw [se S "copy" "undo" (by simp) (by simp)]; simp [s6]
  have q8 : ∀ S, fEq (.str "copy") (.str "copy") S = .ok (.bl true) S := fun S => by rw [se S "copy" "copy" (by simp) (by simp)]; simp
  have q9 : ∀ S, fEq (.str "undo") (.str "undo") S = .ok (.bl true) S := fun S => by rw [se S "undo" "undo" (by simp) (by simp)]; simp
  rcases hd with rfl | rfl | rfl | rfl | rfl
  · have lp := loop 1 h1 (.str "turn") a13 (by decide)
    generalize (g.take k).map eP = G0 at *
    generalize g.map eP = GE at *
    simp [q1, q2, q3, r1, o1]
    exact lp
  · have lp := loop 1 h1 (.str "turn") a13 (by decide)
    generalize (g.take k).map eP = G0 at *
    generalize g.map eP = GE at *
    simp [q1, q2, q3, r1, o1]
    exact lp
  · obtain ⟨x, h2, e2, hx⟩ := pick_ok h1 T [.int 5, .int 50] (by simp) (by simp) (fun d hd => by
      simp only [List.mem_cons, List.not_mem_nil, or_false] at hd
      rcases hd with rfl | rfl <;> rfl)
    obtain ⟨m, hm, rfl⟩ : ∃ m : Nat, m ≤ 100 ∧ x = .int (m : Int) := by
      simp only [List.mem_cons, List.not_mem_nil, or_false] at hx
      rcases hx with rfl | rfl
      · exact ⟨5, by decide, rfl⟩
      · exact ⟨50, by decide, rfl⟩
    have lp := loop m h2 (.str "many") a13 hm
    have rm : rgD 0 (m : Int) = (List.range m).map eN := rgD_nat m
    have om : okRg (0, (m : Int)) = true := okRg_0 (by omega)
    generalize (g.take k).map eP = G0 at *
    generalize g.map eP = GE at *
    simp [q4, q5, q6, e2, rm, om]
    exact lp
  · have u1 := tundo_ok (hc h1) hgl i.b
    rw [hss] at u1
    have u2 := alike_ok 7 (.bl (decide (0 < k))) (hs h1 ++ T.set cur (tbO hp fs g (k - 1))) (by simp)
    have fn := fin h1 (T.set cur (tbO hp fs g (k - 1))) cur (k - 1) ks (.str "undo") a12 a13 a14 (i.put (by have := i.b; omega)) (by omega)
    have hk' : decide ((0 : Int) < (k : Int)) = decide (0 < k) := by simp
    have hmx : (if (1 : Int) < (k : Int) then (k : Int) - 1 else 0) = ((k - 1 : Nat) : Int) := by split <;> omega
    have hci1 := hci h1
    generalize (g.take k).map eP = G0 at *
    generalize g.map eP = GE at *
    simp [q9, hci1, u1, u2, hmx]
    exact fn
  · have u1 := tcopyK_ok (hc h1) hgl p hf w
    have hl2 : (hs h1 ++ T).length = 2 + T.length := by simp
    rw [hl2, List.append_assoc] at u1
    obtain ⟨r, h2, e2, hr⟩ := dr_next h1 (T ++ [tbO hp fs g k]) 2 (by omega) (by omega)
    rw [show ((2 : Nat) : Int) = 2 from rfl] at e2
    have hlk : kl < T.length := (List.getElem?_eq_some_iff.mp i.l).1
    have hgk : ∀ h, (hs h ++ (T ++ [tbO hp fs g k]))[2 + kl]? = some (.lst (ks.map fun p => .tup [.ref (2 + p.1), .int (p.2 : Int)])) := fun h => by
      rw [hsg, List.getElem?_append_left hlk]; exact i.l
    have hsk : ∀ h o, (hs h ++ (T ++ [tbO hp fs g k])).set (2 + kl) o = hs h ++ (T ++ [tbO hp fs g k]).set kl o := fun h o => hss _ _ _ _
    have hkl : (ks.map fun p => D.tup [.ref (2 + p.1), .int (p.2 : Int)]).length < 100000 := by simp; omega
    have hci1 := hci h1
    by_cases q : r = 0
    · have cp := i.copy true
      have fn := fin h2 _ _ k _ (.str "copy") (.ref (2 + cur)) a13 a14 cp (by simp)
      simp only [List.map_append, List.map_cons, List.map_nil, if_true] at fn
      have q' : (r : Int) = 0 := by omega
      generalize (ks.map fun p => D.tup [.ref (2 + p.1), .int (p.2 : Int)]) = KE at *
      generalize (g.take k).map eP = G0 at *
      generalize g.map eP = GE at *
      generalize tbO hp fs g k = TB at *
      simp [q7, q8, hci1, u1, e2, q, hgk, hsk, hkl]
      exact fn
    · have cp := i.copy false
      have fn := fin h2 _ _ k _ (.str "copy") (.ref (2 + T.length)) a13 a14 cp (by simp)
      simp only [List.map_append, List.map_cons, List.map_nil, Bool.false_eq_true, if_false] at fn
      generalize (ks.map fun p => D.tup [.ref (2 + p.1), .int (p.2 : Int)]) = KE at *
      generalize (g.take k).map eP = G0 at *
      generalize g.map eP = GE at *
      generalize tbO hp fs g k = TB at *
      simp [q7, q8, hci1, u1, e2, q, hgk, hsk, hkl]
      exact fn
end
set_option maxHeartbeats 8000000 in
theorem law_k09_true (ns : List Int) (hn : ns.length ≤ 63) : ∃ S, f_law_k09 [.scr ns] [] = .ok (.bl true) S := by
  obtain ⟨h0, e0⟩ := mix_ok ns hn 9
  have := fun_out (slots := 18) (n := 1) (m := p_law_k09) (ds := [.scr ns]) (S := []) (Q := fun d S => d = .bl true) rfl (fun F hF => by
    obtain ⟨r, h1, e1, hr⟩ := drawn_pack h0
    obtain ⟨n, hnr⟩ : ∃ n : Nat, n = 1 + r := ⟨_, rfl⟩
    have cn : (1 : Int) + (r : Int) = (n : Int) := by omega
    obtain ⟨fs, h2, e2, hfs⟩ := dr_firsts h1 [] n (by omega) (by omega)
    obtain ⟨zs, h3, e3, hzl, hzs, hz8⟩ := dr_sizes h2 [] n 64 (by omega)
    rw [show ((64 : Nat) : Int) = 64 from rfl] at e3
    obtain ⟨hp, h4, e4, hpl, hpp⟩ := deal_ok h3 [] zs (by omega) (by omega)
    simp only [List.append_nil] at e2 e3 e4
    have p : PackOk hp := packOk_of (by omega) (by omega) hz8 hpl hpp
    have hlen : hp.length = n := by rw [← hzl, ← hpl, List.length_map]
    clear hnr
    subst hlen
    have hp1 := p.pos
    have hp8 := p.le
    obtain ⟨g, l', w⟩ := wk_ex hp.length fs hp p.bd hfs.lt
    have hgl : g.length ≤ 64 := by have := w.len; have := p.most; omega
    obtain ⟨m, h5, e5, hm⟩ := dr_next h4 [tbO hp fs g 0, tbO hp fs g 0, .lst []] 9 (by omega) (by omega)
    rw [show ((9 : Nat) : Int) = 9 from rfl] at e5
    have i1 := packinit_n (S := hs h4) (n := 2) p rfl
    have f1 := packfin_n (S := hs h4) (n := 2) (hp := hp) rfl
    have t1 := tinit_ok (hs h4) 2 rfl p hfs w
    have i2 := packinit_n (S := hs h4 ++ [tbO hp fs g 0]) (n := 3) p rfl
    have f2 := packfin_n (S := hs h4 ++ [tbO hp fs g 0]) (n := 3) (hp := hp) rfl
    have t2 := tinit_ok (hs h4 ++ [tbO hp fs g 0]) 3 rfl p hfs w
    simp only [List.append_assoc, List.cons_append, List.nil_append] at i2 f2 t2
    have lw := lwalk_ok (hs h4 ++ [tbO hp fs g 0, tbO hp fs g 0, .lst []]) w (by omega)
    have rm : rgD 0 (4 + (m : Int)) = (List.range (4 + m)).map eN := by
      have := rgD_nat (4 + m)
      rw [show ((4 + m : Nat) : Int) = 4 + (m : Int) by omega] at this
      exact this
    have om : okRg (0, 4 + (m : Int)) = true := by
      have := okRg_0 (n := 4 + m) (by omega)
      rw [show ((4 + m : Nat) : Int) = 4 + (m : Int) by omega] at this
      exact this
    have ti : TI hp fs g [tbO hp fs g 0, tbO hp fs g 0, .lst []] 0 1 2 0 [] := ⟨rfl, rfl, rfl, nofun, by decide, by omega⟩
    have sb := fun (T : Sto) (cur k : Nat) (ks : List (Nat × Nat)) (i : TI hp fs g T cur 1 2 k ks) (hks : ks.length ≤ 50) (h : Hh) (a2 a10 a11 a12 a13 a14 a15 a16 a17 : D) (po : Po) => step_b1 i hgl p hfs w hks h ns a2 a10 a11 a12 a13 a14 a15 a16 a17 po
    have so := fun (S : Sto) (n k : Nat) (h : S[n]? = some (tbO hp fs g k)) (hk : k ≤ g.length) => stands_ok h hgl p hfs w hk
    generalize hTB : tbO hp fs g 0 = TB at *
    generalize hGE : g.map eP = GE at *
    simp [p_law_k09, e0, e1, cn, e2, e3, e4, i1, f1, t1, i2, f2, t2, lw, e5, rm, om]
    refine out_for (fun k σ S => ∃ (h : Hh) (T : Sto) (cur kk : Nat) (ks : List (Nat × Nat)) (j10 j11 j12 j13 j14 : D), TI hp fs g T cur 1 2 kk ks ∧ ks.length ≤ k ∧ σ = [.scr ns, .ref 1, .int (hp.length : Int), eR fs, eH hp, .ref (2 + cur), .ref (2 + 1), .int (kk : Int), .ref (2 + 2), .lst GE, j10, j11, j12, j13, j14, .dead, .dead, .dead] ∧ S = hs h ++ T) (fun k d σ S e q => ?_) (fun σ S q => ?_) ⟨h5, _, 0, 0, [], _, _, _, _, _, ti, by simp, rfl, rfl⟩
    · obtain ⟨h, T, cur, kk, ks, j10, j11, j12, j13, j14, i, hks, rfl, rfl⟩ := q
      have hk : k < 4 + m := by
        have := (List.getElem?_eq_some_iff.mp e).1
        simpa using this
      refine ⟨by simp, _, rfl, fun F1 hF1 => ?_⟩
      refine sb T cur kk ks i (by omega) h (.int (hp.length : Int)) d j11 j12 j13 j14 .dead .dead .dead _ fun h' T' cur' k' ks' a b c d' i' hl => ?_
      exact hF1 _ _ ⟨h', T', cur', k', ks', _, _, _, _, _, i', by omega, rfl, rfl⟩
    · obtain ⟨h, T, cur, kk, ks, j10, j11, j12, j13, j14, i, hks, rfl, rfl⟩ := q
      rw [List.length_map, List.length_range] at hks
      refine ⟨by simp, ?_⟩
      have hgl2 : (hs h ++ T)[2 + 2]? = some (.lst (ks.map fun p => .tup [.ref (2 + p.1), .int (p.2 : Int)])) := by rw [hsg]; exact i.l
      have cA := comp_pure (S := hs h ++ T) (src := [2 + 2]) (pair := false) (t := .nm 17) (wσ := [.scr ns, .ref 1, .int (hp.length : Int), eR fs, eH hp, .ref (2 + cur), .ref (2 + 1), .int (kk : Int), .ref (2 + 2), .lst GE, j10, j11, j12, j13, j14, .dead, .dead, .dead]) (c := p_law_k09_c0) (e := p_law_k09_e0) (fun p : Nat × Nat => D.tup [.ref (2 + p.1), .int (p.2 : Int)]) (fun _ => false) (fun _ => D.non) ks [] (fun a ha => by
        obtain ⟨x1, x2, _⟩ := i.e a ha
        have s1 := so (hs h ++ T) (2 + a.1) a.2 (by rw [hsg]; exact x1) x2
        exact ⟨_, rfl, by simp [p_law_k09_c0, s1], nofun⟩) (by simp; omega)
      rw [List.filter_eq_nil_iff.mpr (by simp)] at cA
      have cB := comp_pure (S := hs h ++ T) (src := []) (pair := false) (t := .nm 17) (wσ := [.scr ns, .ref 1, .int (hp.length : Int), eR fs, eH hp, .ref (2 + cur), .ref (2 + 1), .int (kk : Int), .ref (2 + 2), .lst GE, j10, j11, j12, j13, j14, .lst (odd9 (hp.length : Int)), .dead, .dead]) (c := p_law_k09_c1) (e := p_law_k09_e1) (fun d : D => d) (fun _ => false) (fun _ => D.non) (odd9 (hp.length : Int)) [] (fun a ha => by
        obtain ⟨x1, x2⟩ := odd9_ok hp.length hp1 a ha
        have r1 := refused_ok (hs h ++ T) hp a x1 x2
        have i1 := packinit_n (S := hs h ++ T) (n := 2 + T.length) p (by simp)
        have f1 := packfin_n (S := hs h ++ T) (n := 2 + T.length) (hp := hp) (by simp)
        simp only [List.append_assoc] at i1 f1
        generalize odd9 (hp.length : Int) = OD at *
        exact ⟨_, rfl, by simp [p_law_k09_c1, i1, f1, x1, r1], nofun⟩) (by simp [odd9])
      rw [List.filter_eq_nil_iff.mpr (by simp)] at cB
      simp only [List.map_id', List.map_nil, List.append_nil] at cA cB
      have n0 : ∀ S, fNe (.lst []) (.lst []) S = .ok (.bl false) S := fun S => by rw [v_ne S _ _ rfl rfl]; simp
      have q0 : ∀ S, fEq (.lst []) (.lst []) S = .ok (.bl true) S := fun S => by rw [v_eq S _ _ rfl rfl]; simp
      have sS := so (hs h ++ T) (2 + 1) 0 (by rw [hsg, hTB]; rw [← hTB]; exact i.s) (Nat.zero_le _)
      have sS' : f_l_stands_so [.ref (2 + 1), eH hp, eR fs, .int 0] (hs h ++ T) = .ok (.bl true) (hs h ++ T) := sS
      generalize (ks.map fun p => D.tup [.ref (2 + p.1), .int (p.2 : Int)]) = KE at *
      have od : ([.non, .tup [], .tup [.int (hp.length : Int)], .tup [.int 0, .int 0], .lst [.int 0], .tup [.bl true], .int 0, .tup [.int 0, .int (hp.length : Int)], .tup [.int 0, .bl true], .tup [.int 0, .non], .tup [.str "0"], .tup [.lst [.int 0]]] : List D) = odd9 (hp.length : Int) := rfl
      have odl : (odd9 (hp.length : Int)).length ≤ 100000 := by simp [odd9]
      generalize odd9 (hp.length : Int) = OD at *
      simp [hgl2, odl, wipeD, cA, n0, od, cB, q0, sS']
      exact hF _ _ (finP_app (S := []) (T := hs h ++ T) (fz_cl rfl) rfl))
  obtain ⟨d, S2, e, rfl⟩ := this
  exact ⟨S2, e⟩
end DL

set_option maxHeartbeats 8000000
namespace LW
open PySem PySem.Spec PyProof.Rows L2 DL
def topS (i : Nat) : Stmt := PySem.Challenge.pw_heapleads_k09_whole_tables.main.body.getD i (.Pass ⟨0, 0, 0, 0⟩)
def inCls : Stmt → List Stmt
  | .ClassDef _ _ _ b _ _ _ _ _ _ _ => b
  | _ => []
def clsS (i j : Nat) : Stmt := (inCls (topS i)).getD j (.Pass ⟨0, 0, 0, 0⟩)

abbrev s_Unfitting_init : Stmt := clsS 3 0
abbrev s_BadHeaps_init : Stmt := clsS 2 0
abbrev s_l_mix : Stmt := topS 18
theorem sc_l_mix : FnScope ["_law_script", "_law_seed", "_law_state", "_law_cell"] ["_law_script", "_law_seed"] (defScope s_l_mix) := ⟨rfl, rfl, rfl, by decide +kernel, rfl, by decide +kernel, by decide +kernel⟩
abbrev s_l_next : Stmt := topS 19
theorem sc_l_next : FnScope ["_law_h", "_law_cap", "_law_cell"] ["_law_h", "_law_cap"] (defScope s_l_next) := ⟨rfl, rfl, rfl, by decide +kernel, rfl, by decide +kernel, by decide +kernel⟩
abbrev s_l_pick : Stmt := topS 21
theorem sc_l_pick : FnScope ["_law_h", "_law_things"] ["_law_h", "_law_things"] (defScope s_l_pick) := ⟨rfl, rfl, rfl, by decide +kernel, rfl, by decide +kernel, by decide +kernel⟩
abbrev s_l_firsts : Stmt := topS 24
theorem sc_l_firsts : FnScope ["_law_h", "_law_many", "_law_left", "_law_found", "_law_k", "_law_heap"] ["_law_h", "_law_many"] (defScope s_l_firsts) := ⟨rfl, rfl, rfl, by decide +kernel, rfl, by decide +kernel, by decide +kernel⟩
abbrev s_l_deal : Stmt := topS 23
theorem sc_l_deal : FnScope ["_law_h", "_law_sizes_here", "_law_cards", "_law_heap", "_law_found", "_law_size", "_law_row", "_law_k", "_law_spot"] ["_law_h", "_law_sizes_here"] (defScope s_l_deal) := ⟨rfl, rfl, rfl, by decide +kernel, rfl, by decide +kernel, by decide +kernel⟩
abbrev s_is_integer : Stmt := topS 8
theorem sc_is_integer : FnScope ["thing", "low", "high"] ["thing", "low", "high"] (defScope s_is_integer) := ⟨rfl, rfl, rfl, by decide +kernel, rfl, by decide +kernel, by decide +kernel⟩
abbrev s_check_firsts : Stmt := topS 12
theorem sc_check_firsts : FnScope ["many", "thing", "at", "heap"] ["many", "thing"] (defScope s_check_firsts) := ⟨rfl, rfl, rfl, by decide +kernel, rfl, by decide +kernel, by decide +kernel⟩
abbrev s_walked : Stmt := topS 14
theorem sc_walked : FnScope ["heaps", "firsts", "found", "turned", "first", "here", "card"] ["heaps", "firsts"] (defScope s_walked) := ⟨rfl, rfl, rfl, by decide +kernel, rfl, by decide +kernel, by decide +kernel⟩
abbrev s_Table_init : Stmt := clsS 16 0
theorem sc_Table_init : FnScope ["self", "pack", "firsts"] ["self", "pack", "firsts"] (defScope s_Table_init) := ⟨rfl, rfl, rfl, by decide +kernel, rfl, by decide +kernel, by decide +kernel⟩
abbrev s_l_walk : Stmt := topS 25
theorem sc_l_walk : FnScope ["_law_heaps", "_law_firsts_here", "_law_left", "_law_found", "_law_first", "_law_here", "_law_card"] ["_law_heaps", "_law_firsts_here"] (defScope s_l_walk) := ⟨rfl, rfl, rfl, by decide +kernel, rfl, by decide +kernel, by decide +kernel⟩
abbrev s_Table_shown : Stmt := clsS 16 4
theorem sc_Table_shown : FnScope ["self"] ["self"] (defScope s_Table_shown) := ⟨rfl, rfl, rfl, by decide +kernel, rfl, by decide +kernel, by decide +kernel⟩
abbrev s_l_alike : Stmt := topS 20
theorem sc_l_alike : FnScope ["_law_found", "_law_due", "_law_k"] ["_law_found", "_law_due"] (defScope s_l_alike) := ⟨rfl, rfl, rfl, by decide +kernel, rfl, by decide +kernel, by decide +kernel⟩
abbrev s_is_heap : Stmt := topS 9
theorem sc_is_heap : FnScope ["thing", "many", "card"] ["thing", "many"] (defScope s_is_heap) := ⟨rfl, rfl, rfl, by decide +kernel, rfl, by decide +kernel, by decide +kernel⟩
abbrev s_check_heaps : Stmt := topS 10
theorem sc_check_heaps : FnScope ["thing", "index", "heap"] ["thing"] (defScope s_check_heaps) := ⟨rfl, rfl, rfl, by decide +kernel, rfl, by decide +kernel, by decide +kernel⟩
abbrev s_Pack_init : Stmt := clsS 11 0
theorem sc_Pack_init : FnScope ["self", "heaps", "index", "heap", "other"] ["self", "heaps"] (defScope s_Pack_init) := ⟨rfl, rfl, rfl, by decide +kernel, rfl, by decide +kernel, by decide +kernel⟩
abbrev s_Pack_eq : Stmt := clsS 11 4
theorem sc_Pack_eq : FnScope ["self", "other"] ["self", "other"] (defScope s_Pack_eq) := ⟨rfl, rfl, rfl, by decide +kernel, rfl, by decide +kernel, by decide +kernel⟩
abbrev s_Table_pack : Stmt := clsS 16 1
theorem sc_Table_pack : FnScope ["self"] ["self"] (defScope s_Table_pack) := ⟨rfl, rfl, rfl, by decide +kernel, rfl, by decide +kernel, by decide +kernel⟩
abbrev s_Table_lies : Stmt := clsS 16 5
theorem sc_Table_lies : FnScope ["self", "turned", "heap", "card", "cards"] ["self"] (defScope s_Table_lies) := ⟨rfl, rfl, rfl, by decide +kernel, rfl, by decide +kernel, by decide +kernel⟩
abbrev s_Table_firsts : Stmt := clsS 16 2
theorem sc_Table_firsts : FnScope ["self"] ["self"] (defScope s_Table_firsts) := ⟨rfl, rfl, rfl, by decide +kernel, rfl, by decide +kernel, by decide +kernel⟩
abbrev s_Table_len : Stmt := clsS 16 7
theorem sc_Table_len : FnScope ["self"] ["self"] (defScope s_Table_len) := ⟨rfl, rfl, rfl, by decide +kernel, rfl, by decide +kernel, by decide +kernel⟩
abbrev s_l_stands_so : Stmt := topS 26
theorem sc_l_stands_so : FnScope ["_law_table", "_law_heaps", "_law_firsts_here", "_law_many", "_law_turned", "_law_lies", "_law_heap", "_law_found", "_law_one"] ["_law_table", "_law_heaps", "_law_firsts_here", "_law_many"] (defScope s_l_stands_so) := ⟨rfl, rfl, rfl, by decide +kernel, rfl, by decide +kernel, by decide +kernel⟩
abbrev s_l_sizes : Stmt := topS 22
theorem sc_l_sizes : FnScope ["_law_h", "_law_many", "_law_most", "_law_cap", "_law_found", "_law_whole", "_law_heap", "_law_size"] ["_law_h", "_law_many", "_law_most"] (defScope s_l_sizes) := ⟨rfl, rfl, rfl, by decide +kernel, rfl, by decide +kernel, by decide +kernel⟩
abbrev s_Table_copy : Stmt := clsS 16 8
theorem sc_Table_copy : FnScope ["self", "found"] ["self"] (defScope s_Table_copy) := ⟨rfl, rfl, rfl, by decide +kernel, rfl, by decide +kernel, by decide +kernel⟩
abbrev s_Table_undo : Stmt := clsS 16 6
theorem sc_Table_undo : FnScope ["self"] ["self"] (defScope s_Table_undo) := ⟨rfl, rfl, rfl, by decide +kernel, rfl, by decide +kernel, by decide +kernel⟩
abbrev s_l_refused : Stmt := topS 27
theorem sc_l_refused : FnScope ["_law_pack", "_law_firsts_here", "_law_found", "error"] ["_law_pack", "_law_firsts_here"] (defScope s_l_refused) := ⟨rfl, rfl, rfl, by decide +kernel, rfl, by decide +kernel, by decide +kernel⟩
abbrev s_Table_turn : Stmt := clsS 16 3
theorem sc_Table_turn : FnScope ["self"] ["self"] (defScope s_Table_turn) := ⟨rfl, rfl, rfl, by decide +kernel, rfl, by decide +kernel, by decide +kernel⟩
abbrev s_law : Stmt := topS 28
theorem sc_law : FnScope ["_law_script", "_law_h", "_law_many", "_law_firsts_here", "_law_heaps", "_law_table", "_law_side", "_law_turned", "_law_kept", "_law_whole", "_law_step", "_law_kind", "_law_twin", "_law_again", "_law_due", "_law_odd", "_law_bad", "_law_one"] ["_law_script"] (defScope s_law) := ⟨rfl, rfl, rfl, by decide +kernel, rfl, by decide +kernel, by decide +kernel⟩
structure Txt (P : Program) (K : PySem.W.Frag) (mg : Str → Option Value) (G : Nat → Addr) where
  a_l_mix : Addr
  d_l_mix : FuncData
  F_l_mix : Fun K "_law_mix" "_law_mix" s_l_mix a_l_mix d_l_mix
  b_l_mix : Binds K d_l_mix ["_law_script", "_law_seed"] []
  m_l_mix : mg "_law_mix" = some (.ref a_l_mix)
  a_l_next : Addr
  d_l_next : FuncData
  F_l_next : Fun K "_law_next" "_law_next" s_l_next a_l_next d_l_next
  b_l_next : Binds K d_l_next ["_law_h", "_law_cap"] []
  m_l_next : mg "_law_next" = some (.ref a_l_next)
  a_l_pick : Addr
  d_l_pick : FuncData
  F_l_pick : Fun K "_law_pick" "_law_pick" s_l_pick a_l_pick d_l_pick
  b_l_pick : Binds K d_l_pick ["_law_h", "_law_things"] []
  m_l_pick : mg "_law_pick" = some (.ref a_l_pick)
  a_l_firsts : Addr
  d_l_firsts : FuncData
  F_l_firsts : Fun K "_law_firsts" "_law_firsts" s_l_firsts a_l_firsts d_l_firsts
  b_l_firsts : Binds K d_l_firsts ["_law_h", "_law_many"] []
  m_l_firsts : mg "_law_firsts" = some (.ref a_l_firsts)
  a_l_deal : Addr
  d_l_deal : FuncData
  F_l_deal : Fun K "_law_deal" "_law_deal" s_l_deal a_l_deal d_l_deal
  b_l_deal : Binds K d_l_deal ["_law_h", "_law_sizes_here"] []
  m_l_deal : mg "_law_deal" = some (.ref a_l_deal)
  a_is_integer : Addr
  d_is_integer : FuncData
  F_is_integer : Fun K "is_integer" "is_integer" s_is_integer a_is_integer d_is_integer
  b_is_integer : Binds K d_is_integer ["thing", "low", "high"] []
  m_is_integer : mg "is_integer" = some (.ref a_is_integer)
  a_check_firsts : Addr
  d_check_firsts : FuncData
  F_check_firsts : Fun K "check_firsts" "check_firsts" s_check_firsts a_check_firsts d_check_firsts
  b_check_firsts : Binds K d_check_firsts ["many", "thing"] []
  m_check_firsts : mg "check_firsts" = some (.ref a_check_firsts)
  a_walked : Addr
  d_walked : FuncData
  F_walked : Fun K "walked" "walked" s_walked a_walked d_walked
  b_walked : Binds K d_walked ["heaps", "firsts"] []
  m_walked : mg "walked" = some (.ref a_walked)
  a_Table_init : Addr
  d_Table_init : FuncData
  F_Table_init : Fun K "__init__" "Table.__init__" s_Table_init a_Table_init d_Table_init
  b_Table_init : Binds K d_Table_init ["self", "pack", "firsts"] []
  a_l_walk : Addr
  d_l_walk : FuncData
  F_l_walk : Fun K "_law_walk" "_law_walk" s_l_walk a_l_walk d_l_walk
  b_l_walk : Binds K d_l_walk ["_law_heaps", "_law_firsts_here"] []
  m_l_walk : mg "_law_walk" = some (.ref a_l_walk)
  a_Table_shown : Addr
  d_Table_shown : FuncData
  F_Table_shown : Fun K "shown" "Table.shown" s_Table_shown a_Table_shown d_Table_shown
  b_Table_shown : Binds K d_Table_shown ["self"] []
  a_l_alike : Addr
  d_l_alike : FuncData
  F_l_alike : Fun K "_law_alike" "_law_alike" s_l_alike a_l_alike d_l_alike
  b_l_alike : Binds K d_l_alike ["_law_found", "_law_due"] []
  m_l_alike : mg "_law_alike" = some (.ref a_l_alike)
  a_is_heap : Addr
  d_is_heap : FuncData
  F_is_heap : Fun K "is_heap" "is_heap" s_is_heap a_is_heap d_is_heap
  b_is_heap : Binds K d_is_heap ["thing", "many"] []
  m_is_heap : mg "is_heap" = some (.ref a_is_heap)
  a_check_heaps : Addr
  d_check_heaps : FuncData
  F_check_heaps : Fun K "check_heaps" "check_heaps" s_check_heaps a_check_heaps d_check_heaps
  b_check_heaps : Binds K d_check_heaps ["thing"] []
  m_check_heaps : mg "check_heaps" = some (.ref a_check_heaps)
  a_Pack_init : Addr
  d_Pack_init : FuncData
  F_Pack_init : Fun K "__init__" "Pack.__init__" s_Pack_init a_Pack_init d_Pack_init
  b_Pack_init : Binds K d_Pack_init ["self", "heaps"] []
  a_Pack_eq : Addr
  d_Pack_eq : FuncData
  F_Pack_eq : Fun K "__eq__" "Pack.__eq__" s_Pack_eq a_Pack_eq d_Pack_eq
  b_Pack_eq : Binds K d_Pack_eq ["self", "other"] []
  a_Table_pack : Addr
  d_Table_pack : FuncData
  F_Table_pack : Fun K "pack" "Table.pack" s_Table_pack a_Table_pack d_Table_pack
  b_Table_pack : Binds K d_Table_pack ["self"] []
  a_Table_lies : Addr
  d_Table_lies : FuncData
  F_Table_lies : Fun K "lies" "Table.lies" s_Table_lies a_Table_lies d_Table_lies
  b_Table_lies : Binds K d_Table_lies ["self"] []
  a_Table_firsts : Addr
  d_Table_firsts : FuncData
  F_Table_firsts : Fun K "firsts" "Table.firsts" s_Table_firsts a_Table_firsts d_Table_firsts
  b_Table_firsts : Binds K d_Table_firsts ["self"] []
  a_Table_len : Addr
  d_Table_len : FuncData
  F_Table_len : Fun K "__len__" "Table.__len__" s_Table_len a_Table_len d_Table_len
  b_Table_len : Binds K d_Table_len ["self"] []
  a_l_stands_so : Addr
  d_l_stands_so : FuncData
  F_l_stands_so : Fun K "_law_stands_so" "_law_stands_so" s_l_stands_so a_l_stands_so d_l_stands_so
  b_l_stands_so : Binds K d_l_stands_so ["_law_table", "_law_heaps", "_law_firsts_here", "_law_many"] []
  m_l_stands_so : mg "_law_stands_so" = some (.ref a_l_stands_so)
  a_l_sizes : Addr
  d_l_sizes : FuncData
  F_l_sizes : Fun K "_law_sizes" "_law_sizes" s_l_sizes a_l_sizes d_l_sizes
  b_l_sizes : Binds K d_l_sizes ["_law_h", "_law_many", "_law_most"] []
  m_l_sizes : mg "_law_sizes" = some (.ref a_l_sizes)
  a_Table_copy : Addr
  d_Table_copy : FuncData
  F_Table_copy : Fun K "copy" "Table.copy" s_Table_copy a_Table_copy d_Table_copy
  b_Table_copy : Binds K d_Table_copy ["self"] []
  a_Table_undo : Addr
  d_Table_undo : FuncData
  F_Table_undo : Fun K "undo" "Table.undo" s_Table_undo a_Table_undo d_Table_undo
  b_Table_undo : Binds K d_Table_undo ["self"] []
  a_l_refused : Addr
  d_l_refused : FuncData
  F_l_refused : Fun K "_law_refused" "_law_refused" s_l_refused a_l_refused d_l_refused
  b_l_refused : Binds K d_l_refused ["_law_pack", "_law_firsts_here"] []
  m_l_refused : mg "_law_refused" = some (.ref a_l_refused)
  a_Table_turn : Addr
  d_Table_turn : FuncData
  F_Table_turn : Fun K "turn" "Table.turn" s_Table_turn a_Table_turn d_Table_turn
  b_Table_turn : Binds K d_Table_turn ["self"] []
  a_law : Addr
  d_law : FuncData
  F_law : Fun K "law" "law" s_law a_law d_law
  b_law : Binds K d_law ["_law_script"] []
  m_law : mg "law" = some (.ref a_law)
  n_all : mg "all" = none
  n_bool : mg "bool" = none
  n_enumerate : mg "enumerate" = none
  n_int : mg "int" = none
  n_isinstance : mg "isinstance" = none
  n_len : mg "len" = none
  n_list : mg "list" = none
  n_max : mg "max" = none
  n_min : mg "min" = none
  n_range : mg "range" = none
  n_str : mg "str" = none
  n_sum : mg "sum" = none
  n_tuple : mg "tuple" = none
  u_MOST_HEAPS : Value
  c_MOST_HEAPS : mg "MOST_HEAPS" = some u_MOST_HEAPS
  r_MOST_HEAPS : RelV (.int 8) u_MOST_HEAPS
  u_MOST_CARDS : Value
  c_MOST_CARDS : mg "MOST_CARDS" = some u_MOST_CARDS
  r_MOST_CARDS : RelV (.int 8) u_MOST_CARDS
  cls_0 : Cls K (G 0)
  m_Pack : mg "Pack" = some (.ref (G 0))
  mk_Pack : Mk K (G 0) a_Pack_init
  cls_1 : Cls K (G 1)
  m_Table : mg "Table" = some (.ref (G 1))
  mk_Table : Mk K (G 1) a_Table_init
  is_Pack : IsC K (G 0)
  no_base : NoAttr K (G 1) "base"
  no_begun : NoAttr K (G 1) "begun"
  no_done : NoAttr K (G 1) "done"
  no_rows : NoAttr K (G 0) "rows"
  no_whole : NoAttr K (G 1) "whole"
  me_Table_shown : Meth K (G 1) "shown" a_Table_shown
  me_Table_lies : Meth K (G 1) "lies" a_Table_lies
  me_Table_copy : Meth K (G 1) "copy" a_Table_copy
  me_Table_undo : Meth K (G 1) "undo" a_Table_undo
  me_Table_turn : Meth K (G 1) "turn" a_Table_turn
  fi_Pack_eq : PySem.W.findIn K (.ref (G 0)) "__eq__" = some (some (.ref a_Pack_eq))
  ff_Pack_eq : PySem.W.isFn K (.ref a_Pack_eq) = true
  nf_Pack_eq : PySem.W.notFirst K (G 0) (.type "tuple") = true
  fi_Table_len : PySem.W.findIn K (.ref (G 1)) "__len__" = some (some (.ref a_Table_len))
  ff_Table_len : PySem.W.isFn K (.ref a_Table_len) = true
  q_Table_pack : Addr
  pr_Table_pack : PropOf K (G 1) "pack" q_Table_pack a_Table_pack
  q_Table_firsts : Addr
  pr_Table_firsts : PropOf K (G 1) "firsts" q_Table_firsts a_Table_firsts
  m_HeapError : mg "HeapError" = some (.ref (G 2))
  m_BadHeaps : mg "BadHeaps" = some (.ref (G 3))
  m_Unfitting : mg "Unfitting" = some (.ref (G 4))
  m_BadFirsts : mg "BadFirsts" = some (.ref (G 5))
  xm_BadHeaps : XMk P K mg (G 3) ["index"]
  xm_Unfitting : XMk P K mg (G 4) ["heap"]
  xm_BadFirsts : XMk0 K (G 5)
  ex_3_5 : PySem.W.exmOne K (.ref (G 3)) (.ref (G 5)) = some false
  ex_4_5 : PySem.W.exmOne K (.ref (G 4)) (.ref (G 5)) = some false
  ex_5_5 : PySem.W.exmOne K (.ref (G 5)) (.ref (G 5)) = some true
  xh_5 : XHold K (G 5)
  ki_5_2 : PySem.W.kitOne K (.ref (G 5)) (.ref (G 2)) = some (isx 5 2)
section
variable {P : Program} {w : World} {K : PySem.W.Frag} {mg : Str → Option Value} {base : Heap} {G : Nat → Addr}
theorem ok_l_mix (T : Txt P K mg G) : FnOk P w K mg base (L2.CX P w) 1 T.a_l_mix T.d_l_mix ["_law_script", "_law_seed"] (spD ⟨K, G⟩ f_l_mix) := fn_okK (k := 0) T.F_l_mix sc_l_mix (fun cdv A outer s H E hr => by
    have tk : Takes (cxOf (L2.CX P w) P w K mg base ["_law_script", "_law_seed", "_law_state", "_law_cell"] "_law_mix" (defScope s_l_mix) T.a_l_mix cdv A outer s H E) (fun cls d _ H => E cls d H) := takes_of rfl rfl rfl rfl
    exact (ss_cons (ss_set (i := 2) sc_l_mix.nd rfl (.inl rfl) (se_var (pv 1)))
    (ss_cons (ss_for (t := .nm 3) (passes_of rfl) rfl (si_seq rfl (se_var (pv 0))) (pg_name (i := 3) sc_l_mix.nd rfl (.inl rfl)) (ss_one (ss_set (i := 2) sc_l_mix.nd rfl (.inl rfl) ((se_mod ((se_int1 rfl T.n_int (sa_cons ((se_add ((se_add ((se_mul (se_var (pv 2)) (se_int))) ((se_mod ((se_int1 rfl T.n_int (sa_cons (se_var (pv 3)) (sa_nil)))) (se_int))))) (se_int))) (sa_nil)))) (se_int))))))
    (ss_one (ss_ret ((sn_loc ((sn_lst (sa_cons (se_var (pv 2)) (sa_cons ((sn_loc ((sn_list rfl rfl T.n_list (sa_cons (se_var (pv 0)) (sa_nil)))))) (sa_cons (se_int) (sa_nil)))))))))))))
theorem ok_l_next (T : Txt P K mg G) : FnOk P w K mg base (L2.CX P w) 1 T.a_l_next T.d_l_next ["_law_h", "_law_cap"] (spD ⟨K, G⟩ f_l_next) := fn_okD (k := 0) T.F_l_next sc_l_next (fun cdv A outer s H E hr => by
    have tk : Takes (cxOf (L2.CX P w) P w K mg base ["_law_h", "_law_cap", "_law_cell"] "_law_next" (defScope s_l_next) T.a_l_next cdv A outer s H E) (fun cls d _ H => E cls d H) := takes_of rfl rfl rfl rfl
    exact (ss_cons (ss_set (i := 2) sc_l_next.nd rfl (.inl rfl) ((se_sub1 ((se_add ((se_sub1 (se_var (pv 0)) (se_int))) ((sn_frz ((sn_lst (sa_cons (se_int) (sa_nil)))))))) ((se_mod ((se_int1 rfl T.n_int (sa_cons ((se_sub1 (se_var (pv 0)) (se_int))) (sa_nil)))) ((se_max rfl rfl T.n_max (sa_cons (se_int) (sa_cons ((se_len rfl T.n_len (sa_cons ((se_sub1 (se_var (pv 0)) (se_int))) (sa_nil)))) (sa_nil))))))))))
    (ss_cons (ss_if ((st_c1 sc_ge (se_var (pv 2)) ((se_pow (se_int) (se_int))))) (ss_cons (ss_setIx ((se_sub1 (se_var (pv 0)) (se_int))) ((se_mod ((se_int1 rfl T.n_int (sa_cons ((se_sub1 (se_var (pv 0)) (se_int))) (sa_nil)))) ((se_len rfl T.n_len (sa_cons ((se_sub1 (se_var (pv 0)) (se_int))) (sa_nil)))))) ((se_div (se_var (pv 2)) (se_var (pv 1)))) (fun ho hi => pg_sub ho hi set_list))
    (ss_one (ss_ret ((se_mod ((se_int1 rfl T.n_int (sa_cons (se_var (pv 2)) (sa_nil)))) (se_var (pv 1))))))) (ss_nil))
    (ss_cons (ss_setIx (se_var (pv 0)) (se_int) ((se_mod ((se_int1 rfl T.n_int (sa_cons ((se_add ((se_add ((se_mul ((se_sub1 (se_var (pv 0)) (se_int))) (se_int))) ((se_mul (se_var (pv 2)) (se_int))))) (se_int))) (sa_nil)))) (se_int))) (fun ho hi => pg_sub ho hi set_list))
    (ss_cons (ss_setIx (se_var (pv 0)) (se_int) ((se_add ((se_sub1 (se_var (pv 0)) (se_int))) (se_int))) (fun ho hi => pg_sub ho hi set_list))
    (ss_one (ss_ret ((se_mod ((se_int1 rfl T.n_int (sa_cons ((se_div ((se_sub1 (se_var (pv 0)) (se_int))) (se_int))) (sa_nil)))) (se_var (pv 1)))))))))))
theorem ok_l_pick (T : Txt P K mg G) : FnOk P w K mg base (L2.CX P w) 2 T.a_l_pick T.d_l_pick ["_law_h", "_law_things"] (spD ⟨K, G⟩ f_l_pick) := fn_okD (k := 1) T.F_l_pick sc_l_pick (fun cdv A outer s H E hr => by
    have tk : Takes (cxOf (L2.CX P w) P w K mg base ["_law_h", "_law_things"] "_law_pick" (defScope s_l_pick) T.a_l_pick cdv A outer s H E) (fun cls d _ H => E cls d H) := takes_of rfl rfl rfl rfl
    exact (ss_one (ss_ret ((se_sub1 (se_var (pv 1)) ((se_call tk (ok_l_next T) (hr.mono (by decide)) rfl T.m_l_next T.F_l_next.kp T.b_l_next (sa_cons (se_var (pv 0)) (sa_cons ((se_len rfl T.n_len (sa_cons (se_var (pv 1)) (sa_nil)))) (sa_nil))))))))))
theorem ok_l_firsts (T : Txt P K mg G) : FnOk P w K mg base (L2.CX P w) 3 T.a_l_firsts T.d_l_firsts ["_law_h", "_law_many"] (spD ⟨K, G⟩ f_l_firsts) := fn_okD (k := 2) T.F_l_firsts sc_l_firsts (fun cdv A outer s H E hr => by
    have tk : Takes (cxOf (L2.CX P w) P w K mg base ["_law_h", "_law_many", "_law_left", "_law_found", "_law_k", "_law_heap"] "_law_firsts" (defScope s_l_firsts) T.a_l_firsts cdv A outer s H E) (fun cls d _ H => E cls d H) := takes_of rfl rfl rfl rfl
    exact (ss_cons (ss_asg (t := .tp [2, 3]) (se_tup (sa_cons ((sn_frz ((sn_listRg rfl rfl T.n_list (sr_1 rfl T.n_range (se_var (pv 1))))))) (sa_cons ((sn_loc ((sn_lst (sa_nil))))) (sa_nil)))) (pg_tup rfl (pgs_cons (pg_name (i := 2) sc_l_firsts.nd rfl (.inl rfl)) (pgs_cons (pg_name (i := 3) sc_l_firsts.nd rfl (.inr rfl)) (pgs_nil)))))
    (ss_cons (ss_for (t := .nm 4) (passes_of rfl) rfl (si_range1 rfl T.n_range (sa_cons ((se_min rfl rfl T.n_min (sa_cons (se_var (pv 1)) (sa_cons ((se_call tk (ok_l_pick T) (hr.mono (by decide)) rfl T.m_l_pick T.F_l_pick.kp T.b_l_pick (sa_cons (se_var (pv 0)) (sa_cons ((sn_frz ((sn_lst (sa_cons (se_int) (sa_cons (se_int) (sa_cons (se_int) (sa_cons (se_int) (sa_cons (se_int) (sa_cons (se_int) (sa_nil))))))))))) (sa_nil))))) (sa_nil))))) (sa_nil))) (pg_name (i := 4) sc_l_firsts.nd rfl (.inl rfl)) (ss_cons (ss_expr ((se_append (se_var (pv 3)) (sa_cons ((se_sub1 (se_var (pv 2)) ((se_call tk (ok_l_next T) (hr.mono (by decide)) rfl T.m_l_next T.F_l_next.kp T.b_l_next (sa_cons (se_var (pv 0)) (sa_cons ((se_len rfl T.n_len (sa_cons (se_var (pv 2)) (sa_nil)))) (sa_nil))))))) (sa_nil)))))
    (ss_one (ss_setComp (i := 2) (f := mFz) (own := [("_law_heap", 5)]) (t := .nm 5) (fun _ => frz_imp) rfl sc_l_firsts.nd rfl rfl (sw_true rfl rfl rfl (by decide +kernel)) (si_seq rfl (se_var (pv 2))) (blkOk_by (N := ["_law_h", "_law_many", "_law_left", "_law_found", "_law_k", "_law_heap"]) (sc := defScope s_l_firsts) (by decide +kernel)) (fun _ _ _ _ _ => pg_name (i := 5) sc_l_firsts.nd rfl (by first | exact .inl rfl | exact .inr rfl)) (fun _ _ _ _ _ => st_ifs ((st_c1 sc_notIn (se_var (pv 5)) (se_var (pv 3))))) (fun _ _ _ _ _ => se_var (pv 5)) (by decide)))))
    (ss_one (ss_ret ((se_tuple rfl T.n_tuple (sa_cons (se_var (pv 3)) (sa_nil)))))))))
theorem ok_l_deal (T : Txt P K mg G) : FnOk P w K mg base (L2.CX P w) 2 T.a_l_deal T.d_l_deal ["_law_h", "_law_sizes_here"] (spD ⟨K, G⟩ f_l_deal) := fn_okD (k := 1) T.F_l_deal sc_l_deal (fun cdv A outer s H E hr => by
    have tk : Takes (cxOf (L2.CX P w) P w K mg base ["_law_h", "_law_sizes_here", "_law_cards", "_law_heap", "_law_found", "_law_size", "_law_row", "_law_k", "_law_spot"] "_law_deal" (defScope s_l_deal) T.a_l_deal cdv A outer s H E) (fun cls d _ H => E cls d H) := takes_of rfl rfl rfl rfl
    exact (ss_cons (ss_set (i := 2) sc_l_deal.nd rfl (.inl rfl) ((sn_frz ((sn_lst (sa_nil))))))
    (ss_cons (ss_for (t := .nm 3) (passes_of rfl) rfl (si_range1 rfl T.n_range (sa_cons ((se_len rfl T.n_len (sa_cons (se_var (pv 1)) (sa_nil)))) (sa_nil))) (pg_name (i := 3) sc_l_deal.nd rfl (.inl rfl)) (ss_one (ss_set (i := 2) sc_l_deal.nd rfl (.inl rfl) ((se_add (se_var (pv 2)) ((sn_frz ((sn_mul ((sn_frz ((sn_lst (sa_cons (se_var (pv 3)) (sa_nil)))))) ((se_sub1 (se_var (pv 1)) (se_var (pv 3)))))))))))))
    (ss_cons (ss_set (i := 4) sc_l_deal.nd rfl (.inl rfl) ((sn_loc ((sn_lst (sa_nil))))))
    (ss_cons (ss_for (t := .nm 5) (passes_of rfl) rfl (si_seq rfl (se_var (pv 1))) (pg_name (i := 5) sc_l_deal.nd rfl (.inl rfl)) (ss_cons (ss_set (i := 6) sc_l_deal.nd rfl (.inl rfl) ((sn_loc ((sn_lst (sa_nil))))))
    (ss_cons (ss_for (t := .nm 7) (passes_of rfl) rfl (si_range1 rfl T.n_range (sa_cons (se_var (pv 5)) (sa_nil))) (pg_name (i := 7) sc_l_deal.nd rfl (.inl rfl)) (ss_cons (ss_set (i := 8) sc_l_deal.nd rfl (.inl rfl) ((se_call tk (ok_l_next T) (hr.mono (by decide)) rfl T.m_l_next T.F_l_next.kp T.b_l_next (sa_cons (se_var (pv 0)) (sa_cons ((se_len rfl T.n_len (sa_cons (se_var (pv 2)) (sa_nil)))) (sa_nil))))))
    (ss_cons (ss_expr ((se_append (se_var (pv 6)) (sa_cons ((se_sub1 (se_var (pv 2)) (se_var (pv 8)))) (sa_nil)))))
    (ss_one (ss_set (i := 2) sc_l_deal.nd rfl (.inl rfl) ((se_add ((se_slice (se_var (pv 2)) so_none (so_some (se_var (pv 8))))) ((se_slice (se_var (pv 2)) (so_some ((se_add (se_var (pv 8)) (se_int)))) so_none)))))))))
    (ss_one (ss_expr ((se_append (se_var (pv 4)) (sa_cons ((se_tuple rfl T.n_tuple (sa_cons (se_var (pv 6)) (sa_nil)))) (sa_nil)))))))))
    (ss_one (ss_ret ((se_tuple rfl T.n_tuple (sa_cons (se_var (pv 4)) (sa_nil)))))))))))
theorem ok_is_integer (T : Txt P K mg G) : FnOk P w K mg base (L2.CX P w) 1 T.a_is_integer T.d_is_integer ["thing", "low", "high"] (spD ⟨K, G⟩ f_is_integer) := fn_okD (k := 0) T.F_is_integer sc_is_integer (fun cdv A outer s H E hr => by
    have tk : Takes (cxOf (L2.CX P w) P w K mg base ["thing", "low", "high"] "is_integer" (defScope s_is_integer) T.a_is_integer cdv A outer s H E) (fun cls d _ H => E cls d H) := takes_of rfl rfl rfl rfl
    exact (ss_one (ss_ret ((se_and ((se_isi .int (by decide) rfl T.n_isinstance (se_var (pv 0)) (pe_bltn rfl T.n_int (by decide +kernel) rfl))) (se_and ((se_not ((se_isi .bool (by decide) rfl T.n_isinstance (se_var (pv 0)) (pe_bltn rfl T.n_bool (by decide +kernel) rfl))))) (se_one ((se_c2 sc_le sc_le (se_var (pv 1)) (se_var (pv 0)) (se_var (pv 2)))))))))))
theorem ok_check_firsts (T : Txt P K mg G) : FnOk P w K mg base (L2.CX P w) 3 T.a_check_firsts T.d_check_firsts ["many", "thing"] (spD ⟨K, G⟩ f_check_firsts) := fn_okD (k := 2) T.F_check_firsts sc_check_firsts (fun cdv A outer s H E hr => by
    have tk : Takes (cxOf (L2.CX P w) P w K mg base ["many", "thing", "at", "heap"] "check_firsts" (defScope s_check_firsts) T.a_check_firsts cdv A outer s H E) (fun cls d _ H => E cls d H) := takes_of rfl rfl rfl rfl
    exact (ss_cons (ss_if ((PW.pt (sw_or ((st_not ((st_val ((se_isi .tuple (by decide) rfl T.n_isinstance (se_var (pv 1)) (pe_bltn rfl T.n_tuple (by decide +kernel) rfl))))))) (sw_or1 ((st_not ((st_c2 sc_le sc_le (se_int) ((se_len rfl T.n_len (sa_cons (se_var (pv 1)) (sa_nil)))) (se_var (pv 0)))))))))) (ss_one (ss_raise0 (k := 5) rfl tk T.xm_BadFirsts T.m_BadFirsts)) (ss_nil))
    (ss_one (ss_for (t := .tp [2, 3]) (passes_of rfl) rfl (si_enum rfl rfl T.n_enumerate (sa_cons (se_var (pv 1)) (sa_nil))) (pg_tup rfl (pgs_cons (pg_name (i := 2) sc_check_firsts.nd rfl (.inl rfl)) (pgs_cons (pg_name (i := 3) sc_check_firsts.nd rfl (.inl rfl)) (pgs_nil)))) (ss_one (ss_if ((PW.pt (sw_or ((st_not ((st_val ((se_call tk (ok_is_integer T) (hr.mono (by decide)) rfl T.m_is_integer T.F_is_integer.kp T.b_is_integer (sa_cons (se_var (pv 3)) (sa_cons (se_int) (sa_cons ((se_sub (se_var (pv 0)) (se_int))) (sa_nil)))))))))) (sw_or1 ((st_c1 sc_in (se_var (pv 3)) ((se_slice (se_var (pv 1)) so_none (so_some (se_var (pv 2))))))))))) (ss_one (ss_raise0 (k := 5) rfl tk T.xm_BadFirsts T.m_BadFirsts)) (ss_nil)))))))
theorem ok_walked (T : Txt P K mg G) : FnOk P w K mg base (L2.CX P w) 1 T.a_walked T.d_walked ["heaps", "firsts"] (spD ⟨K, G⟩ f_walked) := fn_okD (k := 0) T.F_walked sc_walked (fun cdv A outer s H E hr => by
    have tk : Takes (cxOf (L2.CX P w) P w K mg base ["heaps", "firsts", "found", "turned", "first", "here", "card"] "walked" (defScope s_walked) T.a_walked cdv A outer s H E) (fun cls d _ H => E cls d H) := takes_of rfl rfl rfl rfl
    exact (ss_cons (ss_par (i := 2) (j := 3) rfl sc_walked.nd rfl rfl (by decide) rfl rfl (sa_cons ((sn_loc ((sn_lst (sa_nil))))) (sa_cons ((sn_loc ((sn_mul ((sn_frz ((sn_lst (sa_cons (se_int) (sa_nil)))))) ((se_len rfl T.n_len (sa_cons (se_var (pv 0)) (sa_nil)))))))) (sa_nil))))
    (ss_cons (ss_for (t := .nm 4) (passes_of rfl) rfl (si_seq rfl (se_var (pv 1))) (pg_name (i := 4) sc_walked.nd rfl (.inl rfl)) (ss_cons (ss_set (i := 5) sc_walked.nd rfl (.inl rfl) (se_var (pv 4)))
    (ss_one (ss_w (passes_of rfl) ((st_c1 sc_lt ((se_sub1 (se_var (pv 3)) (se_var (pv 5)))) ((se_len rfl T.n_len (sa_cons ((se_sub1 (se_var (pv 0)) (se_var (pv 5)))) (sa_nil)))))) (ss_cons (ss_set (i := 6) sc_walked.nd rfl (.inl rfl) ((se_sub1 ((se_sub1 (se_var (pv 0)) (se_var (pv 5)))) ((se_sub1 (se_var (pv 3)) (se_var (pv 5)))))))
    (ss_cons (ss_augIx (se_var (pv 3)) (se_var (pv 5)) (se_int) ip_add ip_addS)
    (ss_cons (ss_expr ((se_append (se_var (pv 2)) (sa_cons ((se_tup (sa_cons (se_var (pv 5)) (sa_cons (se_var (pv 6)) (sa_nil))))) (sa_nil)))))
    (ss_one (ss_set (i := 5) sc_walked.nd rfl (.inl rfl) (se_var (pv 6)))))))))))
    (ss_one (ss_ret ((se_tup (sa_cons (se_var (pv 2)) (sa_cons (se_var (pv 3)) (sa_nil))))))))))
theorem ok_Table_init (T : Txt P K mg G) : FnOk P w K mg base (L2.CX P w) 4 T.a_Table_init T.d_Table_init ["self", "pack", "firsts"] (spD ⟨K, G⟩ f_Table_init) := fn_okD (k := 3) T.F_Table_init sc_Table_init (fun cdv A outer s H E hr => by
    have tk : Takes (cxOf (L2.CX P w) P w K mg base ["self", "pack", "firsts"] "Table.__init__" (defScope s_Table_init) T.a_Table_init cdv A outer s H E) (fun cls d _ H => E cls d H) := takes_of rfl rfl rfl rfl
    exact (ss_cons (ss_expr ((se_call tk (ok_check_firsts T) (hr.mono (by decide)) rfl T.m_check_firsts T.F_check_firsts.kp T.b_check_firsts (sa_cons ((se_len rfl T.n_len (sa_cons ((se_fld rfl T.cls_0 T.no_rows (se_var (pv 1)))) (sa_nil)))) (sa_cons (se_var (pv 2)) (sa_nil))))))
    (ss_cons (ss_fld rfl T.cls_1 T.no_base (se_var (pv 0)) (se_var (pv 1)))
    (ss_cons (ss_fld rfl T.cls_1 T.no_begun (se_var (pv 0)) (se_var (pv 2)))
    (ss_cons (ss_fld rfl T.cls_1 T.no_whole (se_var (pv 0)) ((se_tuple rfl T.n_tuple (sa_cons ((se_sub1 ((se_call tk (ok_walked T) (hr.mono (by decide)) rfl T.m_walked T.F_walked.kp T.b_walked (sa_cons ((se_fld rfl T.cls_0 T.no_rows (se_var (pv 1)))) (sa_cons (se_var (pv 2)) (sa_nil))))) (se_int))) (sa_nil)))))
    (ss_one (ss_fld rfl T.cls_1 T.no_done (se_var (pv 0)) ((se_tup (sa_nil))))))))))
theorem ok_l_walk (T : Txt P K mg G) : FnOk P w K mg base (L2.CX P w) 1 T.a_l_walk T.d_l_walk ["_law_heaps", "_law_firsts_here"] (spD ⟨K, G⟩ f_l_walk) := fn_okD (k := 0) T.F_l_walk sc_l_walk (fun cdv A outer s H E hr => by
    have tk : Takes (cxOf (L2.CX P w) P w K mg base ["_law_heaps", "_law_firsts_here", "_law_left", "_law_found", "_law_first", "_law_here", "_law_card"] "_law_walk" (defScope s_l_walk) T.a_l_walk cdv A outer s H E) (fun cls d _ H => E cls d H) := takes_of rfl rfl rfl rfl
    exact (ss_cons (ss_par (i := 2) (j := 3) rfl sc_l_walk.nd rfl rfl (by decide) rfl rfl (sa_cons ((sn_loc ((sn_list rfl rfl T.n_list (sa_cons (se_var (pv 0)) (sa_nil)))))) (sa_cons ((sn_loc ((sn_lst (sa_nil))))) (sa_nil))))
    (ss_cons (ss_for (t := .nm 4) (passes_of rfl) rfl (si_seq rfl (se_var (pv 1))) (pg_name (i := 4) sc_l_walk.nd rfl (.inl rfl)) (ss_cons (ss_set (i := 5) sc_l_walk.nd rfl (.inl rfl) (se_var (pv 4)))
    (ss_one (ss_w (passes_of rfl) ((st_c1 (sc_ne hr) ((se_sub1 (se_var (pv 2)) (se_var (pv 5)))) ((se_tup (sa_nil))))) (ss_cons (ss_set (i := 6) sc_l_walk.nd rfl (.inl rfl) ((se_sub1 ((se_sub1 (se_var (pv 2)) (se_var (pv 5)))) (se_int))))
    (ss_cons (ss_expr ((se_append (se_var (pv 3)) (sa_cons ((se_tup (sa_cons (se_var (pv 5)) (sa_cons (se_var (pv 6)) (sa_nil))))) (sa_nil)))))
    (ss_cons (ss_setIx (se_var (pv 2)) (se_var (pv 5)) ((se_slice ((se_sub1 (se_var (pv 2)) (se_var (pv 5)))) (so_some (se_int)) so_none)) (fun ho hi => pg_sub ho hi set_list))
    (ss_one (ss_set (i := 5) sc_l_walk.nd rfl (.inl rfl) (se_var (pv 6)))))))))))
    (ss_one (ss_ret ((se_tup (sa_cons (se_var (pv 3)) (sa_cons ((se_tuple rfl T.n_tuple (sa_cons (se_var (pv 2)) (sa_nil)))) (sa_nil))))))))))
theorem ok_Table_shown (T : Txt P K mg G) : FnOk P w K mg base (L2.CX P w) 1 T.a_Table_shown T.d_Table_shown ["self"] (spD ⟨K, G⟩ f_Table_shown) := fn_okD (k := 0) T.F_Table_shown sc_Table_shown (fun cdv A outer s H E hr => by
    have tk : Takes (cxOf (L2.CX P w) P w K mg base ["self"] "Table.shown" (defScope s_Table_shown) T.a_Table_shown cdv A outer s H E) (fun cls d _ H => E cls d H) := takes_of rfl rfl rfl rfl
    exact (ss_one (ss_ret ((sn_frz ((sn_list rfl rfl T.n_list (sa_cons ((se_fld rfl T.cls_1 T.no_done (se_var (pv 0)))) (sa_nil)))))))))
theorem ok_Table_shownK (T : Txt P K mg G) : FnOk P w K mg base (L2.CX P w) 1 T.a_Table_shown T.d_Table_shown ["self"] (spD ⟨K, G⟩ f_Table_shownK) := fn_okK (k := 0) T.F_Table_shown sc_Table_shown (fun cdv A outer s H E hr => by
    have tk : Takes (cxOf (L2.CX P w) P w K mg base ["self"] "Table.shown" (defScope s_Table_shown) T.a_Table_shown cdv A outer s H E) (fun cls d _ H => E cls d H) := takes_of rfl rfl rfl rfl
    exact (ss_one (ss_ret ((sn_loc ((sn_list rfl rfl T.n_list (sa_cons ((se_fld rfl T.cls_1 T.no_done (se_var (pv 0)))) (sa_nil)))))))))
theorem ok_l_alike (T : Txt P K mg G) : ∀ n : Nat, FnOk P w K mg base (L2.CX P w) (n + 1) T.a_l_alike T.d_l_alike ["_law_found", "_law_due"] (spD ⟨K, G⟩ (f_l_alike n))
  | 0 => fn_bad T.F_l_alike sc_l_alike
  | n + 1 => fn_okD (k := n + 1) T.F_l_alike sc_l_alike (fun cdv A outer s H E hr => by
    have tk : Takes (cxOf (L2.CX P w) P w K mg base ["_law_found", "_law_due", "_law_k"] "_law_alike" (defScope s_l_alike) T.a_l_alike cdv A outer s H E) (fun cls d _ H => E cls d H) := takes_of rfl rfl rfl rfl
    have ih := ok_l_alike T n
    exact (ss_cons (ss_if ((st_val ((se_isi2 .tuple .list (by decide) (by decide) rfl T.n_isinstance (se_var (pv 1)) (pe_bltn rfl T.n_tuple (by decide +kernel) rfl) (pe_bltn rfl T.n_list (by decide +kernel) rfl))))) (ss_cons (ss_if ((PW.pt (sw_or ((st_not ((st_val ((se_isi2 .tuple .list (by decide) (by decide) rfl T.n_isinstance (se_var (pv 0)) (pe_bltn rfl T.n_tuple (by decide +kernel) rfl) (pe_bltn rfl T.n_list (by decide +kernel) rfl))))))) (sw_or1 ((st_c1 (sc_ne hr) ((se_isi .list (by decide) rfl T.n_isinstance (se_var (pv 0)) (pe_bltn rfl T.n_list (by decide +kernel) rfl))) ((se_isi .list (by decide) rfl T.n_isinstance (se_var (pv 1)) (pe_bltn rfl T.n_list (by decide +kernel) rfl))))))))) (ss_one (ss_ret (se_bl))) (ss_nil))
    (ss_cons (ss_if ((st_c1 (sc_ne hr) ((se_len rfl T.n_len (sa_cons (se_var (pv 0)) (sa_nil)))) ((se_len rfl T.n_len (sa_cons (se_var (pv 1)) (sa_nil)))))) (ss_one (ss_ret (se_bl))) (ss_nil))
    (ss_one (ss_ret ((se_c1 (sc_eq hr) ((sn_frz ((sn_comp (own := [("_law_k", 2)]) (t := .nm 2) rfl sc_l_alike.nd (si_range1 rfl T.n_range (sa_cons ((se_len rfl T.n_len (sa_cons (se_var (pv 1)) (sa_nil)))) (sa_nil))) (blkOk_by (N := ["_law_found", "_law_due", "_law_k"]) (sc := defScope s_l_alike) (by decide +kernel)) (fun _ _ _ _ _ => pg_name (i := 2) sc_l_alike.nd rfl (by first | exact .inl rfl | exact .inr rfl)) (fun _ _ _ _ _ => st_ifs ((st_not ((st_val ((se_call takes0 ih (hr.mono (Nat.le_refl _)) rfl T.m_l_alike T.F_l_alike.kp T.b_l_alike (sa_cons ((se_sub1 (se_var (pv 0)) (se_var (pv 2)))) (sa_cons ((se_sub1 (se_var (pv 1)) (se_var (pv 2)))) (sa_nil)))))))))) (fun _ _ _ _ _ => se_var (pv 2)) (by decide))))) ((sn_frz ((sn_lst (sa_nil))))))))))) (ss_nil))
    (ss_cons (ss_if ((PW.pt (sw_or ((st_isN (se_var (pv 1)))) (sw_or1 ((st_val ((se_isi .str (by decide) rfl T.n_isinstance (se_var (pv 1)) (pe_bltn rfl T.n_str (by decide +kernel) rfl))))))))) (ss_one (ss_ret ((se_and ((se_c1 (sc_eq hr) (se_var (pv 0)) (se_var (pv 1)))) (se_one ((se_c1 (sc_eq hr) ((se_isi .str (by decide) rfl T.n_isinstance (se_var (pv 0)) (pe_bltn rfl T.n_str (by decide +kernel) rfl))) ((se_isi .str (by decide) rfl T.n_isinstance (se_var (pv 1)) (pe_bltn rfl T.n_str (by decide +kernel) rfl)))))))))) (ss_nil))
    (ss_one (ss_ret ((se_and ((se_isi .int (by decide) rfl T.n_isinstance (se_var (pv 0)) (pe_bltn rfl T.n_int (by decide +kernel) rfl))) (se_and ((se_c1 (sc_eq hr) ((se_isi .bool (by decide) rfl T.n_isinstance (se_var (pv 0)) (pe_bltn rfl T.n_bool (by decide +kernel) rfl))) ((se_isi .bool (by decide) rfl T.n_isinstance (se_var (pv 1)) (pe_bltn rfl T.n_bool (by decide +kernel) rfl))))) (se_one ((se_c1 (sc_eq hr) (se_var (pv 0)) (se_var (pv 1)))))))))))))
theorem ok_is_heap (T : Txt P K mg G) : FnOk P w K mg base (L2.CX P w) 2 T.a_is_heap T.d_is_heap ["thing", "many"] (spD ⟨K, G⟩ f_is_heap) := fn_okD (k := 1) T.F_is_heap sc_is_heap (fun cdv A outer s H E hr => by
    have tk : Takes (cxOf (L2.CX P w) P w K mg base ["thing", "many", "card"] "is_heap" (defScope s_is_heap) T.a_is_heap cdv A outer s H E) (fun cls d _ H => E cls d H) := takes_of rfl rfl rfl rfl
    exact (ss_cons (ss_if ((PW.pt (sw_or ((st_not ((st_val ((se_isi .tuple (by decide) rfl T.n_isinstance (se_var (pv 0)) (pe_bltn rfl T.n_tuple (by decide +kernel) rfl))))))) (sw_or1 ((st_c1 sc_gt ((se_len rfl T.n_len (sa_cons (se_var (pv 0)) (sa_nil)))) ((se_glob rfl T.c_MOST_CARDS T.r_MOST_CARDS)))))))) (ss_one (ss_ret (se_bl))) (ss_nil))
    (ss_one (ss_ret ((se_all rfl rfl T.n_all (sa_cons ((sn_frz ((sn_comp (own := [("card", 2)]) (t := .nm 2) rfl sc_is_heap.nd (si_seq rfl (se_var (pv 0))) (blkOk_by (N := ["thing", "many", "card"]) (sc := defScope s_is_heap) (by decide +kernel)) (fun _ _ _ _ _ => pg_name (i := 2) sc_is_heap.nd rfl (by first | exact .inl rfl | exact .inr rfl)) (fun _ _ _ _ _ => st_yes) (fun _ _ _ _ _ => (se_call takes0 (ok_is_integer T) (hr.mono (by decide)) rfl T.m_is_integer T.F_is_integer.kp T.b_is_integer (sa_cons (se_var (pv 2)) (sa_cons (se_int) (sa_cons ((se_sub (se_var (pv 1)) (se_int))) (sa_nil)))))) (by decide))))) (sa_nil))))))))
theorem ok_check_heaps (T : Txt P K mg G) : FnOk P w K mg base (L2.CX P w) 4 T.a_check_heaps T.d_check_heaps ["thing"] (spD ⟨K, G⟩ f_check_heaps) := fn_okD (k := 3) T.F_check_heaps sc_check_heaps (fun cdv A outer s H E hr => by
    have tk : Takes (cxOf (L2.CX P w) P w K mg base ["thing", "index", "heap"] "check_heaps" (defScope s_check_heaps) T.a_check_heaps cdv A outer s H E) (fun cls d _ H => E cls d H) := takes_of rfl rfl rfl rfl
    exact (ss_cons (ss_if ((PW.pt (sw_or ((st_not ((st_val ((se_isi .tuple (by decide) rfl T.n_isinstance (se_var (pv 0)) (pe_bltn rfl T.n_tuple (by decide +kernel) rfl))))))) (sw_or1 ((st_not ((st_c2 sc_le sc_le (se_int) ((se_len rfl T.n_len (sa_cons (se_var (pv 0)) (sa_nil)))) ((se_glob rfl T.c_MOST_HEAPS T.r_MOST_HEAPS)))))))))) (ss_one (ss_raise (k := 3) (j := 0) (ns := ["index"]) rfl tk T.xm_BadHeaps (by decide) (hr.mono (by decide)) T.m_BadHeaps (sa_cons (se_non) (sa_nil)))) (ss_nil))
    (ss_one (ss_for (t := .tp [1, 2]) (passes_of rfl) rfl (si_enum rfl rfl T.n_enumerate (sa_cons (se_var (pv 0)) (sa_nil))) (pg_tup rfl (pgs_cons (pg_name (i := 1) sc_check_heaps.nd rfl (.inl rfl)) (pgs_cons (pg_name (i := 2) sc_check_heaps.nd rfl (.inl rfl)) (pgs_nil)))) (ss_one (ss_if ((st_not ((st_val ((se_call tk (ok_is_heap T) (hr.mono (by decide)) rfl T.m_is_heap T.F_is_heap.kp T.b_is_heap (sa_cons (se_var (pv 2)) (sa_cons ((se_len rfl T.n_len (sa_cons (se_var (pv 0)) (sa_nil)))) (sa_nil))))))))) (ss_one (ss_raise (k := 3) (j := 0) (ns := ["index"]) rfl tk T.xm_BadHeaps (by decide) (hr.mono (by decide)) T.m_BadHeaps (sa_cons (se_var (pv 1)) (sa_nil)))) (ss_nil)))))))
theorem ok_Pack_init (T : Txt P K mg G) : FnOk P w K mg base (L2.CX P w) 6 T.a_Pack_init T.d_Pack_init ["self", "heaps"] (spD ⟨K, G⟩ f_Pack_init) := fn_okD (k := 5) T.F_Pack_init sc_Pack_init (fun cdv A outer s H E hr => by
    have tk : Takes (cxOf (L2.CX P w) P w K mg base ["self", "heaps", "index", "heap", "other"] "Pack.__init__" (defScope s_Pack_init) T.a_Pack_init cdv A outer s H E) (fun cls d _ H => E cls d H) := takes_of rfl rfl rfl rfl
    exact (ss_cons (ss_expr ((se_call tk (ok_check_heaps T) (hr.mono (by decide)) rfl T.m_check_heaps T.F_check_heaps.kp T.b_check_heaps (sa_cons (se_var (pv 1)) (sa_nil)))))
    (ss_cons (ss_for (t := .tp [2, 3]) (passes_of rfl) rfl (si_enum rfl rfl T.n_enumerate (sa_cons (se_var (pv 1)) (sa_nil))) (pg_tup rfl (pgs_cons (pg_name (i := 2) sc_Pack_init.nd rfl (.inr rfl)) (pgs_cons (pg_name (i := 3) sc_Pack_init.nd rfl (.inl rfl)) (pgs_nil)))) (ss_one (ss_if ((st_c1 (sc_ne hr) ((se_sum rfl rfl T.n_sum (sa_cons ((sn_frz ((sn_comp (own := [("other", 4)]) (t := .nm 4) rfl sc_Pack_init.nd (si_seq rfl (se_var (pv 1))) (blkOk_by (N := ["self", "heaps", "index", "heap", "other"]) (sc := defScope s_Pack_init) (by decide +kernel)) (fun _ _ _ _ _ => pg_name (i := 4) sc_Pack_init.nd rfl (by first | exact .inl rfl | exact .inr rfl)) (fun _ _ _ _ _ => st_yes) (fun _ _ _ _ _ => (se_count (se_var (pv 4)) (se_var (pv 2)))) (by decide))))) (sa_nil)))) ((se_len rfl T.n_len (sa_cons (se_var (pv 3)) (sa_nil)))))) (ss_one (ss_raise (k := 4) (j := 0) (ns := ["heap"]) rfl tk T.xm_Unfitting (by decide) (hr.mono (by decide)) T.m_Unfitting (sa_cons (se_var (pv 2)) (sa_nil)))) (ss_nil))))
    (ss_one (ss_fld rfl T.cls_0 T.no_rows (se_var (pv 0)) (se_var (pv 1)))))))
theorem ok_Pack_eq (T : Txt P K mg G) : FnOk P w K mg base (L2.CX P w) 8 T.a_Pack_eq T.d_Pack_eq ["self", "other"] (spD ⟨K, G⟩ f_Pack_eq) := fn_okD (k := 7) T.F_Pack_eq sc_Pack_eq (fun cdv A outer s H E hr => by
    have tk : Takes (cxOf (L2.CX P w) P w K mg base ["self", "other"] "Pack.__eq__" (defScope s_Pack_eq) T.a_Pack_eq cdv A outer s H E) (fun cls d _ H => E cls d H) := takes_of rfl rfl rfl rfl
    exact (ss_one (ss_ret ((se_and ((se_isC rfl rfl T.n_isinstance (se_var (pv 1)) rfl T.m_Pack T.is_Pack)) (se_one ((se_c1 (sc_eq hr) ((se_fld rfl T.cls_0 T.no_rows (se_var (pv 0)))) ((se_fld rfl T.cls_0 T.no_rows (se_var (pv 1))))))))))))
theorem ok_Table_pack (T : Txt P K mg G) : FnOk P w K mg base (L2.CX P w) 1 T.a_Table_pack T.d_Table_pack ["self"] (spD ⟨K, G⟩ f_Table_pack) := fn_okD (k := 0) T.F_Table_pack sc_Table_pack (fun cdv A outer s H E hr => by
    have tk : Takes (cxOf (L2.CX P w) P w K mg base ["self"] "Table.pack" (defScope s_Table_pack) T.a_Table_pack cdv A outer s H E) (fun cls d _ H => E cls d H) := takes_of rfl rfl rfl rfl
    exact (ss_one (ss_ret ((se_fld rfl T.cls_1 T.no_base (se_var (pv 0)))))))
theorem ok_Table_lies (T : Txt P K mg G) : FnOk P w K mg base (L2.CX P w) 1 T.a_Table_lies T.d_Table_lies ["self"] (spD ⟨K, G⟩ f_Table_lies) := fn_okD (k := 0) T.F_Table_lies sc_Table_lies (fun cdv A outer s H E hr => by
    have tk : Takes (cxOf (L2.CX P w) P w K mg base ["self", "turned", "heap", "card", "cards"] "Table.lies" (defScope s_Table_lies) T.a_Table_lies cdv A outer s H E) (fun cls d _ H => E cls d H) := takes_of rfl rfl rfl rfl
    exact (ss_cons (ss_set (i := 1) sc_Table_lies.nd rfl (.inr rfl) ((sn_frz ((sn_comp (own := [("heap", 2), ("card", 3)]) (t := .tp [2, 3]) rfl sc_Table_lies.nd (si_seq rfl ((se_fld rfl T.cls_1 T.no_done (se_var (pv 0))))) (blkOk_by (N := ["self", "turned", "heap", "card", "cards"]) (sc := defScope s_Table_lies) (by decide +kernel)) (fun _ _ _ _ _ => pg_tup rfl (pgs_cons (pg_name (i := 2) sc_Table_lies.nd rfl (by first | exact .inl rfl | exact .inr rfl)) (pgs_cons (pg_name (i := 3) sc_Table_lies.nd rfl (by first | exact .inl rfl | exact .inr rfl)) (pgs_nil)))) (fun _ _ _ _ _ => st_yes) (fun _ _ _ _ _ => se_var (pv 2)) (by decide))))))
    (ss_one (ss_ret ((se_tuple rfl T.n_tuple (sa_cons ((sn_frz ((sn_comp (own := [("heap", 2), ("cards", 4)]) (t := .tp [2, 4]) rfl sc_Table_lies.nd (si_enum rfl rfl T.n_enumerate (sa_cons ((se_fld rfl T.cls_0 T.no_rows ((se_fld rfl T.cls_1 T.no_base (se_var (pv 0)))))) (sa_nil))) (blkOk_by (N := ["self", "turned", "heap", "card", "cards"]) (sc := defScope s_Table_lies) (by decide +kernel)) (fun _ _ _ _ _ => pg_tup rfl (pgs_cons (pg_name (i := 2) sc_Table_lies.nd rfl (by first | exact .inl rfl | exact .inr rfl)) (pgs_cons (pg_name (i := 4) sc_Table_lies.nd rfl (by first | exact .inl rfl | exact .inr rfl)) (pgs_nil)))) (fun _ _ _ _ _ => st_yes) (fun _ _ _ _ _ => (se_slice (se_var (pv 4)) (so_some ((se_countL (se_var (pv 1)) (sa_cons (se_var (pv 2)) (sa_nil))))) so_none)) (by decide))))) (sa_nil))))))))
theorem ok_Table_firsts (T : Txt P K mg G) : FnOk P w K mg base (L2.CX P w) 1 T.a_Table_firsts T.d_Table_firsts ["self"] (spD ⟨K, G⟩ f_Table_firsts) := fn_okD (k := 0) T.F_Table_firsts sc_Table_firsts (fun cdv A outer s H E hr => by
    have tk : Takes (cxOf (L2.CX P w) P w K mg base ["self"] "Table.firsts" (defScope s_Table_firsts) T.a_Table_firsts cdv A outer s H E) (fun cls d _ H => E cls d H) := takes_of rfl rfl rfl rfl
    exact (ss_one (ss_ret ((se_fld rfl T.cls_1 T.no_begun (se_var (pv 0)))))))
theorem ok_Table_len (T : Txt P K mg G) : FnOk P w K mg base (L2.CX P w) 1 T.a_Table_len T.d_Table_len ["self"] (spD ⟨K, G⟩ f_Table_len) := fn_okD (k := 0) T.F_Table_len sc_Table_len (fun cdv A outer s H E hr => by
    have tk : Takes (cxOf (L2.CX P w) P w K mg base ["self"] "Table.__len__" (defScope s_Table_len) T.a_Table_len cdv A outer s H E) (fun cls d _ H => E cls d H) := takes_of rfl rfl rfl rfl
    exact (ss_one (ss_ret ((se_len rfl T.n_len (sa_cons ((se_fld rfl T.cls_1 T.no_done (se_var (pv 0)))) (sa_nil)))))))
theorem ok_l_stands_so (T : Txt P K mg G) : FnOk P w K mg base (L2.CX P w) 10 T.a_l_stands_so T.d_l_stands_so ["_law_table", "_law_heaps", "_law_firsts_here", "_law_many"] (spD ⟨K, G⟩ f_l_stands_so) := fn_okD (k := 9) T.F_l_stands_so sc_l_stands_so (fun cdv A outer s H E hr => by
    have tk : Takes (cxOf (L2.CX P w) P w K mg base ["_law_table", "_law_heaps", "_law_firsts_here", "_law_many", "_law_turned", "_law_lies", "_law_heap", "_law_found", "_law_one"] "_law_stands_so" (defScope s_l_stands_so) T.a_l_stands_so cdv A outer s H E) (fun cls d _ H => E cls d H) := takes_of rfl rfl rfl rfl
    exact (ss_cons (ss_set (i := 4) sc_l_stands_so.nd rfl (.inl rfl) ((se_slice ((se_sub1 ((se_call tk (ok_l_walk T) (hr.mono (by decide)) rfl T.m_l_walk T.F_l_walk.kp T.b_l_walk (sa_cons (se_var (pv 1)) (sa_cons (se_var (pv 2)) (sa_nil))))) (se_int))) so_none (so_some (se_var (pv 3))))))
    (ss_cons (ss_set (i := 5) sc_l_stands_so.nd rfl (.inl rfl) ((sn_loc ((sn_lst (sa_nil))))))
    (ss_cons (ss_for (t := .nm 6) (passes_of rfl) rfl (si_range1 rfl T.n_range (sa_cons ((se_len rfl T.n_len (sa_cons (se_var (pv 1)) (sa_nil)))) (sa_nil))) (pg_name (i := 6) sc_l_stands_so.nd rfl (.inr rfl)) (ss_one (ss_expr ((se_append (se_var (pv 5)) (sa_cons ((se_slice ((se_sub1 (se_var (pv 1)) (se_var (pv 6)))) (so_some ((se_len rfl T.n_len (sa_cons ((sn_frz ((sn_comp (own := [("_law_one", 8)]) (t := .nm 8) rfl sc_l_stands_so.nd (si_seq rfl (se_var (pv 4))) (blkOk_by (N := ["_law_table", "_law_heaps", "_law_firsts_here", "_law_many", "_law_turned", "_law_lies", "_law_heap", "_law_found", "_law_one"]) (sc := defScope s_l_stands_so) (by decide +kernel)) (fun _ _ _ _ _ => pg_name (i := 8) sc_l_stands_so.nd rfl (by first | exact .inl rfl | exact .inr rfl)) (fun _ _ _ _ _ => st_ifs ((st_c1 (sc_eq hr) ((se_sub1 (se_var (pv 8)) (se_int))) (se_var (pv 6))))) (fun _ _ _ _ _ => se_var (pv 8)) (by decide))))) (sa_nil))))) so_none)) (sa_nil)))))))
    (ss_cons (ss_if ((PW.pt (sw_or ((st_not ((st_c1 (sc_eqO rfl (ok_Pack_eq T) (hr.mono (by decide)) T.b_Pack_eq T.fi_Pack_eq T.ff_Pack_eq T.nf_Pack_eq) ((se_prop (se_var (pv 0)) T.cls_1 T.pr_Table_pack (ok_Table_pack T) (hr.mono (by decide)) T.b_Table_pack)) ((se_fr (se_new tk T.mk_Pack (ok_Pack_init T) (hr.mono (by decide)) rfl T.m_Pack T.b_Pack_init (sa_cons (se_var (pv 1)) (sa_nil))))))))) (sw_or1 ((st_not ((st_val ((se_call tk (ok_l_alike T 8) (hr.mono (by decide)) rfl T.m_l_alike T.F_l_alike.kp T.b_l_alike (sa_cons ((sn_frz ((sn_lst (sa_cons ((se_prop (se_var (pv 0)) T.cls_1 T.pr_Table_firsts (ok_Table_firsts T) (hr.mono (by decide)) T.b_Table_firsts)) (sa_cons ((se_lenO rfl (ok_Table_len T) (hr.mono (by decide)) T.b_Table_len T.fi_Table_len T.ff_Table_len rfl T.n_len (sa_cons (se_var (pv 0)) (sa_nil)))) (sa_nil))))))) (sa_cons ((sn_frz ((sn_lst (sa_cons (se_var (pv 2)) (sa_cons (se_var (pv 3)) (sa_nil))))))) (sa_nil))))))))))))) (ss_one (ss_ret (se_bl))) (ss_nil))
    (ss_cons (ss_set (i := 7) sc_l_stands_so.nd rfl (.inl rfl) ((se_me (se_var (pv 0)) T.cls_1 T.me_Table_shown (ok_Table_shownK T) (hr.mono (by decide)) T.b_Table_shown)))
    (ss_cons (ss_if ((PW.pt (sw_or ((st_not ((st_val ((se_call tk (ok_l_alike T 8) (hr.mono (by decide)) rfl T.m_l_alike T.F_l_alike.kp T.b_l_alike (sa_cons (se_var (pv 7)) (sa_cons (se_var (pv 4)) (sa_nil))))))))) (sw_or1 ((st_not ((st_val ((se_call tk (ok_l_alike T 8) (hr.mono (by decide)) rfl T.m_l_alike T.F_l_alike.kp T.b_l_alike (sa_cons ((se_me (se_var (pv 0)) T.cls_1 T.me_Table_lies (ok_Table_lies T) (hr.mono (by decide)) T.b_Table_lies)) (sa_cons ((se_tuple rfl T.n_tuple (sa_cons (se_var (pv 5)) (sa_nil)))) (sa_nil))))))))))))) (ss_one (ss_ret (se_bl))) (ss_nil))
    (ss_cons (ss_expr ((se_append (se_var (pv 7)) (sa_cons (se_str) (sa_nil)))))
    (ss_one (ss_ret ((se_call tk (ok_l_alike T 8) (hr.mono (by decide)) rfl T.m_l_alike T.F_l_alike.kp T.b_l_alike (sa_cons ((se_me (se_var (pv 0)) T.cls_1 T.me_Table_shown (ok_Table_shown T) (hr.mono (by decide)) T.b_Table_shown)) (sa_cons (se_var (pv 4)) (sa_nil)))))))))))))))
theorem ok_l_sizes (T : Txt P K mg G) : FnOk P w K mg base (L2.CX P w) 3 T.a_l_sizes T.d_l_sizes ["_law_h", "_law_many", "_law_most"] (spD ⟨K, G⟩ f_l_sizes) := fn_okD (k := 2) T.F_l_sizes sc_l_sizes (fun cdv A outer s H E hr => by
    have tk : Takes (cxOf (L2.CX P w) P w K mg base ["_law_h", "_law_many", "_law_most", "_law_cap", "_law_found", "_law_whole", "_law_heap", "_law_size"] "_law_sizes" (defScope s_l_sizes) T.a_l_sizes cdv A outer s H E) (fun cls d _ H => E cls d H) := takes_of rfl rfl rfl rfl
    exact (ss_cons (ss_par3 (i := 3) (j := 4) (l := 5) rfl sc_l_sizes.nd rfl rfl rfl (by decide) (by decide) (by decide) rfl rfl rfl (sa_cons ((se_call tk (ok_l_pick T) (hr.mono (by decide)) rfl T.m_l_pick T.F_l_pick.kp T.b_l_pick (sa_cons (se_var (pv 0)) (sa_cons ((sn_frz ((sn_lst (sa_cons (se_int) (sa_cons (se_int) (sa_cons (se_int) (sa_nil)))))))) (sa_nil))))) (sa_cons ((sn_loc ((sn_lst (sa_nil))))) (sa_cons (se_int) (sa_nil)))))
    (ss_cons (ss_for (t := .nm 6) (passes_of rfl) rfl (si_range1 rfl T.n_range (sa_cons (se_var (pv 1)) (sa_nil))) (pg_name (i := 6) sc_l_sizes.nd rfl (.inl rfl)) (ss_cons (ss_set (i := 7) sc_l_sizes.nd rfl (.inl rfl) ((se_min rfl rfl T.n_min (sa_cons ((se_call tk (ok_l_next T) (hr.mono (by decide)) rfl T.m_l_next T.F_l_next.kp T.b_l_next (sa_cons (se_var (pv 0)) (sa_cons (se_var (pv 3)) (sa_nil))))) (sa_cons ((se_sub (se_var (pv 2)) (se_var (pv 5)))) (sa_nil))))))
    (ss_cons (ss_expr ((se_append (se_var (pv 4)) (sa_cons (se_var (pv 7)) (sa_nil)))))
    (ss_one (ss_set (i := 5) sc_l_sizes.nd rfl (.inl rfl) ((se_add (se_var (pv 5)) (se_var (pv 7)))))))))
    (ss_one (ss_ret ((se_tuple rfl T.n_tuple (sa_cons (se_var (pv 4)) (sa_nil)))))))))
theorem ok_Table_copy (T : Txt P K mg G) : FnOk P w K mg base (L2.CX P w) 6 T.a_Table_copy T.d_Table_copy ["self"] (spD ⟨K, G⟩ f_Table_copy) := fn_okD (k := 5) T.F_Table_copy sc_Table_copy (fun cdv A outer s H E hr => by
    have tk : Takes (cxOf (L2.CX P w) P w K mg base ["self", "found"] "Table.copy" (defScope s_Table_copy) T.a_Table_copy cdv A outer s H E) (fun cls d _ H => E cls d H) := takes_of rfl rfl rfl rfl
    exact (ss_cons (ss_set (i := 1) sc_Table_copy.nd rfl (.inl rfl) ((se_new tk T.mk_Table (ok_Table_init T) (hr.mono (by decide)) rfl T.m_Table T.b_Table_init (sa_cons ((se_fld rfl T.cls_1 T.no_base (se_var (pv 0)))) (sa_cons ((se_fld rfl T.cls_1 T.no_begun (se_var (pv 0)))) (sa_nil))))))
    (ss_cons (ss_fld rfl T.cls_1 T.no_done (se_var (pv 1)) ((se_fld rfl T.cls_1 T.no_done (se_var (pv 0)))))
    (ss_one (ss_ret (se_var (pv 1)))))))
theorem ok_Table_copyK (T : Txt P K mg G) : FnOk P w K mg base (L2.CX P w) 6 T.a_Table_copy T.d_Table_copy ["self"] (spD ⟨K, G⟩ f_Table_copyK) := fn_okK (k := 5) T.F_Table_copy sc_Table_copy (fun cdv A outer s H E hr => by
    have tk : Takes (cxOf (L2.CX P w) P w K mg base ["self", "found"] "Table.copy" (defScope s_Table_copy) T.a_Table_copy cdv A outer s H E) (fun cls d _ H => E cls d H) := takes_of rfl rfl rfl rfl
    exact (ss_cons (ss_set (i := 1) sc_Table_copy.nd rfl (.inl rfl) ((se_new tk T.mk_Table (ok_Table_init T) (hr.mono (by decide)) rfl T.m_Table T.b_Table_init (sa_cons ((se_fld rfl T.cls_1 T.no_base (se_var (pv 0)))) (sa_cons ((se_fld rfl T.cls_1 T.no_begun (se_var (pv 0)))) (sa_nil))))))
    (ss_cons (ss_fld rfl T.cls_1 T.no_done (se_var (pv 1)) ((se_fld rfl T.cls_1 T.no_done (se_var (pv 0)))))
    (ss_one (ss_ret (se_var (pv 1)))))))
theorem ok_Table_undo (T : Txt P K mg G) : FnOk P w K mg base (L2.CX P w) 1 T.a_Table_undo T.d_Table_undo ["self"] (spD ⟨K, G⟩ f_Table_undo) := fn_okD (k := 0) T.F_Table_undo sc_Table_undo (fun cdv A outer s H E hr => by
    have tk : Takes (cxOf (L2.CX P w) P w K mg base ["self"] "Table.undo" (defScope s_Table_undo) T.a_Table_undo cdv A outer s H E) (fun cls d _ H => E cls d H) := takes_of rfl rfl rfl rfl
    exact (ss_cons (ss_if ((st_c1 (sc_eq hr) ((se_fld rfl T.cls_1 T.no_done (se_var (pv 0)))) ((se_tup (sa_nil))))) (ss_one (ss_ret (se_bl))) (ss_nil))
    (ss_cons (ss_fld rfl T.cls_1 T.no_done (se_var (pv 0)) ((se_slice ((se_fld rfl T.cls_1 T.no_done (se_var (pv 0)))) so_none (so_some ((se_neg (se_int)))))))
    (ss_one (ss_ret (se_bl))))))
theorem ok_l_refused (T : Txt P K mg G) : FnOk P w K mg base (L2.CX P w) 6 T.a_l_refused T.d_l_refused ["_law_pack", "_law_firsts_here"] (spD ⟨K, G⟩ f_l_refused) := fn_okD (k := 5) T.F_l_refused sc_l_refused (fun cdv A outer s H E hr => by
    have tk : Takes (cxOf (L2.CX P w) P w K mg base ["_law_pack", "_law_firsts_here", "_law_found", "error"] "_law_refused" (defScope s_l_refused) T.a_l_refused cdv A outer s H E) (fun cls d _ H => E cls d H) := takes_of rfl rfl rfl rfl
    exact (ss_cons (ss_set (i := 2) sc_l_refused.nd rfl (.inl rfl) (se_bl))
    (ss_cons (ss_try rfl rfl sc_l_refused.nd tk (fun W2 pn xe tk2 _ => ss_one (ss_expr ((se_new tk2 T.mk_Table (ok_Table_init T) (hr.mono (by decide)) rfl T.m_Table T.b_Table_init (sa_cons (se_var (pv 0)) (sa_cons (se_var (pv 1)) (sa_nil))))))) (.cons (c := ⟨hitL [5] [3, 4], 3, p_l_refused_s0⟩) rfl rfl ⟨rfl, by decide, .inl T.m_BadFirsts⟩ (hitL_ok (P := fun k b => PySem.W.exmOne K (.ref (G k)) (.ref (G 5)) = some b) (List.forall_mem_cons.mpr ⟨T.ex_5_5, List.forall_mem_nil _⟩) (List.forall_mem_cons.mpr ⟨T.ex_3_5, List.forall_mem_cons.mpr ⟨T.ex_4_5, List.forall_mem_nil _⟩⟩)) (fun a oe k d pn hk hz hf => by
      have hm := hitL_in hk
      simp only [List.mem_cons, List.mem_nil_iff, or_false] at hm
      rcases hm with rfl
      · exact (ss_one (ss_set (i := 2) sc_l_refused.nd rfl (.inl rfl) ((se_xis (c := 2) T.xh_5 hz hf rfl T.n_isinstance (se_var (pv 3)) rfl T.m_HeapError T.ki_5_2))))
      ) (.nil)))
    (ss_one (ss_ret (se_var (pv 2)))))))
theorem ok_Table_turn (T : Txt P K mg G) : FnOk P w K mg base (L2.CX P w) 1 T.a_Table_turn T.d_Table_turn ["self"] (spD ⟨K, G⟩ f_Table_turn) := fn_okD (k := 0) T.F_Table_turn sc_Table_turn (fun cdv A outer s H E hr => by
    have tk : Takes (cxOf (L2.CX P w) P w K mg base ["self"] "Table.turn" (defScope s_Table_turn) T.a_Table_turn cdv A outer s H E) (fun cls d _ H => E cls d H) := takes_of rfl rfl rfl rfl
    exact (ss_cons (ss_if ((st_c1 (sc_eq hr) ((se_len rfl T.n_len (sa_cons ((se_fld rfl T.cls_1 T.no_done (se_var (pv 0)))) (sa_nil)))) ((se_len rfl T.n_len (sa_cons ((se_fld rfl T.cls_1 T.no_whole (se_var (pv 0)))) (sa_nil)))))) (ss_one (ss_ret (se_non))) (ss_nil))
    (ss_cons (ss_fld rfl T.cls_1 T.no_done (se_var (pv 0)) ((se_slice ((se_fld rfl T.cls_1 T.no_whole (se_var (pv 0)))) so_none (so_some ((se_add ((se_len rfl T.n_len (sa_cons ((se_fld rfl T.cls_1 T.no_done (se_var (pv 0)))) (sa_nil)))) (se_int)))))))
    (ss_one (ss_ret ((se_sub1 ((se_fld rfl T.cls_1 T.no_done (se_var (pv 0)))) ((se_neg (se_int))))))))))
theorem ok_law (T : Txt P K mg G) : FnOk P w K mg base (L2.CX P w) 11 T.a_law T.d_law ["_law_script"] (spD ⟨K, G⟩ f_law_k09) := fn_okD (k := 10) T.F_law sc_law (fun cdv A outer s H E hr => by
    have tk : Takes (cxOf (L2.CX P w) P w K mg base ["_law_script", "_law_h", "_law_many", "_law_firsts_here", "_law_heaps", "_law_table", "_law_side", "_law_turned", "_law_kept", "_law_whole", "_law_step", "_law_kind", "_law_twin", "_law_again", "_law_due", "_law_odd", "_law_bad", "_law_one"] "law" (defScope s_law) T.a_law cdv A outer s H E) (fun cls d _ H => E cls d H) := takes_of rfl rfl rfl rfl
    exact (ss_cons (ss_set (i := 1) sc_law.nd rfl (.inl rfl) ((se_call tk (ok_l_mix T) (hr.mono (by decide)) rfl T.m_l_mix T.F_l_mix.kp T.b_l_mix (sa_cons (se_var (pv 0)) (sa_cons (se_int) (sa_nil))))))
    (ss_cons (ss_set (i := 2) sc_law.nd rfl (.inl rfl) ((se_add (se_int) ((se_call tk (ok_l_next T) (hr.mono (by decide)) rfl T.m_l_next T.F_l_next.kp T.b_l_next (sa_cons (se_var (pv 1)) (sa_cons (se_int) (sa_nil))))))))
    (ss_cons (ss_asg (t := .tp [3, 4]) (se_tup (sa_cons ((se_call tk (ok_l_firsts T) (hr.mono (by decide)) rfl T.m_l_firsts T.F_l_firsts.kp T.b_l_firsts (sa_cons (se_var (pv 1)) (sa_cons (se_var (pv 2)) (sa_nil))))) (sa_cons ((se_call tk (ok_l_deal T) (hr.mono (by decide)) rfl T.m_l_deal T.F_l_deal.kp T.b_l_deal (sa_cons (se_var (pv 1)) (sa_cons ((se_call tk (ok_l_sizes T) (hr.mono (by decide)) rfl T.m_l_sizes T.F_l_sizes.kp T.b_l_sizes (sa_cons (se_var (pv 1)) (sa_cons (se_var (pv 2)) (sa_cons (se_int) (sa_nil)))))) (sa_nil))))) (sa_nil)))) (pg_tup rfl (pgs_cons (pg_name (i := 3) sc_law.nd rfl (.inr rfl)) (pgs_cons (pg_name (i := 4) sc_law.nd rfl (.inr rfl)) (pgs_nil)))))
    (ss_cons (ss_asg (t := .tp [5, 6, 7, 8]) (se_tup (sa_cons ((se_new tk T.mk_Table (ok_Table_init T) (hr.mono (by decide)) rfl T.m_Table T.b_Table_init (sa_cons ((se_fr (se_new tk T.mk_Pack (ok_Pack_init T) (hr.mono (by decide)) rfl T.m_Pack T.b_Pack_init (sa_cons (se_var (pv 4)) (sa_nil))))) (sa_cons (se_var (pv 3)) (sa_nil))))) (sa_cons ((se_new tk T.mk_Table (ok_Table_init T) (hr.mono (by decide)) rfl T.m_Table T.b_Table_init (sa_cons ((se_fr (se_new tk T.mk_Pack (ok_Pack_init T) (hr.mono (by decide)) rfl T.m_Pack T.b_Pack_init (sa_cons (se_var (pv 4)) (sa_nil))))) (sa_cons (se_var (pv 3)) (sa_nil))))) (sa_cons (se_int) (sa_cons ((sn_loc ((sn_lst (sa_nil))))) (sa_nil)))))) (pg_tup rfl (pgs_cons (pg_name (i := 5) sc_law.nd rfl (.inl rfl)) (pgs_cons (pg_name (i := 6) sc_law.nd rfl (.inl rfl)) (pgs_cons (pg_name (i := 7) sc_law.nd rfl (.inl rfl)) (pgs_cons (pg_name (i := 8) sc_law.nd rfl (.inl rfl)) (pgs_nil)))))))
    (ss_cons (ss_set (i := 9) sc_law.nd rfl (.inl rfl) ((se_sub1 ((se_call tk (ok_l_walk T) (hr.mono (by decide)) rfl T.m_l_walk T.F_l_walk.kp T.b_l_walk (sa_cons (se_var (pv 4)) (sa_cons (se_var (pv 3)) (sa_nil))))) (se_int))))
    (ss_cons (ss_for (t := .nm 10) (passes_of rfl) rfl (si_range1 rfl T.n_range (sa_cons ((se_add (se_int) ((se_call tk (ok_l_next T) (hr.mono (by decide)) rfl T.m_l_next T.F_l_next.kp T.b_l_next (sa_cons (se_var (pv 1)) (sa_cons (se_int) (sa_nil))))))) (sa_nil))) (pg_name (i := 10) sc_law.nd rfl (.inl rfl)) (ss_cons (ss_set (i := 11) sc_law.nd rfl (.inl rfl) ((se_call tk (ok_l_pick T) (hr.mono (by decide)) rfl T.m_l_pick T.F_l_pick.kp T.b_l_pick (sa_cons (se_var (pv 1)) (sa_cons ((sn_frz ((sn_lst (sa_cons (se_str) (sa_cons (se_str) (sa_cons (se_str) (sa_cons (se_str) (sa_cons (se_str) (sa_nil)))))))))) (sa_nil))))))
    (ss_cons (ss_if ((st_c1 (sc_eq hr) (se_var (pv 11)) (se_str))) (ss_cons (ss_if ((st_not ((st_val ((se_call tk (ok_l_alike T 8) (hr.mono (by decide)) rfl T.m_l_alike T.F_l_alike.kp T.b_l_alike (sa_cons ((se_me (se_var (pv 5)) T.cls_1 T.me_Table_undo (ok_Table_undo T) (hr.mono (by decide)) T.b_Table_undo)) (sa_cons ((se_c1 sc_gt (se_var (pv 7)) (se_int))) (sa_nil))))))))) (ss_one (ss_ret (se_bl))) (ss_nil))
    (ss_one (ss_set (i := 7) sc_law.nd rfl (.inl rfl) ((se_max rfl rfl T.n_max (sa_cons (se_int) (sa_cons ((se_sub (se_var (pv 7)) (se_int))) (sa_nil)))))))) (ss_one (ss_if ((st_c1 (sc_eq hr) (se_var (pv 11)) (se_str))) (ss_cons (ss_set (i := 12) sc_law.nd rfl (.inl rfl) ((se_me (se_var (pv 5)) T.cls_1 T.me_Table_copy (ok_Table_copyK T) (hr.mono (by decide)) T.b_Table_copy)))
    (ss_cons (ss_if ((st_c1 (sc_eq hr) ((se_call tk (ok_l_next T) (hr.mono (by decide)) rfl T.m_l_next T.F_l_next.kp T.b_l_next (sa_cons (se_var (pv 1)) (sa_cons (se_int) (sa_nil))))) (se_int))) (ss_one (ss_par (i := 5) (j := 12) rfl sc_law.nd rfl rfl (by decide) rfl rfl (sa_cons (se_var (pv 12)) (sa_cons (se_var (pv 5)) (sa_nil))))) (ss_nil))
    (ss_one (ss_expr ((se_append (se_var (pv 8)) (sa_cons ((se_tup (sa_cons (se_var (pv 12)) (sa_cons (se_var (pv 7)) (sa_nil))))) (sa_nil)))))))) (ss_one (ss_for (t := .nm 13) (passes_of rfl) rfl (si_range1 rfl T.n_range (sa_cons ((se_ifExp ((st_c1 (sc_eq hr) (se_var (pv 11)) (se_str))) ((se_call tk (ok_l_pick T) (hr.mono (by decide)) rfl T.m_l_pick T.F_l_pick.kp T.b_l_pick (sa_cons (se_var (pv 1)) (sa_cons ((sn_frz ((sn_lst (sa_cons (se_int) (sa_cons (se_int) (sa_nil))))))) (sa_nil))))) (se_int))) (sa_nil))) (pg_name (i := 13) sc_law.nd rfl (.inl rfl)) (ss_cons (ss_set (i := 14) sc_law.nd rfl (.inl rfl) ((se_ifExp ((st_c1 sc_lt (se_var (pv 7)) ((se_len rfl T.n_len (sa_cons (se_var (pv 9)) (sa_nil)))))) ((se_sub1 (se_var (pv 9)) (se_var (pv 7)))) (se_non))))
    (ss_cons (ss_if ((st_not ((st_val ((se_call tk (ok_l_alike T 8) (hr.mono (by decide)) rfl T.m_l_alike T.F_l_alike.kp T.b_l_alike (sa_cons ((se_me (se_var (pv 5)) T.cls_1 T.me_Table_turn (ok_Table_turn T) (hr.mono (by decide)) T.b_Table_turn)) (sa_cons (se_var (pv 14)) (sa_nil))))))))) (ss_one (ss_ret (se_bl))) (ss_nil))
    (ss_one (ss_set (i := 7) sc_law.nd rfl (.inl rfl) ((se_min rfl rfl T.n_min (sa_cons ((se_len rfl T.n_len (sa_cons (se_var (pv 9)) (sa_nil)))) (sa_cons ((se_add (se_var (pv 7)) (se_int))) (sa_nil))))))))))))))
    (ss_one (ss_if ((st_not ((st_val ((se_call tk (ok_l_stands_so T) (hr.mono (by decide)) rfl T.m_l_stands_so T.F_l_stands_so.kp T.b_l_stands_so (sa_cons (se_var (pv 5)) (sa_cons (se_var (pv 4)) (sa_cons (se_var (pv 3)) (sa_cons (se_var (pv 7)) (sa_nil))))))))))) (ss_one (ss_ret (se_bl))) (ss_nil))))))
    (ss_cons (ss_if ((st_c1 (sc_ne hr) ((sn_frz ((sn_comp (own := [("_law_one", 17)]) (t := .nm 17) rfl sc_law.nd (si_seq rfl (se_var (pv 8))) (blkOk_by (N := ["_law_script", "_law_h", "_law_many", "_law_firsts_here", "_law_heaps", "_law_table", "_law_side", "_law_turned", "_law_kept", "_law_whole", "_law_step", "_law_kind", "_law_twin", "_law_again", "_law_due", "_law_odd", "_law_bad", "_law_one"]) (sc := defScope s_law) (by decide +kernel)) (fun _ _ _ _ _ => pg_name (i := 17) sc_law.nd rfl (by first | exact .inl rfl | exact .inr rfl)) (fun _ _ _ _ _ => st_ifs ((st_not ((st_val ((se_call takes0 (ok_l_stands_so T) (hr.mono (by decide)) rfl T.m_l_stands_so T.F_l_stands_so.kp T.b_l_stands_so (sa_cons ((se_sub1 (se_var (pv 17)) (se_int))) (sa_cons (se_var (pv 4)) (sa_cons (se_var (pv 3)) (sa_cons ((se_sub1 (se_var (pv 17)) (se_int))) (sa_nil)))))))))))) (fun _ _ _ _ _ => se_var (pv 17)) (by decide))))) ((sn_frz ((sn_lst (sa_nil))))))) (ss_one (ss_ret (se_bl))) (ss_nil))
    (ss_cons (ss_set (i := 15) sc_law.nd rfl (.inl rfl) ((sn_frz ((sn_lst (sa_cons (se_non) (sa_cons ((se_tup (sa_nil))) (sa_cons ((se_tup (sa_cons (se_var (pv 2)) (sa_nil)))) (sa_cons ((se_tup (sa_cons (se_int) (sa_cons (se_int) (sa_nil))))) (sa_cons ((sn_frz ((sn_lst (sa_cons (se_int) (sa_nil)))))) (sa_cons ((se_tup (sa_cons (se_bl) (sa_nil)))) (sa_cons (se_int) (sa_cons ((se_tup (sa_cons (se_int) (sa_cons (se_var (pv 2)) (sa_nil))))) (sa_cons ((se_tup (sa_cons (se_int) (sa_cons (se_bl) (sa_nil))))) (sa_cons ((se_tup (sa_cons (se_int) (sa_cons (se_non) (sa_nil))))) (sa_cons ((se_tup (sa_cons (se_str) (sa_nil)))) (sa_cons ((se_tup (sa_cons ((sn_frz ((sn_lst (sa_cons (se_int) (sa_nil)))))) (sa_nil)))) (sa_nil))))))))))))))))))
    (ss_cons (ss_setComp (i := 16) (f := mFz) (own := [("_law_one", 17)]) (t := .nm 17) (fun _ => frz_imp) rfl sc_law.nd rfl rfl (sw_true rfl rfl rfl (by decide +kernel)) (si_seq rfl (se_var (pv 15))) (blkOk_by (N := ["_law_script", "_law_h", "_law_many", "_law_firsts_here", "_law_heaps", "_law_table", "_law_side", "_law_turned", "_law_kept", "_law_whole", "_law_step", "_law_kind", "_law_twin", "_law_again", "_law_due", "_law_odd", "_law_bad", "_law_one"]) (sc := defScope s_law) (by decide +kernel)) (fun _ _ _ _ _ => pg_name (i := 17) sc_law.nd rfl (by first | exact .inl rfl | exact .inr rfl)) (fun _ _ _ _ _ => st_ifs ((st_not ((st_val ((se_call takes0 (ok_l_refused T) (hr.mono (by decide)) rfl T.m_l_refused T.F_l_refused.kp T.b_l_refused (sa_cons ((se_fr (se_new takes0 T.mk_Pack (ok_Pack_init T) (hr.mono (by decide)) rfl T.m_Pack T.b_Pack_init (sa_cons (se_var (pv 4)) (sa_nil))))) (sa_cons (se_var (pv 17)) (sa_nil)))))))))) (fun _ _ _ _ _ => se_var (pv 17)) (by decide))
    (ss_one (ss_ret ((se_and ((se_c1 (sc_eq hr) (se_var (pv 16)) ((sn_frz ((sn_lst (sa_nil))))))) (se_one ((se_call tk (ok_l_stands_so T) (hr.mono (by decide)) rfl T.m_l_stands_so T.F_l_stands_so.kp T.b_l_stands_so (sa_cons (se_var (pv 6)) (sa_cons (se_var (pv 4)) (sa_cons (se_var (pv 3)) (sa_cons (se_int) (sa_nil))))))))))))))))))))))
end
set_option maxHeartbeats 0 in
theorem all_mk {l : PySem.W.OpenLaw} {w : World} {K : PySem.W.Frag} {h : Heap} {mg : Str → Option Value} {fa : Addr} (X : K.In h) (Gn : h.Ns mainGlobals mg) (hfa : mg "law" = some (.ref fa))
    {C5 : Addr}
    {C4 : Addr}
    {C3 : Addr}
    {C2 : Addr}
    {C1 : Addr}
    {C0 : Addr}
    {f0 : Addr} {od0 an0 : Option Addr} {sl0 : Array (Option Value)} {oc0 kV0 dc0 pm0 cd0 ct0 : Value}
    {f1 : Addr} {od1 an1 : Option Addr} {sl1 : Array (Option Value)} {oc1 kV1 dc1 pm1 cd1 ct1 : Value}
    {f2 : Addr} {od2 an2 : Option Addr} {sl2 : Array (Option Value)} {oc2 kV2 dc2 pm2 cd2 ct2 : Value}
    {f3 : Addr} {od3 an3 : Option Addr} {sl3 : Array (Option Value)} {oc3 kV3 dc3 pm3 cd3 ct3 : Value}
    {f4 : Addr} {od4 an4 : Option Addr} {sl4 : Array (Option Value)} {oc4 kV4 dc4 pm4 cd4 ct4 : Value}
    {f5 : Addr} {od5 an5 : Option Addr} {sl5 : Array (Option Value)} {oc5 kV5 dc5 pm5 cd5 ct5 : Value}
    {f6 : Addr} {od6 an6 : Option Addr} {sl6 : Array (Option Value)} {oc6 kV6 dc6 pm6 cd6 ct6 : Value}
    {f7 : Addr} {od7 an7 : Option Addr} {sl7 : Array (Option Value)} {oc7 kV7 dc7 pm7 cd7 ct7 : Value}
    {f8 : Addr} {od8 an8 : Option Addr} {sl8 : Array (Option Value)} {oc8 kV8 dc8 pm8 cd8 ct8 : Value}
    {f9 : Addr} {od9 an9 : Option Addr} {sl9 : Array (Option Value)} {oc9 kV9 dc9 pm9 cd9 ct9 : Value}
    {f10 : Addr} {od10 an10 : Option Addr} {sl10 : Array (Option Value)} {oc10 kV10 dc10 pm10 cd10 ct10 : Value}
    {f11 : Addr} {od11 an11 : Option Addr} {sl11 : Array (Option Value)} {oc11 kV11 dc11 pm11 cd11 ct11 : Value}
    {f12 : Addr} {od12 an12 : Option Addr} {sl12 : Array (Option Value)} {oc12 kV12 dc12 pm12 cd12 ct12 : Value}
    {f13 : Addr} {od13 an13 : Option Addr} {sl13 : Array (Option Value)} {oc13 kV13 dc13 pm13 cd13 ct13 : Value}
    {f14 : Addr} {od14 an14 : Option Addr} {sl14 : Array (Option Value)} {oc14 kV14 dc14 pm14 cd14 ct14 : Value}
    {f15 : Addr} {od15 an15 : Option Addr} {sl15 : Array (Option Value)} {oc15 kV15 dc15 pm15 cd15 ct15 : Value}
    {f16 : Addr} {od16 an16 : Option Addr} {sl16 : Array (Option Value)} {oc16 kV16 dc16 pm16 cd16 ct16 : Value}
    {q16 : Addr} {rs16 : List Value}
    {f17 : Addr} {od17 an17 : Option Addr} {sl17 : Array (Option Value)} {oc17 kV17 dc17 pm17 cd17 ct17 : Value}
    {f18 : Addr} {od18 an18 : Option Addr} {sl18 : Array (Option Value)} {oc18 kV18 dc18 pm18 cd18 ct18 : Value}
    {q18 : Addr} {rs18 : List Value}
    {f19 : Addr} {od19 an19 : Option Addr} {sl19 : Array (Option Value)} {oc19 kV19 dc19 pm19 cd19 ct19 : Value}
    {f20 : Addr} {od20 an20 : Option Addr} {sl20 : Array (Option Value)} {oc20 kV20 dc20 pm20 cd20 ct20 : Value}
    {f21 : Addr} {od21 an21 : Option Addr} {sl21 : Array (Option Value)} {oc21 kV21 dc21 pm21 cd21 ct21 : Value}
    {f22 : Addr} {od22 an22 : Option Addr} {sl22 : Array (Option Value)} {oc22 kV22 dc22 pm22 cd22 ct22 : Value}
    {f23 : Addr} {od23 an23 : Option Addr} {sl23 : Array (Option Value)} {oc23 kV23 dc23 pm23 cd23 ct23 : Value}
    {f24 : Addr} {od24 an24 : Option Addr} {sl24 : Array (Option Value)} {oc24 kV24 dc24 pm24 cd24 ct24 : Value}
    {f25 : Addr} {od25 an25 : Option Addr} {sl25 : Array (Option Value)} {oc25 kV25 dc25 pm25 cd25 ct25 : Value}
    {f26 : Addr} {od26 an26 : Option Addr} {sl26 : Array (Option Value)} {oc26 kV26 dc26 pm26 cd26 ct26 : Value}
    {t_MOST_HEAPS : Tok}
    {t_MOST_CARDS : Tok}
    {nmx3 qnx3 : Str} {Nx3 fIx3 cdax3 ccx3 : Addr} {bsx3 bmx3 : List Value} {snx3 : List Str} {sux3 : List Value} {abx3 : Bool} {cox3 : Option Bool} {ddx3 odx3 anx3 cddx3 cldx3 : Option Addr} {kax3 kbx3 kcx3 kdx3 kex3 : Option Value} {ocx3 kVx3 dcx3 pmx3 ctx3 cclx3 clx3 : Value} {slx3 ccsx3 cslx3 : Array (Option Value)} {vsx3 : Array Value} {fix3 : Str} {tfx3 : Tok}
    {nmx4 qnx4 : Str} {Nx4 fIx4 cdax4 ccx4 : Addr} {bsx4 bmx4 : List Value} {snx4 : List Str} {sux4 : List Value} {abx4 : Bool} {cox4 : Option Bool} {ddx4 odx4 anx4 cddx4 cldx4 : Option Addr} {kax4 kbx4 kcx4 kdx4 kex4 : Option Value} {ocx4 kVx4 dcx4 pmx4 ctx4 cclx4 clx4 : Value} {slx4 ccsx4 cslx4 : Array (Option Value)} {vsx4 : Array Value} {fix4 : Str} {tfx4 : Tok}
    (aC5 : PySem.W.nsIn K mainGlobals "BadFirsts" = some (some (.ref C5)))
    (aC4 : PySem.W.nsIn K mainGlobals "Unfitting" = some (some (.ref C4)))
    (aC3 : PySem.W.nsIn K mainGlobals "BadHeaps" = some (some (.ref C3)))
    (aC2 : PySem.W.nsIn K mainGlobals "HeapError" = some (some (.ref C2)))
    (aC1 : PySem.W.nsIn K mainGlobals "Table" = some (some (.ref C1)))
    (aC0 : PySem.W.nsIn K mainGlobals "Pack" = some (some (.ref C0)))
    (a0 : PySem.W.nsIn K mainGlobals "_law_mix" = some (some (.ref f0)))
    (l0 : K.lookup f0 = some ⟨oc0, od0, .func (PySem.W.fnOf "_law_mix" "_law_mix" (defArgs s_l_mix) (defBody s_l_mix) (defScope s_l_mix) .none kV0 dc0 pm0 an0 cd0 ct0), sl0⟩) (c0 : PySem.W.codeIn K cd0 "_law_mix" = true) (k0 : PySem.W.keepIn K (.ref f0) = true)
    (a1 : PySem.W.nsIn K mainGlobals "_law_next" = some (some (.ref f1)))
    (l1 : K.lookup f1 = some ⟨oc1, od1, .func (PySem.W.fnOf "_law_next" "_law_next" (defArgs s_l_next) (defBody s_l_next) (defScope s_l_next) .none kV1 dc1 pm1 an1 cd1 ct1), sl1⟩) (c1 : PySem.W.codeIn K cd1 "_law_next" = true) (k1 : PySem.W.keepIn K (.ref f1) = true)
    (a2 : PySem.W.nsIn K mainGlobals "_law_pick" = some (some (.ref f2)))
    (l2 : K.lookup f2 = some ⟨oc2, od2, .func (PySem.W.fnOf "_law_pick" "_law_pick" (defArgs s_l_pick) (defBody s_l_pick) (defScope s_l_pick) .none kV2 dc2 pm2 an2 cd2 ct2), sl2⟩) (c2 : PySem.W.codeIn K cd2 "_law_pick" = true) (k2 : PySem.W.keepIn K (.ref f2) = true)
    (a3 : PySem.W.nsIn K mainGlobals "_law_firsts" = some (some (.ref f3)))
    (l3 : K.lookup f3 = some ⟨oc3, od3, .func (PySem.W.fnOf "_law_firsts" "_law_firsts" (defArgs s_l_firsts) (defBody s_l_firsts) (defScope s_l_firsts) .none kV3 dc3 pm3 an3 cd3 ct3), sl3⟩) (c3 : PySem.W.codeIn K cd3 "_law_firsts" = true) (k3 : PySem.W.keepIn K (.ref f3) = true)
    (a4 : PySem.W.nsIn K mainGlobals "_law_deal" = some (some (.ref f4)))
    (l4 : K.lookup f4 = some ⟨oc4, od4, .func (PySem.W.fnOf "_law_deal" "_law_deal" (defArgs s_l_deal) (defBody s_l_deal) (defScope s_l_deal) .none kV4 dc4 pm4 an4 cd4 ct4), sl4⟩) (c4 : PySem.W.codeIn K cd4 "_law_deal" = true) (k4 : PySem.W.keepIn K (.ref f4) = true)
    (a5 : PySem.W.nsIn K mainGlobals "is_integer" = some (some (.ref f5)))
    (l5 : K.lookup f5 = some ⟨oc5, od5, .func (PySem.W.fnOf "is_integer" "is_integer" (defArgs s_is_integer) (defBody s_is_integer) (defScope s_is_integer) .none kV5 dc5 pm5 an5 cd5 ct5), sl5⟩) (c5 : PySem.W.codeIn K cd5 "is_integer" = true) (k5 : PySem.W.keepIn K (.ref f5) = true)
    (a6 : PySem.W.nsIn K mainGlobals "check_firsts" = some (some (.ref f6)))
    (l6 : K.lookup f6 = some ⟨oc6, od6, .func (PySem.W.fnOf "check_firsts" "check_firsts" (defArgs s_check_firsts) (defBody s_check_firsts) (defScope s_check_firsts) .none kV6 dc6 pm6 an6 cd6 ct6), sl6⟩) (c6 : PySem.W.codeIn K cd6 "check_firsts" = true) (k6 : PySem.W.keepIn K (.ref f6) = true)
    (a7 : PySem.W.nsIn K mainGlobals "walked" = some (some (.ref f7)))
    (l7 : K.lookup f7 = some ⟨oc7, od7, .func (PySem.W.fnOf "walked" "walked" (defArgs s_walked) (defBody s_walked) (defScope s_walked) .none kV7 dc7 pm7 an7 cd7 ct7), sl7⟩) (c7 : PySem.W.codeIn K cd7 "walked" = true) (k7 : PySem.W.keepIn K (.ref f7) = true)
    (a8 : PySem.W.findIn K (.ref C1) "__init__" = some (some (.ref f8)))
    (l8 : K.lookup f8 = some ⟨oc8, od8, .func (PySem.W.fnOf "__init__" "Table.__init__" (defArgs s_Table_init) (defBody s_Table_init) (defScope s_Table_init) .none kV8 dc8 pm8 an8 cd8 ct8), sl8⟩) (c8 : PySem.W.codeIn K cd8 "Table.__init__" = true) (k8 : PySem.W.keepIn K (.ref f8) = true)
    (a9 : PySem.W.nsIn K mainGlobals "_law_walk" = some (some (.ref f9)))
    (l9 : K.lookup f9 = some ⟨oc9, od9, .func (PySem.W.fnOf "_law_walk" "_law_walk" (defArgs s_l_walk) (defBody s_l_walk) (defScope s_l_walk) .none kV9 dc9 pm9 an9 cd9 ct9), sl9⟩) (c9 : PySem.W.codeIn K cd9 "_law_walk" = true) (k9 : PySem.W.keepIn K (.ref f9) = true)
    (a10 : PySem.W.findIn K (.ref C1) "shown" = some (some (.ref f10))) (h10 : PySem.W.isFn K (.ref f10) = true)
    (l10 : K.lookup f10 = some ⟨oc10, od10, .func (PySem.W.fnOf "shown" "Table.shown" (defArgs s_Table_shown) (defBody s_Table_shown) (defScope s_Table_shown) .none kV10 dc10 pm10 an10 cd10 ct10), sl10⟩) (c10 : PySem.W.codeIn K cd10 "Table.shown" = true) (k10 : PySem.W.keepIn K (.ref f10) = true)
    (a11 : PySem.W.nsIn K mainGlobals "_law_alike" = some (some (.ref f11)))
    (l11 : K.lookup f11 = some ⟨oc11, od11, .func (PySem.W.fnOf "_law_alike" "_law_alike" (defArgs s_l_alike) (defBody s_l_alike) (defScope s_l_alike) .none kV11 dc11 pm11 an11 cd11 ct11), sl11⟩) (c11 : PySem.W.codeIn K cd11 "_law_alike" = true) (k11 : PySem.W.keepIn K (.ref f11) = true)
    (a12 : PySem.W.nsIn K mainGlobals "is_heap" = some (some (.ref f12)))
    (l12 : K.lookup f12 = some ⟨oc12, od12, .func (PySem.W.fnOf "is_heap" "is_heap" (defArgs s_is_heap) (defBody s_is_heap) (defScope s_is_heap) .none kV12 dc12 pm12 an12 cd12 ct12), sl12⟩) (c12 : PySem.W.codeIn K cd12 "is_heap" = true) (k12 : PySem.W.keepIn K (.ref f12) = true)
    (a13 : PySem.W.nsIn K mainGlobals "check_heaps" = some (some (.ref f13)))
    (l13 : K.lookup f13 = some ⟨oc13, od13, .func (PySem.W.fnOf "check_heaps" "check_heaps" (defArgs s_check_heaps) (defBody s_check_heaps) (defScope s_check_heaps) .none kV13 dc13 pm13 an13 cd13 ct13), sl13⟩) (c13 : PySem.W.codeIn K cd13 "check_heaps" = true) (k13 : PySem.W.keepIn K (.ref f13) = true)
    (a14 : PySem.W.findIn K (.ref C0) "__init__" = some (some (.ref f14)))
    (l14 : K.lookup f14 = some ⟨oc14, od14, .func (PySem.W.fnOf "__init__" "Pack.__init__" (defArgs s_Pack_init) (defBody s_Pack_init) (defScope s_Pack_init) .none kV14 dc14 pm14 an14 cd14 ct14), sl14⟩) (c14 : PySem.W.codeIn K cd14 "Pack.__init__" = true) (k14 : PySem.W.keepIn K (.ref f14) = true)
    (a15 : PySem.W.findIn K (.ref C0) "__eq__" = some (some (.ref f15))) (h15 : PySem.W.isFn K (.ref f15) = true)
    (nf15 : PySem.W.notFirst K C0 (.type "tuple") = true)
    (l15 : K.lookup f15 = some ⟨oc15, od15, .func (PySem.W.fnOf "__eq__" "Pack.__eq__" (defArgs s_Pack_eq) (defBody s_Pack_eq) (defScope s_Pack_eq) .none kV15 dc15 pm15 an15 cd15 ct15), sl15⟩) (c15 : PySem.W.codeIn K cd15 "Pack.__eq__" = true) (k15 : PySem.W.keepIn K (.ref f15) = true)
    (a16 : PySem.W.findIn K (.ref C1) "pack" = some (some (.ref q16)))
    (g16 : PySem.W.specialIn K (.ref q16) "__get__" = some (some (.builtin "property.__get__"))) (t16 : PySem.W.takesIn K (.ref q16) = some true) (r16 : PySem.W.recIn K q16 "property" = some (.ref f16 :: rs16))
    (l16 : K.lookup f16 = some ⟨oc16, od16, .func (PySem.W.fnOf "pack" "Table.pack" (defArgs s_Table_pack) (defBody s_Table_pack) (defScope s_Table_pack) .none kV16 dc16 pm16 an16 cd16 ct16), sl16⟩) (c16 : PySem.W.codeIn K cd16 "Table.pack" = true) (k16 : PySem.W.keepIn K (.ref f16) = true)
    (a17 : PySem.W.findIn K (.ref C1) "lies" = some (some (.ref f17))) (h17 : PySem.W.isFn K (.ref f17) = true)
    (l17 : K.lookup f17 = some ⟨oc17, od17, .func (PySem.W.fnOf "lies" "Table.lies" (defArgs s_Table_lies) (defBody s_Table_lies) (defScope s_Table_lies) .none kV17 dc17 pm17 an17 cd17 ct17), sl17⟩) (c17 : PySem.W.codeIn K cd17 "Table.lies" = true) (k17 : PySem.W.keepIn K (.ref f17) = true)
    (a18 : PySem.W.findIn K (.ref C1) "firsts" = some (some (.ref q18)))
    (g18 : PySem.W.specialIn K (.ref q18) "__get__" = some (some (.builtin "property.__get__"))) (t18 : PySem.W.takesIn K (.ref q18) = some true) (r18 : PySem.W.recIn K q18 "property" = some (.ref f18 :: rs18))
    (l18 : K.lookup f18 = some ⟨oc18, od18, .func (PySem.W.fnOf "firsts" "Table.firsts" (defArgs s_Table_firsts) (defBody s_Table_firsts) (defScope s_Table_firsts) .none kV18 dc18 pm18 an18 cd18 ct18), sl18⟩) (c18 : PySem.W.codeIn K cd18 "Table.firsts" = true) (k18 : PySem.W.keepIn K (.ref f18) = true)
    (a19 : PySem.W.findIn K (.ref C1) "__len__" = some (some (.ref f19))) (h19 : PySem.W.isFn K (.ref f19) = true)
    (l19 : K.lookup f19 = some ⟨oc19, od19, .func (PySem.W.fnOf "__len__" "Table.__len__" (defArgs s_Table_len) (defBody s_Table_len) (defScope s_Table_len) .none kV19 dc19 pm19 an19 cd19 ct19), sl19⟩) (c19 : PySem.W.codeIn K cd19 "Table.__len__" = true) (k19 : PySem.W.keepIn K (.ref f19) = true)
    (a20 : PySem.W.nsIn K mainGlobals "_law_stands_so" = some (some (.ref f20)))
    (l20 : K.lookup f20 = some ⟨oc20, od20, .func (PySem.W.fnOf "_law_stands_so" "_law_stands_so" (defArgs s_l_stands_so) (defBody s_l_stands_so) (defScope s_l_stands_so) .none kV20 dc20 pm20 an20 cd20 ct20), sl20⟩) (c20 : PySem.W.codeIn K cd20 "_law_stands_so" = true) (k20 : PySem.W.keepIn K (.ref f20) = true)
    (a21 : PySem.W.nsIn K mainGlobals "_law_sizes" = some (some (.ref f21)))
    (l21 : K.lookup f21 = some ⟨oc21, od21, .func (PySem.W.fnOf "_law_sizes" "_law_sizes" (defArgs s_l_sizes) (defBody s_l_sizes) (defScope s_l_sizes) .none kV21 dc21 pm21 an21 cd21 ct21), sl21⟩) (c21 : PySem.W.codeIn K cd21 "_law_sizes" = true) (k21 : PySem.W.keepIn K (.ref f21) = true)
    (a22 : PySem.W.findIn K (.ref C1) "copy" = some (some (.ref f22))) (h22 : PySem.W.isFn K (.ref f22) = true)
    (l22 : K.lookup f22 = some ⟨oc22, od22, .func (PySem.W.fnOf "copy" "Table.copy" (defArgs s_Table_copy) (defBody s_Table_copy) (defScope s_Table_copy) .none kV22 dc22 pm22 an22 cd22 ct22), sl22⟩) (c22 : PySem.W.codeIn K cd22 "Table.copy" = true) (k22 : PySem.W.keepIn K (.ref f22) = true)
    (a23 : PySem.W.findIn K (.ref C1) "undo" = some (some (.ref f23))) (h23 : PySem.W.isFn K (.ref f23) = true)
    (l23 : K.lookup f23 = some ⟨oc23, od23, .func (PySem.W.fnOf "undo" "Table.undo" (defArgs s_Table_undo) (defBody s_Table_undo) (defScope s_Table_undo) .none kV23 dc23 pm23 an23 cd23 ct23), sl23⟩) (c23 : PySem.W.codeIn K cd23 "Table.undo" = true) (k23 : PySem.W.keepIn K (.ref f23) = true)
    (a24 : PySem.W.nsIn K mainGlobals "_law_refused" = some (some (.ref f24)))
    (l24 : K.lookup f24 = some ⟨oc24, od24, .func (PySem.W.fnOf "_law_refused" "_law_refused" (defArgs s_l_refused) (defBody s_l_refused) (defScope s_l_refused) .none kV24 dc24 pm24 an24 cd24 ct24), sl24⟩) (c24 : PySem.W.codeIn K cd24 "_law_refused" = true) (k24 : PySem.W.keepIn K (.ref f24) = true)
    (a25 : PySem.W.findIn K (.ref C1) "turn" = some (some (.ref f25))) (h25 : PySem.W.isFn K (.ref f25) = true)
    (l25 : K.lookup f25 = some ⟨oc25, od25, .func (PySem.W.fnOf "turn" "Table.turn" (defArgs s_Table_turn) (defBody s_Table_turn) (defScope s_Table_turn) .none kV25 dc25 pm25 an25 cd25 ct25), sl25⟩) (c25 : PySem.W.codeIn K cd25 "Table.turn" = true) (k25 : PySem.W.keepIn K (.ref f25) = true)
    (a26 : PySem.W.nsIn K mainGlobals "law" = some (some (.ref f26)))
    (l26 : K.lookup f26 = some ⟨oc26, od26, .func (PySem.W.fnOf "law" "law" (defArgs s_law) (defBody s_law) (defScope s_law) .none kV26 dc26 pm26 an26 cd26 ct26), sl26⟩) (c26 : PySem.W.codeIn K cd26 "law" = true) (k26 : PySem.W.keepIn K (.ref f26) = true)
    (z_all : PySem.W.nsIn K mainGlobals "all" = some none)
    (z_bool : PySem.W.nsIn K mainGlobals "bool" = some none)
    (z_enumerate : PySem.W.nsIn K mainGlobals "enumerate" = some none)
    (z_int : PySem.W.nsIn K mainGlobals "int" = some none)
    (z_isinstance : PySem.W.nsIn K mainGlobals "isinstance" = some none)
    (z_len : PySem.W.nsIn K mainGlobals "len" = some none)
    (z_list : PySem.W.nsIn K mainGlobals "list" = some none)
    (z_max : PySem.W.nsIn K mainGlobals "max" = some none)
    (z_min : PySem.W.nsIn K mainGlobals "min" = some none)
    (z_range : PySem.W.nsIn K mainGlobals "range" = some none)
    (z_str : PySem.W.nsIn K mainGlobals "str" = some none)
    (z_sum : PySem.W.nsIn K mainGlobals "sum" = some none)
    (z_tuple : PySem.W.nsIn K mainGlobals "tuple" = some none)
    (y_MOST_HEAPS : PySem.W.nsIn K mainGlobals "MOST_HEAPS" = some (some (.int 8 t_MOST_HEAPS)))
    (y_MOST_CARDS : PySem.W.nsIn K mainGlobals "MOST_CARDS" = some (some (.int 8 t_MOST_CARDS)))
    (pg0 : PySem.W.plainGet K C0 Str.empty = true) (hd0 : PySem.W.hasDictIn K C0 = true) (po0 : PySem.W.plainOver K C0 = true) (sa0 : PySem.W.findIn K (.ref C0) "__setattr__" = some (some (.builtin "object.__setattr__"))) (ms0 : PySem.W.makesIn K C0 = true) (fn0 : PySem.W.isFn K (.ref f14) = true) (kp0 : PySem.W.keepIn K (.ref C0) = true)
    (pg1 : PySem.W.plainGet K C1 Str.empty = true) (hd1 : PySem.W.hasDictIn K C1 = true) (po1 : PySem.W.plainOver K C1 = true) (sa1 : PySem.W.findIn K (.ref C1) "__setattr__" = some (some (.builtin "object.__setattr__"))) (ms1 : PySem.W.makesIn K C1 = true) (fn1 : PySem.W.isFn K (.ref f8) = true) (kp1 : PySem.W.keepIn K (.ref C1) = true)
    (ica0 : PySem.W.findIn K (.ref C0) "__class__" = some (some (.builtin "object.__class__"))) (icn0 : PySem.W.specialIn K (.builtin "object.__class__") "__get__" = some (some (.builtin "getset_descriptor.__get__"))) (ict0 : PySem.W.takesIn K (.builtin "object.__class__") = some true) (icm0 : PySem.W.mroIn K C0 (.type "object") = some true)
    (icy0_0 : PySem.W.kitOne K (.type "int") (.ref C0) = some false)
    (icy0_1 : PySem.W.kitOne K (.type "bool") (.ref C0) = some false)
    (icy0_2 : PySem.W.kitOne K (.type "str") (.ref C0) = some false)
    (icy0_3 : PySem.W.kitOne K (.type "tuple") (.ref C0) = some false)
    (icy0_4 : PySem.W.kitOne K (.type "list") (.ref C0) = some false)
    (icy0_5 : PySem.W.kitOne K (.type "dict") (.ref C0) = some false)
    (icy0_6 : PySem.W.kitOne K (.type "NoneType") (.ref C0) = some false)
    (ics0 : PySem.W.kitOne K (.ref C0) (.ref C0) = some true)
    (no_base : PySem.W.findIn K (.ref C1) "base" = some none)
    (no_begun : PySem.W.findIn K (.ref C1) "begun" = some none)
    (no_done : PySem.W.findIn K (.ref C1) "done" = some none)
    (no_rows : PySem.W.findIn K (.ref C0) "rows" = some none)
    (no_whole : PySem.W.findIn K (.ref C1) "whole" = some none)
    (eC2 : PySem.W.subIn K (.ref C2) (.type "BaseException") = some true)
    (hC2 : PySem.W.hasDictIn K C2 = true)
    (tC2 : PySem.W.typeIn K (.ref C2) = some (.type "type"))
    (eC3 : PySem.W.subIn K (.ref C3) (.type "BaseException") = some true)
    (hC3 : PySem.W.hasDictIn K C3 = true)
    (tC3 : PySem.W.typeIn K (.ref C3) = some (.type "type"))
    (eC4 : PySem.W.subIn K (.ref C4) (.type "BaseException") = some true)
    (hC4 : PySem.W.hasDictIn K C4 = true)
    (tC4 : PySem.W.typeIn K (.ref C4) = some (.type "type"))
    (eC5 : PySem.W.subIn K (.ref C5) (.type "BaseException") = some true)
    (hC5 : PySem.W.hasDictIn K C5 = true)
    (tC5 : PySem.W.typeIn K (.ref C5) = some (.type "type"))
    (sb3_5 : PySem.W.subIn K (.ref C3) (.ref C5) = some false)
    (sb4_5 : PySem.W.subIn K (.ref C4) (.ref C5) = some false)
    (sb5_5 : PySem.W.subIn K (.ref C5) (.ref C5) = some true)
    (ga5 : PySem.W.findIn K (.ref C5) "__getattribute__" = some (some (.builtin "BaseException.__getattribute__")))
    (gg5 : PySem.W.findIn K (.ref C5) "__getattr__" = some none)
    (xa5 : PySem.W.findIn K (.ref C5) "__class__" = some (some (.builtin "object.__class__")))
    (xb5 : PySem.W.specialIn K (.builtin "object.__class__") "__get__" = some (some (.builtin "getset_descriptor.__get__")))
    (xc5 : PySem.W.takesIn K (.builtin "object.__class__") = some true)
    (xd5 : PySem.W.mroIn K C5 (.type "object") = some true)
    (qki_5_2 : PySem.W.kitOne K (.ref C5) (.ref C2) = some true)
    (z_super : PySem.W.nsIn K mainGlobals "super" = some none)
    (opq : PySem.W.nsIn K PySem.cStatics "thirdparty.any" = some none)
    (tops : (l.prog.main.scope.names.lookup ("super" : Str)).isSome = false)
    (kC3 : PySem.W.keepIn K (.ref C3) = true)
    (xL3 : K.lookup C3 = some (excClassObj nmx3 qnx3 C3 Nx3 bsx3 bmx3 true snx3 sux3 abx3 cox3 ddx3 kax3 kbx3 kcx3 kdx3 kex3 "ValueError.__new__"))
    (rv3 : PySem.HandSPX.refsVE bmx3 = true)
    (sat3 : PySem.W.findIn K (.ref C3) "__setattr__" = some (some (.builtin "object.__setattr__")))
    (ini3 : PySem.W.findIn K (.ref C3) "__init__" = some (some (.ref fIx3)))
    (tf3 : PySem.W.typeIn K (.ref fIx3) = some (.type "function"))
    (sup3 : PySem.W.ks_superIn K C3 C3 "__init__" = some (some (.builtin "ValueError.__init__")))
    (ms3_ : PySem.W.mroIn K C3 (.ref C3) = some true)
    (vE3 : PySem.W.subIn K (.ref C3) (.type "ValueError") = some true)
    (nf3_index : PySem.W.findIn K (.ref C3) "index" = some none)
    (lk3 : K.lookup fIx3 = some ⟨ocx3, odx3, .func (PySem.W.ksFn "__init__" "BadHeaps.__init__" (defArgs s_BadHeaps_init) (defBody s_BadHeaps_init) (defScope s_BadHeaps_init) .none kVx3 dcx3 pmx3 anx3 (.ref cdax3) ctx3 ccx3), slx3⟩)
    (cd3 : PySem.W.codeIn K (.ref cdax3) "BadHeaps.__init__" = true)
    (lc3 : K.lookup cdax3 = some ⟨cclx3, cddx3, .fields vsx3, ccsx3⟩)
    (v23 : vsx3[2]? = some (.str fix3 tfx3))
    (wf3 : ((l.prog.main.file : Str) == fix3) = true)
    (ce3 : K.lookup ccx3 = some ⟨clx3, cldx3, .cell (some (.ref C3)), cslx3⟩)
    (kC4 : PySem.W.keepIn K (.ref C4) = true)
    (xL4 : K.lookup C4 = some (excClassObj nmx4 qnx4 C4 Nx4 bsx4 bmx4 true snx4 sux4 abx4 cox4 ddx4 kax4 kbx4 kcx4 kdx4 kex4 "ValueError.__new__"))
    (rv4 : PySem.HandSPX.refsVE bmx4 = true)
    (sat4 : PySem.W.findIn K (.ref C4) "__setattr__" = some (some (.builtin "object.__setattr__")))
    (ini4 : PySem.W.findIn K (.ref C4) "__init__" = some (some (.ref fIx4)))
    (tf4 : PySem.W.typeIn K (.ref fIx4) = some (.type "function"))
    (sup4 : PySem.W.ks_superIn K C4 C4 "__init__" = some (some (.builtin "ValueError.__init__")))
    (ms4_ : PySem.W.mroIn K C4 (.ref C4) = some true)
    (vE4 : PySem.W.subIn K (.ref C4) (.type "ValueError") = some true)
    (nf4_heap : PySem.W.findIn K (.ref C4) "heap" = some none)
    (lk4 : K.lookup fIx4 = some ⟨ocx4, odx4, .func (PySem.W.ksFn "__init__" "Unfitting.__init__" (defArgs s_Unfitting_init) (defBody s_Unfitting_init) (defScope s_Unfitting_init) .none kVx4 dcx4 pmx4 anx4 (.ref cdax4) ctx4 ccx4), slx4⟩)
    (cd4 : PySem.W.codeIn K (.ref cdax4) "Unfitting.__init__" = true)
    (lc4 : K.lookup cdax4 = some ⟨cclx4, cddx4, .fields vsx4, ccsx4⟩)
    (v24 : vsx4[2]? = some (.str fix4 tfx4))
    (wf4 : ((l.prog.main.file : Str) == fix4) = true)
    (ce4 : K.lookup ccx4 = some ⟨clx4, cldx4, .cell (some (.ref C4)), cslx4⟩)
    (kC5 : PySem.W.keepIn K (.ref C5) = true)
    (xi5 : PySem.W.excIn K C5 PySem.HandSPX.veTail "ValueError.__new__" = true) :
    ∃ fd : FuncData, (∀ (s : Shared) (v : Value), BindsTo s fd ⟨[v], []⟩ [("_law_script", v)]) ∧ ∀ base : Heap, K.In base → base.Ns mainGlobals mg → FnOk l.prog w K mg base (L2.CX l.prog w) 11 fa fd ["_law_script"] (spTrue K) := by
  have e := hfa.symm.trans (PySem.W.mg_of X Gn a26)
  cases e
  let T : Txt l.prog K mg (fun n => match n with | 0 => C0 | 1 => C1 | 2 => C2 | 3 => C3 | 4 => C4 | 5 => C5 | _ => 0) :=
   { a_l_mix := f0, d_l_mix := _, F_l_mix := fun_mk (st := s_l_mix) l0 c0 k0, b_l_mix := (fun_mk (st := s_l_mix) l0 c0 k0).binds (ps := ["_law_script", "_law_seed"]) fun _ _ _ _ _ _ us hl => match us, hl with | [_, _], _ => rfl,
     m_l_mix := PySem.W.mg_of X Gn a0,
     a_l_next := f1, d_l_next := _, F_l_next := fun_mk (st := s_l_next) l1 c1 k1, b_l_next := (fun_mk (st := s_l_next) l1 c1 k1).binds (ps := ["_law_h", "_law_cap"]) fun _ _ _ _ _ _ us hl => match us, hl with | [_, _], _ => rfl,
     m_l_next := PySem.W.mg_of X Gn a1,
     a_l_pick := f2, d_l_pick := _, F_l_pick := fun_mk (st := s_l_pick) l2 c2 k2, b_l_pick := (fun_mk (st := s_l_pick) l2 c2 k2).binds (ps := ["_law_h", "_law_things"]) fun _ _ _ _ _ _ us hl => match us, hl with | [_, _], _ => rfl,
     m_l_pick := PySem.W.mg_of X Gn a2,
     a_l_firsts := f3, d_l_firsts := _, F_l_firsts := fun_mk (st := s_l_firsts) l3 c3 k3, b_l_firsts := (fun_mk (st := s_l_firsts) l3 c3 k3).binds (ps := ["_law_h", "_law_many"]) fun _ _ _ _ _ _ us hl => match us, hl with | [_, _], _ => rfl,
     m_l_firsts := PySem.W.mg_of X Gn a3,
     a_l_deal := f4, d_l_deal := _, F_l_deal := fun_mk (st := s_l_deal) l4 c4 k4, b_l_deal := (fun_mk (st := s_l_deal) l4 c4 k4).binds (ps := ["_law_h", "_law_sizes_here"]) fun _ _ _ _ _ _ us hl => match us, hl with | [_, _], _ => rfl,
     m_l_deal := PySem.W.mg_of X Gn a4,
     a_is_integer := f5, d_is_integer := _, F_is_integer := fun_mk (st := s_is_integer) l5 c5 k5, b_is_integer := (fun_mk (st := s_is_integer) l5 c5 k5).binds (ps := ["thing", "low", "high"]) fun _ _ _ _ _ _ us hl => match us, hl with | [_, _, _], _ => rfl,
     m_is_integer := PySem.W.mg_of X Gn a5,
     a_check_firsts := f6, d_check_firsts := _, F_check_firsts := fun_mk (st := s_check_firsts) l6 c6 k6, b_check_firsts := (fun_mk (st := s_check_firsts) l6 c6 k6).binds (ps := ["many", "thing"]) fun _ _ _ _ _ _ us hl => match us, hl with | [_, _], _ => rfl,
     m_check_firsts := PySem.W.mg_of X Gn a6,
     a_walked := f7, d_walked := _, F_walked := fun_mk (st := s_walked) l7 c7 k7, b_walked := (fun_mk (st := s_walked) l7 c7 k7).binds (ps := ["heaps", "firsts"]) fun _ _ _ _ _ _ us hl => match us, hl with | [_, _], _ => rfl,
     m_walked := PySem.W.mg_of X Gn a7,
     a_Table_init := f8, d_Table_init := _, F_Table_init := fun_mk (st := s_Table_init) l8 c8 k8, b_Table_init := (fun_mk (st := s_Table_init) l8 c8 k8).binds (ps := ["self", "pack", "firsts"]) fun _ _ _ _ _ _ us hl => match us, hl with | [_, _, _], _ => rfl,
     a_l_walk := f9, d_l_walk := _, F_l_walk := fun_mk (st := s_l_walk) l9 c9 k9, b_l_walk := (fun_mk (st := s_l_walk) l9 c9 k9).binds (ps := ["_law_heaps", "_law_firsts_here"]) fun _ _ _ _ _ _ us hl => match us, hl with | [_, _], _ => rfl,
     m_l_walk := PySem.W.mg_of X Gn a9,
     a_Table_shown := f10, d_Table_shown := _, F_Table_shown := fun_mk (st := s_Table_shown) l10 c10 k10, b_Table_shown := (fun_mk (st := s_Table_shown) l10 c10 k10).binds (ps := ["self"]) fun _ _ _ _ _ _ us hl => match us, hl with | [_], _ => rfl,
     me_Table_shown := ⟨a10, h10, k10⟩,
     a_l_alike := f11, d_l_alike := _, F_l_alike := fun_mk (st := s_l_alike) l11 c11 k11, b_l_alike := (fun_mk (st := s_l_alike) l11 c11 k11).binds (ps := ["_law_found", "_law_due"]) fun _ _ _ _ _ _ us hl => match us, hl with | [_, _], _ => rfl,
     m_l_alike := PySem.W.mg_of X Gn a11,
     a_is_heap := f12, d_is_heap := _, F_is_heap := fun_mk (st := s_is_heap) l12 c12 k12, b_is_heap := (fun_mk (st := s_is_heap) l12 c12 k12).binds (ps := ["thing", "many"]) fun _ _ _ _ _ _ us hl => match us, hl with | [_, _], _ => rfl,
     m_is_heap := PySem.W.mg_of X Gn a12,
     a_check_heaps := f13, d_check_heaps := _, F_check_heaps := fun_mk (st := s_check_heaps) l13 c13 k13, b_check_heaps := (fun_mk (st := s_check_heaps) l13 c13 k13).binds (ps := ["thing"]) fun _ _ _ _ _ _ us hl => match us, hl with | [_], _ => rfl,
     m_check_heaps := PySem.W.mg_of X Gn a13,
     a_Pack_init := f14, d_Pack_init := _, F_Pack_init := fun_mk (st := s_Pack_init) l14 c14 k14, b_Pack_init := (fun_mk (st := s_Pack_init) l14 c14 k14).binds (ps := ["self", "heaps"]) fun _ _ _ _ _ _ us hl => match us, hl with | [_, _], _ => rfl,
     a_Pack_eq := f15, d_Pack_eq := _, F_Pack_eq := fun_mk (st := s_Pack_eq) l15 c15 k15, b_Pack_eq := (fun_mk (st := s_Pack_eq) l15 c15 k15).binds (ps := ["self", "other"]) fun _ _ _ _ _ _ us hl => match us, hl with | [_, _], _ => rfl,
     fi_Pack_eq := a15, ff_Pack_eq := h15, nf_Pack_eq := nf15,
     a_Table_pack := f16, d_Table_pack := _, F_Table_pack := fun_mk (st := s_Table_pack) l16 c16 k16, b_Table_pack := (fun_mk (st := s_Table_pack) l16 c16 k16).binds (ps := ["self"]) fun _ _ _ _ _ _ us hl => match us, hl with | [_], _ => rfl,
     q_Table_pack := q16, pr_Table_pack := ⟨a16, g16, t16, _, r16⟩,
     a_Table_lies := f17, d_Table_lies := _, F_Table_lies := fun_mk (st := s_Table_lies) l17 c17 k17, b_Table_lies := (fun_mk (st := s_Table_lies) l17 c17 k17).binds (ps := ["self"]) fun _ _ _ _ _ _ us hl => match us, hl with | [_], _ => rfl,
     me_Table_lies := ⟨a17, h17, k17⟩,
     a_Table_firsts := f18, d_Table_firsts := _, F_Table_firsts := fun_mk (st := s_Table_firsts) l18 c18 k18, b_Table_firsts := (fun_mk (st := s_Table_firsts) l18 c18 k18).binds (ps := ["self"]) fun _ _ _ _ _ _ us hl => match us, hl with | [_], _ => rfl,
     q_Table_firsts := q18, pr_Table_firsts := ⟨a18, g18, t18, _, r18⟩,
     a_Table_len := f19, d_Table_len := _, F_Table_len := fun_mk (st := s_Table_len) l19 c19 k19, b_Table_len := (fun_mk (st := s_Table_len) l19 c19 k19).binds (ps := ["self"]) fun _ _ _ _ _ _ us hl => match us, hl with | [_], _ => rfl,
     fi_Table_len := a19, ff_Table_len := h19,
     a_l_stands_so := f20, d_l_stands_so := _, F_l_stands_so := fun_mk (st := s_l_stands_so) l20 c20 k20, b_l_stands_so := (fun_mk (st := s_l_stands_so) l20 c20 k20).binds (ps := ["_law_table", "_law_heaps", "_law_firsts_here", "_law_many"]) fun _ _ _ _ _ _ us hl => match us, hl with | [_, _, _, _], _ => rfl,
     m_l_stands_so := PySem.W.mg_of X Gn a20,
     a_l_sizes := f21, d_l_sizes := _, F_l_sizes := fun_mk (st := s_l_sizes) l21 c21 k21, b_l_sizes := (fun_mk (st := s_l_sizes) l21 c21 k21).binds (ps := ["_law_h", "_law_many", "_law_most"]) fun _ _ _ _ _ _ us hl => match us, hl with | [_, _, _], _ => rfl,
     m_l_sizes := PySem.W.mg_of X Gn a21,
     a_Table_copy := f22, d_Table_copy := _, F_Table_copy := fun_mk (st := s_Table_copy) l22 c22 k22, b_Table_copy := (fun_mk (st := s_Table_copy) l22 c22 k22).binds (ps := ["self"]) fun _ _ _ _ _ _ us hl => match us, hl with | [_], _ => rfl,
     me_Table_copy := ⟨a22, h22, k22⟩,
     a_Table_undo := f23, d_Table_undo := _, F_Table_undo := fun_mk (st := s_Table_undo) l23 c23 k23, b_Table_undo := (fun_mk (st := s_Table_undo) l23 c23 k23).binds (ps := ["self"]) fun _ _ _ _ _ _ us hl => match us, hl with | [_], _ => rfl,
     me_Table_undo := ⟨a23, h23, k23⟩,
     a_l_refused := f24, d_l_refused := _, F_l_refused := fun_mk (st := s_l_refused) l24 c24 k24, b_l_refused := (fun_mk (st := s_l_refused) l24 c24 k24).binds (ps := ["_law_pack", "_law_firsts_here"]) fun _ _ _ _ _ _ us hl => match us, hl with | [_, _], _ => rfl,
     m_l_refused := PySem.W.mg_of X Gn a24,
     a_Table_turn := f25, d_Table_turn := _, F_Table_turn := fun_mk (st := s_Table_turn) l25 c25 k25, b_Table_turn := (fun_mk (st := s_Table_turn) l25 c25 k25).binds (ps := ["self"]) fun _ _ _ _ _ _ us hl => match us, hl with | [_], _ => rfl,
     me_Table_turn := ⟨a25, h25, k25⟩,
     a_law := fa, d_law := _, F_law := fun_mk (st := s_law) l26 c26 k26, b_law := (fun_mk (st := s_law) l26 c26 k26).binds (ps := ["_law_script"]) fun _ _ _ _ _ _ us hl => match us, hl with | [_], _ => rfl,
     m_law := PySem.W.mg_of X Gn a26,
     n_all := PySem.W.mg_none_of X Gn z_all,
     n_bool := PySem.W.mg_none_of X Gn z_bool,
     n_enumerate := PySem.W.mg_none_of X Gn z_enumerate,
     n_int := PySem.W.mg_none_of X Gn z_int,
     n_isinstance := PySem.W.mg_none_of X Gn z_isinstance,
     n_len := PySem.W.mg_none_of X Gn z_len,
     n_list := PySem.W.mg_none_of X Gn z_list,
     n_max := PySem.W.mg_none_of X Gn z_max,
     n_min := PySem.W.mg_none_of X Gn z_min,
     n_range := PySem.W.mg_none_of X Gn z_range,
     n_str := PySem.W.mg_none_of X Gn z_str,
     n_sum := PySem.W.mg_none_of X Gn z_sum,
     n_tuple := PySem.W.mg_none_of X Gn z_tuple,
     u_MOST_HEAPS := _, c_MOST_HEAPS := PySem.W.mg_of X Gn y_MOST_HEAPS, r_MOST_HEAPS := ⟨_, rfl⟩,
     u_MOST_CARDS := _, c_MOST_CARDS := PySem.W.mg_of X Gn y_MOST_CARDS, r_MOST_CARDS := ⟨_, rfl⟩,
     cls_0 := ⟨pg0, hd0, po0, sa0⟩, m_Pack := PySem.W.mg_of X Gn aC0, mk_Pack := ⟨ms0, a14, fn0, kp0⟩,
     cls_1 := ⟨pg1, hd1, po1, sa1⟩, m_Table := PySem.W.mg_of X Gn aC1, mk_Table := ⟨ms1, a8, fn1, kp1⟩,
     is_Pack := ⟨⟨⟨pg0, hd0, po0, sa0⟩, ica0, icn0, ict0, icm0⟩, fun t => match t with | .int => icy0_0 | .bool => icy0_1 | .str => icy0_2 | .tuple => icy0_3 | .list => icy0_4 | .dict => icy0_5 | .none => icy0_6, ics0⟩,
     no_base := no_base,
     no_begun := no_begun,
     no_done := no_done,
     no_rows := no_rows,
     no_whole := no_whole,
     m_HeapError := PySem.W.mg_of X Gn aC2,
     m_BadHeaps := PySem.W.mg_of X Gn aC3,
     m_Unfitting := PySem.W.mg_of X Gn aC4,
     m_BadFirsts := PySem.W.mg_of X Gn aC5,
     ex_3_5 := PySem.W.exm_ref eC5 hC5 tC5 sb3_5,
     ex_4_5 := PySem.W.exm_ref eC5 hC5 tC5 sb4_5,
     ex_5_5 := PySem.W.exm_ref eC5 hC5 tC5 sb5_5,
     xh_5 := ⟨⟨ga5, gg5, eC5, hC5⟩, cls_of_hd hC5, xa5, xb5, xc5, xd5⟩,
     ki_5_2 := qki_5_2,
     xm_BadHeaps := xmk1 (qual := "BadHeaps.__init__") (f := "index") (PySem.DLX.XCl.mk ⟨_, _, _, _, _, _, _, _, _, _, _, _, _, _, _, xL3, rv3⟩ sat3 ini3 tf3 kC3 eC3 tC3 sup3 opq ms3_ vE3 (PySem.W.mg_none_of X Gn z_super) tops) ⟨_, _, _, _, _, _, _, _, _, _, _, _, _, _, _, _, _, _, _, _, lk3, cd3, lc3, v23, wf3, ce3, rfl⟩ nf3_index (fun _ _ _ => ⟨rfl, rfl, _, rfl⟩) (fun _ _ _ _ _ _ _ _ _ _ _ e => by subst e; exact .of_eq rfl) rfl rfl (by decide) (by decide) (by decide +kernel) (by decide +kernel) (by decide +kernel) (fun _ _ _ => rfl),
     xm_Unfitting := xmk1 (qual := "Unfitting.__init__") (f := "heap") (PySem.DLX.XCl.mk ⟨_, _, _, _, _, _, _, _, _, _, _, _, _, _, _, xL4, rv4⟩ sat4 ini4 tf4 kC4 eC4 tC4 sup4 opq ms4_ vE4 (PySem.W.mg_none_of X Gn z_super) tops) ⟨_, _, _, _, _, _, _, _, _, _, _, _, _, _, _, _, _, _, _, _, lk4, cd4, lc4, v24, wf4, ce4, rfl⟩ nf4_heap (fun _ _ _ => ⟨rfl, rfl, _, rfl⟩) (fun _ _ _ _ _ _ _ _ _ _ _ e => by subst e; exact .of_eq rfl) rfl rfl (by decide) (by decide) (by decide +kernel) (by decide +kernel) (by decide +kernel) (fun _ _ _ => rfl),
     xm_BadFirsts := ⟨xi5, kC5, eC5, tC5⟩ }
  exact ⟨PySem.W.fnOf "law" "law" (defArgs s_law) (defBody s_law) (defScope s_law) .none kV26 dc26 pm26 an26 cd26 ct26, fun s v => .of_eq rfl, fun base _ _ => fn_true (ok_law T) DL.law_k09_true⟩
end LW
open PySem PySem.W PyProof.Rows
set_option maxHeartbeats 0 in
theorem PySem.Challenge.cw_heapleads_k09_whole_tables_holds : PySem.Challenge.rw_heapleads_k09_whole_tables.Holds := by
  w_on; o_law; k_head; (case hw => w_witness2)
  k_fill
  refine L2.walk_of (l := PySem.Challenge.rw_heapleads_k09_whole_tables) (n := 63) (k := 11) (x := "_law_script") (CX := fun w => L2.CX PySem.Challenge.rw_heapleads_k09_whole_tables.prog w) (sp := fun w => DL.spTrue _) rfl (by decide) rfl ⟨rfl, by decide, by decide⟩ (fun w h Y => PySem.W.kIn_of Y) ?F (fun _ _ a ns hl _ hS => ⟨a, ns, rfl, hS, hl, fun _ => rfl⟩) (fun _ _ _ _ _ h => DL.cx_false h)
  case F =>
    intro w mg fa h KX Gn hmg
    refine' LW.all_mk KX Gn hmg ?aC5 ?aC4 ?aC3 ?aC2 ?aC1 ?aC0 ?a0 ?l0 ?c0 ?k0 ?a1 ?l1 ?c1 ?k1 ?a2 ?l2 ?c2 ?k2 ?a3 ?l3 ?c3 ?k3 ?a4 ?l4 ?c4 ?k4 ?a5 ?l5 ?c5 ?k5 ?a6 ?l6 ?c6 ?k6 ?a7 ?l7 ?c7 ?k7 ?a8 ?l8 ?c8 ?k8 ?a9 ?l9 ?c9 ?k9 ?a10 ?h10 ?l10 ?c10 ?k10 ?a11 ?l11 ?c11 ?k11 ?a12 ?l12 ?c12 ?k12 ?a13 ?l13 ?c13 ?k13 ?a14 ?l14 ?c14 ?k14 ?a15 ?h15 ?nf15 ?l15 ?c15 ?k15 ?a16 ?g16 ?t16 ?r16 ?l16 ?c16 ?k16 ?a17 ?h17 ?l17 ?c17 ?k17 ?a18 ?g18 ?t18 ?r18 ?l18 ?c18 ?k18 ?a19 ?h19 ?l19 ?c19 ?k19 ?a20 ?l20 ?c20 ?k20 ?a21 ?l21 ?c21 ?k21 ?a22 ?h22 ?l22 ?c22 ?k22 ?a23 ?h23 ?l23 ?c23 ?k23 ?a24 ?l24 ?c24 ?k24 ?a25 ?h25 ?l25 ?c25 ?k25 ?a26 ?l26 ?c26 ?k26 ?z_all ?z_bool ?z_enumerate ?z_int ?z_isinstance ?z_len ?z_list ?z_max ?z_min ?z_range ?z_str ?z_sum ?z_tuple ?y_MOST_HEAPS ?y_MOST_CARDS ?pg0 ?hd0 ?po0 ?sa0 ?ms0 ?fn0 ?kp0 ?pg1 ?hd1 ?po1 ?sa1 ?ms1 ?fn1 ?kp1 ?ica0 ?icn0 ?ict0 ?icm0 ?icy0_0 ?icy0_1 ?icy0_2 ?icy0_3 ?icy0_4 ?icy0_5 ?icy0_6 ?ics0 ?no_base ?no_begun ?no_done ?no_rows ?no_whole ?eC2 ?hC2 ?tC2 ?eC3 ?hC3 ?tC3 ?eC4 ?hC4 ?tC4 ?eC5 ?hC5 ?tC5 ?sb3_5 ?sb4_5 ?sb5_5 ?ga5 ?gg5 ?xa5 ?xb5 ?xc5 ?xd5 ?qki_5_2 ?z_super ?opq ?tops ?kC3 ?xL3 ?rv3 ?sat3 ?ini3 ?tf3 ?sup3 ?ms3_ ?vE3 ?nf3_index ?lk3 ?cd3 ?lc3 ?v23 ?wf3 ?ce3 ?kC4 ?xL4 ?rv4 ?sat4 ?ini4 ?tf4 ?sup4 ?ms4_ ?vE4 ?nf4_heap ?lk4 ?cd4 ?lc4 ?v24 ?wf4 ?ce4 ?kC5 ?xi5
    (case aC5 => k_is); (case aC4 => k_is); (case aC3 => k_is); (case aC2 => k_is); (case aC1 => k_is); (case aC0 => k_is); (case a0 => k_is); (case l0 => k_is)
    (case c0 => k_is); (case k0 => k_is); (case a1 => k_is); (case l1 => k_is); (case c1 => k_is); (case k1 => k_is); (case a2 => k_is); (case l2 => k_is)
    (case c2 => k_is); (case k2 => k_is); (case a3 => k_is); (case l3 => k_is); (case c3 => k_is); (case k3 => k_is); (case a4 => k_is); (case l4 => k_is)
    (case c4 => k_is); (case k4 => k_is); (case a5 => k_is); (case l5 => k_is); (case c5 => k_is); (case k5 => k_is); (case a6 => k_is); (case l6 => k_is)
    (case c6 => k_is); (case k6 => k_is); (case a7 => k_is); (case l7 => k_is); (case c7 => k_is); (case k7 => k_is); (case a8 => k_is); (case l8 => k_is)
    (case c8 => k_is); (case k8 => k_is); (case a9 => k_is); (case l9 => k_is); (case c9 => k_is); (case k9 => k_is); (case a10 => k_is); (case h10 => k_is)
    (case l10 => k_is); (case c10 => k_is); (case k10 => k_is); (case a11 => k_is); (case l11 => k_is); (case c11 => k_is); (case k11 => k_is); (case a12 => k_is)
    (case l12 => k_is); (case c12 => k_is); (case k12 => k_is); (case a13 => k_is); (case l13 => k_is); (case c13 => k_is); (case k13 => k_is); (case a14 => k_is)
    (case l14 => k_is); (case c14 => k_is); (case k14 => k_is); (case a15 => k_is); (case h15 => k_is); (case nf15 => k_is); (case l15 => k_is); (case c15 => k_is)
    (case k15 => k_is); (case a16 => k_is); (case g16 => k_is); (case t16 => k_is); (case r16 => k_is); (case l16 => k_is); (case c16 => k_is); (case k16 => k_is)
    (case a17 => k_is); (case h17 => k_is); (case l17 => k_is); (case c17 => k_is); (case k17 => k_is); (case a18 => k_is); (case g18 => k_is); (case t18 => k_is)
    (case r18 => k_is); (case l18 => k_is); (case c18 => k_is); (case k18 => k_is); (case a19 => k_is); (case h19 => k_is); (case l19 => k_is); (case c19 => k_is)
    (case k19 => k_is); (case a20 => k_is); (case l20 => k_is); (case c20 => k_is); (case k20 => k_is); (case a21 => k_is); (case l21 => k_is); (case c21 => k_is)
    (case k21 => k_is); (case a22 => k_is); (case h22 => k_is); (case l22 => k_is); (case c22 => k_is); (case k22 => k_is); (case a23 => k_is); (case h23 => k_is)
    (case l23 => k_is); (case c23 => k_is); (case k23 => k_is); (case a24 => k_is); (case l24 => k_is); (case c24 => k_is); (case k24 => k_is); (case a25 => k_is)
    (case h25 => k_is); (case l25 => k_is); (case c25 => k_is); (case k25 => k_is); (case a26 => k_is); (case l26 => k_is); (case c26 => k_is); (case k26 => k_is)
    (case z_all => k_is); (case z_bool => k_is); (case z_enumerate => k_is); (case z_int => k_is); (case z_isinstance => k_is); (case z_len => k_is); (case z_list => k_is); (case z_max => k_is)
    (case z_min => k_is); (case z_range => k_is); (case z_str => k_is); (case z_sum => k_is); (case z_tuple => k_is); (case y_MOST_HEAPS => k_is); (case y_MOST_CARDS => k_is); (case pg0 => k_is)
    (case hd0 => k_is); (case po0 => k_is); (case sa0 => k_is); (case ms0 => k_is); (case fn0 => k_is); (case kp0 => k_is); (case pg1 => k_is); (case hd1 => k_is)
    (case po1 => k_is); (case sa1 => k_is); (case ms1 => k_is); (case fn1 => k_is); (case kp1 => k_is); (case ica0 => k_is); (case icn0 => k_is); (case ict0 => k_is)
    (case icm0 => k_is); (case icy0_0 => kit_is); (case icy0_1 => kit_is); (case icy0_2 => kit_is); (case icy0_3 => kit_is); (case icy0_4 => kit_is); (case icy0_5 => kit_is); (case icy0_6 => kit_is)
    (case ics0 => kit_is); (case no_base => k_is); (case no_begun => k_is); (case no_done => k_is); (case no_rows => k_is); (case no_whole => k_is); (case eC2 => k_is); (case hC2 => k_is)
    (case tC2 => k_is); (case eC3 => k_is); (case hC3 => k_is); (case tC3 => k_is); (case eC4 => k_is); (case hC4 => k_is); (case tC4 => k_is); (case eC5 => k_is)
    (case hC5 => k_is); (case tC5 => k_is); (case sb3_5 => first | k_is | rfl); (case sb4_5 => first | k_is | rfl); (case sb5_5 => first | k_is | rfl); (case ga5 => k_is); (case gg5 => k_is); (case xa5 => k_is)
    (case xb5 => k_is); (case xc5 => k_is); (case xd5 => k_is); (case qki_5_2 => kit_is); (case z_super => k_is); (case opq => k_is); (case tops => first | rfl | decide +kernel); (case kC3 => k_is)
    (case xL3 => k_is); (case rv3 => decide +kernel); (case sat3 => k_is); (case ini3 => k_is); (case tf3 => k_is); (case sup3 => ks_is); (case ms3_ => first | k_is | rfl); (case vE3 => k_is)
    (case nf3_index => k_is); (case lk3 => k_is); (case cd3 => k_is); (case lc3 => k_is); (case v23 => rfl); (case wf3 => first | rfl | decide +kernel); (case ce3 => k_is); (case kC4 => k_is)
    (case xL4 => k_is); (case rv4 => decide +kernel); (case sat4 => k_is); (case ini4 => k_is); (case tf4 => k_is); (case sup4 => ks_is); (case ms4_ => first | k_is | rfl); (case vE4 => k_is)
    (case nf4_heap => k_is); (case lk4 => k_is); (case cd4 => k_is); (case lc4 => k_is); (case v24 => rfl); (case wf4 => first | rfl | decide +kernel); (case ce4 => k_is); (case kC5 => k_is)
    (case xi5 => k_exc)

