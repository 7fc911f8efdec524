import PyProof.Rows.All
import Wide.All
import OpenK.AllK
import Wide.FinOn
import HandS.ForMost
import HandS.ForExc
import HandS.TupAny
import HandS.TupMul
import HandS.Conv
import HandS.IsInst
import KE.DataFind
import HandS.Style
import HandS.TupLe
import HandS.Wide
import KE.KTupSum
import HandS.Walk
import HandS.Small
import HandS.Zip
import KE.GoesEnum
import HandS.Property
import HandS.Dict
import HandS.SortOrd
import KE.SortData
import HandS.SlotsOwn
import HandS.DictComp
import HandS.OwnEq
import KE.KExcSuper
import KE.KExcIs
import HandS.Exc
import HandS.ExcOwn
import HandS.ExcInit
import HandS.ExcField
import HandS.ExcIs
import HandS.Text
import HandS.WordsExc
import HandS.ExcCtx
import HandS.HotCalls
import HandS.RaiseFrom
import HandS.SuiteRaise
import PyProof.StrLawsReplace
import PyProof.StrLawsTight
import PyProof.StrLawsChain
import PySem.Challenge.RW_heapleads_k11_texts_refused
set_option Elab.async false
set_option linter.all false
set_option maxRecDepth 100000
set_option autoImplicit false
namespace DL
open PySem L2

/-- pure data: tuples and settled lists by value, things that still change by their place in the store -/
inductive D where
  | dead | non | bl (b : Bool) | int (i : Int) | str (x : Str)
  | tup (xs : List D) | lst (xs : List D)
  | dic (ks : List Key) (xs : List D) | ins (c : Nat) (ns : List Str) (xs : List D)
  | ref (n : Nat) | scr (ns : List Int) | ty (n : String) | xc (a : Addr) (dd : Option Addr) (ns : List Str) (ds : List D)
inductive Ob where
  | lst (xs : List D) | dic (ks : List Key) (xs : List D) | ins (c : Nat) (ns : List Str) (xs : List D)
abbrev Sto := List Ob
abbrev Sl := List D
structure Ct where
  K : PySem.W.Frag
  G : Nat → Addr
  B : List Addr
  O : List Addr
/-- neither in the store nor held back -/
def Ct.av (c : Ct) (a : Addr) : Prop := a ∉ c.O ∧ a ∉ c.B
/-- a tuple that has no dict of its own -/
def TupAt (H : Hp) (a : Addr) (vs : List V) : Prop := ∃ o : Obj, H a = some (.frz o (.tup vs)) ∧ o.dict = none
theorem TupAt.sq {K : PySem.W.Frag} {H : Hp} {a : Addr} {vs : List V} (h : TupAt H a vs) : SqT K H a vs := let ⟨o, e, _⟩ := h; .inl (.inr ⟨o, e⟩)
def ScrK (K : PySem.W.Frag) (a : Addr) (xs : List V) : Prop :=
  ∃ (o : Obj) (its : Array Value) (n : Nat), K.lookup a = some o ∧ o.cls = .type "list" ∧ o.dict = none ∧ o.data = .seq its n ∧ its.size ≤ sizeLine ∧ Vals xs its.toList
mutual
def RD (c : Ct) (H : Hp) : D → V → Prop
  | .dead, _ => False
  | .non, v => v = .non
  | .bl b, v => v = .bl b
  | .int i, v => v = .int i
  | .str x, v => v = .str x
  | .tup ds, v => ∃ a vs, v = .ref a ∧ c.av a ∧ TupAt H a vs ∧ RDs c H ds vs
  | .lst ds, v => ∃ a vs, v = .ref a ∧ c.av a ∧ H a = some (.lst vs) ∧ RDs c H ds vs
  | .dic ks ds, v => ∃ a vs, v = .ref a ∧ c.av a ∧ H a = some (.dK (ks.zip vs)) ∧ ks.length = vs.length ∧ RDs c H ds vs
  | .ins k ns ds, v => ∃ a dx vs, v = .ref a ∧ c.av a ∧ H a = some (.ins (c.G k) dx (ns.zip vs)) ∧ ns.length = vs.length ∧ RDs c H ds vs
  | .ref n, v => ∃ a, c.O[n]? = some a ∧ v = .ref a
  | .scr ns, v => ∃ a, v = .ref a ∧ ((Rd H a (.lst (ns.map V.int)) ∧ c.av a) ∨ ScrK c.K a (ns.map V.int))
  | .ty n, v => v = .ty n
  | .xc a dd ns ds, v => v = .ref a ∧ ((ns = [] ∧ ds = [] ∧ dd = none) ∨ ∃ x vs, dd = some x ∧ c.av x ∧ H x = some (.xd (ns.zip vs)) ∧ ns.length = vs.length ∧ RDs c H ds vs)
def RDs (c : Ct) (H : Hp) : List D → List V → Prop
  | [], vs => vs = []
  | d :: ds, vs => ∃ v vs', vs = v :: vs' ∧ RD c H d v ∧ RDs c H ds vs'
end
def OO (c : Ct) (H : Hp) (a : Addr) : Ob → Prop
  | .lst ds => ∃ vs, H a = some (.lst vs) ∧ RDs c H ds vs
  | .dic ks ds => ∃ vs, H a = some (.dK (ks.zip vs)) ∧ ks.length = vs.length ∧ RDs c H ds vs
  | .ins k ns ds => ∃ dx vs, H a = some (.ins (c.G k) dx (ns.zip vs)) ∧ ns.length = vs.length ∧ RDs c H ds vs
structure Step (O : List Addr) (H : Hp) (O' : List Addr) (H' : Hp) : Prop where
  pre : ∃ t, O' = O ++ t
  kp : ∀ a o, a ∉ O → H a = some o → H' a = some o ∧ a ∉ O'
theorem Step.refl (O : List Addr) (H : Hp) : Step O H O H := ⟨⟨[], by simp⟩, fun _ _ h e => ⟨e, h⟩⟩
theorem Step.trans {O O1 O2 : List Addr} {H H1 H2 : Hp} (a : Step O H O1 H1) (b : Step O1 H1 O2 H2) : Step O H O2 H2 := by
  obtain ⟨t, ht⟩ := a.pre
  obtain ⟨u, hu⟩ := b.pre
  exact ⟨⟨t ++ u, by rw [hu, ht, List.append_assoc]⟩, fun x o h e => let ⟨e1, h1⟩ := a.kp x o h e; b.kp x o h1 e1⟩
abbrev Ct.at (c : Ct) (O : List Addr) : Ct := { c with O := O }
/-- from one state of the world to a later one: what is settled stays, places of the store stay -/
structure Mv (c c' : Ct) (H H' : Hp) : Prop where
  kp : ∀ a o, c.av a → H a = some o → c'.av a ∧ H' a = some o
  rf : ∀ (n : Nat) a, c.O[n]? = some a → c'.O[n]? = some a
  k : c'.K = c.K
  g : c'.G = c.G
mutual
theorem RD.mv {c c' : Ct} {H H' : Hp} (s : Mv c c' H H') : ∀ (d : D) (v : V), RD c H d v → RD c' H' d v
  | .dead, _, h => h
  | .non, _, h => h
  | .bl _, _, h => h
  | .int _, _, h => h
  | .str _, _, h => h
  | .tup ds, v, ⟨a, vs, e, h, ⟨o, ha, hd⟩, r⟩ => let ⟨h', ha'⟩ := s.kp a _ h ha; ⟨a, vs, e, h', ⟨o, ha', hd⟩, RDs.mv s ds vs r⟩
  | .lst ds, v, ⟨a, vs, e, h, ha, r⟩ => let ⟨h', ha'⟩ := s.kp a _ h ha; ⟨a, vs, e, h', ha', RDs.mv s ds vs r⟩
  | .dic ks ds, v, ⟨a, vs, e, h, ha, l, r⟩ => let ⟨h', ha'⟩ := s.kp a _ h ha; ⟨a, vs, e, h', ha', l, RDs.mv s ds vs r⟩
  | .ins k ns ds, v, ⟨a, dx, vs, e, h, ha, l, r⟩ => let ⟨h', ha'⟩ := s.kp a _ h ha; ⟨a, dx, vs, e, h', by rw [s.g]; exact ha', l, RDs.mv s ds vs r⟩
  | .ref n, v, ⟨a, h, e⟩ => ⟨a, s.rf n a h, e⟩
  | .scr ns, v, ⟨a, e, h⟩ => ⟨a, e, by
      rcases h with ⟨h | ⟨o, h⟩, q⟩ | h
      · obtain ⟨g', h'⟩ := s.kp a _ q h
        exact .inl ⟨.inl h', g'⟩
      · obtain ⟨g', h'⟩ := s.kp a _ q h
        exact .inl ⟨.inr ⟨o, h'⟩, g'⟩
      · exact .inr (by rw [s.k]; exact h)⟩
  | .ty _, _, h => h
  | .xc a dd ns ds, v, ⟨e, h⟩ => ⟨e, by
      rcases h with h | ⟨x, vs, e1, h1, h2, l, r⟩
      · exact .inl h
      · obtain ⟨h1', h2'⟩ := s.kp x _ h1 h2
        exact .inr ⟨x, vs, e1, h1', h2', l, RDs.mv s ds vs r⟩⟩
theorem RDs.mv {c c' : Ct} {H H' : Hp} (s : Mv c c' H H') : ∀ (ds : List D) (vs : List V), RDs c H ds vs → RDs c' H' ds vs
  | [], _, h => h
  | d :: ds, _, ⟨v, vs', e, r, t⟩ => ⟨v, vs', e, RD.mv s d v r, RDs.mv s ds vs' t⟩
end
theorem Step.mv {c : Ct} {H H' : Hp} {O' : List Addr} (s : Step c.O H O' H') : Mv c (c.at O') H H' :=
  ⟨fun a o h e => let ⟨e', n⟩ := s.kp a o h.1 e; ⟨⟨n, h.2⟩, e'⟩, fun n a h => by
    obtain ⟨t, ht⟩ := s.pre
    show O'[n]? = some a
    rw [ht]
    exact List.getElem?_append_left (List.getElem?_eq_some_iff.mp h).1 ▸ h, rfl, rfl⟩
theorem RD.step {c : Ct} {H H' : Hp} {O' : List Addr} (s : Step c.O H O' H') (d : D) (v : V) (h : RD c H d v) : RD (c.at O') H' d v := RD.mv s.mv d v h
theorem RDs.step {c : Ct} {H H' : Hp} {O' : List Addr} (s : Step c.O H O' H') (ds : List D) (vs : List V) (h : RDs c H ds vs) : RDs (c.at O') H' ds vs := RDs.mv s.mv ds vs h
theorem RDs.length {c : Ct} {H : Hp} : ∀ {ds : List D} {vs : List V}, RDs c H ds vs → ds.length = vs.length
  | [], _, h => by rw [show _ = _ from h]; rfl
  | d :: ds, _, ⟨v, vs', e, _, t⟩ => by rw [e]; simp [RDs.length t]
theorem RDs.get {c : Ct} {H : Hp} : ∀ {ds : List D} {vs : List V} {i : Nat} {d : D}, RDs c H ds vs → ds[i]? = some d → ∃ v, vs[i]? = some v ∧ RD c H d v
  | [], _, _, _, _, e => by simp at e
  | _ :: _, _, 0, _, ⟨v, vs', e, r, _⟩, h => by simp at h; subst h; exact ⟨v, by rw [e]; rfl, r⟩
  | _ :: ds, _, i + 1, d, ⟨v, vs', e, _, t⟩, h => by
    obtain ⟨u, h1, h2⟩ := RDs.get (i := i) (d := d) t (by simpa using h)
    exact ⟨u, by rw [e]; simpa using h1, h2⟩
theorem RDs.append {c : Ct} {H : Hp} : ∀ {ds es : List D} {vs ws : List V}, RDs c H ds vs → RDs c H es ws → RDs c H (ds ++ es) (vs ++ ws)
  | [], _, _, _, h, g => by rw [show _ = _ from h]; exact g
  | _ :: _, _, _, _, ⟨v, vs', e, r, t⟩, g => by subst e; exact ⟨v, _, rfl, r, RDs.append t g⟩
theorem RDs.take {c : Ct} {H : Hp} : ∀ {ds : List D} {vs : List V} (n : Nat), RDs c H ds vs → RDs c H (ds.take n) (vs.take n)
  | _, _, 0, _ => rfl
  | [], _, _ + 1, h => by rw [show _ = _ from h]; rfl
  | _ :: _, _, n + 1, ⟨v, vs', e, r, t⟩ => by subst e; exact ⟨v, _, rfl, r, RDs.take n t⟩
theorem RDs.drop {c : Ct} {H : Hp} : ∀ {ds : List D} {vs : List V} (n : Nat), RDs c H ds vs → RDs c H (ds.drop n) (vs.drop n)
  | _, _, 0, h => h
  | [], _, _ + 1, h => by rw [show _ = _ from h]; rfl
  | _ :: _, _, n + 1, ⟨v, vs', e, _, t⟩ => by subst e; exact RDs.drop n t
theorem RDs.set {c : Ct} {H : Hp} {d : D} {w : V} (q : RD c H d w) : ∀ {ds : List D} {vs : List V} (n : Nat), RDs c H ds vs → RDs c H (ds.set n d) (vs.set n w)
  | [], _, _, h => by rw [show _ = _ from h]; rfl
  | _ :: _, _, 0, ⟨v, vs', e, _, t⟩ => by subst e; exact ⟨w, _, rfl, q, t⟩
  | _ :: _, _, n + 1, ⟨v, vs', e, r, t⟩ => by subst e; exact ⟨v, _, rfl, r, RDs.set q n t⟩
theorem RDs.one {c : Ct} {H : Hp} {d : D} {v : V} (h : RD c H d v) : RDs c H [d] [v] := ⟨v, [], rfl, h, rfl⟩
theorem RDs.map_int {c : Ct} {H : Hp} : ∀ {ns : List Int} {vs : List V}, RDs c H (ns.map D.int) vs → vs = ns.map V.int
  | [], _, h => h
  | _ :: _, _, ⟨v, vs', e, r, t⟩ => by rw [e, RDs.map_int t, show v = _ from r]; rfl
theorem RDs.of_int {c : Ct} {H : Hp} : ∀ (ns : List Int), RDs c H (ns.map D.int) (ns.map V.int)
  | [] => rfl
  | n :: ns => ⟨_, _, rfl, rfl, RDs.of_int ns⟩

structure RelS (c : Ct) (S : Sto) (H : Hp) : Prop where
  ol : c.O.length = S.length
  nd : c.O.Nodup
  nb : ∀ a ∈ c.O, a ∉ c.B
  hb : ∀ a ∈ c.B, H a ≠ none
  ob : ∀ (n : Nat) (o : Ob) (a : Addr), S[n]? = some o → c.O[n]? = some a → OO c H a o
structure Rel (c : Ct) (S : Sto) (σd : Sl) (σ : L2.St) (H : Hp) : Prop extends RelS c S H where
  len : σd.length = σ.length
  sl : ∀ (i : Nat) d, σd[i]? = some d → d = .dead ∨ ∃ v, σ[i]? = some (some v) ∧ RD c H d v
theorem OO.there {c : Ct} {H : Hp} {a : Addr} {o : Ob} (h : OO c H a o) : ∃ u, H a = some u := by
  cases o with
  | lst _ => exact ⟨_, h.choose_spec.1⟩
  | dic _ _ => exact ⟨_, h.choose_spec.1⟩
  | ins _ _ _ => exact ⟨_, h.choose_spec.choose_spec.1⟩
theorem RelS.fresh {c : Ct} {S : Sto} {H : Hp} (r : RelS c S H) {p : Addr} (h : H p = none) : c.av p := by
  refine ⟨fun hp => ?_, fun hp => r.hb p hp h⟩
  obtain ⟨n, hn, e⟩ := List.getElem_of_mem hp
  have h1 : c.O[n]? = some p := by rw [List.getElem?_eq_getElem hn, e]
  have h2 : n < S.length := r.ol ▸ hn
  obtain ⟨u, hu⟩ := (r.ob n S[n] p (List.getElem?_eq_getElem h2) h1).there
  rw [h] at hu
  cases hu
theorem Step.new {O : List Addr} {H : Hp} {p : Addr} {o : HO} (h : H p = none) : Step O H O (upd H p o) :=
  ⟨⟨[], by simp⟩, fun a u n e => ⟨by rw [upd_ne (ne_of_none e h)]; exact e, n⟩⟩
theorem OO.mv {c c' : Ct} {H H' : Hp} (s : Mv c c' H H') {a : Addr} {o : Ob} (k : ∀ u, H a = some u → H' a = some u) (h : OO c H a o) : OO c' H' a o := by
  cases o with
  | lst ds => obtain ⟨vs, h1, h2⟩ := h; exact ⟨vs, k _ h1, RDs.mv s ds vs h2⟩
  | dic ks ds => obtain ⟨vs, h1, l, h2⟩ := h; exact ⟨vs, k _ h1, l, RDs.mv s ds vs h2⟩
  | ins x ns ds => obtain ⟨dx, vs, h1, l, h2⟩ := h; exact ⟨dx, vs, by rw [s.g]; exact k _ h1, l, RDs.mv s ds vs h2⟩
theorem OO.step {c : Ct} {H H' : Hp} {O' : List Addr} (s : Step c.O H O' H') {a : Addr} {o : Ob} (k : ∀ u, H a = some u → H' a = some u) (h : OO c H a o) : OO (c.at O') H' a o := OO.mv s.mv k h
/-- a new thing beside all -/
theorem RelS.new {c : Ct} {S : Sto} {H : Hp} (r : RelS c S H) {p : Addr} {o : HO} (h : H p = none) : RelS c S (upd H p o) :=
  ⟨r.ol, r.nd, r.nb, fun a ha e => r.hb a ha (by
      by_cases q : a = p
      · subst q; exact h
      · rw [upd_ne q] at e; exact e), fun n ob a h1 h2 => OO.step (c := c) (O' := c.O) (Step.new h) (fun u e => by rw [upd_ne (ne_of_none e h)]; exact e) (r.ob n ob a h1 h2)⟩
theorem Rel.step {c : Ct} {S S' : Sto} {σd : Sl} {σ : L2.St} {H H' : Hp} {O' : List Addr} (r : Rel c S σd σ H) (s : Step c.O H O' H') (r' : RelS (c.at O') S' H') : Rel (c.at O') S' σd σ H' :=
  { r' with len := r.len, sl := fun i d h => (r.sl i d h).imp id fun ⟨v, h1, h2⟩ => ⟨v, h1, RD.step s d v h2⟩ }
theorem Rel.new {c : Ct} {S : Sto} {σd : Sl} {σ : L2.St} {H : Hp} (r : Rel c S σd σ H) {p : Addr} {o : HO} (h : H p = none) : Rel c S σd σ (upd H p o) :=
  r.step (O' := c.O) (Step.new h) (r.toRelS.new h)
/-- a new thing of the store -/
theorem RelS.alloc {c : Ct} {S : Sto} {H : Hp} (r : RelS c S H) {p : Addr} {u : HO} {o : Ob} (h : H p = none) (ho : OO (c.at (c.O ++ [p])) (upd H p u) p o) : RelS (c.at (c.O ++ [p])) (S ++ [o]) (upd H p u) ∧ Step c.O H (c.O ++ [p]) (upd H p u) := by
  have fr := r.fresh h
  have st : Step c.O H (c.O ++ [p]) (upd H p u) := ⟨⟨[p], rfl⟩, fun a o n e => by
    have ne := ne_of_none e h
    exact ⟨by rw [upd_ne ne]; exact e, by simp [n, ne]⟩⟩
  refine ⟨⟨by simp [r.ol], ?_, ?_, ?_, ?_⟩, st⟩
  · exact List.nodup_append.mpr ⟨r.nd, by simp, fun a ha b hb e => by
      have hb' : b = p := by simpa using hb
      rw [hb'] at e
      rw [e] at ha
      exact fr.1 ha⟩
  · intro a ha
    rcases List.mem_append.mp ha with q | q
    · exact r.nb a q
    · have q' : a = p := by simpa using q
      rw [q']; exact fr.2
  · intro a ha e
    exact r.hb a ha (by
      by_cases q : a = p
      · subst q; exact h
      · rw [upd_ne q] at e; exact e)
  · intro n ob a h1 h2
    by_cases hn : n < S.length
    · rw [List.getElem?_append_left hn] at h1
      have h2' : c.O[n]? = some a := by
        rw [show (c.at (c.O ++ [p])).O = c.O ++ [p] from rfl, List.getElem?_append_left (r.ol ▸ hn)] at h2
        exact h2
      exact OO.step st (fun v e => by rw [upd_ne (ne_of_none e h)]; exact e) (r.ob n ob a h1 h2')
    · have hn' : S.length ≤ n := Nat.le_of_not_lt hn
      rw [List.getElem?_append_right hn'] at h1
      have e0 : n - S.length = 0 := by
        cases q : n - S.length with
        | zero => rfl
        | succ m => rw [q] at h1; simp at h1
      rw [e0] at h1
      have h1' : o = ob := by simpa using h1
      have h2' : a = p := by
        rw [show (c.at (c.O ++ [p])).O = c.O ++ [p] from rfl, List.getElem?_append_right (r.ol ▸ hn'), r.ol, e0] at h2
        simpa using h2.symm
      rw [← h1', h2']
      exact ho
theorem Step.write {O : List Addr} {H : Hp} {a : Addr} {u : HO} (h : a ∈ O) : Step O H O (upd H a u) :=
  ⟨⟨[], by simp⟩, fun b o n e => ⟨by
    have ne : b ≠ a := fun q => n (by rw [q]; exact h)
    rw [upd_ne ne]
    exact e, n⟩⟩
theorem mem_of_at {O : List Addr} {n : Nat} {a : Addr} (h : O[n]? = some a) : a ∈ O := List.mem_of_getElem? h
/-- a thing of the store is changed -/
theorem RelS.write {c : Ct} {S : Sto} {H : Hp} (r : RelS c S H) {n : Nat} {a : Addr} {u : HO} {o : Ob} (h : c.O[n]? = some a) (ho : OO c (upd H a u) a o) : RelS c (S.set n o) (upd H a u) ∧ Step c.O H c.O (upd H a u) := by
  have st : Step c.O H c.O (upd H a u) := Step.write (mem_of_at h)
  refine ⟨⟨by simp [r.ol], r.nd, r.nb, fun b hb e => ?_, fun m ob b h1 h2 => ?_⟩, st⟩
  · by_cases q : b = a
    · subst q; rw [upd_same] at e; cases e
    · rw [upd_ne q] at e; exact r.hb b hb e
  · by_cases q : m = n
    · subst q
      have e : b = a := Option.some.inj (h2.symm.trans h)
      subst e
      rw [List.getElem?_set_self (by have := (List.getElem?_eq_some_iff.mp h).1; rw [r.ol] at this; exact this)] at h1
      rw [← Option.some.inj h1]
      exact ho
    · rw [List.getElem?_set_ne (fun z => q z.symm)] at h1
      have ne : b ≠ a := fun z => by
        subst z
        exact q ((List.getElem?_inj (List.getElem?_eq_some_iff.mp h2).1 r.nd).mp (h2.trans h.symm))
      exact OO.step (c := c) (O' := c.O) st (fun v e => by rw [upd_ne ne]; exact e) (r.ob m ob b h1 h2)

inductive R (α : Type) where
  | ok (a : α) (S : Sto)
  | exc (k : Nat) (ns : List Str) (ds : List D) (S : Sto)
  | bad
abbrev E := Sl → Sto → R D
inductive RS where
  | nx (σ : Sl) (S : Sto) | rt (d : D) (S : Sto) | bk (σ : Sl) (S : Sto) | ct (σ : Sl) (S : Sto)
  | exc (k : Nat) (ns : List Str) (ds : List D) (σ : Sl) (S : Sto) | bad
abbrev MS := Sl → Sto → RS
/-- the dict of an exception -/
def XOk (c : Ct) (H : Hp) (ns : List Str) (ds : List D) (dd : Option Addr) : Prop :=
  (ns = [] ∧ ds = [] ∧ dd = none) ∨ ∃ a vs, dd = some a ∧ c.av a ∧ H a = some (.xd (ns.zip vs)) ∧ ns.length = vs.length ∧ RDs c H ds vs
/-- what stands behind a piece of code that gives an a, told by a b -/
def Post {α β : Type} (rel : Ct → Hp → α → β → Prop) (c : Ct) (W : WX) (σ : L2.St) (σd : Sl) (H : Hp) (r : R α) (Q : β → Hp → Prop) : Prop := match r with
  | .ok d S' => ∀ v O' H', Rel (c.at O') S' σd σ H' → rel (c.at O') H' d v → Step c.O H O' H' → Q v H'
  | .exc k ns ds S' => ∀ dd O' H', Rel (c.at O') S' σd σ H' → XOk (c.at O') H' ns ds dd → Step c.O H O' H' → W (.ref (c.G k)) dd σ H'
  | .bad => False
def PostS (c : Ct) (W : WX) (H : Hp) (r : RS) (J : Ends) : Prop := match r with
  | .nx σd' S' => ∀ σ' O' H', Rel (c.at O') S' σd' σ' H' → Step c.O H O' H' → J.nx σ' H'
  | .bk σd' S' => ∀ σ' O' H', Rel (c.at O') S' σd' σ' H' → Step c.O H O' H' → J.bk σ' H'
  | .ct σd' S' => ∀ σ' O' H', Rel (c.at O') S' σd' σ' H' → Step c.O H O' H' → J.ct σ' H'
  | .rt d S' => ∀ v O' H', RelS (c.at O') S' H' → RD (c.at O') H' d v → Step c.O H O' H' → J.rt v H'
  | .exc k ns ds σd' S' => ∀ dd σ' O' H', Rel (c.at O') S' σd' σ' H' → XOk (c.at O') H' ns ds dd → Step c.O H O' H' → W (.ref (c.G k)) dd σ' H'
  | .bad => False
/-- the fixed part: the written part, the classes -/
structure Gx where
  K : PySem.W.Frag
  G : Nat → Addr
abbrev M (α : Type) := Sl → Sto → R α
def rdG {α β : Type} (rel : Ct → Hp → α → β → Prop) (g : Gx) (W : WX) (m : M α) : L2.St → Hp → (β → Hp → Prop) → Prop :=
  fun σ H Q => ∃ B O S σd, Rel ⟨g.K, g.G, B, O⟩ S σd σ H ∧ Post rel ⟨g.K, g.G, B, O⟩ W σ σd H (m σd S) Q
abbrev same {α : Type} : Ct → Hp → α → α → Prop := fun _ _ a b => a = b
abbrev rdE (g : Gx) (W : WX) (m : M D) : TE := rdG RD g W m
abbrev rdA (g : Gx) (W : WX) (m : M (List D)) : TA := rdG RDs g W m
abbrev rdT (g : Gx) (W : WX) (m : M Bool) : TT := rdG same g W m
abbrev rdO (g : Gx) (W : WX) (m : M (Option Int)) : TO := rdG same g W m
def rdS (g : Gx) (W : WX) (m : MS) : TS := fun J σ H => ∃ B O S σd, Rel ⟨g.K, g.G, B, O⟩ S σd σ H ∧ PostS ⟨g.K, g.G, B, O⟩ W H (m σd S) J
def mB {α β : Type} (a : M α) (f : α → M β) : M β := fun σd S => match a σd S with
  | .ok x S1 => f x σd S1
  | .exc k ns ds S1 => .exc k ns ds S1
  | .bad => .bad
section
variable {α β α' β' : Type} {rel : Ct → Hp → α → β → Prop} {rel' : Ct → Hp → α' → β' → Prop} {g : Gx} {W : WX} {c : Ct} {S S1 : Sto} {σd : Sl} {σ : L2.St} {H H1 : Hp} {O1 : List Addr}
theorem Post.step {r : R α} {Q : β → Hp → Prop} (s : Step c.O H O1 H1) (p : Post rel c W σ σd H r Q) : Post rel (c.at O1) W σ σd H1 r Q := by
  cases r with
  | ok d S' => exact fun v O' H' h1 h2 h3 => p v O' H' h1 h2 (s.trans h3)
  | exc k ns ds S' => exact fun dd O' H' h1 h2 h3 => p dd O' H' h1 h2 (s.trans h3)
  | bad => exact p
theorem PostS.step {r : RS} {J : Ends} (s : Step c.O H O1 H1) (p : PostS c W H r J) : PostS (c.at O1) W H1 r J := by
  cases r with
  | nx d S' => exact fun v O' H' h1 h3 => p v O' H' h1 (s.trans h3)
  | bk d S' => exact fun v O' H' h1 h3 => p v O' H' h1 (s.trans h3)
  | ct d S' => exact fun v O' H' h1 h3 => p v O' H' h1 (s.trans h3)
  | rt d S' => exact fun v O' H' h1 h2 h3 => p v O' H' h1 h2 (s.trans h3)
  | exc k ns ds _ S' => exact fun dd σ' O' H' h1 h2 h3 => p dd σ' O' H' h1 h2 (s.trans h3)
  | bad => exact p
theorem rdG_mono {m : M α} {Q Q' : β → Hp → Prop} (h : rdG rel g W m σ H Q) (q : ∀ v H', Q v H' → Q' v H') : rdG rel g W m σ H Q' := by
  obtain ⟨B, O, S, σd, r, p⟩ := h
  refine ⟨B, O, S, σd, r, ?_⟩
  revert p
  cases m σd S with
  | ok d S' => exact fun p v O' H' h1 h2 h3 => q _ _ (p v O' H' h1 h2 h3)
  | exc k ns ds S' => exact fun p => p
  | bad => exact fun p => p
/-- a first part runs, then the rest -/
theorem rd_then {K : PySem.W.Frag} {G : Nat → Addr} {B O : List Addr} {a : M α} {f : α → M α'} {Q : β' → Hp → Prop} (r : Rel ⟨K, G, B, O⟩ S σd σ H) (p : Post rel' ⟨K, G, B, O⟩ W σ σd H (mB a f σd S) Q) :
    rdG rel ⟨K, G⟩ W a σ H fun v H1 => ∃ d O1 S1, Rel ⟨K, G, B, O1⟩ S1 σd σ H1 ∧ rel ⟨K, G, B, O1⟩ H1 d v ∧ Step O H O1 H1 ∧ Post rel' ⟨K, G, B, O1⟩ W σ σd H1 (f d σd S1) Q := by
  refine ⟨B, O, S, σd, r, ?_⟩
  unfold mB at p
  revert p
  cases a σd S with
  | ok d S' => exact fun p v O' H' h1 h2 h3 => ⟨d, O', S', h1, h2, h3, Post.step (c := ⟨K, G, B, O⟩) h3 p⟩
  | exc k ns ds S' => exact fun p dd O' H' h1 h2 h3 => p dd O' H' h1 h2 h3
  | bad => exact fun p => p.elim
theorem post_val {Q : β → Hp → Prop} {d : α} {v : β} (p : Post rel c W σ σd H (.ok d S) Q) (r : Rel c S σd σ H) (h : rel c H d v) : Q v H := p v c.O H r h (Step.refl _ _)
theorem post_new {Q : β → Hp → Prop} {d : α} {v : β} {a : Addr} {o : HO} (p : Post rel c W σ σd H (.ok d S) Q) (r : Rel c S σd σ H) (n : H a = none) (h : rel c (upd H a o) d v) : Q v (upd H a o) :=
  p v c.O _ (r.new n) h (Step.new n)
theorem post_newT {Q : VK} {ds : List D} {vs : List V} (p : Post RD c W σ σd H (.ok (.tup ds) S) Q) (r : Rel c S σd σ H) (h : RDs c H ds vs) : ∀ a o, o.dict = none → H a = none → Q (.ref a) (upd H a (.frz o (.tup vs))) :=
  fun a o e n => post_new p r n ⟨a, vs, rfl, r.fresh n, ⟨o, upd_same, e⟩, RDs.step (c := c) (O' := c.O) (Step.new n) ds vs h⟩
theorem post_newL {Q : VK} {ds : List D} {vs : List V} (p : Post RD c W σ σd H (.ok (.lst ds) S) Q) (r : Rel c S σd σ H) (h : RDs c H ds vs) : ∀ a, H a = none → Q (.ref a) (upd H a (.lst vs)) :=
  fun a n => post_new p r n ⟨a, vs, rfl, r.fresh n, upd_same, RDs.step (c := c) (O' := c.O) (Step.new n) ds vs h⟩
end
/-- a list that was made just now and that nothing else holds -/
def PostN (c : Ct) (W : WX) (σ : L2.St) (σd : Sl) (H : Hp) (r : R (List D)) (Q : VK) : Prop := match r with
  | .ok ds S' => ∀ p vs O' H', H p = none → Rel ⟨c.K, c.G, p :: c.B, O'⟩ S' σd σ H' → p ∉ c.B → H' p = some (.lst vs) → RDs ⟨c.K, c.G, p :: c.B, O'⟩ H' ds vs → Step c.O H O' H' → Q (.ref p) H'
  | .exc k ns ds S' => ∀ dd O' H', Rel (c.at O') S' σd σ H' → XOk (c.at O') H' ns ds dd → Step c.O H O' H' → W (.ref (c.G k)) dd σ H'
  | .bad => False
def rdN (g : Gx) (W : WX) (m : M (List D)) : TE := fun σ H Q => ∃ B O S σd, Rel ⟨g.K, g.G, B, O⟩ S σd σ H ∧ PostN ⟨g.K, g.G, B, O⟩ W σ σd H (m σd S) Q
section
variable {α β : Type} {rel : Ct → Hp → α → β → Prop} {g : Gx} {W : WX} {c : Ct} {S S1 : Sto} {σd : Sl} {σ : L2.St} {H H1 : Hp} {O1 : List Addr}
theorem mv_ban {p : Addr} {o : HO} (h : H p = none) : Mv c { c with B := p :: c.B } H (upd H p o) :=
  ⟨fun a u q e => ⟨⟨q.1, fun z => by
      rcases List.mem_cons.mp z with z | z
      · rw [z, h] at e; cases e
      · exact q.2 z⟩, by rw [upd_ne (ne_of_none e h)]; exact e⟩, fun _ _ e => e, rfl, rfl⟩
theorem Rel.ban (r : Rel c S σd σ H) {p : Addr} {o : HO} (h : H p = none) : Rel { c with B := p :: c.B } S σd σ (upd H p o) where
  ol := r.ol
  nd := r.nd
  nb := fun a ha z => by
    rcases List.mem_cons.mp z with z | z
    · rw [z] at ha; exact (r.fresh h).1 ha
    · exact r.nb a ha z
  hb := fun a ha e => by
    rcases List.mem_cons.mp ha with z | z
    · rw [z, upd_same] at e; cases e
    · refine r.hb a z ?_
      by_cases q : a = p
      · rw [q]; exact h
      · rw [upd_ne q] at e; exact e
  ob := fun n o' a h1 h2 => OO.mv (mv_ban h) (fun u e => by rw [upd_ne (ne_of_none e h)]; exact e) (r.ob n o' a h1 h2)
  len := r.len
  sl := fun i d e => (r.sl i d e).imp id fun ⟨v, h1, h2⟩ => ⟨v, h1, RD.mv (mv_ban h) d v h2⟩
theorem mv_unban {p : Addr} : Mv { c with B := p :: c.B } c H H :=
  ⟨fun a u q e => ⟨⟨q.1, fun z => q.2 (List.mem_cons_of_mem _ z)⟩, e⟩, fun _ _ e => e, rfl, rfl⟩
theorem Rel.unban {p : Addr} (r : Rel { c with B := p :: c.B } S σd σ H) : Rel c S σd σ H where
  ol := r.ol
  nd := r.nd
  nb := fun a ha z => r.nb a ha (List.mem_cons_of_mem _ z)
  hb := fun a ha e => r.hb a (List.mem_cons_of_mem _ ha) e
  ob := fun n o' a h1 h2 => OO.mv mv_unban (fun u e => e) (r.ob n o' a h1 h2)
  len := r.len
  sl := fun i d e => (r.sl i d e).imp id fun ⟨v, h1, h2⟩ => ⟨v, h1, RD.mv mv_unban d v h2⟩
theorem Step.back {S' : Sto} (s : Step c.O H O1 H1) (r : RelS (c.at O1) S' H1) {p : Addr} (h : H1 p = none) : H p = none := by
  cases e : H p with
  | none => rfl
  | some o =>
    by_cases q : p ∈ c.O
    · obtain ⟨t, ht⟩ := s.pre
      exact absurd (show p ∈ (c.at O1).O by rw [show (c.at O1).O = c.O ++ t from ht]; exact List.mem_append_left _ q) (r.fresh h).1
    · rw [(s.kp p o q e).1] at h; cases h
theorem PostN.step {r : R (List D)} {Q : VK} {S' : Sto} (s : Step c.O H O1 H1) (rl : RelS (c.at O1) S' H1) (p : PostN c W σ σd H r Q) : PostN (c.at O1) W σ σd H1 r Q := by
  cases r with
  | ok d S' => exact fun v vs O' H' h0 h1 h2 h3 h4 h5 => p v vs O' H' (s.back rl h0) h1 h2 h3 h4 (s.trans h5)
  | exc k ns ds S' => exact fun dd O' H' h1 h2 h3 => p dd O' H' h1 h2 (s.trans h3)
  | bad => exact p
theorem rdN_then {K : PySem.W.Frag} {G : Nat → Addr} {B O : List Addr} {a : M α} {f : α → M (List D)} {Q : VK} (r : Rel ⟨K, G, B, O⟩ S σd σ H) (p : PostN ⟨K, G, B, O⟩ W σ σd H (mB a f σd S) Q) :
    rdG rel ⟨K, G⟩ W a σ H fun v H1 => ∃ d O1 S1, Rel ⟨K, G, B, O1⟩ S1 σd σ H1 ∧ rel ⟨K, G, B, O1⟩ H1 d v ∧ Step O H O1 H1 ∧ PostN ⟨K, G, B, O1⟩ W σ σd H1 (f d σd S1) Q := by
  refine ⟨B, O, S, σd, r, ?_⟩
  unfold mB at p
  revert p
  cases a σd S with
  | ok d S' => exact fun p v O' H' h1 h2 h3 => ⟨d, O', S', h1, h2, h3, PostN.step (c := ⟨K, G, B, O⟩) h3 h1.toRelS p⟩
  | exc k ns ds S' => exact fun p dd O' H' h1 h2 h3 => p dd O' H' h1 h2 h3
  | bad => exact fun p => p.elim
theorem postN_new {Q : VK} {ds : List D} {vs : List V} (p : PostN c W σ σd H (.ok ds S) Q) (r : Rel c S σd σ H) (h : RDs c H ds vs) : ∀ a, H a = none → Q (.ref a) (upd H a (.lst vs)) :=
  fun a n => p a vs c.O _ n (r.ban n) (r.fresh n).2 upd_same (RDs.mv (mv_ban n) ds vs h) (Step.new n)
end
theorem PE.imp {X : Cx} {e : Expr} {t t' : TE} (h : PE X e t) (i : ∀ σ H Q, t' σ H Q → t σ H Q) : PE X e t' := ⟨fun pins s σ H Q I q => h.run pins s σ H Q I (i σ H Q q)⟩
theorem PA.imp {X : Cx} {e : List Expr} {t t' : TA} (h : PA X e t) (i : ∀ σ H Q, t' σ H Q → t σ H Q) : PA X e t' := ⟨fun pos pins s σ H Q I q => h.run pos pins s σ H Q I (i σ H Q q)⟩
theorem PS.imp {X : Cx} {e : Stmt} {t t' : TS} (h : PS X e t) (i : ∀ D σ H, t' D σ H → t D σ H) : PS X e t' := ⟨fun pins s σ H D I q => h.run pins s σ H D I (i D σ H q)⟩
theorem PSs.imp {X : Cx} {e : List Stmt} {t t' : TS} (h : PSs X e t) (i : ∀ D σ H, t' D σ H → t D σ H) : PSs X e t' := ⟨fun pins s σ H D I q => h.run pins s σ H D I (i D σ H q)⟩
theorem PT.imp {X : Cx} {e : Expr} {t t' : TT} (h : PT X e t) (i : ∀ σ H Q, t' σ H Q → t σ H Q) : PT X e t' := ⟨fun pins s σ H Q I q => h.run pins s σ H Q I (i σ H Q q)⟩
theorem PW.imp {X : Cx} {e : Expr} {t t' : TT} (h : PW X e t) (i : ∀ σ H Q, t' σ H Q → t σ H Q) : PW X e t' := ⟨fun wh pins s σ H Q I q => h.run wh pins s σ H Q I (i σ H Q q)⟩
theorem PO.imp {X : Cx} {e : Option Expr} {t t' : TO} (h : PO X e t) (i : ∀ σ H Q, t' σ H Q → t σ H Q) : PO X e t' := ⟨fun pins s σ H Q I q => h.run pins s σ H Q I (i σ H Q q)⟩
end DL

namespace DL
open PySem PySem.Spec PyProof.Rows L2
section
variable {X : Cx} {pins : List (Addr × Obj)} {σ : L2.St} {H : Hp} {s : Shared}
/-- what a rule that lays a tuple asks -/
abbrev NewT (xs : List V) (H : Hp) (Q : VK) : Prop := ∀ p o, o.dict = none → H p = none → Q (.ref p) (upd H p (.frz o (.tup xs)))
theorem laidT {its : List Value} {xs : List V} {t' : Nat} (I : Inv X pins σ H s) (r : Vals xs its) (hz : xs.length ≤ sizeLine) :
    Inv X pins σ (upd H s.heap.objs.size (.frz { cls := .type "tuple", data := .seq its.toArray } (.tup xs))) { s with heap := s.heap.push { cls := .type "tuple", data := .seq its.toArray }, toks := t' } :=
  I.laid (t' := t') (o := .frz { cls := .type "tuple", data := .seq its.toArray } (.tup xs)) (fun b u e => Heap.get?_push_of_some _ e) (Nat.le_refl _) ⟨Heap.get?_push_size _ rfl, hz, its, r, IsTup.new _ _⟩
theorem endT {its : List Value} {xs : List V} {Q : VK} (I : Inv X pins σ H s) (r : Vals xs its) (hz : xs.length ≤ sizeLine) (q : NewT xs H Q) :
    EP X pins σ Q (.ref s.heap.objs.size) { s with heap := s.heap.push { cls := .type "tuple", data := .seq its.toArray } } :=
  ⟨.ref s.heap.objs.size, _, laidT (t' := s.toks) I r hz, rfl, q _ _ rfl (I.hok.fresh (Nat.le_refl _))⟩
end
section
variable {X : Cx} {es : List Expr} {e : Expr} {pos : Pos} {ta : TA} {te : TE}
def tTupF (t : TA) : TE := fun σ H Q => t σ H fun xs H1 => xs.length ≤ sizeLine ∧ NewT xs H1 Q
theorem pe_tupF {x1} (h : PA X es ta) : PE X (.Tuple es x1 pos) (tTupF ta) :=
  ⟨fun pins s σ H Q I hq => wpAny_Tuple_spliced (thn (h.run pos pins s σ H _ I hq) fun us s1 ⟨xs, H1, I1, r, z, q⟩ => ⟨by rw [← r.length]; exact z, endT I1 r z q⟩)⟩
/-- tuple(x) -/
def rTupOf (K : PySem.W.Frag) : List V → Hp → VK → Prop := fun xs H Q => ∃ p ys, xs = [.ref p] ∧ ((SqL K H p ys ∧ NewT ys H Q) ∨ (SqT K H p ys ∧ Q (.ref p) H))
theorem call_tupF : CallR X (.type "tuple") (rTupOf X.K) := by
  intro pins s σ H xs us Q I r h
  obtain ⟨p, ys, rfl, h⟩ := h
  obtain ⟨u, rfl, rx⟩ := vals1 r
  cases rx
  rcases h with ⟨hq, q⟩ | ⟨hq, q⟩
  · obtain ⟨its, r', pl, hz⟩ := I.list hq
    refine call_tuple_list pl.isList (fun h' kp => ?_) (by rw [List.size_toArray, ← r'.length]; exact hz)
    exact endT (s := { s with heap := h' }) (I.kept (t' := s.toks) kp) r' hz q
  · obtain ⟨its, r', pl, hz⟩ := I.tuple hq
    exact call_tuple_same pl ⟨.ref p, H, I, rfl, q⟩
/-- t + u -/
def rCatF (K : PySem.W.Frag) : R2 := fun x y H Q => ∃ a b xs ys, x = .ref a ∧ y = .ref b ∧ SqT K H a xs ∧ SqT K H b ys ∧ xs.length + ys.length ≤ sizeLine ∧
  (xs = [] → Q (.ref b) H) ∧ (xs ≠ [] → ys = [] → Q (.ref a) H) ∧ (xs ≠ [] → ys ≠ [] → NewT (xs ++ ys) H Q)
theorem op_catF : OpR X (binaryOp .Add) (rCatF X.K) := by
  intro pins s σ H x y v u Q I rx ry h
  obtain ⟨a, b, xs, ys, rfl, rfl, ha, hb, hz, q0, q1, q2⟩ := h
  cases rx
  cases ry
  obtain ⟨its, r1, p1, _⟩ := I.tuple ha
  obtain ⟨its2, r2, p2, _⟩ := I.tuple hb
  by_cases hx : xs = []
  · subst hx
    cases r1
    exact cat_tup0 p1 p2 ⟨.ref b, H, I, rfl, q0 rfl⟩
  · refine HT.cat_tup p1 p2 (fun z => hx (r1.nil_iff.mp z)) (fun z => ⟨.ref a, H, I, rfl, q1 hx (r2.nil_iff.mp z)⟩) (fun z => ?_) (by rw [← r1.length, ← r2.length]; exact hz)
    exact endT I (r1.append r2) (by rw [List.length_append]; exact hz) (q2 hx fun w => z (r2.nil_iff.mpr w))
/-- t[lo:hi] -/
def rSlF (K : PySem.W.Frag) : V → Option Int → Option Int → Hp → VK → Prop := fun x lo hi H Q => ∃ a xs, x = .ref a ∧ SqT K H a xs ∧ (cutV xs lo hi = xs → Q (.ref a) H) ∧ NewT (cutV xs lo hi) H Q
theorem cut_whole {xs : List V} {lo hi : Option Int} (h : HT.sIx xs.length 0 lo = 0 ∧ HT.sIx xs.length xs.length hi = xs.length) : cutV xs lo hi = xs := by
  unfold cutV
  rw [h.1, h.2]
  simp
theorem sl_tupF : SlR X (rSlF X.K) := by
  intro pins s σ H x v vl vu lo hi sl Q I rx hs pl pu h
  obtain ⟨a, xs, rfl, hx, q1, q2⟩ := h
  cases rx
  obtain ⟨its, r, ht, hz⟩ := I.tuple hx
  have hlen : its.toArray.size = xs.length := by rw [List.size_toArray]; exact r.length.symm
  refine ⟨"tuple", _, PyProof.Rows.slot_tuple_getitem.lookup, ht.typeIs, ?_⟩
  by_cases hw : HT.sIx xs.length 0 lo = 0 ∧ HT.sIx xs.length xs.length hi = xs.length
  · exact getItem_tuple_whole ht hs pl pu (by rw [hlen]; exact hw) ⟨.ref a, H, I, rfl, q1 (cut_whole hw)⟩
  · refine HT.getItem_tuple_cut ht hs pl pu (by rw [hlen]; exact hw) ?_ (by rw [hlen]; exact hz)
    rw [hlen]
    exact endT I ((r.drop (HT.sIx xs.length 0 lo)).take (HT.sIx xs.length xs.length hi - HT.sIx xs.length 0 lo)) (Nat.le_trans (cutV_length xs lo hi) hz) q2
/-- tuple(range(..)) -/
def tTupRgF (te : L2.St → Hp → (Int → Int → Hp → Prop) → Prop) : TE := fun σ H Q => te σ H fun a b H1 => RgOk a b ∧ NewT (rgV a b) H1 Q
theorem pe_tupRgF {p : Pos} {te : L2.St → Hp → (Int → Int → Hp → Prop) → Prop} (hc : X.calm = true) (hg : Gl X "tuple") (hm : X.mg "tuple" = none) (he : PRg X e te) (na : starEach [e] X.env = (false, eval e X.env) :: starEach [] X.env := by rfl) : PE X (.Call (.Name "tuple" p) [e] [] pos) (tTupRgF te) := by
  refine ⟨fun pins s σ H Q I h => ?_⟩
  refine Call_ (ld_blt I hg hm boot_tuple (PyProof.Rows.callWith_type1 (args_cons (thn (he pins s σ H _ I h) fun x s1 ⟨r, a, b, t, u, v, H1, ex, hr, I1, ok, q⟩ => args_nil ?_) na) na))
  subst ex
  obtain ⟨b1, b2, b3, b4, b5⟩ := ok
  refine call_tuple_range (n := (b - a).toNat) (I1.ok.hd hc) hr (small_one b1 b2 b3 b4) (rangeSize_nat a b) b5 fun h' tk acc hk hi => ?_
  have e : acc = acc.toList.toArray := by rw [Array.toArray_toList]
  have I2 : Inv X pins σ H1 { s1 with heap := h', toks := tk } := I1.kept hk
  rw [e]
  exact endT (s := { s1 with heap := h', toks := tk }) I2 (vals_rg hi) (by rw [rgV_length, sizeLine_eq]; omega) q
/-- t.count(x), flat things: the method of a tuple of its own -/
def tCountT (to te : TE) : TE := fun σ H Q => to σ H fun x H1 => ∃ a xs, x = .ref a ∧ TupAt H1 a xs ∧ te σ H1 fun y H2 => TupAt H2 a xs ∧ flatV y = true ∧ xs.all flatV = true ∧ Q (.int ((xs.countP fun z => eqV z y) : Nat)) H2
theorem countP_vals {y : V} : ∀ {xs : List V} {us : List Value}, Vals xs us → xs.all flatV = true → us.countP (eqU y) = xs.countP fun z => eqV z y
  | _, _, .nil, _ => rfl
  | _, _, .cons r t, h => by
    rw [List.all_cons, Bool.and_eq_true] at h
    rw [List.countP_cons, List.countP_cons, countP_vals t h.2, eqU_of r h.1]
theorem pe_countT {o : Expr} {apos : Pos} {to : TE} (ho : PE X o to) (he : PE X e te)
    (hbase : attributeBase o "count" X.env (eval o X.env) = eval o X.env := by rfl) (hline : (apos.endLine == pos.line) = true := by rfl) (hs : starEach [e] X.env = [(false, eval e X.env)] := by rfl) :
    PE X (.Call (.Attribute o "count" apos) [e] [] pos) (tCountT to te) := by
  refine ⟨fun pins s σ H Q I h => ?_⟩
  refine wpAny_Call_method_late hbase (by rw [hs]; rfl) hline rfl (thn (ho.run pins s σ H _ I h) fun v s1 ⟨x, H1, I1, r1, a, xs, ex, ta, q1⟩ => ?_)
  subst ex
  cases r1
  obtain ⟨ob, hob, hdn⟩ := ta
  obtain ⟨hg, _⟩ := (show ObjOk X.prog X.w H1 s1.heap a (.frz ob (.tup xs)) from I1.hok a _ hob)
  obtain ⟨its, rv, ht, hz⟩ := I1.tuple (X := X) (.inl (.inr ⟨ob, hob⟩))
  refine ⟨"tuple", "tuple.count", PySem.F.plainAttrs_tuple, PySem.F.slot_tuple_count, PySem.F.type_tuple_count, ht.typeIs, fun b eb => ?_, ?_⟩
  · cases eb
    exact ⟨ob, hg, hdn⟩
  · rw [hs]
    refine Calls.callWith_builtin rfl (Calls.evalArgs_plain ?_)
    refine Calls.spliced_cons (thn (he.run pins s1 σ H1 _ I1 q1) fun w s2 ⟨y, H2, I2, r2, ta2, fy, fx, q2⟩ => Calls.spliced_nil ?_)
    obtain ⟨its2, rv2, ht2, hz2⟩ := I2.tuple (X := X) (ta2.sq)
    obtain ⟨⟨cls, dd, data, slo⟩, hgo, hcl, n, hda⟩ := ht2
    simp only at hcl hda
    subst hcl hda
    refine call_meets PySem.F.slot_tuple_count ⟨_, hgo, rfl⟩ PySem.F.entry_tuple_count (PySem.F.args_tuple_count_2 _ _) (SeqAt.tuple_countAt a its2.toArray n dd slo w (eqU y)) ⟨hgo, fun z hz => ?_, ?_⟩
    · exact mem_eqAt r2 fy rv2 fx z (by simpa using hz)
    · exact ⟨.int _, H2, I2.tok _, ⟨s2.toks, by rw [← countP_vals rv2 fx]⟩, q2⟩
end
end DL

namespace DL
open PySem PySem.Spec PyProof.Rows L2
def LIM : Nat := 100000
theorem lim_ok {n : Nat} (h : n ≤ LIM) : n ≤ sizeLine := Nat.le_trans h (by decide)
theorem lim_lt {n : Nat} (h : n < LIM) : n < sizeLine := Nat.lt_of_lt_of_le h (by decide)
def live : D → Bool | .dead => false | _ => true
def lstOf (S : Sto) : D → Option (List D)
  | .lst ds => some ds
  | .ref n => match S[n]? with | some (.lst ds) => some ds | _ => none
  | _ => none
def tupOf : D → Option (List D) | .tup ds => some ds | _ => none
def seqOf (S : Sto) (d : D) : Option (List D) := match tupOf d with | some ds => some ds | none => lstOf S d
section
variable {c : Ct} {S : Sto} {H : Hp} {d : D} {ds : List D} {v : V}
theorem lstOf_ok (r : RelS c S H) (h : RD c H d v) (e : lstOf S d = some ds) : ∃ a vs, v = .ref a ∧ H a = some (.lst vs) ∧ RDs c H ds vs := by
  cases d with
  | lst xs =>
    cases Option.some.inj e
    obtain ⟨a, vs, e, _, h1, h2⟩ := h
    exact ⟨a, vs, e, h1, h2⟩
  | ref n =>
    obtain ⟨a, ho, rfl⟩ := h
    unfold lstOf at e
    simp only at e
    split at e
    · next xs q =>
      cases Option.some.inj e
      obtain ⟨vs, h1, h2⟩ := r.ob n _ a q ho
      exact ⟨a, vs, rfl, h1, h2⟩
    · cases e
  | _ => cases e
theorem tupOf_ok (h : RD c H d v) (e : tupOf d = some ds) : ∃ a vs, v = .ref a ∧ TupAt H a vs ∧ RDs c H ds vs := by
  cases d with
  | tup xs =>
    cases Option.some.inj e
    obtain ⟨a, vs, e, _, h1, h2⟩ := h
    exact ⟨a, vs, e, h1, h2⟩
  | _ => cases e
theorem seqOf_ok {K : PySem.W.Frag} (r : RelS c S H) (h : RD c H d v) (e : seqOf S d = some ds) : ∃ a vs, v = .ref a ∧ (SqL K H a vs ∨ SqT K H a vs) ∧ RDs c H ds vs := by
  unfold seqOf at e
  split at e
  · next q =>
    cases Option.some.inj e
    obtain ⟨a, vs, e1, h1, h2⟩ := tupOf_ok h q
    exact ⟨a, vs, e1, .inr h1.sq, h2⟩
  · obtain ⟨a, vs, e1, h1, h2⟩ := lstOf_ok r h e
    exact ⟨a, vs, e1, .inl (SqL.of h1), h2⟩
end
mutual
def toPy : D → PyData
  | .bl b => .bool b
  | .int i => .int i
  | .str x => .str x
  | .tup ds => .tuple (toPys ds)
  | .lst ds => .list (toPys ds)
  | _ => .none
def toPys : List D → List PyData
  | [] => []
  | d :: ds => toPy d :: toPys ds
end
def eqD (x y : D) : Bool := PyData.eqv (toPy x) (toPy y)
def eqDs (x y : List D) : Bool := PyData.eqvAll (toPys x) (toPys y)
mutual
def pln : Nat → D → Bool
  | _, .non => true
  | _, .bl _ => true
  | _, .int _ => true
  | _, .str x => PyData.canLay0 (.str x)
  | n, .tup ds => match n with | 0 => false | m + 1 => plns m ds
  | n, .lst ds => match n with | 0 => false | m + 1 => plns m ds
  | _, _ => false
def plns : Nat → List D → Bool
  | _, [] => true
  | n, d :: ds => pln n d && plns n ds
end
mutual
theorem pln_lay : ∀ (n : Nat) (d : D), pln n d = true → (toPy d).canLay0 = true ∧ (toPy d).depth ≤ n
  | _, .non, _ => ⟨rfl, Nat.zero_le _⟩
  | _, .bl _, _ => ⟨rfl, Nat.zero_le _⟩
  | _, .int _, _ => ⟨rfl, Nat.zero_le _⟩
  | _, .str x, h => ⟨by simpa [toPy, pln] using h, Nat.zero_le _⟩
  | 0, .tup ds, h => by simp [pln] at h
  | n + 1, .tup ds, h => by
    have h' : plns n ds = true := by simpa [pln] using h
    obtain ⟨a, b⟩ := plns_lay n ds h'
    exact ⟨by simpa [toPy, PyData.canLay0] using a, by simpa [toPy, PyData.depth] using b⟩
  | 0, .lst ds, h => by simp [pln] at h
  | n + 1, .lst ds, h => by
    have h' : plns n ds = true := by simpa [pln] using h
    obtain ⟨a, b⟩ := plns_lay n ds h'
    exact ⟨by simpa [toPy, PyData.canLay0] using a, by simpa [toPy, PyData.depth] using b⟩
  | _, .dead, h => by simp [pln] at h
  | _, .dic _ _, h => by simp [pln] at h
  | _, .ins _ _ _, h => by simp [pln] at h
  | _, .ref _, h => by simp [pln] at h
  | _, .scr _, h => by simp [pln] at h
  | _, .ty _, h => by simp [pln] at h
  | _, .xc _ _ _ _, h => by simp [pln] at h
theorem plns_lay : ∀ (n : Nat) (ds : List D), plns n ds = true → PyData.canLayAll0 (toPys ds) = true ∧ PyData.depthAll (toPys ds) ≤ n
  | _, [], _ => ⟨rfl, Nat.zero_le _⟩
  | n, d :: ds, h => by
    have h' : pln n d = true ∧ plns n ds = true := by simpa [plns] using h
    obtain ⟨a, b⟩ := pln_lay n d h'.1
    obtain ⟨a2, b2⟩ := plns_lay n ds h'.2
    exact ⟨by simp [toPys, PyData.canLayAll0, a, a2], by simp [toPys, PyData.depthAll]; omega⟩
end
theorem pln_shaped {d : D} (h : pln 64 d = true) : SeqAt.shaped (toPy d) = true := by
  obtain ⟨a, b⟩ := pln_lay 64 d h
  unfold SeqAt.shaped
  rw [a, decide_eq_true b]
  rfl
mutual
theorem dp_of {c : Ct} {H : Hp} {K : PySem.W.Frag} : ∀ (n : Nat) (d : D) (v : V), pln n d = true → RD c H d v → Dp K H v (toPy d)
  | _, .non, _, _, h => by cases (show _ = _ from h); exact .non
  | _, .bl _, _, _, h => by cases (show _ = _ from h); exact .bl _
  | _, .int _, _, _, h => by cases (show _ = _ from h); exact .int _
  | _, .str _, _, _, h => by cases (show _ = _ from h); exact .str _
  | 0, .tup ds, _, h, _ => by simp [pln] at h
  | n + 1, .tup ds, _, h, ⟨a, vs, e, _, t, r⟩ => by
    have h' : plns n ds = true := by simpa [pln] using h
    subst e
    exact .tup t.sq (dps_of n ds vs h' r)
  | 0, .lst ds, _, h, _ => by simp [pln] at h
  | n + 1, .lst ds, _, h, ⟨a, vs, e, _, t, r⟩ => by
    have h' : plns n ds = true := by simpa [pln] using h
    subst e
    exact .lst (SqL.of t) (dps_of n ds vs h' r)
  | _, .dead, _, h, _ => by simp [pln] at h
  | _, .dic _ _, _, h, _ => by simp [pln] at h
  | _, .ins _ _ _, _, h, _ => by simp [pln] at h
  | _, .ref _, _, h, _ => by simp [pln] at h
  | _, .scr _, _, h, _ => by simp [pln] at h
  | _, .ty _, _, h, _ => by simp [pln] at h
  | _, .xc _ _ _ _, _, h, _ => by simp [pln] at h
theorem dps_of {c : Ct} {H : Hp} {K : PySem.W.Frag} : ∀ (n : Nat) (ds : List D) (vs : List V), plns n ds = true → RDs c H ds vs → DpAll K H vs (toPys ds)
  | _, [], _, _, h => by cases (show _ = _ from h); exact .nil
  | n, d :: ds, _, h, ⟨v, vs', e, r, t⟩ => by
    have h' : pln n d = true ∧ plns n ds = true := by simpa [plns] using h
    subst e
    exact .cons (dp_of n d v h'.1 r) (dps_of n ds vs' h'.2 t)
end
/-- a thing of the store seen as it stands now -/
def view (S : Sto) (d : D) : D := match d with
  | .ref n => match S[n]? with | some (.lst ds) => .lst ds | _ => .dead
  | d => d
theorem dp_view {c : Ct} {H : Hp} {K : PySem.W.Frag} {S : Sto} {d : D} {v : V} (r : RelS c S H) (h : RD c H d v) (p : pln 64 (view S d) = true) : Dp K H v (toPy (view S d)) := by
  cases d with
  | ref n =>
    unfold view at p ⊢
    simp only at p ⊢
    obtain ⟨a, ho, rfl⟩ := h
    split at p
    · next ds q =>
      obtain ⟨vs, h1, h2⟩ := r.ob n _ a q ho
      exact .lst (SqL.of h1) (dps_of 63 ds vs (by simpa [pln] using p) h2)
    · simp [pln] at p
  | _ => exact dp_of 64 _ v p h

section
variable {g : Gx} {W : WX} {X : Cx} {e a b : Expr} {pos : Pos}
def mVar (i : Nat) : M D := fun σd S => match σd[i]? with
  | some d => if live d then .ok d S else .bad
  | none => .bad
def mC (d : D) : M D := fun _ S => .ok d S
theorem se_var {i : Nat} (h : PE X e (tVar i)) : PE X e (rdE g W (mVar i)) := PE.imp h fun σ H Q ⟨B, O, S, σd, r, p⟩ => by
  unfold mVar at p
  split at p
  · next d q =>
    cases hl : live d with
    | false => rw [hl] at p; exact p.elim
    | true =>
      rw [hl] at p
      rcases r.sl i d q with z | ⟨v, h1, h2⟩
      · subst z; cases hl
      · exact ⟨v, h1, post_val p r h2⟩
  · exact p.elim
theorem se_c {d : D} {v : V} (h : PE X e (tC v)) (hd : ∀ c H, RD c H d v) : PE X e (rdE g W (mC d)) := PE.imp h fun σ H Q ⟨B, O, S, σd, r, p⟩ => post_val p r (hd _ _)
theorem se_int {i : Int} {j} : PE X (.Constant (.int i) j pos) (rdE g W (mC (.int i))) := se_c pe_int fun _ _ => rfl
theorem se_bl {i : Bool} {j} : PE X (.Constant (.bool i) j pos) (rdE g W (mC (.bl i))) := se_c pe_bl fun _ _ => rfl
theorem se_non {j} : PE X (.Constant .none j pos) (rdE g W (mC .non)) := se_c pe_non fun _ _ => rfl
theorem se_str {i : Str} {j} : PE X (.Constant (.str i) j pos) (rdE g W (mC (.str i))) := se_c pe_str fun _ _ => rfl
/-- a name of the module that holds an int -/
theorem se_glob {x : Str} {i : Int} {u : Value} (hg : Gl X x) (hm : X.mg x = some u) (r : RelV (.int i) u) (hd : (x == ("__debug__" : Str)) = false := by decide) : PE X (.Name x pos) (rdE g W (mC (.int i))) := se_c (pe_glob hg hm r hd) fun _ _ => rfl
def mOp (f : D → D → Sto → R D) (a b : M D) : M D := mB a fun x => mB b fun y => fun _ S => f x y S
def mUn (f : D → Sto → R D) (a : M D) : M D := mB a fun x => fun _ S => f x S
def OpS (g : Gx) (W : WX) (r : R2) (f : D → D → Sto → R D) : Prop := ∀ {B O : List Addr} {S : Sto} {σd : Sl} {σ : L2.St} {H : Hp} {x y : D} {v w : V} {Q : VK},
  Rel ⟨g.K, g.G, B, O⟩ S σd σ H → RD ⟨g.K, g.G, B, O⟩ H x v → RD ⟨g.K, g.G, B, O⟩ H y w → Post RD ⟨g.K, g.G, B, O⟩ W σ σd H (f x y S) Q → r v w H Q
def UnS (g : Gx) (W : WX) (r : V → Hp → VK → Prop) (f : D → Sto → R D) : Prop := ∀ {B O : List Addr} {S : Sto} {σd : Sl} {σ : L2.St} {H : Hp} {x : D} {v : V} {Q : VK},
  Rel ⟨g.K, g.G, B, O⟩ S σd σ H → RD ⟨g.K, g.G, B, O⟩ H x v → Post RD ⟨g.K, g.G, B, O⟩ W σ σd H (f x S) Q → r v H Q
theorem op_imp {r : R2} {f : D → D → Sto → R D} {ma mb : M D} (hs : OpS g W r f) (σ : L2.St) (H : Hp) (Q : VK) (h : rdE g W (mOp f ma mb) σ H Q) : tOp r (rdE g W ma) (rdE g W mb) σ H Q := by
  obtain ⟨B, O, S, σd, rel, p⟩ := h
  refine rdG_mono (rd_then (rel := RD) rel p) fun v H1 ⟨x, O1, S1, r1, rx, st1, p1⟩ => ?_
  refine rdG_mono (rd_then (rel := RD) r1 p1) fun w H2 ⟨y, O2, S2, r2, ry, st2, p2⟩ => ?_
  exact hs r2 (RD.step (c := ⟨g.K, g.G, B, O1⟩) st2 x v rx) ry p2
theorem un_imp {r : V → Hp → VK → Prop} {f : D → Sto → R D} {ma : M D} (hs : UnS g W r f) (σ : L2.St) (H : Hp) (Q : VK) (h : rdE g W (mUn f ma) σ H Q) : tUn r (rdE g W ma) σ H Q := by
  obtain ⟨B, O, S, σd, rel, p⟩ := h
  exact rdG_mono (rd_then (rel := RD) rel p) fun v H1 ⟨x, O1, S1, r1, rx, st1, p1⟩ => hs r1 rx p1
theorem se_op {op : Operator} {r : R2} {f : D → D → Sto → R D} {ma mb : M D} (ho : OpR X (binaryOp op) r) (hs : OpS g W r f) (ha : PE X a (rdE g W ma)) (hb : PE X b (rdE g W mb)) : PE X (.BinOp a op b pos) (rdE g W (mOp f ma mb)) :=
  PE.imp (pe_op ho ha hb) (op_imp hs)
theorem se_cmp {op : CmpOp} {r : R2} {f : D → D → Sto → R D} {ma mb : M D} (ho : OpR X (compareOp op) r) (hs : OpS g W r f) (ha : PE X a (rdE g W ma)) (hb : PE X b (rdE g W mb)) (hm : behindInMarks op b = false) : PE X (.Compare a [op] [b] pos) (rdE g W (mOp f ma mb)) :=
  PE.imp (pe_cmpR ho ha hb hm) (op_imp hs)
theorem se_un {op : UnaryOp} {r : V → Hp → VK → Prop} {f : D → Sto → R D} {ma : M D} (ho : UnR X (unaryOp op) r) (hs : UnS g W r f) (ha : PE X a (rdE g W ma)) : PE X (.UnaryOp op a pos) (rdE g W (mUn f ma)) :=
  PE.imp (pe_un ho ha) (un_imp hs)
theorem se_ix {r : R2} {f : D → D → Sto → R D} {ma mb : M D} (ho : IxR X r) (hs : OpS g W r f) (ha : PE X a (rdE g W ma)) (hb : PE X b (rdE g W mb)) (hx : PlainIx b := by exact fun _ _ => rfl) : PE X (.Subscript a b pos) (rdE g W (mOp f ma mb)) :=
  PE.imp (pe_ix ho ha hb hx) (op_imp hs)
def fInt (f : Int → Int → D) (x y : D) (S : Sto) : R D := match x with
  | .int i => match y with
    | .int j => .ok (f i j) S
    | _ => .bad
  | _ => .bad
def fIntC (C : Int → Int → Prop) [∀ i j, Decidable (C i j)] (f : Int → Int → D) (x y : D) (S : Sto) : R D := match x with
  | .int i => match y with
    | .int j => if C i j then .ok (f i j) S else .bad
    | _ => .bad
  | _ => .bad
theorem fInt_ok {f : Int → Int → D} {k : Int → Int → V} (hk : ∀ c H i j, RD c H (f i j) (k i j)) : OpS g W (rI0 k) (fInt f) := fun {B O S σd σ H x y v w Q} r hx hy p => by
  unfold fInt at p
  split at p
  · split at p
    · cases (show _ = _ from hx)
      cases (show _ = _ from hy)
      exact ⟨_, _, rfl, rfl, post_val p r (hk _ _ _ _)⟩
    · exact p.elim
  · exact p.elim
theorem fIntC_ok {C C' : Int → Int → Prop} [∀ i j, Decidable (C i j)] {f : Int → Int → D} {k : Int → Int → V} (hc : ∀ i j, C i j → C' i j) (hk : ∀ c H i j, C i j → RD c H (f i j) (k i j)) : OpS g W (rI C' k) (fIntC C f) := fun {B O S σd σ H x y v w Q} r hx hy p => by
  unfold fIntC at p
  split at p
  · split at p
    · cases (show _ = _ from hx)
      cases (show _ = _ from hy)
      split at p
      · next h => exact ⟨_, _, rfl, rfl, hc _ _ h, post_val p r (hk _ _ _ _ h)⟩
      · exact p.elim
    · exact p.elim
  · exact p.elim
theorem OpS.or {r r' : R2} {f : D → D → Sto → R D} (h : ∀ {B O : List Addr} {S : Sto} {σd : Sl} {σ : L2.St} {H : Hp} {x y : D} {v w : V} {Q : VK}, Rel ⟨g.K, g.G, B, O⟩ S σd σ H → RD ⟨g.K, g.G, B, O⟩ H x v → RD ⟨g.K, g.G, B, O⟩ H y w → Post RD ⟨g.K, g.G, B, O⟩ W σ σd H (f x y S) Q → r v w H Q ∨ r' v w H Q) :
    OpS g W (fun x y H Q => r x y H Q ∨ r' x y H Q) f := fun {B O S σd σ H x y v w Q} r hx hy p => h r hx hy p
end
end DL

namespace DL
open PySem PySem.Spec PyProof.Rows L2
section
variable {g : Gx} {W : WX} {X : Cx} {e a b : Expr} {pos : Pos}
def fAdd (x y : D) (S : Sto) : R D := match x with
  | .int i => match y with
    | .int j => .ok (.int (i + j)) S
    | _ => .bad
  | .str i => match y with
    | .str j => if i.length + j.length ≤ LIM then .ok (.str (i ++ j)) S else .bad
    | _ => .bad
  | .tup i => match y with
    | .tup j => if i.length + j.length ≤ LIM then .ok (.tup (i ++ j)) S else .bad
    | _ => .bad
  | x => match lstOf S x with
    | some i => match lstOf S y with
      | some j => if i.length + j.length ≤ LIM then .ok (.lst (i ++ j)) S else .bad
      | none => .bad
    | none => .bad
abbrev rAddAll (K : PySem.W.Frag) : R2 := fun x y H Q => (((rI0 fun i j => V.int (i + j)) x y H Q ∨ ∃ i j, x = .str i ∧ y = .str j ∧ i.length + j.length ≤ sizeLine ∧ Q (.str (i ++ j)) H) ∨ rCatF K x y H Q) ∨ rCat x y H Q
theorem op_addAll : OpR X (binaryOp .Add) (rAddAll X.K) := ((op_add.or op_add_str).or op_catF).or op_cat
theorem fAdd_lst {K : PySem.W.Frag} {B O : List Addr} {S : Sto} {σd : Sl} {σ : L2.St} {H : Hp} {x y : D} {v w : V} {Q : VK} (r : Rel ⟨g.K, g.G, B, O⟩ S σd σ H) (hx : RD ⟨g.K, g.G, B, O⟩ H x v) (hy : RD ⟨g.K, g.G, B, O⟩ H y w)
    (p : Post RD ⟨g.K, g.G, B, O⟩ W σ σd H (match lstOf S x with
    | some i => match lstOf S y with
      | some j => if i.length + j.length ≤ LIM then .ok (.lst (i ++ j)) S else .bad
      | none => .bad
    | none => .bad) Q) : rCat v w H Q := by
  split at p
  · next i qi =>
    split at p
    · next j qj =>
      split at p
      · next hl =>
        obtain ⟨l, xs, rfl, h1, r1⟩ := lstOf_ok r.toRelS hx qi
        obtain ⟨l2, ys, rfl, h2, r2⟩ := lstOf_ok r.toRelS hy qj
        exact ⟨l, l2, xs, ys, rfl, rfl, h1, h2, by rw [← r1.length, ← r2.length]; exact lim_ok hl, post_newL p r (r1.append r2)⟩
      · exact p.elim
    · exact p.elim
  · exact p.elim
theorem fAdd_ok {K : PySem.W.Frag} : OpS g W (rAddAll K) fAdd := fun {B O S σd σ H x y v w Q} r hx hy p => by
  unfold fAdd at p
  cases x with
  | int i =>
    cases y with
    | int j =>
      cases (show _ = _ from hx)
      cases (show _ = _ from hy)
      exact .inl (.inl (.inl ⟨_, _, rfl, rfl, post_val p r rfl⟩))
    | _ => exact p.elim
  | str i =>
    cases y with
    | str j =>
      cases (show _ = _ from hx)
      cases (show _ = _ from hy)
      simp only at p
      split at p
      · next hl => exact .inl (.inl (.inr ⟨_, _, rfl, rfl, lim_ok hl, post_val p r rfl⟩))
      · exact p.elim
    | _ => exact p.elim
  | tup i =>
    cases y with
    | tup j =>
      simp only at p
      split at p
      · next hl =>
        obtain ⟨t, xs, rfl, ht, h1, r1⟩ := id hx
        obtain ⟨u, ys, rfl, hu, h2, r2⟩ := id hy
        refine .inl (.inr ⟨t, u, xs, ys, rfl, rfl, h1.sq, h2.sq, by rw [← r1.length, ← r2.length]; exact lim_ok hl, fun ex => ?_, fun _ ey => ?_, fun _ _ => post_newT p r (r1.append r2)⟩)
        · have e0 : i = [] := List.eq_nil_of_length_eq_zero (by rw [r1.length, ex]; rfl)
          rw [e0] at p
          exact post_val p r hy
        · have e0 : j = [] := List.eq_nil_of_length_eq_zero (by rw [r2.length, ey]; rfl)
          rw [e0, List.append_nil] at p
          exact post_val p r hx
      · exact p.elim
    | _ => exact p.elim
  | lst i => exact .inr (fAdd_lst (K := K) r hx hy p)
  | ref n => exact .inr (fAdd_lst (K := K) r hx hy p)
  | _ => exact p.elim
theorem se_add {ma mb : M D} (ha : PE X a (rdE g W ma)) (hb : PE X b (rdE g W mb)) : PE X (.BinOp a .Add b pos) (rdE g W (mOp fAdd ma mb)) := se_op op_addAll fAdd_ok ha hb
def fSub : D → D → Sto → R D := fInt fun i j => .int (i - j)
theorem se_sub {ma mb : M D} (ha : PE X a (rdE g W ma)) (hb : PE X b (rdE g W mb)) : PE X (.BinOp a .Sub b pos) (rdE g W (mOp fSub ma mb)) := se_op op_sub (fInt_ok (by intros; rfl)) ha hb
def fMod : D → D → Sto → R D := fIntC (fun _ j => 0 < j) fun i j => .int (i % j)
theorem se_mod {ma mb : M D} (ha : PE X a (rdE g W ma)) (hb : PE X b (rdE g W mb)) : PE X (.BinOp a .Mod b pos) (rdE g W (mOp fMod ma mb)) := se_op op_mod (fIntC_ok (fun _ _ h => h) (by intros; rfl)) ha hb
/-- // by a positive divisor of at most 9000 bits -/
def fDiv : D → D → Sto → R D := fIntC (fun _ j => 0 < j ∧ j < 2 ^ 9000) fun i j => .int (i / j)
theorem cdivw {i j : Int} (h : 0 < j ∧ j < 2 ^ 9000) : CDivW i j := by
  refine wide_div (b := 9000) h.1 ?_ (by decide) (Nat.le_refl _)
  have h0 := h.1
  have h1 : ((j.natAbs : Nat) : Int) < ((2 ^ 9000 : Nat) : Int) := by
    rw [Int.natAbs_of_nonneg (by omega), Int.natCast_pow]
    exact h.2
  exact Int.ofNat_lt.mp h1
theorem se_div {ma mb : M D} (ha : PE X a (rdE g W ma)) (hb : PE X b (rdE g W mb)) : PE X (.BinOp a .FloorDiv b pos) (rdE g W (mOp fDiv ma mb)) := se_op op_fdivW (fIntC_ok (fun _ _ h => cdivw h) (by intros; rfl)) ha hb
def fPow : D → D → Sto → R D := fIntC (fun i j => 0 ≤ j ∧ j ≤ 1000 ∧ 0 ≤ i ∧ i < 1000) fun i j => .int (i ^ j.toNat)
theorem se_pow {ma mb : M D} (ha : PE X a (rdE g W ma)) (hb : PE X b (rdE g W mb)) : PE X (.BinOp a .Pow b pos) (rdE g W (mOp fPow ma mb)) :=
  se_op op_pow (fIntC_ok (fun i j h => ⟨h.1, by omega, by omega⟩) (by intros; rfl)) ha hb
def fLt0 : D → D → Sto → R D := fInt fun i j => .bl (decide (i < j))
def fLe : D → D → Sto → R D := fInt fun i j => .bl (decide (i ≤ j))
def fGt : D → D → Sto → R D := fInt fun i j => .bl (decide (j < i))
def fGe : D → D → Sto → R D := fInt fun i j => .bl (decide (j ≤ i))
theorem se_lt0 {ma mb : M D} (ha : PE X a (rdE g W ma)) (hb : PE X b (rdE g W mb)) : PE X (.Compare a [.Lt] [b] pos) (rdE g W (mOp fLt0 ma mb)) := se_cmp op_lt (fInt_ok (by intros; rfl)) ha hb (nomark _)
theorem se_le {ma mb : M D} (ha : PE X a (rdE g W ma)) (hb : PE X b (rdE g W mb)) : PE X (.Compare a [.LtE] [b] pos) (rdE g W (mOp fLe ma mb)) := se_cmp op_le (fInt_ok (by intros; rfl)) ha hb (nomark _)
theorem se_gt {ma mb : M D} (ha : PE X a (rdE g W ma)) (hb : PE X b (rdE g W mb)) : PE X (.Compare a [.Gt] [b] pos) (rdE g W (mOp fGt ma mb)) := se_cmp op_gt (fInt_ok (by intros; rfl)) ha hb (nomark _)
theorem se_ge {ma mb : M D} (ha : PE X a (rdE g W ma)) (hb : PE X b (rdE g W mb)) : PE X (.Compare a [.GtE] [b] pos) (rdE g W (mOp fGe ma mb)) := se_cmp op_ge (fInt_ok (by intros; rfl)) ha hb (nomark _)
def fEq (x y : D) (S : Sto) : R D := if pln 64 (view S x) && pln 64 (view S y) then .ok (.bl (eqD (view S x) (view S y))) S else .bad
def fNe (x y : D) (S : Sto) : R D := if pln 64 (view S x) && pln 64 (view S y) then .ok (.bl (!eqD (view S x) (view S y))) S else .bad
theorem fEq_ok {K : PySem.W.Frag} : OpS g W (rEqD K) fEq := fun {B O S σd σ H x y v w Q} r hx hy p => by
  unfold fEq at p
  split at p
  · next h =>
    obtain ⟨h1, h2⟩ := Bool.and_eq_true_iff.mp h
    exact ⟨_, _, dp_view r.toRelS hx h1, dp_view r.toRelS hy h2, pln_shaped h1, pln_shaped h2, post_val p r rfl⟩
  · exact p.elim
theorem fNe_ok {K : PySem.W.Frag} : OpS g W (rNeD K) fNe := fun {B O S σd σ H x y v w Q} r hx hy p => by
  unfold fNe at p
  split at p
  · next h =>
    obtain ⟨h1, h2⟩ := Bool.and_eq_true_iff.mp h
    exact ⟨_, _, dp_view r.toRelS hx h1, dp_view r.toRelS hy h2, pln_shaped h1, pln_shaped h2, post_val p r rfl⟩
  · exact p.elim
theorem se_eq {k : Nat} {ma mb : M D} (hr : Room k X.A) (ha : PE X a (rdE g W ma)) (hb : PE X b (rdE g W mb)) : PE X (.Compare a [.Eq] [b] pos) (rdE g W (mOp fEq ma mb)) := se_cmp (op_eqD hr.units) fEq_ok ha hb (nomark _)
theorem se_ne {k : Nat} {ma mb : M D} (hr : Room k X.A) (ha : PE X a (rdE g W ma)) (hb : PE X b (rdE g W mb)) : PE X (.Compare a [.NotEq] [b] pos) (rdE g W (mOp fNe ma mb)) := se_cmp (op_neD hr.units) fNe_ok ha hb (nomark _)
def isNon : D → Bool | .non => true | _ => false
def fIsN (x : D) (S : Sto) : R D := .ok (.bl (isNon x)) S
def fNotN (x : D) (S : Sto) : R D := .ok (.bl (!isNon x)) S
theorem isNon_ok {c : Ct} {H : Hp} {x : D} {v : V} (h : RD c H x v) : decide (v = .non) = isNon x := by
  cases x with
  | non => cases (show _ = _ from h); rfl
  | dead => exact h.elim
  | bl b => cases (show _ = _ from h); rfl
  | int b => cases (show _ = _ from h); rfl
  | str b => cases (show _ = _ from h); rfl
  | tup ds => obtain ⟨_, _, rfl, _⟩ := h; rfl
  | lst ds => obtain ⟨_, _, rfl, _⟩ := h; rfl
  | dic ks ds => obtain ⟨_, _, rfl, _⟩ := h; rfl
  | ins k ns ds => obtain ⟨_, _, _, rfl, _⟩ := h; rfl
  | ref n => obtain ⟨_, _, rfl⟩ := h; rfl
  | scr ns => obtain ⟨_, rfl, _⟩ := h; rfl
  | ty n => cases (show _ = _ from h); rfl
  | xc a dd ns ds => obtain ⟨rfl, _⟩ := h; rfl
theorem se_isN {j} {pos' : Pos} {ma : M D} (ha : PE X a (rdE g W ma)) : PE X (.Compare a [.Is] [.Constant .none j pos'] pos) (rdE g W (mUn fIsN ma)) :=
  PE.imp (pe_cmp (pc_isN ha)) fun σ H Q ⟨B, O, S, σd, rel, p⟩ => rdG_mono (rd_then (rel := RD) rel p) fun v H1 ⟨x, O1, S1, r1, rx, st1, p1⟩ => by
    rw [isNon_ok rx]
    exact post_val p1 r1 rfl
theorem se_notN {j} {pos' : Pos} {ma : M D} (ha : PE X a (rdE g W ma)) : PE X (.Compare a [.IsNot] [.Constant .none j pos'] pos) (rdE g W (mUn fNotN ma)) :=
  PE.imp (pe_cmp (pc_notN ha)) fun σ H Q ⟨B, O, S, σd, rel, p⟩ => rdG_mono (rd_then (rel := RD) rel p) fun v H1 ⟨x, O1, S1, r1, rx, st1, p1⟩ => by
    rw [isNon_ok rx]
    exact post_val p1 r1 rfl
def flatD : D → Bool | .non => true | .bl _ => true | .int _ => true | .str _ => true | _ => false
theorem flat_of {c : Ct} {H : Hp} {x : D} {v : V} (h : RD c H x v) (f : flatD x = true) : flatV v = true := by
  cases x with
  | non => cases (show _ = _ from h); rfl
  | bl b => cases (show _ = _ from h); rfl
  | int b => cases (show _ = _ from h); rfl
  | str b => cases (show _ = _ from h); rfl
  | _ => cases f
theorem flats_of {c : Ct} {H : Hp} : ∀ {ds : List D} {vs : List V}, RDs c H ds vs → ds.all flatD = true → vs.all flatV = true
  | [], _, h, _ => by rw [show _ = _ from h]; rfl
  | _ :: _, _, ⟨v, vs', e, r, t⟩, f => by
    rw [List.all_cons, Bool.and_eq_true] at f
    rw [e, List.all_cons, flat_of r f.1, flats_of t f.2]
    rfl
theorem eq_flat {c : Ct} {H : Hp} {x y : D} {v w : V} (hx : RD c H x v) (hy : RD c H y w) (fx : flatD x = true) (fy : flatD y = true) : eqV v w = eqD x y := by
  cases x with
  | non => cases (show _ = _ from hx); cases y with
    | non => cases (show _ = _ from hy); rfl
    | bl _ => cases (show _ = _ from hy); rfl
    | int _ => cases (show _ = _ from hy); rfl
    | str _ => cases (show _ = _ from hy); rfl
    | _ => cases fy
  | bl a => cases (show _ = _ from hx); cases y with
    | non => cases (show _ = _ from hy); rfl
    | bl _ => cases (show _ = _ from hy); rfl
    | int _ => cases (show _ = _ from hy); rfl
    | str _ => cases (show _ = _ from hy); rfl
    | _ => cases fy
  | int a => cases (show _ = _ from hx); cases y with
    | non => cases (show _ = _ from hy); rfl
    | bl _ => cases (show _ = _ from hy); rfl
    | int _ => cases (show _ = _ from hy); rfl
    | str _ => cases (show _ = _ from hy); rfl
    | _ => cases fy
  | str a => cases (show _ = _ from hx); cases y with
    | non => cases (show _ = _ from hy); rfl
    | bl _ => cases (show _ = _ from hy); rfl
    | int _ => cases (show _ = _ from hy); rfl
    | str _ => cases (show _ = _ from hy); rfl
    | _ => cases fy
  | _ => cases fx
def inD (x : D) (ds : List D) : Bool := ds.any fun y => eqD y x
theorem in_flat {c : Ct} {H : Hp} {x : D} {v : V} (hx : RD c H x v) (fx : flatD x = true) : ∀ {ds : List D} {vs : List V}, RDs c H ds vs → ds.all flatD = true → inV v vs = inD x ds
  | [], _, h, _ => by rw [show _ = _ from h]; rfl
  | _ :: _, _, ⟨w, vs', e, r, t⟩, f => by
    rw [List.all_cons, Bool.and_eq_true] at f
    subst e
    have ih := in_flat hx fx t f.2
    unfold inV inD at ih ⊢
    rw [List.any_cons, List.any_cons, ih, eq_flat r hx f.1 fx]
def fIn (neg : Bool) (x y : D) (S : Sto) : R D := match seqOf S y with
  | some ds => if flatD x && ds.all flatD then .ok (.bl (if neg then !inD x ds else inD x ds)) S else .bad
  | none => .bad
theorem fIn_ok {K : PySem.W.Frag} {neg : Bool} : OpS g W (rIn K neg) (fIn neg) := fun {B O S σd σ H x y v w Q} r hx hy p => by
  unfold fIn at p
  split at p
  · next ds q =>
    split at p
    · next f =>
      obtain ⟨f1, f2⟩ := Bool.and_eq_true_iff.mp f
      obtain ⟨a, vs, rfl, h1, h2⟩ := seqOf_ok (K := K) r.toRelS hy q
      refine ⟨a, vs, rfl, h1, flat_of hx f1, flats_of h2 f2, post_val p r ?_⟩
      rw [in_flat hx f1 h2 f2]
      rfl
    · exact p.elim
  · exact p.elim
theorem se_in {ma mb : M D} (ha : PE X a (rdE g W ma)) (hb : PE X b (rdE g W mb)) (hm : behindInMarks .In b = false := by rfl) : PE X (.Compare a [.In] [b] pos) (rdE g W (mOp (fIn false) ma mb)) := se_cmp op_in_seq fIn_ok ha hb hm
theorem se_notIn {ma mb : M D} (ha : PE X a (rdE g W ma)) (hb : PE X b (rdE g W mb)) (hm : behindInMarks .NotIn b = false := by rfl) : PE X (.Compare a [.NotIn] [b] pos) (rdE g W (mOp (fIn true) ma mb)) := se_cmp op_notIn_seq fIn_ok ha hb hm
theorem ixN_len {n : Nat} {i : Int} {j : Nat} (h : ixN n i = some j) : j < n := (ixN_seq h).2.1
def fIx (x y : D) (S : Sto) : R D := match y with
  | .int i => match seqOf S x with
    | some ds => match atI ds i with
      | some d => .ok d S
      | none => .bad
    | none => .bad
  | _ => .bad
theorem atI_rd {c : Ct} {H : Hp} {ds : List D} {vs : List V} {i : Int} {d : D} (h : RDs c H ds vs) (e : atI ds i = some d) : ∃ v, atI vs i = some v ∧ RD c H d v := by
  unfold atI at e ⊢
  rw [← h.length]
  cases q : ixN ds.length i with
  | none => rw [q] at e; cases e
  | some j =>
    rw [q] at e
    obtain ⟨v, h1, h2⟩ := h.get (show ds[j]? = some d from e)
    exact ⟨v, h1, h2⟩
theorem fIx_ok {K : PySem.W.Frag} : OpS g W (fun x y H Q => rIxL K x y H Q ∨ rIxT K x y H Q) fIx := fun {B O S σd σ H x y v w Q} r hx hy p => by
  unfold fIx at p
  split at p
  · next i =>
    cases (show _ = _ from hy)
    split at p
    · next ds q =>
      split at p
      · next d q2 =>
        obtain ⟨a, vs, rfl, h1, h2⟩ := seqOf_ok (K := K) r.toRelS hx q
        obtain ⟨u, e1, e2⟩ := atI_rd h2 q2
        rcases h1 with h1 | h1
        · exact .inl ⟨a, vs, i, u, rfl, rfl, h1, e1, post_val p r e2⟩
        · exact .inr ⟨a, vs, i, u, rfl, rfl, h1, e1, post_val p r e2⟩
      · exact p.elim
    · exact p.elim
  · exact p.elim
theorem se_sub1 {ma mb : M D} (ha : PE X a (rdE g W ma)) (hb : PE X b (rdE g W mb)) (hx : PlainIx b := by exact fun _ _ => rfl) : PE X (.Subscript a b pos) (rdE g W (mOp fIx ma mb)) := se_ix (ix_list.or ix_tup) fIx_ok ha hb hx
def mNoPart : M (Option Int) := fun _ S => .ok none S
def mPart (m : M D) : M (Option Int) := mB m fun d => fun _ S => match d with
  | .int i => .ok (some i) S
  | _ => .bad
theorem so_none : PO X none (rdO g W mNoPart) := PO.imp po_none fun σ H Q ⟨B, O, S, σd, r, p⟩ => post_val p r rfl
theorem so_some {m : M D} (h : PE X e (rdE g W m)) : PO X (some e) (rdO g W (mPart m)) := PO.imp (po_some h) fun σ H Q ⟨B, O, S, σd, rel, p⟩ => rdG_mono (rd_then (rel := RD) rel p) fun v H1 ⟨x, O1, S1, r1, rx, st1, p1⟩ => by
  cases x with
  | int i => exact ⟨i, rx, post_val p1 r1 rfl⟩
  | _ => exact p1.elim
def cutD (xs : List D) (lo hi : Option Int) : List D := (xs.drop (HT.sIx xs.length 0 lo)).take (HT.sIx xs.length xs.length hi - HT.sIx xs.length 0 lo)
theorem cut_rd {c : Ct} {H : Hp} {ds : List D} {vs : List V} (h : RDs c H ds vs) (lo hi : Option Int) : RDs c H (cutD ds lo hi) (cutV vs lo hi) := by
  unfold cutD cutV
  rw [← h.length]
  exact (h.drop _).take _
def fSl (x : D) (lo hi : Option Int) (S : Sto) : R D := match x with
  | .tup ds => .ok (.tup (cutD ds lo hi)) S
  | x => match lstOf S x with
    | some ds => .ok (.lst (cutD ds lo hi)) S
    | none => .bad
def mSl (m : M D) (l h : M (Option Int)) : M D := mB m fun x => mB l fun lo => mB h fun hi => fun _ S => fSl x lo hi S
theorem RDs.det {c : Ct} {H : Hp} {ds es : List D} {vs : List V} (h : RDs c H ds vs) (h2 : RDs c H es vs) : ds.length = es.length := h.length.trans h2.length.symm
theorem cut_len (ds : List D) (lo hi : Option Int) : (cutD ds lo hi).length ≤ ds.length := by
  unfold cutD
  rw [List.length_take, List.length_drop]
  omega
theorem cut_same {ds : List D} {lo hi : Option Int} (h : (cutD ds lo hi).length = ds.length) : cutD ds lo hi = ds := by
  unfold cutD at h ⊢
  rw [List.length_take, List.length_drop] at h
  by_cases q : ds = []
  · subst q; simp
  · have hp : 0 < ds.length := List.length_pos_iff.mpr q
    have e0 : HT.sIx ds.length 0 lo = 0 := by omega
    rw [e0] at h ⊢
    rw [List.drop_zero, List.take_of_length_le (by omega)]
theorem fSl_ok {K : PySem.W.Frag} {B O : List Addr} {S : Sto} {σd : Sl} {σ : L2.St} {H : Hp} {x : D} {v : V} {lo hi : Option Int} {Q : VK} (r : Rel ⟨g.K, g.G, B, O⟩ S σd σ H) (hx : RD ⟨g.K, g.G, B, O⟩ H x v)
    (p : Post RD ⟨g.K, g.G, B, O⟩ W σ σd H (fSl x lo hi S) Q) : rSlF K v lo hi H Q ∨ rSlL K v lo hi H Q := by
  have go : ∀ (p : Post RD ⟨g.K, g.G, B, O⟩ W σ σd H (match lstOf S x with
    | some ds => .ok (.lst (cutD ds lo hi)) S
    | none => .bad) Q), rSlF K v lo hi H Q ∨ rSlL K v lo hi H Q := fun p => by
    split at p
    · next ds q =>
      obtain ⟨a, vs, rfl, h1, h2⟩ := lstOf_ok r.toRelS hx q
      exact .inr ⟨a, vs, rfl, SqL.of h1, post_newL p r (cut_rd h2 lo hi)⟩
    · exact p.elim
  unfold fSl at p
  cases x with
  | tup ds =>
    simp only at p
    obtain ⟨a, vs, rfl, ht, h1, h2⟩ := id hx
    refine .inl ⟨a, vs, rfl, h1.sq, fun ew => ?_, post_newT p r (cut_rd h2 lo hi)⟩
    have e1 : (cutD ds lo hi).length = ds.length := by rw [(cut_rd h2 lo hi).length, ew, h2.length]
    rw [cut_same e1] at p
    exact post_val p r hx
  | lst ds => exact go p
  | ref n => exact go p
  | _ => exact go p
theorem se_slice {lo hi : Option Expr} {p2 : Pos} {m : M D} {l h : M (Option Int)} (he : PE X e (rdE g W m)) (hl : PO X lo (rdO g W l)) (hh : PO X hi (rdO g W h)) : PE X (.Subscript e (.Slice lo hi none p2) pos) (rdE g W (mSl m l h)) :=
  PE.imp (pe_slice (sl_tupF.or sl_list) he hl hh) fun σ H Q ⟨B, O, S, σd, rel, p⟩ => rdG_mono (rd_then (rel := RD) rel p) fun v H1 ⟨x, O1, S1, r1, rx, st1, p1⟩ =>
    rdG_mono (rd_then (rel := same) r1 p1) fun lo' H2 ⟨l', O2, S2, r2, e2, st2, p2⟩ => rdG_mono (rd_then (rel := same) r2 p2) fun hi' H3 ⟨h', O3, S3, r3, e3, st3, p3⟩ => by
      cases (show _ = _ from e2)
      cases (show _ = _ from e3)
      exact fSl_ok r3 (RD.step (c := ⟨g.K, g.G, B, O1⟩) (st2.trans st3) x v rx) p3
end
end DL

namespace DL
open PySem PySem.Spec PyProof.Rows L2
section
variable {g : Gx} {W : WX} {X : Cx} {e a b : Expr} {es : List Expr} {pos : Pos}
def mFz (m : M (List D)) : M D := fun σd S => match m σd S with
  | .ok ds S1 => .ok (.lst ds) S1
  | .exc k ns ds S1 => .exc k ns ds S1
  | .bad => .bad
def mLoc (m : M (List D)) : M D := fun σd S => match m σd S with
  | .ok ds S1 => .ok (.ref S1.length) (S1 ++ [.lst ds])
  | .exc k ns ds S1 => .exc k ns ds S1
  | .bad => .bad
theorem frz_imp {m : M (List D)} (σ : L2.St) (H : Hp) (Q : VK) (h : rdE g W (mFz m) σ H Q) : rdN g W m σ H Q := by
  obtain ⟨B, O, S, σd, r, p⟩ := h
  refine ⟨B, O, S, σd, r, ?_⟩
  unfold mFz at p
  revert p
  cases m σd S with
  | ok ds S' => exact fun p q vs O' H' h0 h1 h2 h3 h4 h5 => p (.ref q) O' H' (Rel.unban (c := ⟨g.K, g.G, B, O'⟩) h1) ⟨q, vs, rfl, ⟨fun z => h1.nb q z (List.mem_cons_self ..), h2⟩, h3, RDs.mv (mv_unban (c := ⟨g.K, g.G, B, O'⟩)) ds vs h4⟩ h5
  | exc k ns ds S' => exact fun p => p
  | bad => exact fun p => p
theorem sn_frz {m : M (List D)} (h : PE X e (rdN g W m)) : PE X e (rdE g W (mFz m)) := PE.imp h frz_imp
theorem mv_loc {c : Ct} {H : Hp} {p : Addr} : Mv { c with B := p :: c.B } { c with O := c.O ++ [p] } H H :=
  ⟨fun a u q e => ⟨⟨fun z => (List.mem_append.mp z).elim q.1 fun z => q.2 (by rw [List.mem_singleton.mp z]; exact List.mem_cons_self ..), fun z => q.2 (List.mem_cons_of_mem _ z)⟩, e⟩,
    fun n a h => by
      show (c.O ++ [p])[n]? = some a
      exact List.getElem?_append_left (List.getElem?_eq_some_iff.mp h).1 ▸ h, rfl, rfl⟩
theorem Rel.locate {c : Ct} {S : Sto} {σd : Sl} {σ : L2.St} {H : Hp} {p : Addr} {o : Ob} (r : Rel { c with B := p :: c.B } S σd σ H) (hb : p ∉ c.B) (ho : OO { c with B := p :: c.B } H p o) : Rel { c with O := c.O ++ [p] } (S ++ [o]) σd σ H where
  ol := by rw [List.length_append, List.length_append]; exact congrArg (· + 1) r.ol
  nd := List.nodup_append.mpr ⟨r.nd, by simp, fun a ha b hb' e => r.nb a ha (by rw [e, List.mem_singleton.mp hb']; exact List.mem_cons_self ..)⟩
  nb := fun a ha => (List.mem_append.mp ha).elim (fun z q => r.nb a z (List.mem_cons_of_mem _ q)) fun z => by rw [List.mem_singleton.mp z]; exact hb
  hb := fun a ha => r.hb a (List.mem_cons_of_mem _ ha)
  ob := fun n o' a h1 h2 => by
    have ol : c.O.length = S.length := r.ol
    by_cases hn : n < S.length
    · rw [List.getElem?_append_left hn] at h1
      rw [show ({ c with O := c.O ++ [p] } : Ct).O = c.O ++ [p] from rfl, List.getElem?_append_left (ol ▸ hn)] at h2
      exact OO.mv mv_loc (fun u e => e) (r.ob n o' a h1 h2)
    · have hn' : S.length ≤ n := Nat.le_of_not_lt hn
      rw [List.getElem?_append_right hn'] at h1
      rw [show ({ c with O := c.O ++ [p] } : Ct).O = c.O ++ [p] from rfl, List.getElem?_append_right (ol ▸ hn'), ol] at h2
      cases q : n - S.length with
      | zero =>
        rw [q] at h1 h2
        have e1 : o = o' := by simpa using h1
        have e2 : p = a := by simpa using h2
        rw [← e1, ← e2]
        exact OO.mv mv_loc (fun u e => e) ho
      | succ m => rw [q] at h1; simp at h1
  len := r.len
  sl := fun i d e => (r.sl i d e).imp id fun ⟨v, h1, h2⟩ => ⟨v, h1, RD.mv mv_loc d v h2⟩
theorem Step.loc {O O' : List Addr} {H H' : Hp} {p : Addr} (s : Step O H O' H') (h : H p = none) : Step O H (O' ++ [p]) H' := by
  obtain ⟨t, ht⟩ := s.pre
  refine ⟨⟨t ++ [p], by rw [ht, List.append_assoc]⟩, fun a o n e => ?_⟩
  obtain ⟨e', n'⟩ := s.kp a o n e
  refine ⟨e', fun z => (List.mem_append.mp z).elim n' fun z => ?_⟩
  have z' := List.mem_singleton.mp z
  rw [z', h] at e
  cases e
theorem loc_imp {m : M (List D)} (σ : L2.St) (H : Hp) (Q : VK) (h : rdE g W (mLoc m) σ H Q) : rdN g W m σ H Q := by
  obtain ⟨B, O, S, σd, r, p⟩ := h
  refine ⟨B, O, S, σd, r, ?_⟩
  unfold mLoc at p
  revert p
  cases m σd S with
  | ok ds S' =>
    intro p q vs O' H' h0 h1 h2 h3 h4 h5
    have hq : (O' ++ [q])[S'.length]? = some q := by
      rw [← show O'.length = S'.length from h1.ol]
      simp
    exact p (.ref q) (O' ++ [q]) H' (Rel.locate (c := ⟨g.K, g.G, B, O'⟩) h1 h2 ⟨vs, h3, h4⟩) ⟨q, hq, rfl⟩ (h5.loc h0)
  | exc k ns ds S' => exact fun p => p
  | bad => exact fun p => p
theorem sn_loc {m : M (List D)} (h : PE X e (rdN g W m)) : PE X e (rdE g W (mLoc m)) := PE.imp h loc_imp
def mTest (m : M D) : M Bool := mB m fun d => fun _ S => match d with
  | .bl b => .ok b S
  | _ => .bad
theorem test_imp {m : M D} (σ : L2.St) (H : Hp) (Q : Bool → Hp → Prop) (h : rdT g W (mTest m) σ H Q) : rdE g W m σ H fun x H1 => ∃ c, x = .bl c ∧ Q c H1 := by
  obtain ⟨B, O, S, σd, rel, p⟩ := h
  refine rdG_mono (rd_then (rel := RD) rel p) fun v H1 ⟨x, O1, S1, r1, rx, st1, p1⟩ => ?_
  cases x with
  | bl i => exact ⟨i, rx, post_val p1 r1 rfl⟩
  | _ => exact p1.elim
theorem st_val {m : M D} (h : PE X e (rdE g W m)) (he : ∀ whole, isTrue e X.env whole = (do let v ← whole; standAt e.pos; holding [v] (truthy v)) := by intro _; rfl) : PT X e (rdT g W (mTest m)) :=
  PT.imp (pt_val h he) fun σ H Q h => test_imp σ H Q h
def mNotT (m : M Bool) : M Bool := mB m fun b => fun _ S => .ok (!b) S
theorem st_not {m : M Bool} (h : PT X a (rdT g W m)) : PT X (.UnaryOp .Not a pos) (rdT g W (mNotT m)) := PT.imp (pt_not h) fun σ H Q ⟨B, O, S, σd, rel, p⟩ =>
  rdG_mono (rd_then (rel := same) rel p) fun v H1 ⟨x, O1, S1, r1, rx, st1, p1⟩ => by
    cases (show _ = _ from rx)
    exact post_val p1 r1 rfl
def mAndT (a b : M Bool) : M Bool := mB a fun c => if c = true then b else fun _ S => .ok false S
def mOrT (a b : M Bool) : M Bool := mB a fun c => if c = true then fun _ S => .ok true S else b
theorem sw_and1 {m : M Bool} (h : PT X a (rdT g W m)) : PW X (.BoolOp .And [a] pos) (rdT g W m) := pw_and1 h
theorem sw_or1 {m : M Bool} (h : PT X a (rdT g W m)) : PW X (.BoolOp .Or [a] pos) (rdT g W m) := pw_or1 h
theorem sw_and {rest : List Expr} {m n : M Bool} (ha : PT X a (rdT g W m)) (hb : PW X (.BoolOp .And (b :: rest) pos) (rdT g W n)) : PW X (.BoolOp .And (a :: b :: rest) pos) (rdT g W (mAndT m n)) :=
  PW.imp (pw_and ha hb) fun σ H Q ⟨B, O, S, σd, rel, p⟩ => rdG_mono (rd_then (rel := same) rel p) fun v H1 ⟨x, O1, S1, r1, rx, st1, p1⟩ => by
    cases (show _ = _ from rx)
    cases v with
    | true => exact ⟨B, O1, S1, σd, r1, p1⟩
    | false => exact post_val p1 r1 rfl
theorem sw_or {rest : List Expr} {m n : M Bool} (ha : PT X a (rdT g W m)) (hb : PW X (.BoolOp .Or (b :: rest) pos) (rdT g W n)) : PW X (.BoolOp .Or (a :: b :: rest) pos) (rdT g W (mOrT m n)) :=
  PW.imp (pw_or ha hb) fun σ H Q ⟨B, O, S, σd, rel, p⟩ => rdG_mono (rd_then (rel := same) rel p) fun v H1 ⟨x, O1, S1, r1, rx, st1, p1⟩ => by
    cases (show _ = _ from rx)
    cases v with
    | true => exact post_val p1 r1 rfl
    | false => exact ⟨B, O1, S1, σd, r1, p1⟩
def mAnd (a b : M D) : M D := mB (mTest a) fun c => if c = true then b else fun _ S => .ok (.bl false) S
def mOr (a b : M D) : M D := mB (mTest a) fun c => if c = true then fun _ S => .ok (.bl true) S else b
def mNot (a : M D) : M D := mB (mTest a) fun c => fun _ S => .ok (.bl (!c)) S
theorem se_one {op} {m : M D} (h : PE X a (rdE g W m)) : PE X (.BoolOp op [a] pos) (rdE g W m) := pe_one h
theorem val_then {α : Type} {β : Type} {rel' : Ct → Hp → α → β → Prop} {m : M D} {f : Bool → M α} {B O : List Addr} {S : Sto} {σd : Sl} {σ : L2.St} {H : Hp} {Q : β → Hp → Prop} (r : Rel ⟨g.K, g.G, B, O⟩ S σd σ H)
    (p : Post rel' ⟨g.K, g.G, B, O⟩ W σ σd H (mB (mTest m) f σd S) Q) :
    rdE g W m σ H fun v H1 => ∃ c, v = .bl c ∧ ∃ O1 S1, Rel ⟨g.K, g.G, B, O1⟩ S1 σd σ H1 ∧ Step O H O1 H1 ∧ Post rel' ⟨g.K, g.G, B, O1⟩ W σ σd H1 (f c σd S1) Q :=
  test_imp σ H _ (rdG_mono (rd_then (rel := same) r p) fun v H1 ⟨x, O1, S1, r1, rx, st1, p1⟩ => by
    cases (show _ = _ from rx)
    exact ⟨O1, S1, r1, st1, p1⟩)
theorem se_and {rest : List Expr} {m n : M D} (ha : PE X a (rdE g W m)) (hb : PE X (.BoolOp .And (b :: rest) pos) (rdE g W n)) : PE X (.BoolOp .And (a :: b :: rest) pos) (rdE g W (mAnd m n)) :=
  PE.imp (pe_and ha hb) fun σ H Q ⟨B, O, S, σd, rel, p⟩ => rdG_mono (val_then rel p) fun v H1 ⟨c, ev, O1, S1, r1, st1, p1⟩ => ⟨c, ev, by
    cases c with
    | true => exact ⟨B, O1, S1, σd, r1, p1⟩
    | false => exact post_val p1 r1 rfl⟩
theorem se_or {rest : List Expr} {m n : M D} (ha : PE X a (rdE g W m)) (hb : PE X (.BoolOp .Or (b :: rest) pos) (rdE g W n)) : PE X (.BoolOp .Or (a :: b :: rest) pos) (rdE g W (mOr m n)) :=
  PE.imp (pe_or ha hb) fun σ H Q ⟨B, O, S, σd, rel, p⟩ => rdG_mono (val_then rel p) fun v H1 ⟨c, ev, O1, S1, r1, st1, p1⟩ => ⟨c, ev, by
    cases c with
    | true => exact post_val p1 r1 rfl
    | false => exact ⟨B, O1, S1, σd, r1, p1⟩⟩
theorem se_not {m : M D} (ha : PE X a (rdE g W m)) : PE X (.UnaryOp .Not a pos) (rdE g W (mNot m)) :=
  PE.imp (pe_not ha) fun σ H Q ⟨B, O, S, σd, rel, p⟩ => rdG_mono (val_then rel p) fun v H1 ⟨c, ev, O1, S1, r1, st1, p1⟩ => ⟨c, ev, post_val p1 r1 rfl⟩
def mIf {α : Type} (t : M Bool) (a b : M α) : M α := mB t fun c => if c = true then a else b
theorem se_ifExp {c : Expr} {t : M Bool} {m n : M D} (hc : PT X c (rdT g W t)) (ha : PE X a (rdE g W m)) (hb : PE X b (rdE g W n)) : PE X (.IfExp c a b pos) (rdE g W (mIf t m n)) :=
  PE.imp (pe_ifExp hc ha hb) fun σ H Q ⟨B, O, S, σd, rel, p⟩ => rdG_mono (rd_then (rel := same) rel p) fun v H1 ⟨x, O1, S1, r1, rx, st1, p1⟩ => by
    cases (show _ = _ from rx)
    cases v with
    | true => exact ⟨B, O1, S1, σd, r1, p1⟩
    | false => exact ⟨B, O1, S1, σd, r1, p1⟩
/-- lo <= x <= hi -/
def mChain (f f' : D → D → Sto → R D) (a b c : M D) : M D := mB a fun x => mB b fun y => mB (mTest fun _ S => f x y S) fun k => if k = true then mB c fun z => fun _ S => f' y z S else fun _ S => .ok (.bl false) S
theorem se_chain {op op' : CmpOp} {r r' : R2} {c : Expr} {f f' : D → D → Sto → R D} {ma mb mc : M D} (ho : OpR X (compareOp op) r) (ho' : OpR X (compareOp op') r') (hs : OpS g W r f) (hs' : OpS g W r' f')
    (ha : PE X a (rdE g W ma)) (hb : PE X b (rdE g W mb)) (hc : PE X c (rdE g W mc)) (hm : lastMarks [op, op'] [b, c] = false) : PE X (.Compare a [op, op'] [b, c] pos) (rdE g W (mChain f f' ma mb mc)) := by
  refine PE.imp (pe_chain ho ho' ha hb hc hm) fun σ H Q ⟨B, O, S, σd, rel, p⟩ => ?_
  refine rdG_mono (rd_then (rel := RD) rel p) fun v H1 ⟨x, O1, S1, r1, rx, st1, p1⟩ => ?_
  refine rdG_mono (rd_then (rel := RD) r1 p1) fun w H2 ⟨y, O2, S2, r2, ry, st2, p2⟩ => ?_
  have rx2 := RD.step (c := ⟨g.K, g.G, B, O1⟩) st2 x v rx
  refine hs r2 rx2 ry ?_
  simp only [mB, mTest] at p2
  revert p2
  cases f x y S2 with
  | ok d S3 =>
    intro p2 v3 O3 H3 h1 h2 h3
    cases d with
    | bl k =>
      refine ⟨k, h2, ?_⟩
      cases k with
      | true =>
        have p3 : Post RD ⟨g.K, g.G, B, O3⟩ W σ σd H3 (mB mc (fun z => fun _ S => f' y z S) σd S3) Q := Post.step (c := ⟨g.K, g.G, B, O2⟩) h3 p2
        exact rdG_mono (rd_then (rel := RD) h1 p3) fun u H4 ⟨z, O4, S4, r4, rz, st4, p4⟩ => hs' r4 (RD.step (c := ⟨g.K, g.G, B, O2⟩) (h3.trans st4) y w ry) rz p4
      | false => exact p2 (.bl false) O3 H3 h1 rfl h3
    | _ => exact p2.elim
  | exc k ns ds S3 => exact fun p2 => p2
  | bad => exact fun p2 => p2.elim
def mNil : M (List D) := fun _ S => .ok [] S
def mCons (a : M D) (r : M (List D)) : M (List D) := mB a fun x => mB r fun xs => fun _ S => .ok (x :: xs) S
theorem sa_nil : PA X [] (rdA g W mNil) := PA.imp pa_nil fun σ H Q ⟨B, O, S, σd, rel, p⟩ => post_val p rel rfl
theorem sa_cons {m : M D} {n : M (List D)} (h : PE X e (rdE g W m)) (hr : PA X es (rdA g W n)) (hs : starEach (e :: es) X.env = (false, eval e X.env) :: starEach es X.env := by rfl) : PA X (e :: es) (rdA g W (mCons m n)) :=
  PA.imp (pa_cons h hr hs) fun σ H Q ⟨B, O, S, σd, rel, p⟩ => rdG_mono (rd_then (rel := RD) rel p) fun v H1 ⟨x, O1, S1, r1, rx, st1, p1⟩ =>
    rdG_mono (rd_then (rel := RDs) r1 p1) fun w H2 ⟨y, O2, S2, r2, ry, st2, p2⟩ => post_val p2 r2 ⟨v, w, rfl, RD.step (c := ⟨g.K, g.G, B, O1⟩) st2 x v rx, ry⟩
def mTup (m : M (List D)) : M D := mB m fun ds => fun _ S => if ds.length ≤ LIM then .ok (.tup ds) S else .bad
def mLst (m : M (List D)) : M (List D) := mB m fun ds => fun _ S => if ds.length ≤ LIM then .ok ds S else .bad
theorem se_tup {k : Nat} {m : M (List D)} (h : PA X es (rdA g W m)) : PE X (.Tuple es k pos) (rdE g W (mTup m)) := PE.imp (pe_tupF h) fun σ H Q ⟨B, O, S, σd, rel, p⟩ =>
  rdG_mono (rd_then (rel := RDs) rel p) fun vs H1 ⟨ds, O1, S1, r1, rx, st1, p1⟩ => by
    split at p1
    · next hl => exact ⟨by rw [← rx.length]; exact lim_ok hl, post_newT p1 r1 rx⟩
    · exact p1.elim
theorem sn_lst {m : M (List D)} (h : PA X es (rdA g W m)) : PE X (.List es pos) (rdN g W (mLst m)) := PE.imp (pe_lst h) fun σ H Q ⟨B, O, S, σd, rel, p⟩ =>
  rdG_mono (rdN_then (rel := RDs) rel p) fun vs H1 ⟨ds, O1, S1, r1, rx, st1, p1⟩ => by
    split at p1
    · next hl => exact ⟨by rw [← rx.length]; exact lim_ok hl, postN_new p1 r1 rx⟩
    · exact p1.elim
def mApp {α : Type} (f : List D → Sto → R α) (m : M (List D)) : M α := mB m fun ds => fun _ S => f ds S
def CallS (g : Gx) (W : WX) (r : List V → Hp → VK → Prop) (f : List D → Sto → R D) : Prop := ∀ {B O : List Addr} {S : Sto} {σd : Sl} {σ : L2.St} {H : Hp} {ds : List D} {vs : List V} {Q : VK},
  Rel ⟨g.K, g.G, B, O⟩ S σd σ H → RDs ⟨g.K, g.G, B, O⟩ H ds vs → Post RD ⟨g.K, g.G, B, O⟩ W σ σd H (f ds S) Q → r vs H Q
def CallSN (g : Gx) (W : WX) (r : List V → Hp → VK → Prop) (f : List D → Sto → R (List D)) : Prop := ∀ {B O : List Addr} {S : Sto} {σd : Sl} {σ : L2.St} {H : Hp} {ds : List D} {vs : List V} {Q : VK},
  Rel ⟨g.K, g.G, B, O⟩ S σd σ H → RDs ⟨g.K, g.G, B, O⟩ H ds vs → PostN ⟨g.K, g.G, B, O⟩ W σ σd H (f ds S) Q → r vs H Q
theorem app_imp {r : List V → Hp → VK → Prop} {f : List D → Sto → R D} {m : M (List D)} (hs : CallS g W r f) (σ : L2.St) (H : Hp) (Q : VK) (h : rdE g W (mApp f m) σ H Q) : tCB r (rdA g W m) σ H Q := by
  obtain ⟨B, O, S, σd, rel, p⟩ := h
  exact rdG_mono (rd_then (rel := RDs) rel p) fun v H1 ⟨x, O1, S1, r1, rx, st1, p1⟩ => hs r1 rx p1
theorem appN_imp {r : List V → Hp → VK → Prop} {f : List D → Sto → R (List D)} {m : M (List D)} (hs : CallSN g W r f) (σ : L2.St) (H : Hp) (Q : VK) (h : rdN g W (mApp f m) σ H Q) : tCB r (rdA g W m) σ H Q := by
  obtain ⟨B, O, S, σd, rel, p⟩ := h
  exact rdG_mono (rdN_then (rel := RDs) rel p) fun v H1 ⟨x, O1, S1, r1, rx, st1, p1⟩ => hs r1 rx p1
end
end DL

namespace DL
open PySem PySem.Spec PyProof.Rows L2
def intsOf : List D → Option (List Int)
  | [] => some []
  | .int i :: ds => (intsOf ds).map (i :: ·)
  | _ => none
def blsOf : List D → Option (List Bool)
  | [] => some []
  | .bl i :: ds => (blsOf ds).map (i :: ·)
  | _ => none
theorem intsOf_rd {c : Ct} {H : Hp} : ∀ {ds : List D} {vs : List V} {ns : List Int}, intsOf ds = some ns → RDs c H ds vs → vs = ns.map V.int
  | [], _, _, e, h => by cases Option.some.inj e; exact h
  | d :: ds, _, ns, e, ⟨v, vs', ev, r, t⟩ => by
    cases d with
    | int i =>
      obtain ⟨ms, h1, h2⟩ := Option.map_eq_some_iff.mp (show (intsOf ds).map (i :: ·) = some ns from e)
      rw [ev, intsOf_rd h1 t, ← h2, show v = _ from r]
      rfl
    | _ => cases e
theorem blsOf_rd {c : Ct} {H : Hp} : ∀ {ds : List D} {vs : List V} {ns : List Bool}, blsOf ds = some ns → RDs c H ds vs → vs = ns.map V.bl
  | [], _, _, e, h => by cases Option.some.inj e; exact h
  | d :: ds, _, ns, e, ⟨v, vs', ev, r, t⟩ => by
    cases d with
    | bl i =>
      obtain ⟨ms, h1, h2⟩ := Option.map_eq_some_iff.mp (show (blsOf ds).map (i :: ·) = some ns from e)
      rw [ev, blsOf_rd h1 t, ← h2, show v = _ from r]
      rfl
    | _ => cases e
@[simp] theorem intsOf_map : ∀ ns : List Int, intsOf (ns.map D.int) = some ns
  | [] => rfl
  | n :: ns => by show (intsOf (ns.map D.int)).map _ = _; rw [intsOf_map ns]; rfl
@[simp] theorem blsOf_map : ∀ ns : List Bool, blsOf (ns.map D.bl) = some ns
  | [] => rfl
  | n :: ns => by show (blsOf (ns.map D.bl)).map _ = _; rw [blsOf_map ns]; rfl
def minL (n : Int) (ns : List Int) : Int := ns.foldl (fun a b => if b < a then b else a) n
theorem minL_le : ∀ (ns : List Int) (n : Int), minL n ns ≤ n ∧ ∀ y ∈ ns, minL n ns ≤ y
  | [], n => ⟨Int.le_refl _, fun y h => by cases h⟩
  | m :: ns, n => by
    have ih := minL_le ns (if m < n then m else n)
    have h0 : (if m < n then m else n) ≤ n ∧ (if m < n then m else n) ≤ m := by split <;> omega
    refine ⟨?_, fun y h => ?_⟩
    · show minL (if m < n then m else n) ns ≤ n
      exact Int.le_trans ih.1 h0.1
    · show minL (if m < n then m else n) ns ≤ y
      rcases List.mem_cons.mp h with z | h
      · rw [z]; exact Int.le_trans ih.1 h0.2
      · exact ih.2 y h
theorem minL_mem : ∀ (ns : List Int) (n : Int), minL n ns ∈ n :: ns
  | [], n => List.mem_cons_self ..
  | m :: ns, n => by
    have ih := minL_mem ns (if m < n then m else n)
    show minL (if m < n then m else n) ns ∈ n :: m :: ns
    rcases List.mem_cons.mp ih with h | h
    · rw [h]; split <;> simp
    · exact List.mem_cons_of_mem _ (List.mem_cons_of_mem _ h)
section
variable {g : Gx} {W : WX} {X : Cx} {e a b : Expr} {es : List Expr} {pos p : Pos} {x : Str} {n : M (List D)}
theorem RDs.one_inv {c : Ct} {H : Hp} {d : D} {vs : List V} (h : RDs c H [d] vs) : ∃ v, vs = [v] ∧ RD c H d v := by
  obtain ⟨v, vs', e, r, t⟩ := h
  exact ⟨v, by rw [e, show vs' = _ from t], r⟩
theorem RDs.two_inv {c : Ct} {H : Hp} {d d' : D} {vs : List V} (h : RDs c H [d, d'] vs) : ∃ v w, vs = [v, w] ∧ RD c H d v ∧ RD c H d' w := by
  obtain ⟨v, vs', e, r, t⟩ := h
  obtain ⟨w, e2, r2⟩ := RDs.one_inv t
  exact ⟨v, w, by rw [e, e2], r, r2⟩
def fLen (ds : List D) (S : Sto) : R D := match ds with
  | [d] => match seqOf S d with
    | some xs => .ok (.int xs.length) S
    | none => match d with
      | .str x => if x.length ≤ LIM then .ok (.int x.length) S else .bad
      | _ => .bad
  | _ => .bad
theorem fLen_ok {K : PySem.W.Frag} : CallS g W (fun xs H Q => (∃ p ys, xs = [.ref p] ∧ (SqL K H p ys ∨ SqT K H p ys) ∧ Q (.int ys.length) H) ∨ ∃ z, xs = [.str z] ∧ z.length ≤ sizeLine ∧ Q (.int z.length) H) fLen := fun {B O S σd σ H ds vs Q} r h p => by
  unfold fLen at p
  split at p
  · next d =>
    obtain ⟨v, rfl, hd⟩ := RDs.one_inv h
    split at p
    · next xs q =>
      obtain ⟨a, ys, rfl, h1, h2⟩ := seqOf_ok (K := K) r.toRelS hd q
      exact .inl ⟨a, ys, rfl, h1, post_val p r (by rw [h2.length]; rfl)⟩
    · split at p
      · split at p
        · next hl =>
          cases (show _ = _ from hd)
          exact .inr ⟨_, rfl, lim_ok hl, post_val p r rfl⟩
        · exact p.elim
      · exact p.elim
  · exact p.elim
theorem se_len (hg : Gl X "len") (hm : X.mg "len" = none) (ha : PA X (e :: es) (rdA g W n)) (he : starEach (e :: es) X.env = (false, eval e X.env) :: starEach es X.env := by rfl) (hpl : (backTo pos (starEach es X.env)).any (·.1) = false := by rfl) :
    PE X (.Call (.Name "len" p) (e :: es) [] pos) (rdE g W (mApp fLen n)) := PE.imp (pe_callB (call_len_seq.or call_len_str) hg hm PySem.boot_len ha (by decide) (by decide) he hpl) (app_imp fLen_ok)
def rSumT (K : PySem.W.Frag) : List V → Hp → VK → Prop := fun vs H Q => ∃ (a : Addr) (ns : List Int), vs = [V.ref a] ∧ SqT K H a (ns.map V.int) ∧ Q (.int ns.sum) H
theorem cr_sumT (hc : X.calm = true) : CallR X (.builtin "sum") (rSumT X.K) := by
  intro pins s σ H vs us Q I r h
  obtain ⟨a, ns, rfl, hs, q⟩ := h
  obtain ⟨its, rv, hl, _⟩ := I.tuple hs
  rw [Vals.ref1 r]
  have hi := rv.ints
  obtain ⟨xs, hx⟩ := hi.allInts.items
  have hn : numsOf its.toArray.toList = ns := by rw [show its.toArray.toList = its from rfl, hi.numsOf]
  have hl' : s.heap.IsTuple a its.toArray := hl
  rw [hx] at hl' hn
  rw [nums_intItems] at hn
  refine PySem.W.ktm_sumG (I.ok.hd hc) hl' fun h' tk t' hk => ?_
  rw [preSum_eq, List.take_of_length_le (by simp), hn]
  exact ⟨.int _, H, I.kept hk, ⟨_, rfl⟩, q⟩
def fSum (ds : List D) (S : Sto) : R D := match ds with
  | [d] => match seqOf S d with
    | some xs => match intsOf xs with
      | some ns => .ok (.int ns.sum) S
      | none => .bad
    | none => .bad
  | _ => .bad
theorem fSum_ok {K : PySem.W.Frag} : CallS g W (fun xs H Q => rSum K xs H Q ∨ rSumT K xs H Q) fSum := fun {B O S σd σ H ds vs Q} r h p => by
  unfold fSum at p
  split at p
  · next d =>
    obtain ⟨v, rfl, hd⟩ := RDs.one_inv h
    split at p
    · next xs q =>
      split at p
      · next ns q2 =>
        obtain ⟨a, ys, rfl, h1, h2⟩ := seqOf_ok (K := K) r.toRelS hd q
        have e := intsOf_rd q2 h2
        subst e
        rcases h1 with h1 | h1
        · exact .inl ⟨a, ns, rfl, h1, post_val p r rfl⟩
        · exact .inr ⟨a, ns, rfl, h1, post_val p r rfl⟩
      · exact p.elim
    · exact p.elim
  · exact p.elim
theorem se_sum (hc : X.calm = true) (hg : Gl X "sum") (hm : X.mg "sum" = none) (ha : PA X (e :: es) (rdA g W n)) (he : starEach (e :: es) X.env = (false, eval e X.env) :: starEach es X.env := by rfl) (hpl : (backTo pos (starEach es X.env)).any (·.1) = false := by rfl) :
    PE X (.Call (.Name "sum" p) (e :: es) [] pos) (rdE g W (mApp fSum n)) := PE.imp (pe_callB ((cr_sum hc).or (cr_sumT hc)) hg hm (by decide +kernel) ha (by decide) (by decide) he hpl) (app_imp fSum_ok)
def fMin (ds : List D) (S : Sto) : R D := match ds with
  | [d] => match lstOf S d with
    | some xs => match intsOf xs with
      | some (m :: ns) => .ok (.int (minL m ns)) S
      | _ => .bad
    | none => .bad
  | [.int i, .int j] => .ok (.int (if j < i then j else i)) S
  | _ => .bad
theorem fMin_ok {K : PySem.W.Frag} : CallS g W (fun xs H Q => rMin K xs H Q ∨ ∃ i j, xs = [.int i, .int j] ∧ Q (.int (if j < i then j else i)) H) fMin := fun {B O S σd σ H ds vs Q} r h p => by
  unfold fMin at p
  split at p
  · next d =>
    obtain ⟨v, rfl, hd⟩ := RDs.one_inv h
    split at p
    · next xs q =>
      split at p
      · next m ns q2 =>
        obtain ⟨a, ys, rfl, h1, h2⟩ := lstOf_ok r.toRelS hd q
        have e := intsOf_rd q2 h2
        subst e
        refine .inl ⟨a, m :: ns, rfl, SqL.of h1, Nat.succ_pos _, fun k hk hle => ?_⟩
        have e1 : k = minL m ns := by
          have a1 := hle _ (minL_mem ns m)
          have a2 : minL m ns ≤ k := by
            rcases List.mem_cons.mp hk with z | z
            · rw [z]; exact (minL_le ns m).1
            · exact (minL_le ns m).2 k z
          omega
        rw [e1]
        exact post_val p r rfl
      · exact p.elim
    · exact p.elim
  · next i j =>
    obtain ⟨v, w, rfl, h1, h2⟩ := RDs.two_inv h
    cases (show _ = _ from h1)
    cases (show _ = _ from h2)
    exact .inr ⟨_, _, rfl, post_val p r rfl⟩
  · exact p.elim
theorem se_min (hc : X.calm = true) (hg : Gl X "min") (hm : X.mg "min" = none) (ha : PA X (e :: es) (rdA g W n)) (he : starEach (e :: es) X.env = (false, eval e X.env) :: starEach es X.env := by rfl) (hpl : (backTo pos (starEach es X.env)).any (·.1) = false := by rfl) :
    PE X (.Call (.Name "min" p) (e :: es) [] pos) (rdE g W (mApp fMin n)) := PE.imp (pe_callB ((cr_min hc).or (call_min2 hc)) hg hm (by decide +kernel) ha (by decide) (by decide) he hpl) (app_imp fMin_ok)
def fMax (ds : List D) (S : Sto) : R D := match ds with
  | [.int i, .int j] => .ok (.int (if j > i then j else i)) S
  | _ => .bad
theorem fMax_ok : CallS g W (fun xs H Q => ∃ i j, xs = [.int i, .int j] ∧ Q (.int (if j > i then j else i)) H) fMax := fun {B O S σd σ H ds vs Q} r h p => by
  unfold fMax at p
  split at p
  · next i j =>
    obtain ⟨v, w, rfl, h1, h2⟩ := RDs.two_inv h
    cases (show _ = _ from h1)
    cases (show _ = _ from h2)
    exact ⟨_, _, rfl, post_val p r rfl⟩
  · exact p.elim
theorem se_max (hc : X.calm = true) (hg : Gl X "max") (hm : X.mg "max" = none) (ha : PA X (e :: es) (rdA g W n)) (he : starEach (e :: es) X.env = (false, eval e X.env) :: starEach es X.env := by rfl) (hpl : (backTo pos (starEach es X.env)).any (·.1) = false := by rfl) :
    PE X (.Call (.Name "max" p) (e :: es) [] pos) (rdE g W (mApp fMax n)) := PE.imp (pe_callB (call_max2 hc) hg hm (by decide +kernel) ha (by decide) (by decide) he hpl) (app_imp fMax_ok)
def fAbs (ds : List D) (S : Sto) : R D := match ds with
  | [.int i] => .ok (.int (if i < 0 then -i else i)) S
  | _ => .bad
theorem fAbs_ok : CallS g W (fun xs H Q => ∃ i, xs = [.int i] ∧ Q (.int (if i < 0 then -i else i)) H) fAbs := fun {B O S σd σ H ds vs Q} r h p => by
  unfold fAbs at p
  split at p
  · next i =>
    obtain ⟨v, rfl, h1⟩ := RDs.one_inv h
    cases (show _ = _ from h1)
    exact ⟨_, rfl, post_val p r rfl⟩
  · exact p.elim
theorem se_abs (hg : Gl X "abs") (hm : X.mg "abs" = none) (ha : PA X (e :: es) (rdA g W n)) (he : starEach (e :: es) X.env = (false, eval e X.env) :: starEach es X.env := by rfl) (hpl : (backTo pos (starEach es X.env)).any (·.1) = false := by rfl) :
    PE X (.Call (.Name "abs" p) (e :: es) [] pos) (rdE g W (mApp fAbs n)) := PE.imp (pe_callB call_abs hg hm (by decide +kernel) ha (by decide) (by decide) he hpl) (app_imp fAbs_ok)
def fInt1 (ds : List D) (S : Sto) : R D := match ds with
  | [.int i] => .ok (.int i) S
  | [.bl k] => .ok (.int (if k then 1 else 0)) S
  | [.str z] => match PySem.intText? z with
    | some i => if z.length ≤ 640 then .ok (.int i) S else .bad
    | none => .bad
  | _ => .bad
theorem fInt1_ok : CallS g W (fun xs H Q => ((∃ i, xs = [.int i] ∧ Q (.int i) H) ∨ ∃ k, xs = [.bl k] ∧ Q (.int (if k then 1 else 0)) H) ∨ ∃ z i, xs = [.str z] ∧ PySem.intText? z = some i ∧ z.length ≤ 640 ∧ Q (.int i) H) fInt1 := fun {B O S σd σ H ds vs Q} r h p => by
  unfold fInt1 at p
  split at p
  · obtain ⟨v, rfl, h1⟩ := RDs.one_inv h
    cases (show _ = _ from h1)
    exact .inl (.inl ⟨_, rfl, post_val p r rfl⟩)
  · obtain ⟨v, rfl, h1⟩ := RDs.one_inv h
    cases (show _ = _ from h1)
    exact .inl (.inr ⟨_, rfl, post_val p r rfl⟩)
  · obtain ⟨v, rfl, h1⟩ := RDs.one_inv h
    cases (show _ = _ from h1)
    split at p
    · next q =>
      split at p
      · next hl => exact .inr ⟨_, _, rfl, q, hl, post_val p r rfl⟩
      · exact p.elim
    · exact p.elim
  · exact p.elim
theorem se_int1 (hg : Gl X "int") (hm : X.mg "int" = none) (ha : PA X (e :: es) (rdA g W n)) (he : starEach (e :: es) X.env = (false, eval e X.env) :: starEach es X.env := by rfl) (hpl : (backTo pos (starEach es X.env)).any (·.1) = false := by rfl) :
    PE X (.Call (.Name "int" p) (e :: es) [] pos) (rdE g W (mApp fInt1 n)) := PE.imp (pe_callTy (call_int1.or call_int_str) hg hm (by decide +kernel) ha (by decide) (by decide) he hpl) (app_imp fInt1_ok)
def fStr1 (ds : List D) (S : Sto) : R D := match ds with
  | [.int i] => if i.natAbs < 1000000 then .ok (.str (toString i)) S else .bad
  | _ => .bad
theorem fStr1_ok : CallS g W (fun xs H Q => ∃ i, xs = [.int i] ∧ i.natAbs.log2 < 1920 ∧ Q (.str (toString i)) H) fStr1 := fun {B O S σd σ H ds vs Q} r h p => by
  unfold fStr1 at p
  split at p
  · next i =>
    obtain ⟨v, rfl, h1⟩ := RDs.one_inv h
    cases (show _ = _ from h1)
    split at p
    · next hl =>
      refine ⟨_, rfl, ?_, post_val p r rfl⟩
      exact PySem.Flt.log2_lt_of (by decide) (Nat.lt_of_lt_of_le hl (Nat.le_trans (show 1000000 ≤ 2 ^ 20 by decide) (Nat.pow_le_pow_right (by decide) (by decide))))
    · exact p.elim
  · exact p.elim
theorem se_str1 (hg : Gl X "str") (hm : X.mg "str" = none) (ha : PA X (e :: es) (rdA g W n)) (he : starEach (e :: es) X.env = (false, eval e X.env) :: starEach es X.env := by rfl) (hpl : (backTo pos (starEach es X.env)).any (·.1) = false := by rfl) :
    PE X (.Call (.Name "str" p) (e :: es) [] pos) (rdE g W (mApp fStr1 n)) := PE.imp (pe_callTy call_str_int hg hm (by decide +kernel) ha (by decide) (by decide) he hpl) (app_imp fStr1_ok)
def fAll (ds : List D) (S : Sto) : R D := match ds with
  | [d] => match lstOf S d with
    | some xs => match blsOf xs with
      | some bs => .ok (.bl (bs.all id)) S
      | none => .bad
    | none => .bad
  | _ => .bad
def fAny (ds : List D) (S : Sto) : R D := match ds with
  | [d] => match lstOf S d with
    | some xs => match blsOf xs with
      | some bs => .ok (.bl (bs.any id)) S
      | none => .bad
    | none => .bad
  | _ => .bad
theorem fAll_ok {K : PySem.W.Frag} : CallS g W (rAll K) fAll := fun {B O S σd σ H ds vs Q} r h p => by
  unfold fAll at p
  split at p
  · next d =>
    obtain ⟨v, rfl, hd⟩ := RDs.one_inv h
    split at p
    · next xs q =>
      split at p
      · next bs q2 =>
        obtain ⟨a, ys, rfl, h1, h2⟩ := lstOf_ok r.toRelS hd q
        have e := blsOf_rd q2 h2
        subst e
        exact ⟨a, bs, rfl, SqL.of h1, post_val p r rfl⟩
      · exact p.elim
    · exact p.elim
  · exact p.elim
theorem fAny_ok {K : PySem.W.Frag} : CallS g W (rAny K) fAny := fun {B O S σd σ H ds vs Q} r h p => by
  unfold fAny at p
  split at p
  · next d =>
    obtain ⟨v, rfl, hd⟩ := RDs.one_inv h
    split at p
    · next xs q =>
      split at p
      · next bs q2 =>
        obtain ⟨a, ys, rfl, h1, h2⟩ := lstOf_ok r.toRelS hd q
        have e := blsOf_rd q2 h2
        subst e
        exact ⟨a, bs, rfl, SqL.of h1, post_val p r rfl⟩
      · exact p.elim
    · exact p.elim
  · exact p.elim
theorem se_all (hc : X.calm = true) (hg : Gl X "all") (hm : X.mg "all" = none) (ha : PA X (e :: es) (rdA g W n)) (he : starEach (e :: es) X.env = (false, eval e X.env) :: starEach es X.env := by rfl) (hpl : (backTo pos (starEach es X.env)).any (·.1) = false := by rfl) :
    PE X (.Call (.Name "all" p) (e :: es) [] pos) (rdE g W (mApp fAll n)) := PE.imp (pe_callB (cr_all hc) hg hm (by decide +kernel) ha (by decide) (by decide) he hpl) (app_imp fAll_ok)
theorem se_any (hc : X.calm = true) (hg : Gl X "any") (hm : X.mg "any" = none) (ha : PA X (e :: es) (rdA g W n)) (he : starEach (e :: es) X.env = (false, eval e X.env) :: starEach es X.env := by rfl) (hpl : (backTo pos (starEach es X.env)).any (·.1) = false := by rfl) :
    PE X (.Call (.Name "any" p) (e :: es) [] pos) (rdE g W (mApp fAny n)) := PE.imp (pe_callB (cr_any hc) hg hm (by decide +kernel) ha (by decide) (by decide) he hpl) (app_imp fAny_ok)
def fTuple (ds : List D) (S : Sto) : R D := match ds with
  | [d] => match seqOf S d with
    | some xs => .ok (.tup xs) S
    | none => .bad
  | _ => .bad
theorem fTuple_ok {K : PySem.W.Frag} : CallS g W (rTupOf K) fTuple := fun {B O S σd σ H ds vs Q} r h p => by
  unfold fTuple at p
  split at p
  · next d =>
    obtain ⟨v, rfl, hd⟩ := RDs.one_inv h
    split at p
    · next xs q =>
      unfold seqOf at q
      split at q
      · next ys q2 =>
        cases Option.some.inj q
        cases d with
        | tup zs =>
          cases Option.some.inj q2
          obtain ⟨a, us, rfl, h1, h2, h3⟩ := id hd
          exact ⟨a, us, rfl, .inr ⟨h2.sq, post_val p r hd⟩⟩
        | _ => cases q2
      · obtain ⟨a, us, rfl, h1, h2⟩ := lstOf_ok r.toRelS hd q
        exact ⟨a, us, rfl, .inl ⟨SqL.of h1, post_newT p r h2⟩⟩
    · exact p.elim
  · exact p.elim
theorem se_tuple (hg : Gl X "tuple") (hm : X.mg "tuple" = none) (ha : PA X (e :: es) (rdA g W n)) (he : starEach (e :: es) X.env = (false, eval e X.env) :: starEach es X.env := by rfl) (hpl : (backTo pos (starEach es X.env)).any (·.1) = false := by rfl) :
    PE X (.Call (.Name "tuple" p) (e :: es) [] pos) (rdE g W (mApp fTuple n)) := PE.imp (pe_callTy call_tupF hg hm boot_tuple ha (by decide) (by decide) he hpl) (app_imp fTuple_ok)
def fList (ds : List D) (S : Sto) : R (List D) := match ds with
  | [d] => match seqOf S d with
    | some xs => .ok xs S
    | none => match d with
      | .scr ns => .ok (ns.map D.int) S
      | _ => .bad
  | _ => .bad
theorem scr_sq {c : Ct} {H : Hp} {ns : List Int} {v : V} (h : RD c H (.scr ns) v) : ∃ a, v = .ref a ∧ SqL c.K H a (ns.map V.int) := by
  obtain ⟨a, e, h⟩ := h
  rcases h with ⟨h, _⟩ | h
  · exact ⟨a, e, .inl h⟩
  · exact ⟨a, e, .inr h⟩
theorem fList_ok : CallSN g W (fun xs H Q => ∃ p ys, xs = [.ref p] ∧ (SqL g.K H p ys ∨ SqT g.K H p ys) ∧ ∀ l, H l = none → Q (.ref l) (upd H l (.lst ys))) fList := fun {B O S σd σ H ds vs Q} r h p => by
  unfold fList at p
  split at p
  · next d =>
    obtain ⟨v, rfl, hd⟩ := RDs.one_inv h
    split at p
    · next xs q =>
      obtain ⟨a, us, rfl, h1, h2⟩ := seqOf_ok (K := g.K) r.toRelS hd q
      exact ⟨a, us, rfl, h1, postN_new p r h2⟩
    · split at p
      · next ns =>
        obtain ⟨a, rfl, h1⟩ := scr_sq hd
        exact ⟨a, _, rfl, .inl h1, postN_new p r (RDs.of_int _)⟩
      · exact p.elim
  · exact p.elim
theorem sn_list (hk : X.K = g.K) (hg : Gl X "list") (hm : X.mg "list" = none) (ha : PA X (e :: es) (rdA g W n)) (he : starEach (e :: es) X.env = (false, eval e X.env) :: starEach es X.env := by rfl) (hpl : (backTo pos (starEach es X.env)).any (·.1) = false := by rfl) :
    PE X (.Call (.Name "list" p) (e :: es) [] pos) (rdN g W (mApp fList n)) := PE.imp (pe_callTy call_list_of hg hm boot_list ha (by decide) (by decide) he hpl) (by rw [hk]; exact appN_imp fList_ok)
def mRg1 (m : M D) : M (Int × Int) := mB m fun d => fun _ S => match d with
  | .int n => .ok (0, n) S
  | _ => .bad
def mRg2 (m n : M D) : M (Int × Int) := mB m fun d => mB n fun e => fun _ S => match d, e with
  | .int i, .int j => .ok (i, j) S
  | _, _ => .bad
def rdR (g : Gx) (W : WX) (m : M (Int × Int)) : L2.St → Hp → (Int → Int → Hp → Prop) → Prop := fun σ H Q => rdG same g W m σ H fun p H1 => Q p.1 p.2 H1
theorem PRg.imp {X : Cx} {e : Expr} {t t' : L2.St → Hp → (Int → Int → Hp → Prop) → Prop} (h : PRg X e t) (i : ∀ σ H Q, t' σ H Q → t σ H Q) : PRg X e t' := fun pins s σ H Q I q => h pins s σ H Q I (i σ H Q q)
theorem sr_1 {m : M D} (hg : Gl X "range") (hm : X.mg "range" = none) (ha : PE X a (rdE g W m)) (na : starEach [a] X.env = (false, eval a X.env) :: starEach [] X.env := by rfl) : PRg X (.Call (.Name "range" p) [a] [] pos) (rdR g W (mRg1 m)) :=
  PRg.imp (prg_1 hg hm ha na) fun σ H Q ⟨B, O, S, σd, rel, q⟩ => rdG_mono (rd_then (rel := RD) rel q) fun v H1 ⟨x, O1, S1, r1, rx, st1, p1⟩ => by
    cases x with
    | int i => exact ⟨i, rx, post_val (rel := same) (d := ((0 : Int), i)) (v := ((0 : Int), i)) p1 r1 rfl⟩
    | _ => exact p1.elim
theorem sr_2 {m n : M D} (hg : Gl X "range") (hm : X.mg "range" = none) (ha : PE X a (rdE g W m)) (hb : PE X b (rdE g W n)) (na : starEach [a, b] X.env = (false, eval a X.env) :: starEach [b] X.env := by rfl)
    (nb : starEach [b] X.env = (false, eval b X.env) :: starEach [] X.env := by rfl) (hp : (backTo pos (starEach [b] X.env)).any (·.1) = false := by rfl) : PRg X (.Call (.Name "range" p) [a, b] [] pos) (rdR g W (mRg2 m n)) :=
  PRg.imp (prg_2 hg hm ha hb na nb hp) fun σ H Q ⟨B, O, S, σd, rel, q⟩ => rdG_mono (rd_then (rel := RD) rel q) fun v H1 ⟨x, O1, S1, r1, rx, st1, p1⟩ =>
    rdG_mono (rd_then (rel := RD) r1 p1) fun w H2 ⟨y, O2, S2, r2, ry, st2, p2⟩ => by
      cases x with
      | int i =>
        cases y with
        | int j => exact ⟨i, j, rx, ry, post_val (rel := same) (d := (i, j)) (v := (i, j)) p2 r2 rfl⟩
        | _ => exact p2.elim
      | _ => cases y <;> exact p2.elim
def rgD (a b : Int) : List D := (List.range (b - a).toNat).map fun i => D.int (a + (i : Nat))
theorem rg_rd {c : Ct} {H : Hp} (a b : Int) : RDs c H (rgD a b) (rgV a b) := by
  have e1 : rgD a b = ((List.range (b - a).toNat).map fun i => a + (i : Nat)).map D.int := by unfold rgD; rw [List.map_map]; rfl
  have e2 : rgV a b = ((List.range (b - a).toNat).map fun i => a + (i : Nat)).map V.int := by unfold rgV; rw [List.map_map]; rfl
  rw [e1, e2]
  exact RDs.of_int _
def okRg (r : Int × Int) : Bool := decide (0 ≤ r.1) && decide (r.1 ≤ 100000) && decide (-100000 ≤ r.2) && decide (r.2 ≤ 100000)
theorem okRg_ok {r : Int × Int} (h : okRg r = true) : RgOk r.1 r.2 := by
  unfold okRg at h
  simp only [Bool.and_eq_true, decide_eq_true_eq] at h
  exact ⟨by omega, by omega, by omega, by omega, by omega⟩
def mLstRg (m : M (Int × Int)) : M (List D) := mB m fun r => fun _ S => if okRg r then .ok (rgD r.1 r.2) S else .bad
def mTupRg (m : M (Int × Int)) : M D := mB m fun r => fun _ S => if okRg r then .ok (.tup (rgD r.1 r.2)) S else .bad
theorem sn_listRg {m : M (Int × Int)} (hc : X.calm = true) (hg : Gl X "list") (hm : X.mg "list" = none) (h : PRg X e (rdR g W m)) (na : starEach [e] X.env = (false, eval e X.env) :: starEach [] X.env := by rfl) : PE X (.Call (.Name "list" p) [e] [] pos) (rdN g W (mLstRg m)) :=
  PE.imp (pe_listRg hc hg hm h na) fun σ H Q ⟨B, O, S, σd, rel, q⟩ => rdG_mono (rdN_then (rel := same) rel q) fun v H1 ⟨x, O1, S1, r1, rx, st1, p1⟩ => by
    cases (show _ = _ from rx)
    split at p1
    · next h => exact ⟨okRg_ok h, postN_new p1 r1 (rg_rd _ _)⟩
    · exact p1.elim
theorem se_tupRg {m : M (Int × Int)} (hc : X.calm = true) (hg : Gl X "tuple") (hm : X.mg "tuple" = none) (h : PRg X e (rdR g W m)) (na : starEach [e] X.env = (false, eval e X.env) :: starEach [] X.env := by rfl) : PE X (.Call (.Name "tuple" p) [e] [] pos) (rdE g W (mTupRg m)) :=
  PE.imp (pe_tupRgF hc hg hm h na) fun σ H Q ⟨B, O, S, σd, rel, q⟩ => rdG_mono (rd_then (rel := same) rel q) fun v H1 ⟨x, O1, S1, r1, rx, st1, p1⟩ => by
    cases (show _ = _ from rx)
    split at p1
    · next h => exact ⟨okRg_ok h, post_newT p1 r1 (rg_rd _ _)⟩
    · exact p1.elim
inductive Ty where | int | bool | str | tuple | list | dict | none
  deriving DecidableEq
def Ty.s : Ty → String | .int => "int" | .bool => "bool" | .str => "str" | .tuple => "tuple" | .list => "list" | .dict => "dict" | .none => "NoneType"
def tyOf (S : Sto) : D → Option Ty
  | .non => some .none
  | .bl _ => some .bool
  | .int _ => some .int
  | .str _ => some .str
  | .tup _ => some .tuple
  | .lst _ => some .list
  | .dic _ _ => some .dict
  | .ref n => match S[n]? with
    | some (.lst _) => some .list
    | some (.dic _ _) => some .dict
    | _ => Option.none
  | _ => Option.none
def isT (a t : Ty) : Bool := a = t || (a = .bool && t = .int)
theorem isT_ok (a t : Ty) (h : t ≠ .none) : kitB a.s t.s = some (isT a t) := by
  cases a <;> cases t <;> first | exact absurd rfl h | decide +kernel
theorem tyOf_ok {c : Ct} {K : PySem.W.Frag} {S : Sto} {H : Hp} {d : D} {v : V} {t : Ty} (r : RelS c S H) (h : RD c H d v) (e : tyOf S d = some t) : TyX K H v (.type t.s) := by
  cases d with
  | non => cases Option.some.inj e; cases (show _ = _ from h); exact .base .non
  | bl b => cases Option.some.inj e; cases (show _ = _ from h); exact .base (.bl b)
  | int b => cases Option.some.inj e; cases (show _ = _ from h); exact .base (.int b)
  | str b => cases Option.some.inj e; cases (show _ = _ from h); exact .base (.str b)
  | tup ds => cases Option.some.inj e; obtain ⟨a, vs, rfl, _, ⟨o, h1, _⟩, _⟩ := h; exact .fTuple h1
  | lst ds => cases Option.some.inj e; obtain ⟨a, vs, rfl, _, h1, _⟩ := h; exact .base (.lst h1)
  | dic ks ds => cases Option.some.inj e; obtain ⟨a, vs, rfl, _, h1, _⟩ := h; exact .base (.dK h1)
  | ref n =>
    obtain ⟨a, ho, rfl⟩ := h
    unfold tyOf at e
    simp only at e
    split at e
    · next q => cases Option.some.inj e; obtain ⟨vs, h1, _⟩ := r.ob n _ a q ho; exact .base (.lst h1)
    · next q => cases Option.some.inj e; obtain ⟨vs, h1, _⟩ := r.ob n _ a q ho; exact .base (.dK h1)
    · cases e
  | _ => cases e
def mIsi (t : Ty) (m : M D) : M D := mB m fun d => fun _ S => match tyOf S d with
  | some a => .ok (.bl (isT a t)) S
  | Option.none => .bad
def mIsi2 (t u : Ty) (m : M D) : M D := mB m fun d => fun _ S => match tyOf S d with
  | some a => .ok (.bl (isT a t || isT a u)) S
  | Option.none => .bad
theorem se_isi (t : Ty) (ht : t ≠ .none := by decide) {m : M D} {T : Str} {p2 : Pos} (hg : Gl X "isinstance") (hm : X.mg "isinstance" = none) (ha : PE X a (rdE g W m)) (hT : PE X (.Name T p2) (tC (.ty t.s)))
    (na : starEach [a, .Name T p2] X.env = (false, eval a X.env) :: starEach [.Name T p2] X.env := by rfl) (nb : starEach [.Name T p2] X.env = (false, eval (.Name T p2) X.env) :: starEach [] X.env := by rfl) (hp : (backTo pos (starEach [.Name T p2] X.env)).any (·.1) = false := by rfl) :
    PE X (.Call (.Name "isinstance" p) [a, .Name T p2] [] pos) (rdE g W (mIsi t m)) :=
  PE.imp (pe_callB call_isi hg hm (by decide +kernel) (pa_cons ha (pa_cons hT pa_nil nb) na) (by decide) (by decide) na hp) fun σ H Q ⟨B, O, S, σd, rel, q⟩ => rdG_mono (rd_then (rel := RD) rel q) fun v H1 ⟨x, O1, S1, r1, rx, st1, p1⟩ => by
    split at p1
    · next y q => exact ⟨v, .ty t.s, .type y.s, .type t.s, isT y t, rfl, .ty _, tyOf_ok r1.toRelS rx q, kit_ty (isT_ok y t ht), post_val p1 r1 rfl⟩
    · exact p1.elim
theorem se_isi2 (t u : Ty) (ht : t ≠ .none := by decide) (hu : u ≠ .none := by decide) {m : M D} {T U : Str} {p2 p3 p4 : Pos} {k : Nat} (hg : Gl X "isinstance") (hm : X.mg "isinstance" = none) (ha : PE X a (rdE g W m)) (hT : PE X (.Name T p2) (tC (.ty t.s))) (hU : PE X (.Name U p3) (tC (.ty u.s)))
    (na : starEach [a, .Tuple [.Name T p2, .Name U p3] k p4] X.env = (false, eval a X.env) :: starEach [.Tuple [.Name T p2, .Name U p3] k p4] X.env := by rfl)
    (nb : starEach [.Tuple [.Name T p2, .Name U p3] k p4] X.env = (false, eval (.Tuple [.Name T p2, .Name U p3] k p4) X.env) :: starEach [] X.env := by rfl) (hp : (backTo pos (starEach [.Tuple [.Name T p2, .Name U p3] k p4] X.env)).any (·.1) = false := by rfl)
    (nc : starEach [.Name T p2, .Name U p3] X.env = (false, eval (.Name T p2) X.env) :: starEach [.Name U p3] X.env := by rfl) (nd : starEach [.Name U p3] X.env = (false, eval (.Name U p3) X.env) :: starEach [] X.env := by rfl) :
    PE X (.Call (.Name "isinstance" p) [a, .Tuple [.Name T p2, .Name U p3] k p4] [] pos) (rdE g W (mIsi2 t u m)) :=
  PE.imp (pe_callB call_isiT hg hm (by decide +kernel) (pa_cons ha (pa_cons (pe_tup (pa_cons hT (pa_cons hU pa_nil nd) nc)) pa_nil nb) na) (by decide) (by decide) na hp) fun σ H Q ⟨B, O, S, σd, rel, q⟩ => rdG_mono (rd_then (rel := RD) rel q) fun v H1 ⟨x, O1, S1, r1, rx, st1, p1⟩ => by
    refine ⟨by show 2 ≤ sizeLine; decide, fun tp hn => ?_⟩
    split at p1
    · next y q =>
      have rel2 := r1.new (o := .tup [.ty t.s, .ty u.s]) hn
      refine ⟨v, tp, [.ty t.s, .ty u.s], .type y.s, [.type t.s, .type u.s], isT y t || isT y u, rfl, upd_same, .cons (.ty _) (.cons (.ty _) .nil), tyOf_ok rel2.toRelS (RD.step (c := ⟨g.K, g.G, B, O1⟩) (O' := O1) (Step.new hn) x v rx) q, ?_, post_new p1 r1 hn rfl⟩
      refine kitAny_cons (kit_ty (isT_ok y t ht)) (fun e1 => kitAny_cons (kit_ty (isT_ok y u hu)) (fun e2 => ?_) fun e2 => ?_) fun e1 => ?_
      · rw [e1, e2]; rfl
      · rw [e2, Bool.or_true]
      · rw [e1, Bool.true_or]
    · exact p1.elim
end
end DL

namespace DL
open PySem PySem.Spec PyProof.Rows L2
mutual
/-- all places of the store in it lie below n -/
def cl (n : Nat) : D → Bool
  | .ref m => decide (m < n)
  | .tup ds => cll n ds
  | .lst ds => cll n ds
  | .dic _ ds => cll n ds
  | .ins _ _ ds => cll n ds
  | .xc _ _ _ ds => cll n ds
  | _ => true
def cll (n : Nat) : List D → Bool
  | [] => true
  | d :: ds => cl n d && cll n ds
end
def clO (n : Nat) : Ob → Bool
  | .lst ds => cll n ds
  | .dic _ ds => cll n ds
  | .ins _ _ ds => cll n ds
structure Tk (c c' : Ct) (n : Nat) : Prop where
  av : ∀ a, c.av a → c'.av a
  rf : ∀ (m : Nat) a, m < n → c.O[m]? = some a → c'.O[m]? = some a
  k : c'.K = c.K
  g : c'.G = c.G
mutual
theorem RD.tk {c c' : Ct} {n : Nat} {H : Hp} (s : Tk c c' n) : ∀ (d : D) (v : V), cl n d = true → RD c H d v → RD c' H d v
  | .dead, _, _, h => h
  | .non, _, _, h => h
  | .bl _, _, _, h => h
  | .int _, _, _, h => h
  | .str _, _, _, h => h
  | .tup ds, v, q, ⟨a, vs, e, h, t, r⟩ => ⟨a, vs, e, s.av a h, t, RDs.tk s ds vs (by simpa [cl] using q) r⟩
  | .lst ds, v, q, ⟨a, vs, e, h, t, r⟩ => ⟨a, vs, e, s.av a h, t, RDs.tk s ds vs (by simpa [cl] using q) r⟩
  | .dic ks ds, v, q, ⟨a, vs, e, h, t, l, r⟩ => ⟨a, vs, e, s.av a h, t, l, RDs.tk s ds vs (by simpa [cl] using q) r⟩
  | .ins k ns ds, v, q, ⟨a, dx, vs, e, h, t, l, r⟩ => ⟨a, dx, vs, e, s.av a h, by rw [s.g]; exact t, l, RDs.tk s ds vs (by simpa [cl] using q) r⟩
  | .ref m, v, q, ⟨a, h, e⟩ => ⟨a, s.rf m a (by simpa [cl] using q) h, e⟩
  | .scr ns, v, _, ⟨a, e, h⟩ => ⟨a, e, by
      rcases h with ⟨h, q⟩ | h
      · exact .inl ⟨h, s.av a q⟩
      · exact .inr (by rw [s.k]; exact h)⟩
  | .ty _, _, _, h => h
  | .xc a dd ns ds, v, q, ⟨e, h⟩ => ⟨e, by
      rcases h with h | ⟨x, vs, e1, h1, h2, l, r⟩
      · exact .inl h
      · exact .inr ⟨x, vs, e1, s.av x h1, h2, l, RDs.tk s ds vs (by simpa [cl] using q) r⟩⟩
theorem RDs.tk {c c' : Ct} {n : Nat} {H : Hp} (s : Tk c c' n) : ∀ (ds : List D) (vs : List V), cll n ds = true → RDs c H ds vs → RDs c' H ds vs
  | [], _, _, h => h
  | d :: ds, _, q, ⟨v, vs', e, r, t⟩ => by
    have q' : cl n d = true ∧ cll n ds = true := by simpa [cll] using q
    exact ⟨v, vs', e, RD.tk s d v q'.1 r, RDs.tk s ds vs' q'.2 t⟩
end
mutual
theorem RD.closed {c : Ct} {H : Hp} : ∀ (d : D) (v : V), RD c H d v → cl c.O.length d = true
  | .dead, _, _ => rfl
  | .non, _, _ => rfl
  | .bl _, _, _ => rfl
  | .int _, _, _ => rfl
  | .str _, _, _ => rfl
  | .tup ds, v, ⟨a, vs, e, h, t, r⟩ => by simpa [cl] using RDs.closed ds vs r
  | .lst ds, v, ⟨a, vs, e, h, t, r⟩ => by simpa [cl] using RDs.closed ds vs r
  | .dic ks ds, v, ⟨a, vs, e, h, t, l, r⟩ => by simpa [cl] using RDs.closed ds vs r
  | .ins k ns ds, v, ⟨a, dx, vs, e, h, t, l, r⟩ => by simpa [cl] using RDs.closed ds vs r
  | .ref m, v, ⟨a, h, e⟩ => by simpa [cl] using (List.getElem?_eq_some_iff.mp h).1
  | .scr ns, v, _ => rfl
  | .ty _, _, _ => rfl
  | .xc a dd ns ds, v, ⟨e, h⟩ => by
      rcases h with ⟨_, e2, _⟩ | ⟨x, vs, e1, h1, h2, l, r⟩
      · subst e2; rfl
      · simpa [cl] using RDs.closed ds vs r
theorem RDs.closed {c : Ct} {H : Hp} : ∀ (ds : List D) (vs : List V), RDs c H ds vs → cll c.O.length ds = true
  | [], _, _ => rfl
  | d :: ds, _, ⟨v, vs', e, r, t⟩ => by simp [cll, RD.closed d v r, RDs.closed ds vs' t]
end
theorem OO.closed {c : Ct} {H : Hp} {a : Addr} {o : Ob} (h : OO c H a o) : clO c.O.length o = true := by
  cases o with
  | lst ds => obtain ⟨vs, _, r⟩ := h; exact RDs.closed ds vs r
  | dic ks ds => obtain ⟨vs, _, _, r⟩ := h; exact RDs.closed ds vs r
  | ins k ns ds => obtain ⟨dx, vs, _, _, r⟩ := h; exact RDs.closed ds vs r
theorem OO.tk {c c' : Ct} {n : Nat} {H : Hp} {a : Addr} {o : Ob} (s : Tk c c' n) (q : clO n o = true) (h : OO c H a o) : OO c' H a o := by
  cases o with
  | lst ds => obtain ⟨vs, h1, r⟩ := h; exact ⟨vs, h1, RDs.tk s ds vs q r⟩
  | dic ks ds => obtain ⟨vs, h1, l, r⟩ := h; exact ⟨vs, h1, l, RDs.tk s ds vs q r⟩
  | ins k ns ds => obtain ⟨dx, vs, h1, l, r⟩ := h; exact ⟨dx, vs, by rw [s.g]; exact h1, l, RDs.tk s ds vs q r⟩
def optAll {α β : Type} (f : α → Option β) : List α → Option (List β)
  | [] => some []
  | x :: xs => match f x with
    | some y => (optAll f xs).map (y :: ·)
    | none => none
/-- what a def hands back: its own things of the store become settled -/
def fz (n : Nat) (S : Sto) : Nat → D → Option D
  | 0, d => if cl n d then some d else none
  | k + 1, d => if cl n d then some d else match d with
    | .ref m => match S[m]? with
      | some (.lst ds) => (optAll (fz n S k) ds).map .lst
      | some (.dic ks ds) => (optAll (fz n S k) ds).map (.dic ks)
      | some (.ins c ns ds) => (optAll (fz n S k) ds).map (.ins c ns)
      | none => none
    | .tup ds => (optAll (fz n S k) ds).map .tup
    | .lst ds => (optAll (fz n S k) ds).map .lst
    | _ => none
theorem tk_take {c : Ct} {n : Nat} : Tk c (c.at (c.O.take n)) n :=
  ⟨fun a h => ⟨fun z => h.1 (List.mem_of_mem_take z), h.2⟩, fun m a hm h => by
    show (c.O.take n)[m]? = some a
    rw [List.getElem?_take, if_pos hm]
    exact h, rfl, rfl⟩
theorem not_take {O : List Addr} (nd : O.Nodup) {n m : Nat} {a : Addr} (h : O[m]? = some a) (hm : n ≤ m) : a ∉ O.take n := fun z => by
  obtain ⟨i, hi, e⟩ := List.getElem_of_mem z
  have hi' : i < n := Nat.lt_of_lt_of_le hi (by rw [List.length_take]; omega)
  have e1 : O[i]? = some a := by
    have := List.getElem?_eq_getElem hi
    rw [e, List.getElem?_take, if_pos hi'] at this
    exact this
  have := (List.getElem?_inj (List.getElem?_eq_some_iff.mp h).1 nd).mp (h.trans e1.symm)
  omega
theorem optAll_rd {c c' : Ct} {H : Hp} {f : D → Option D} (hf : ∀ d d' v, f d = some d' → RD c H d v → RD c' H d' v) : ∀ (ds es : List D) (vs : List V), optAll f ds = some es → RDs c H ds vs → RDs c' H es vs
  | [], _, _, e, h => by cases Option.some.inj e; exact h
  | d :: ds, es, _, e, ⟨v, vs', ev, r, t⟩ => by
    unfold optAll at e
    split at e
    · next y q =>
      obtain ⟨ys, h1, h2⟩ := Option.map_eq_some_iff.mp e
      rw [← h2]
      exact ⟨v, vs', ev, hf d y v q r, optAll_rd hf ds ys vs' h1 t⟩
    · cases e
theorem fz_ok {c : Ct} {S : Sto} {H : Hp} {n : Nat} (r : RelS c S H) : ∀ (k : Nat) (d d' : D) (v : V), fz n S k d = some d' → RD c H d v → RD (c.at (c.O.take n)) H d' v
  | 0, d, d', v, e, h => by
    unfold fz at e
    split at e
    · next q => cases Option.some.inj e; exact RD.tk tk_take d v q h
    · cases e
  | k + 1, d, d', v, e, h => by
    unfold fz at e
    split at e
    · next q => cases Option.some.inj e; exact RD.tk tk_take d v q h
    · next q =>
      cases d with
      | ref m =>
        obtain ⟨a, ho, rfl⟩ := h
        have hm : n ≤ m := by
          have : ¬ m < n := fun z => q (by simpa [cl] using z)
          omega
        have av : (c.at (c.O.take n)).av a := ⟨not_take r.nd ho hm, r.nb a (mem_of_at ho)⟩
        simp only at e
        split at e
        · next ds qs =>
          obtain ⟨es, h1, h2⟩ := Option.map_eq_some_iff.mp e
          obtain ⟨vs, g1, g2⟩ := r.ob m _ a qs ho
          rw [← h2]
          exact ⟨a, vs, rfl, av, g1, optAll_rd (fz_ok r k) ds es vs h1 g2⟩
        · next ks ds qs =>
          obtain ⟨es, h1, h2⟩ := Option.map_eq_some_iff.mp e
          obtain ⟨vs, g1, l, g2⟩ := r.ob m _ a qs ho
          rw [← h2]
          exact ⟨a, vs, rfl, av, g1, l, optAll_rd (fz_ok r k) ds es vs h1 g2⟩
        · next kk ns ds qs =>
          obtain ⟨es, h1, h2⟩ := Option.map_eq_some_iff.mp e
          obtain ⟨dx, vs, g1, l, g2⟩ := r.ob m _ a qs ho
          rw [← h2]
          exact ⟨a, dx, vs, rfl, av, g1, l, optAll_rd (fz_ok r k) ds es vs h1 g2⟩
        · cases e
      | tup ds =>
        simp only at e
        obtain ⟨es, h1, h2⟩ := Option.map_eq_some_iff.mp e
        obtain ⟨a, vs, rfl, av, g1, g2⟩ := h
        rw [← h2]
        exact ⟨a, vs, rfl, (tk_take (n := n)).av a av, g1, optAll_rd (fz_ok r k) ds es vs h1 g2⟩
      | lst ds =>
        simp only at e
        obtain ⟨es, h1, h2⟩ := Option.map_eq_some_iff.mp e
        obtain ⟨a, vs, rfl, av, g1, g2⟩ := h
        rw [← h2]
        exact ⟨a, vs, rfl, (tk_take (n := n)).av a av, g1, optAll_rd (fz_ok r k) ds es vs h1 g2⟩
      | _ => cases e
/-- what stood in the store ahead stands, or holds none of the def's own things -/
def OkSt (S S' : Sto) : Prop := S.length ≤ S'.length ∧ ∀ (k : Nat) o, k < S.length → S'[k]? = some o → S[k]? = some o ∨ clO S.length o = true
open Classical in
noncomputable def fin (S S' : Sto) (d : D) : R D := if OkSt S S' then match fz S.length S' 4 d with
    | some d' => .ok d' (S'.take S.length)
    | none => .bad
  else .bad
open Classical in
noncomputable def finX (S S' : Sto) (k : Nat) (ns : List Str) (ds : List D) : R D := if OkSt S S' ∧ cll S.length ds = true then .exc k ns ds (S'.take S.length) else .bad
noncomputable def mFun (slots n : Nat) (m : MS) (ds : List D) (S : Sto) : R D := if ds.length = n then
    match m (ds ++ List.replicate (slots - n) .dead) S with
    | .rt d S' => fin S S' d
    | .nx _ S' => fin S S' .non
    | .exc k ns es _ S' => finX S S' k ns es
    | _ => .bad
  else .bad
/-- behind a call of a def -/
def PostF (c : Ct) (E : XK) (H : Hp) (r : R D) (Q : VK) : Prop := match r with
  | .ok d S' => ∀ v O' H', RelS (c.at O') S' H' → RD (c.at O') H' d v → Step c.O H O' H' → Q v H'
  | .exc k ns ds S' => ∀ dd O' H', RelS (c.at O') S' H' → XOk (c.at O') H' ns ds dd → Step c.O H O' H' → E (.ref (c.G k)) dd H'
  | .bad => False
def spD (g : Gx) (f : List D → Sto → R D) : Sp := fun vs H Q E => ∃ B O S ds, RelS ⟨g.K, g.G, B, O⟩ S H ∧ RDs ⟨g.K, g.G, B, O⟩ H ds vs ∧ PostF ⟨g.K, g.G, B, O⟩ E H (f ds S) Q
theorem relS_take {c : Ct} {S S' : Sto} {H H' : Hp} {O' : List Addr} (r : RelS c S H) (r' : RelS (c.at O') S' H') (st : Step c.O H O' H') (ok : OkSt S S') : RelS c (S'.take S.length) H' ∧ Step c.O H c.O H' ∧ O'.take S.length = c.O := by
  obtain ⟨t, ht⟩ := st.pre
  have e0 : O'.take S.length = c.O := by rw [ht, ← r.ol]; exact List.take_left ..
  refine ⟨⟨by rw [List.length_take]; have := r.ol; have := ok.1; omega, r.nd, r.nb, r'.hb, fun n o a h1 h2 => ?_⟩, ⟨⟨[], by simp⟩, fun a o n e => ⟨(st.kp a o n e).1, n⟩⟩, e0⟩
  have hn : n < S.length := by rw [← r.ol]; exact (List.getElem?_eq_some_iff.mp h2).1
  rw [List.getElem?_take, if_pos hn] at h1
  have h2' : O'[n]? = some a := by rw [ht]; exact List.getElem?_append_left (List.getElem?_eq_some_iff.mp h2).1 ▸ h2
  have ho := r'.ob n o a h1 h2'
  have q : clO S.length o = true := by
    rcases ok.2 n o hn h1 with z | z
    · rw [← r.ol]; exact (r.ob n o a z h2).closed
    · exact z
  have tk : Tk (c.at O') c S.length := by
    have := tk_take (c := c.at O') (n := S.length)
    rw [show (c.at O').O.take S.length = c.O from e0] at this
    exact this
  exact OO.tk tk q ho
theorem rel_start {c : Ct} {S : Sto} {H : Hp} {ds : List D} {vs : List V} {N : List Str} (r : RelS c S H) (h : RDs c H ds vs) : Rel c S (ds ++ List.replicate (N.length - ds.length) .dead) (L2.start N vs) H :=
  { r with
    len := by unfold L2.start; simp [h.length]
    sl := fun i d e => by
      by_cases hi : i < ds.length
      · rw [List.getElem?_append_left hi] at e
        obtain ⟨v, h1, h2⟩ := h.get e
        refine .inr ⟨v, ?_, h2⟩
        unfold L2.start
        rw [List.getElem?_append_left (by rw [List.length_map, ← h.length]; exact hi), List.getElem?_map, h1]
        rfl
      · rw [List.getElem?_append_right (Nat.le_of_not_lt hi)] at e
        exact .inl (List.eq_of_mem_replicate (List.mem_of_getElem? e)) }
theorem fn_okD {P : Program} {w : World} {K : PySem.W.Frag} {mg : Str → Option Value} {base : Heap} {x qual : Str} {st : Stmt} {f : Addr} {fd : FuncData} {N ps : List Str} {k : Nat} {G : Nat → Addr} {m : MS} (F : Fun K x qual st f fd) (Sc : FnScope N ps (defScope st))
    (hbody : ∀ (cdv : Value) (A : Around) (outer : List Env) (s : Shared) (H : Hp) (E : XK), Room k (A.deeper (envOfC qual (defScope st) s.heap.objs.size f cdv)) →
      PSs (cxOf (L2.CX P w) P w K mg base N qual (defScope st) f cdv A outer s H E) (defBody st) (rdS ⟨K, G⟩ (fun cls d _ H => E cls d H) m)) :
    FnOk P w K mg base (L2.CX P w) (k + 1) f fd ps (spD ⟨K, G⟩ (mFun N.length ps.length m)) := by
  refine F.okX Sc (fun vs H Q E h => ?_) (fun cdv A outer s H vs Q E hr h => ⟨_, hbody cdv A outer s H E hr, ?_⟩)
  · obtain ⟨B, O, S, ds, r, rd, p⟩ := h
    unfold mFun at p
    split at p
    · next e => rw [← rd.length]; exact e
    · exact p.elim
  · obtain ⟨B, O, S, ds, r, rd, p⟩ := h
    unfold mFun at p
    split at p
    · next e =>
      rw [← e] at p
      refine ⟨B, O, S, _, rel_start (N := N) r rd, ?_⟩
      revert p
      cases m (ds ++ List.replicate (N.length - ds.length) .dead) S with
      | rt d S' =>
        intro p v O' H' h1 h2 h3
        simp only [fin] at p
        split at p
        · next ok =>
          split at p
          · next d' q =>
            obtain ⟨a1, a2, a3⟩ := relS_take (c := ⟨K, G, B, O⟩) r h1 h3 ok
            have := fz_ok h1 4 d d' v q h2
            rw [show ((⟨K, G, B, O⟩ : Ct).at O').O.take S.length = O from a3] at this
            exact p v O H' a1 this a2
          · exact p.elim
        · exact p.elim
      | nx σ' S' =>
        intro p σ2 O' H' h1 h3
        simp only [fin] at p
        split at p
        · next ok =>
          obtain ⟨a1, a2, a3⟩ := relS_take (c := ⟨K, G, B, O⟩) r h1.toRelS h3 ok
          have e1 : fz S.length S' 4 .non = some .non := rfl
          rw [e1] at p
          exact p .non O H' a1 rfl a2
        · exact p.elim
      | exc k ns es σ' S' =>
        intro p dd σ2 O' H' h1 hx h3
        simp only [finX] at p
        split at p
        · next ok =>
          obtain ⟨a1, a2, a3⟩ := relS_take (c := ⟨K, G, B, O⟩) r h1.toRelS h3 ok.1
          have tk : Tk (⟨K, G, B, O'⟩ : Ct) ⟨K, G, B, O⟩ S.length := by
            have := tk_take (c := ⟨K, G, B, O'⟩) (n := S.length)
            rw [show (⟨K, G, B, O'⟩ : Ct).O.take S.length = O from a3] at this
            exact this
          refine p dd O H' a1 ?_ a2
          rcases hx with hx | ⟨a, vs, e1, av, e2, l, e3⟩
          · exact .inl hx
          · exact .inr ⟨a, vs, e1, tk.av a av, e2, l, RDs.tk tk es vs ok.2 e3⟩
        · exact p.elim
      | bk σ' S' => exact fun p => p.elim
      | ct σ' S' => exact fun p => p.elim
      | bad => exact fun p => p.elim
    · exact p.elim
section
variable {g : Gx} {W : WX} {X : Cx} {e a b : Expr} {es : List Expr} {pos p : Pos} {x : Str} {n : M (List D)}
theorem postF_of {B O : List Addr} {S : Sto} {σd : Sl} {σ : L2.St} {H : Hp} {r : R D} {Q : VK} (rl : Rel ⟨g.K, g.G, B, O⟩ S σd σ H) (p : Post RD ⟨g.K, g.G, B, O⟩ W σ σd H r Q) : PostF ⟨g.K, g.G, B, O⟩ (WE W σ) H r Q := by
  cases r with
  | ok d S' => exact fun v O' H' h1 h2 h3 => p v O' H' (rl.step h3 h1) h2 h3
  | exc k ns ds S' => exact fun dd O' H' h1 h2 h3 => p dd O' H' (rl.step h3 h1) h2 h3
  | bad => exact p
theorem se_call {k : Nat} {f : Addr} {fd : FuncData} {ps : List Str} {fn : List D → Sto → R D} (tk : Takes X W) (F : FnOk X.prog X.w X.K X.mg X.base (L2.CX X.prog X.w) k f fd ps (spD g fn)) (hr : Room k X.A) (hg : Gl X x) (hm : X.mg x = some (.ref f))
    (hk : PySem.W.keepIn X.K (.ref f) = true) (hb : Binds X.K fd ps []) (ha : PA X (e :: es) (rdA g W n)) (hdb : (x == ("__debug__" : Str)) = false := by decide)
    (he : starEach (e :: es) X.env = (false, eval e X.env) :: starEach es X.env := by rfl) (hpl : (backTo pos (starEach es X.env)).any (·.1) = false := by rfl) : PE X (.Call (.Name x p) (e :: es) [] pos) (rdE g W (mApp fn n)) :=
  PE.imp (pe_callS (E := WE W) F hr hg hm hk hb (fun σ => passAt tk σ) ha hdb he hpl) fun σ H Q ⟨B, O, S, σd, rel, q⟩ => rdG_mono (rd_then (rel := RDs) rel q) fun v H1 ⟨ds, O1, S1, r1, rx, st1, p1⟩ =>
    ⟨B, O1, S1, ds, r1.toRelS, rx, postF_of r1 p1⟩
end
end DL

namespace DL
open PySem PySem.Spec PyProof.Rows L2
def mBS {α : Type} (a : M α) (f : α → MS) : MS := fun σd S => match a σd S with
  | .ok x S1 => f x σd S1
  | .exc k ns ds S1 => .exc k ns ds σd S1
  | .bad => .bad
theorem rdS_then {α β : Type} {rel : Ct → Hp → α → β → Prop} {W : WX} {S : Sto} {σd : Sl} {σ : L2.St} {H : Hp} {K : PySem.W.Frag} {G : Nat → Addr} {B O : List Addr} {a : M α} {f : α → MS} {J : Ends} (r : Rel ⟨K, G, B, O⟩ S σd σ H)
    (p : PostS ⟨K, G, B, O⟩ W H (mBS a f σd S) J) :
    rdG rel ⟨K, G⟩ W a σ H fun v H1 => ∃ d O1 S1, Rel ⟨K, G, B, O1⟩ S1 σd σ H1 ∧ rel ⟨K, G, B, O1⟩ H1 d v ∧ Step O H O1 H1 ∧ PostS ⟨K, G, B, O1⟩ W H1 (f d σd S1) J := by
  refine ⟨B, O, S, σd, r, ?_⟩
  unfold mBS at p
  revert p
  cases a σd S with
  | ok d S' => exact fun p v O' H' h1 h2 h3 => ⟨d, O', S', h1, h2, h3, PostS.step (c := ⟨K, G, B, O⟩) h3 p⟩
  | exc k ns ds S' => exact fun p dd O' H' h1 h2 h3 => p dd σ O' H' h1 h2 h3
  | bad => exact fun p => p.elim
theorem postS_nx {c : Ct} {W : WX} {S : Sto} {σd : Sl} {σ : L2.St} {H : Hp} {J : Ends} (p : PostS c W H (.nx σd S) J) (r : Rel c S σd σ H) : J.nx σ H := p σ c.O H r (Step.refl _ _)
theorem Rel.set {c : Ct} {S : Sto} {σd : Sl} {σ : L2.St} {H : Hp} {d : D} {v : V} (r : Rel c S σd σ H) (i : Nat) (h : RD c H d v) : Rel c S (σd.set i d) (σ.set i (some v)) H :=
  { r.toRelS with
    len := by rw [List.length_set, List.length_set]; exact r.len
    sl := fun j e q => by
      by_cases hj : i = j
      · subst hj
        by_cases hl : i < σd.length
        · rw [List.getElem?_set_self hl] at q
          rw [← Option.some.inj q]
          exact .inr ⟨v, List.getElem?_set_self (r.len ▸ hl), h⟩
        · rw [List.getElem?_eq_none (by rw [List.length_set]; omega)] at q
          cases q
      · rw [List.getElem?_set_ne hj] at q
        rcases r.sl j e q with z | ⟨u, h1, h2⟩
        · exact .inl z
        · exact .inr ⟨u, by rw [List.getElem?_set_ne hj]; exact h1, h2⟩ }
def setAll (σ : Sl) (is : List Nat) (ds : List D) : Sl := match is with
  | [] => σ
  | i :: is => match ds with
    | [] => σ
    | d :: ds => setAll (σ.set i d) is ds
termination_by structural is
def setVs (σ : L2.St) (is : List Nat) (vs : List V) : L2.St := match is with
  | [] => σ
  | i :: is => match vs with
    | [] => σ
    | v :: vs => setVs (σ.set i (some v)) is vs
termination_by structural is
theorem Rel.setAll {c : Ct} {S : Sto} {H : Hp} : ∀ (is : List Nat) {ds : List D} {vs : List V} {σd : Sl} {σ : L2.St}, Rel c S σd σ H → RDs c H ds vs → Rel c S (setAll σd is ds) (setVs σ is vs) H
  | [], _, _, _, _, r, _ => r
  | i :: is, [], _, _, _, r, h => by rw [show _ = _ from h]; exact r
  | i :: is, d :: ds, _, _, _, r, ⟨v, vs', e, h1, h2⟩ => by rw [e]; exact Rel.setAll is (r.set i h1) h2
/-- targets: a name, names of a tuple -/
inductive Tgt where | nm (i : Nat) | tp (is : List Nat)
def Tgt.slots : Tgt → List Nat | .nm i => [i] | .tp is => is
def gNs : List Nat → TGs
  | [] => gNil
  | i :: is => gCons (gName i) (gNs is)
def Tgt.g (K : PySem.W.Frag) : Tgt → TG
  | .nm i => gName i
  | .tp is => gTup K is.length (gNs is)
theorem gNs_of : ∀ (is : List Nat) {vs : List V} {σ : L2.St} {H : Hp} {Q : L2.St → Hp → Prop}, vs.length = is.length → Q (setVs σ is vs) H → gNs is vs σ H Q
  | [], [], _, _, _, _, q => ⟨rfl, q⟩
  | i :: is, v :: vs, σ, H, Q, h, q => ⟨v, vs, rfl, gNs_of is (by simpa using h) q⟩
  | [], _ :: _, _, _, _, h, _ => by cases h
  | _ :: _, [], _, _, _, h, _ => by cases h
/-- what is stored: a thing, or the things of a tuple -/
def Tgt.ds (t : Tgt) (d : D) : Option (List D) := match t with
  | .nm _ => some [d]
  | .tp is => match tupOf d with
    | some ds => if ds.length = is.length then some ds else none
    | none => none
theorem tgt_ok {c : Ct} {K : PySem.W.Frag} {H : Hp} {t : Tgt} {d : D} {ds : List D} {v : V} {σ : L2.St} {Q : L2.St → Hp → Prop} (h : RD c H d v) (e : t.ds d = some ds) : ∃ vs, RDs c H ds vs ∧ (Q (setVs σ t.slots vs) H → t.g K v σ H Q) := by
  cases t with
  | nm i => cases Option.some.inj e; exact ⟨[v], RDs.one h, fun q => q⟩
  | tp is =>
    unfold Tgt.ds at e
    simp only at e
    split at e
    · next xs q =>
      split at e
      · next hl =>
        cases Option.some.inj e
        obtain ⟨a, vs, rfl, h1, h2⟩ := tupOf_ok h q
        exact ⟨vs, h2, fun q => ⟨a, vs, rfl, h1.sq, by rw [← h2.length]; exact hl, gNs_of is (by rw [← h2.length]; exact hl) q⟩⟩
      · cases e
    · cases e
section
variable {g : Gx} {W : WX} {X : Cx} {e a b : Expr} {es : List Expr} {pos p : Pos} {st : Stmt} {sts : List Stmt}
def mPass : MS := fun σd S => .nx σd S
def mSeq (a b : MS) : MS := fun σd S => match a σd S with
  | .nx σ1 S1 => b σ1 S1
  | r => r
theorem ss_nil : PSs X [] (rdS g W mPass) := PSs.imp pss_nil fun J σ H ⟨B, O, S, σd, r, p⟩ => postS_nx p r
theorem ss_pass : PS X (.Pass pos) (rdS g W mPass) := PS.imp ps_pass fun J σ H ⟨B, O, S, σd, r, p⟩ => postS_nx p r
theorem ss_one {m : MS} (h : PS X st (rdS g W m)) : PSs X [st] (rdS g W m) := pss_one h
theorem ss_cons {m n : MS} (h : PS X st (rdS g W m)) (h2 : PSs X sts (rdS g W n)) : PSs X (st :: sts) (rdS g W (mSeq m n)) := PSs.imp (pss_cons h h2) fun J σ H ⟨B, O, S, σd, r, p⟩ => by
  refine ⟨B, O, S, σd, r, ?_⟩
  unfold mSeq at p
  revert p
  cases m σd S with
  | nx σ1 S1 => exact fun p σ' O' H' h1 h3 => ⟨B, O', S1, σ1, h1, PostS.step (c := ⟨g.K, g.G, B, O⟩) h3 p⟩
  | rt d S1 => exact fun p => p
  | bk d S1 => exact fun p => p
  | ct d S1 => exact fun p => p
  | exc k ns ds σ1 S1 => exact fun p => p
  | bad => exact fun p => p
def mDrop (m : M D) : MS := mBS m fun _ => mPass
theorem ss_expr {m : M D} (h : PE X e (rdE g W m)) (hs : swapsWith e none pos.line X.env = pure false := by rfl) : PS X (.Expr e pos) (rdS g W (mDrop m)) := PS.imp (ps_expr h hs) fun J σ H ⟨B, O, S, σd, r, p⟩ =>
  rdG_mono (rdS_then (rel := RD) r p) fun v H1 ⟨x, O1, S1, r1, rx, st1, p1⟩ => postS_nx p1 r1
def mRet (m : M D) : MS := mBS m fun d => fun _ S => .rt d S
theorem ss_ret {m : M D} (h : PE X e (rdE g W m)) : PS X (.Return (some e) pos) (rdS g W (mRet m)) := PS.imp (ps_ret h) fun J σ H ⟨B, O, S, σd, r, p⟩ =>
  rdG_mono (rdS_then (rel := RD) r p) fun v H1 ⟨x, O1, S1, r1, rx, st1, p1⟩ => p1 v O1 H1 r1.toRelS rx (Step.refl _ _)
def mSet (i : Nat) (m : M D) : MS := mBS m fun d => fun σd S => .nx (σd.set i d) S
theorem ss_set {i : Nat} {x : Str} {pos' : Pos} {m : M D} (hN : X.N.Nodup) (hi : X.N[i]? = some x) (hx : Loc X.env.scope x) (h : PE X e (rdE g W m)) (hs : swapsWith e (some (.Name x pos')) pos.line X.env = pure false := by rfl) (hf : X.fn x = true ∨ X.env.scope.names.lookup x = some .local := by first | exact .inl rfl | exact .inr rfl | assumption) :
    PS X (.Assign [.Name x pos'] e pos) (rdS g W (mSet i m)) := PS.imp (ps_set hN hi hx h hs hf) fun J σ H ⟨B, O, S, σd, r, p⟩ =>
  rdG_mono (rdS_then (rel := RD) r p) fun v H1 ⟨x, O1, S1, r1, rx, st1, p1⟩ => postS_nx p1 (r1.set i rx)
/-- a target, a value -/
def mAsg (t : Tgt) (m : M D) : MS := mBS m fun d => fun σd S => match t.ds d with
  | some ds => .nx (setAll σd t.slots ds) S
  | none => .bad
theorem ss_asg {tg : Expr} {t : Tgt} {m : M D} (h : PE X e (rdE g W m)) (hg : PG X tg (t.g X.K)) (hs : swapsWithSole [tg] e pos.line X.env = pure false := by rfl) (hw : swappedStores [tg] e X.env = pure none := by rfl) (h1 : (assignEach [tg] X.env).map (·.2) = [assign tg X.env] := by rfl) : PS X (.Assign [tg] e pos) (rdS g W (mAsg t m)) :=
  PS.imp (ps_asg h hg hs hw h1) fun J σ H ⟨B, O, S, σd, r, p⟩ => rdG_mono (rdS_then (rel := RD) r p) fun v H1 ⟨x, O1, S1, r1, rx, st1, p1⟩ => by
    split at p1
    · next ds q =>
      obtain ⟨vs, h1, h2⟩ := tgt_ok (K := X.K) (σ := σ) (Q := J.nx) rx q
      exact h2 (postS_nx p1 (Rel.setAll t.slots r1 h1))
    · exact p1.elim
/-- a, b = e1, e2 by names alone -/
def mPar (is : List Nat) (m : M (List D)) : MS := mBS m fun ds => fun σd S => if ds.length = is.length then .nx (setAll σd is ds) S else .bad
theorem ss_par {i j : Nat} {x y : Str} {px py pt : Pos} {kt k2 pt2} {m : M (List D)} (hc : X.calm = true) (hN : X.N.Nodup) (hi : X.N[i]? = some x) (hj : X.N[j]? = some y) (hij : i ≠ j)
    (hx : X.env.scope.names.lookup x = some .local) (hy : X.env.scope.names.lookup y = some .local) (ha : PA X [a, b] (rdA g W m))
    (hw : swappedStores [.Tuple [.Name x px, .Name y py] kt pt] (.Tuple [a, b] k2 pt2) X.env = pure (some [x, y]) := by rfl)
    (hs : swapsWithSole [.Tuple [.Name x px, .Name y py] kt pt] (.Tuple [a, b] k2 pt2) pos.line X.env = pure false := by rfl) :
    PS X (.Assign [.Tuple [.Name x px, .Name y py] kt pt] (.Tuple [a, b] k2 pt2) pos) (rdS g W (mPar [i, j] m)) :=
  PS.imp (ps_par hc hN hi hj hij hx hy ha hw hs) fun J σ H ⟨B, O, S, σd, r, p⟩ => rdG_mono (rdS_then (rel := RDs) r p) fun vs H1 ⟨ds, O1, S1, r1, rx, st1, p1⟩ => by
    split at p1
    · next hl =>
      have hl2 : vs.length = 2 := by rw [← rx.length]; exact hl
      match vs, hl2, rx with
      | [v, w], _, rx => exact ⟨v, w, rfl, postS_nx p1 (Rel.setAll [i, j] r1 rx)⟩
    · exact p1.elim
theorem ss_par3 {i j l : Nat} {x y z : Str} {c : Expr} {px py pz pt : Pos} {kt k2 pt2} {m : M (List D)} (hc : X.calm = true) (hN : X.N.Nodup) (hi : X.N[i]? = some x) (hj : X.N[j]? = some y) (hl : X.N[l]? = some z) (hij : i ≠ j) (hil : i ≠ l) (hjl : j ≠ l)
    (hx : X.env.scope.names.lookup x = some .local) (hy : X.env.scope.names.lookup y = some .local) (hz : X.env.scope.names.lookup z = some .local) (ha : PA X [a, b, c] (rdA g W m))
    (hw : swappedStores [.Tuple [.Name x px, .Name y py, .Name z pz] kt pt] (.Tuple [a, b, c] k2 pt2) X.env = pure (some [x, y, z]) := by rfl)
    (hs : swapsWithSole [.Tuple [.Name x px, .Name y py, .Name z pz] kt pt] (.Tuple [a, b, c] k2 pt2) pos.line X.env = pure false := by rfl) :
    PS X (.Assign [.Tuple [.Name x px, .Name y py, .Name z pz] kt pt] (.Tuple [a, b, c] k2 pt2) pos) (rdS g W (mPar [i, j, l] m)) :=
  PS.imp (ps_par3 hc hN hi hj hl hij hil hjl hx hy hz ha hw hs) fun J σ H ⟨B, O, S, σd, r, p⟩ => rdG_mono (rdS_then (rel := RDs) r p) fun vs H1 ⟨ds, O1, S1, r1, rx, st1, p1⟩ => by
    split at p1
    · next hl =>
      have hl2 : vs.length = 3 := by rw [← rx.length]; exact hl
      match vs, hl2, rx with
      | [u, v, w], _, rx => exact ⟨u, v, w, rfl, postS_nx p1 (Rel.setAll [i, j, l] r1 rx)⟩
    · exact p1.elim
def mIfS (t : M Bool) (a b : MS) : MS := mBS t fun c => if c = true then a else b
theorem ss_if {c : Expr} {s1 s2 : List Stmt} {t : M Bool} {m n : MS} (hc : PT X c (rdT g W t)) (ha : PSs X s1 (rdS g W m)) (hb : PSs X s2 (rdS g W n)) : PS X (.If c s1 s2 pos) (rdS g W (mIfS t m n)) :=
  PS.imp (ps_if hc ha hb) fun J σ H ⟨B, O, S, σd, r, p⟩ => rdG_mono (rdS_then (rel := same) r p) fun v H1 ⟨x, O1, S1, r1, rx, st1, p1⟩ => by
    cases (show _ = _ from rx)
    cases v with
    | true => exact ⟨B, O1, S1, σd, r1, p1⟩
    | false => exact ⟨B, O1, S1, σd, r1, p1⟩
def mBrk : MS := fun σd S => .bk σd S
def mCnt : MS := fun σd S => .ct σd S
theorem ss_break : PS X (.Break pos) (rdS g W mBrk) := PS.imp ps_break fun J σ H ⟨B, O, S, σd, r, p⟩ => p σ O H r (Step.refl _ _)
theorem ss_continue : PS X (.Continue pos) (rdS g W mCnt) := PS.imp ps_continue fun J σ H ⟨B, O, S, σd, r, p⟩ => p σ O H r (Step.refl _ _)
theorem ss_never : PS X st (rdS g W fun _ _ => .bad) := PS.imp ps_never fun J σ H ⟨B, O, S, σd, r, p⟩ => p
theorem post_write {α β : Type} {rel : Ct → Hp → α → β → Prop} {c : Ct} {S : Sto} {σd : Sl} {σ : L2.St} {H : Hp} {Q : β → Hp → Prop} {d : α} {v : β} {n : Nat} {l : Addr} {u : HO} {o : Ob} (p : Post rel c W σ σd H (.ok d (S.set n o)) Q) (r : Rel c S σd σ H)
    (hl : c.O[n]? = some l) (ho : OO c (upd H l u) l o) (hv : rel c (upd H l u) d v) : Q v (upd H l u) := by
  obtain ⟨r2, s2⟩ := r.toRelS.write hl ho
  exact p v c.O _ (Rel.step (O' := c.O) r s2 r2) hv s2
theorem postS_write {c : Ct} {S : Sto} {σd : Sl} {σ : L2.St} {H : Hp} {J : Ends} {n : Nat} {l : Addr} {u : HO} {o : Ob} (p : PostS c W H (.nx σd (S.set n o)) J) (r : Rel c S σd σ H)
    (hl : c.O[n]? = some l) (ho : OO c (upd H l u) l o) : J.nx σ (upd H l u) := by
  obtain ⟨r2, s2⟩ := r.toRelS.write hl ho
  exact p σ c.O _ (Rel.step (O' := c.O) r s2 r2) s2
theorem oo_lst {c : Ct} {S : Sto} {H : Hp} {n : Nat} {l : Addr} {ds : List D} {vs : List V} (r : RelS c S H) (hl : c.O[n]? = some l) (h : RDs c H ds vs) : OO c (upd H l (.lst vs)) l (.lst ds) :=
  ⟨vs, upd_same, RDs.step (c := c) (O' := c.O) (Step.write (mem_of_at hl)) ds vs h⟩
/-- o.m(..) of a list of the store or a settled one -/
def mMeth (f : D → List D → Sto → R D) (o : M D) (m : M (List D)) : M D := mB o fun x => fun σd S => match lstOf S x with
  | some _ => mB m (fun ds => fun _ S' => f x ds S') σd S
  | none => .bad
def MethS (g : Gx) (W : WX) (r : V → List V → Hp → VK → Prop) (f : D → List D → Sto → R D) : Prop := ∀ {B O : List Addr} {S : Sto} {σd : Sl} {σ : L2.St} {H : Hp} {x : D} {v : V} {ds : List D} {vs : List V} {Q : VK},
  Rel ⟨g.K, g.G, B, O⟩ S σd σ H → RD ⟨g.K, g.G, B, O⟩ H x v → RDs ⟨g.K, g.G, B, O⟩ H ds vs → Post RD ⟨g.K, g.G, B, O⟩ W σ σd H (f x ds S) Q → r v vs H Q
theorem meth_imp {K : PySem.W.Frag} {r : V → List V → Hp → VK → Prop} {f : D → List D → Sto → R D} {o : M D} {m : M (List D)} (hs : MethS g W r f) (σ : L2.St) (H : Hp) (Q : VK) (h : rdE g W (mMeth f o m) σ H Q) : tBM K "list" r (rdE g W o) (rdA g W m) σ H Q := by
  obtain ⟨B, O, S, σd, rel, q⟩ := h
  refine rdG_mono (rd_then (rel := RD) rel q) fun v H1 ⟨x, O1, S1, r1, rx, st1, p1⟩ => ?_
  split at p1
  · next ds q =>
    obtain ⟨l, vs, rfl, h1, h2⟩ := lstOf_ok r1.toRelS rx q
    refine ⟨.inl ⟨rfl, vs, SqL.of h1⟩, rdG_mono (rd_then (rel := RDs) r1 p1) fun w H2 ⟨ds, O2, S2, r2, rs, st2, p2⟩ => ?_⟩
    exact hs r2 (RD.step (c := ⟨g.K, g.G, B, O1⟩) st2 x _ rx) rs p2
  · exact p1.elim
theorem meth0_imp {K : PySem.W.Frag} {r : V → List V → Hp → VK → Prop} {f : D → List D → Sto → R D} {o : M D} (hs : MethS g W r f) (σ : L2.St) (H : Hp) (Q : VK) (h : rdE g W (mMeth f o mNil) σ H Q) : tBM0 K "list" r (rdE g W o) σ H Q := by
  obtain ⟨B, O, S, σd, rel, q⟩ := h
  refine rdG_mono (rd_then (rel := RD) rel q) fun v H1 ⟨x, O1, S1, r1, rx, st1, p1⟩ => ?_
  split at p1
  · next ds q =>
    obtain ⟨l, vs, rfl, h1, h2⟩ := lstOf_ok r1.toRelS rx q
    exact ⟨.inl ⟨rfl, vs, SqL.of h1⟩, hs r1 rx (show RDs _ H1 [] [] from rfl) p1⟩
  · exact p1.elim
def fAppend (x : D) (ds : List D) (S : Sto) : R D := match x with
  | .ref n => match ds with
    | [d] => match S[n]? with
      | some (.lst xs) => if xs.length < LIM then .ok .non (S.set n (.lst (xs ++ [d]))) else .bad
      | _ => .bad
    | _ => .bad
  | _ => .bad
theorem fAppend_ok : MethS g W rAppend fAppend := fun {B O S σd σ H x v ds vs Q} r hx hs p => by
  unfold fAppend at p
  split at p
  · next n =>
    split at p
    · next d =>
      split at p
      · next xs q =>
        split at p
        · next hl =>
          obtain ⟨l, ho, rfl⟩ := hx
          obtain ⟨w, rfl, hd⟩ := RDs.one_inv hs
          obtain ⟨us, h1, h2⟩ := r.ob n _ l q ho
          exact ⟨l, us, w, rfl, rfl, h1, by rw [← h2.length]; exact lim_lt hl, post_write p r ho (oo_lst r.toRelS ho (h2.append (RDs.one hd))) rfl⟩
        · exact p.elim
      · exact p.elim
    · exact p.elim
  · exact p.elim
theorem se_append {apos : Pos} {mo : M D} {m : M (List D)} (ho : PE X a (rdE g W mo)) (ha : PA X [e] (rdA g W m)) (hbase : attributeBase a "append" X.env (eval a X.env) = eval a X.env := by rfl)
    (hline : (apos.endLine == pos.line) = true := by rfl) (hs : starEach [e] X.env = (false, eval e X.env) :: starEach [] X.env := by rfl) :
    PE X (.Call (.Attribute a "append" apos) [e] [] pos) (rdE g W (mMeth fAppend mo m)) :=
  PE.imp (pe_bm PySem.F.plainAttrs_list PySem.F.slot_list_append PySem.F.type_list_append mt_append ho ha hbase (by rw [hs]; rfl) hline hs rfl) (meth_imp fAppend_ok)
def fPopAt (x : D) (ds : List D) (S : Sto) : R D := match x with
  | .ref n => match ds with
    | [.int i] => match S[n]? with
      | some (.lst xs) => if 0 ≤ i ∧ i < 100000 then match xs[i.toNat]? with
          | some d => .ok d (S.set n (.lst (xs.eraseIdx i.toNat)))
          | none => .bad
        else .bad
      | _ => .bad
    | _ => .bad
  | _ => .bad
theorem RDs.erase {c : Ct} {H : Hp} : ∀ {ds : List D} {vs : List V} (n : Nat), RDs c H ds vs → RDs c H (ds.eraseIdx n) (vs.eraseIdx n)
  | [], _, _, h => by rw [show _ = _ from h]; rfl
  | _ :: _, _, 0, ⟨v, vs', e, _, t⟩ => by subst e; exact t
  | _ :: _, _, n + 1, ⟨v, vs', e, r, t⟩ => by subst e; exact ⟨v, _, rfl, r, RDs.erase n t⟩
theorem seqIx_nat {i : Int} {n : Nat} (h0 : 0 ≤ i) (h : i.toNat < n) : seqIndex? i n = some i.toNat := by
  have e : ixN n i = some i.toNat := by unfold ixN; rw [if_pos h0, if_pos (by omega)]
  exact (ixN_seq e).1
theorem fPopAt_ok : MethS g W rPopAt fPopAt := fun {B O S σd σ H x v ds vs Q} r hx hs p => by
  unfold fPopAt at p
  split at p
  · next n =>
    split at p
    · next i =>
      split at p
      · next xs q =>
        split at p
        · next hi =>
          split at p
          · next d qd =>
            obtain ⟨l, ho, rfl⟩ := hx
            obtain ⟨w, rfl, hw⟩ := RDs.one_inv hs
            cases (show _ = _ from hw)
            obtain ⟨us, h1, h2⟩ := r.ob n _ l q ho
            obtain ⟨y, h3, h4⟩ := h2.get qd
            have hlt : i.toNat < us.length := (List.getElem?_eq_some_iff.mp h3).1
            exact ⟨l, us, i, i.toNat, y, rfl, rfl, h1, by omega, by omega, seqIx_nat hi.1 hlt, h3, post_write p r ho (oo_lst r.toRelS ho (h2.erase i.toNat)) (RD.step (c := ⟨g.K, g.G, B, O⟩) (O' := O) (Step.write (mem_of_at ho)) d y h4)⟩
          · exact p.elim
        · exact p.elim
      · exact p.elim
    · exact p.elim
  · exact p.elim
theorem se_popAt {apos : Pos} {mo : M D} {m : M (List D)} (ho : PE X a (rdE g W mo)) (ha : PA X [e] (rdA g W m)) (hbase : attributeBase a "pop" X.env (eval a X.env) = eval a X.env := by rfl)
    (hline : (apos.endLine == pos.line) = true := by rfl) (hs : starEach [e] X.env = (false, eval e X.env) :: starEach [] X.env := by rfl) :
    PE X (.Call (.Attribute a "pop" apos) [e] [] pos) (rdE g W (mMeth fPopAt mo m)) :=
  PE.imp (pe_bm PySem.F.plainAttrs_list PySem.F.slot_list_pop PySem.F.type_list_pop mt_popAt ho ha hbase (by rw [hs]; rfl) hline hs rfl) (meth_imp fPopAt_ok)
def fCount (x : D) (y : D) (S : Sto) : R D := match tupOf x with
  | some xs => if flatD y && xs.all flatD then .ok (.int (xs.countP fun z => eqD z y)) S else .bad
  | none => .bad
def mCount (o m : M D) : M D := mB o fun x => fun σd S => match tupOf x with
  | some _ => mB m (fun y => fun _ S' => fCount x y S') σd S
  | none => .bad
theorem countP_flat {c : Ct} {H : Hp} {y : D} {w : V} (hy : RD c H y w) (fy : flatD y = true) : ∀ {ds : List D} {vs : List V}, RDs c H ds vs → ds.all flatD = true → (vs.countP fun z => eqV z w) = ds.countP fun z => eqD z y
  | [], _, h, _ => by rw [show _ = _ from h]; rfl
  | _ :: _, _, ⟨u, vs', e, r, t⟩, f => by
    rw [List.all_cons, Bool.and_eq_true] at f
    subst e
    rw [List.countP_cons, List.countP_cons, countP_flat hy fy t f.2, eq_flat r hy f.1 fy]
theorem se_count {apos : Pos} {mo m : M D} (ho : PE X a (rdE g W mo)) (he : PE X e (rdE g W m)) (hbase : attributeBase a "count" X.env (eval a X.env) = eval a X.env := by rfl) (hline : (apos.endLine == pos.line) = true := by rfl)
    (hs : starEach [e] X.env = [(false, eval e X.env)] := by rfl) : PE X (.Call (.Attribute a "count" apos) [e] [] pos) (rdE g W (mCount mo m)) :=
  PE.imp (pe_countT ho he hbase hline hs) fun σ H Q ⟨B, O, S, σd, rel, q⟩ => rdG_mono (rd_then (rel := RD) rel q) fun v H1 ⟨x, O1, S1, r1, rx, st1, p1⟩ => by
    split at p1
    · next xs q =>
      obtain ⟨l, vs, rfl, h1, h2⟩ := tupOf_ok rx q
      refine ⟨l, vs, rfl, h1, rdG_mono (rd_then (rel := RD) r1 p1) fun w H2 ⟨y, O2, S2, r2, ry, st2, p2⟩ => ?_⟩
      unfold fCount at p2
      rw [q] at p2
      simp only at p2
      split at p2
      · next hf =>
        obtain ⟨f1, f2⟩ := Bool.and_eq_true_iff.mp hf
        obtain ⟨l', vs', e', h3, h4⟩ := tupOf_ok (RD.step (c := ⟨g.K, g.G, B, O1⟩) st2 x _ rx) q
        have el : l = l' := V.ref.inj e'
        subst el
        obtain ⟨o, ho, hd⟩ := h1
        obtain ⟨_, _, _, av, _, _⟩ := (show RD ⟨g.K, g.G, B, O1⟩ H1 (.tup xs) (.ref l) by
          cases x with
          | tup zs => cases Option.some.inj q; exact rx
          | _ => cases q)
        obtain ⟨o2, ho2, hd2⟩ := h3
        have hne : vs = vs' := by
          have av' : l ∉ O1 := by
            cases x with
            | tup zs =>
              obtain ⟨b, us, eb, avb, _⟩ := rx
              rw [V.ref.inj eb]
              exact avb.1
            | _ => cases q
          have := (st2.kp l _ av' ho).1
          rw [this] at ho2
          injection ho2 with z
          injection z with z1 z2
          injection z2
        subst hne
        refine ⟨⟨o2, ho2, hd2⟩, flat_of ry f1, flats_of h4 f2, post_val p2 r2 ?_⟩
        rw [countP_flat ry f1 h4 f2]
        rfl
      · exact p2.elim
    · exact p1.elim
def fSetIx (o i v : D) (σd : Sl) (S : Sto) : RS := match o with
  | .ref n => match i with
    | .int k => match S[n]? with
      | some (.lst xs) => match ixN xs.length k with
        | some j => .nx σd (S.set n (.lst (xs.set j v)))
        | none => .bad
      | _ => .bad
    | _ => .bad
  | _ => .bad
theorem fSetIx_ok {B O : List Addr} {S : Sto} {σd : Sl} {σ : L2.St} {H : Hp} {x y z : D} {v u w : V} {J : Ends} (r : Rel ⟨g.K, g.G, B, O⟩ S σd σ H) (hx : RD ⟨g.K, g.G, B, O⟩ H x v) (hy : RD ⟨g.K, g.G, B, O⟩ H y u) (hz : RD ⟨g.K, g.G, B, O⟩ H z w)
    (p : PostS ⟨g.K, g.G, B, O⟩ W H (fSetIx x y z σd S) J) : rSetL v u w H fun H4 => J.nx σ H4 := by
  unfold fSetIx at p
  split at p
  · next n =>
    split at p
    · next k =>
      split at p
      · next xs q =>
        split at p
        · next j qj =>
          obtain ⟨l, ho, rfl⟩ := hx
          cases (show _ = _ from hy)
          obtain ⟨us, h1, h2⟩ := r.ob n _ l q ho
          exact ⟨l, us, k, j, rfl, rfl, h1, by rw [← h2.length]; exact qj, postS_write p r ho (oo_lst r.toRelS ho (h2.set hz j))⟩
        · exact p.elim
      · exact p.elim
    · exact p.elim
  · exact p.elim
def mSetIx (o i v : M D) : MS := mBS v fun z => mBS o fun x => mBS i fun y => fSetIx x y z
theorem ss_setIx {o i v : Expr} {tpos : Pos} {mo mi mv : M D} (ho : PE X o (rdE g W mo)) (hi : PE X i (rdE g W mi)) (hv : PE X v (rdE g W mv)) (hg : ∀ {to ti : TE}, PE X o to → PE X i ti → PG X (.Subscript o i tpos) (gSub to ti rSetL))
    (hs : swapsWithSole [.Subscript o i tpos] v pos.line X.env = pure false := by rfl) (hw : swappedStores [.Subscript o i tpos] v X.env = pure none := by rfl) : PS X (.Assign [.Subscript o i tpos] v pos) (rdS g W (mSetIx mo mi mv)) :=
  PS.imp (ps_asg hv (hg ho hi) hs hw) fun J σ H ⟨B, O, S, σd, r, p⟩ => rdG_mono (rdS_then (rel := RD) r p) fun w H1 ⟨z, O1, S1, r1, rz, st1, p1⟩ =>
    rdG_mono (rdS_then (rel := RD) r1 p1) fun v H2 ⟨x, O2, S2, r2, rx, st2, p2⟩ => rdG_mono (rdS_then (rel := RD) r2 p2) fun u H3 ⟨y, O3, S3, r3, ry, st3, p3⟩ =>
      fSetIx_ok r3 (RD.step (c := ⟨g.K, g.G, B, O2⟩) st3 x v rx) ry (RD.step (c := ⟨g.K, g.G, B, O1⟩) (st2.trans st3) z w rz) p3
/-- x op= e -/
def mAug (i : Nat) (f : D → D → Sto → R D) (m : M D) : MS := mBS (mVar i) fun x => mBS m fun y => mBS (fun _ S => f x y S) fun z => fun σd S => .nx (σd.set i z) S
theorem ss_aug {i : Nat} {x : Str} {pos' : Pos} {op : Operator} {r : R2} {f : D → D → Sto → R D} {m : M D} (hN : X.N.Nodup) (hi : X.N[i]? = some x) (hx : Loc X.env.scope x) (h : PE X e (rdE g W m)) (ho : PIp X op r) (hs : OpS g W r f)
    (hf : X.fn x = true ∨ X.env.scope.names.lookup x = some .local := by first | exact .inl rfl | exact .inr rfl | assumption) : PS X (.AugAssign (.Name x pos') op e pos) (rdS g W (mAug i f m)) :=
  PS.imp (ps_aug hN hi hx h ho hf) fun J σ H ⟨B, O, S, σd, r, p⟩ => by
    unfold mAug mBS mVar at p
    simp only at p
    cases q : σd[i]? with
    | none => rw [q] at p; exact p.elim
    | some d =>
      rw [q] at p
      simp only at p
      cases hl : live d with
      | false => rw [hl] at p; exact p.elim
      | true =>
        rw [hl] at p
        rcases r.sl i d q with z | ⟨v, h1, h2⟩
        · subst z; cases hl
        · refine ⟨v, h1, ?_⟩
          have p' : PostS ⟨g.K, g.G, B, O⟩ W H (mBS m (fun y => mBS (fun _ S => f d y S) fun z => fun σd S => .nx (σd.set i z) S) σd S) J := p
          refine rdG_mono (rdS_then (rel := RD) r p') fun w H1 ⟨y, O1, S1, r1, ry, st1, p1⟩ => ?_
          refine hs r1 (RD.step (c := ⟨g.K, g.G, B, O⟩) st1 d v h2) ry ?_
          unfold mBS at p1
          revert p1
          simp only
          cases f d y S1 with
          | ok z S2 => exact fun p1 u O2 H2 h5 h6 h7 => p1 (σ.set i (some u)) O2 H2 (h5.set i h6) h7
          | exc k ns ds S2 => exact fun p1 dd O2 H2 h5 h6 h7 => p1 dd σ O2 H2 h5 h6 h7
          | bad => exact fun p1 => p1.elim
end
end DL

namespace DL
open PySem PySem.Spec PyProof.Rows L2
/-- a tuple (true) or a list -/
def SqQ (t : Bool) (K : PySem.W.Frag) (H : Hp) (a : Addr) (xs : List V) : Prop := match t with
  | true => SqT K H a xs
  | false => SqL K H a xs
def ItAt (t : Bool) (h : Heap) (it a : Addr) (i : Nat) : Prop := match t with
  | true => h.IsTupleIter it a i
  | false => h.IsListIter it a i
def IsSq (t : Bool) (h : Heap) (a : Addr) (items : Array Value) : Prop := match t with
  | true => h.IsTuple a items
  | false => h.IsList a items
def itObj (t : Bool) (a : Addr) : Obj := { cls := .type (match t with | true => "tuple_iterator" | false => "list_iterator"), data := .fields #[.ref a, .int 0 0] }
theorem drawsQ {prog : Program} {w : World} {A : Around} (t : Bool) (hh : A.handled = none) (it l : Addr) (hne : l ≠ it) (items : Array Value) :
    Draws prog w A it [it, l] items.size (fun i v => items[i]? = some v) (fun i h => ItAt t h it l i ∧ IsSq t h l items) := by
  cases t with
  | true => exact Draws.tuple hh it l hne items
  | false => exact Draws.list hh it l hne items
theorem beginsQ (t : Bool) (l : Addr) (items : Array Value) : Begins (.ref l) (itObj t l) fun h => IsSq t h l items := by
  cases t with
  | true => exact begins_tuple l items
  | false => exact begins_list l items
theorem itAt_new {t : Bool} {h : Heap} {it a : Addr} (e : h.get? it = some (itObj t a)) : ItAt t h it a 0 := by
  cases t with
  | true => exact ⟨_, e, rfl, rfl⟩
  | false => exact ⟨_, e, rfl, rfl⟩
theorem itAt_obj {t : Bool} {h : Heap} {it a : Addr} {i : Nat} (st : ItAt t h it a i) : ∃ o, h.get? it = some o ∧ ∀ v, o.data ≠ .cell v := by
  cases t with
  | true => obtain ⟨o, e, c, d⟩ := st; exact ⟨o, e, fun v z => by rw [d] at z; cases z⟩
  | false => obtain ⟨o, e, c, d⟩ := st; exact ⟨o, e, fun v z => by rw [d] at z; cases z⟩
theorem itAt_at {t : Bool} {h h' : Heap} {it a : Addr} {i : Nat} (st : ItAt t h it a i) (k : ∀ o, h.get? it = some o → h'.get? it = some o) : ItAt t h' it a i := by
  cases t with
  | true => exact Heap.IsTupleIter.at st k
  | false => exact Heap.IsListIter.at st k
theorem sqQ_is {X : Cx} {pins : List (Addr × Obj)} {σ : L2.St} {H : Hp} {s : Shared} {t : Bool} {a : Addr} {xs : List V} (I : Inv X pins σ H s) (h : SqQ t X.K H a xs) : ∃ its : List Value, Vals xs its ∧ IsSq t s.heap a its.toArray ∧ a < s.heap.objs.size := by
  cases t with
  | true => obtain ⟨its, r, p, _⟩ := I.tuple h; exact ⟨its, r, p, p.lt⟩
  | false => obtain ⟨its, r, p, _⟩ := I.list h; exact ⟨its, r, p.isList, p.lt⟩
theorem sqQ_inj {X : Cx} {pins : List (Addr × Obj)} {σ : L2.St} {H : Hp} {s : Shared} {t : Bool} {a : Addr} {xs ys : List V} (I : Inv X pins σ H s) (h : SqQ t X.K H a xs) (h2 : SqQ t X.K H a ys) : xs = ys := by
  cases t with
  | true => exact I.tuple_inj h h2
  | false => exact I.list_inj h h2
def IteQ (t : Bool) (K : PySem.W.Frag) (a : Addr) (k : Int) : It :=
  ⟨fun i H => ∃ (xs : List V) (x : V), SqQ t K H a xs ∧ xs[i]? = some x,
   fun i H v H' => ∃ T x, v = .ref T ∧ H T = none ∧ H' = upd H T (.tup [.int (k + (i : Nat)), x]) ∧ ∀ xs, SqQ t K H a xs → xs[i]? = some x,
   fun i H => ∃ xs : List V, SqQ t K H a xs ∧ xs.length = i⟩
theorem turn_enumQ {P : Program} {w : World} {K : PySem.W.Frag} {elts : List Expr} {kk : Nat} {tpos : Pos} (t : Bool) (k : Int) (a e it : Addr) (hei : e ≠ it) (hea : e ≠ a) (hia : a ≠ it) :
    Turn P w K (.Tuple elts kk tpos) (IteQ t K a k) [e, it] e (fun i h => (∃ old, IsEnum h e it (k + (i : Nat)) old) ∧ ItAt t h it a i) where
  mem := by simp
  obj := fun i h st b hb => by
    obtain ⟨⟨old, he⟩, hi⟩ := st
    have e' : b = e ∨ b = it := by simpa using hb
    rcases e' with z | z
    · rw [z]; exact ⟨_, he, fun v q => nomatch q⟩
    · rw [z]; exact itAt_obj hi
  keep := fun i h h' st kp => let ⟨⟨old, he⟩, hi⟩ := st; ⟨⟨old, kp e (by simp) _ he⟩, itAt_at hi fun o q => kp it (by simp) o q⟩
  item := by
    intro X hP hw hK hc i pins s σ H E I hf st hg
    subst hP hw hK
    obtain ⟨⟨old, he⟩, hit⟩ := st
    obtain ⟨xs, x, hq, hx⟩ := hg
    obtain ⟨its, rv, hs, hal⟩ := sqQ_is I hq
    obtain ⟨u, hu, ru⟩ := rv.get hx
    have hel : e < s.heap.objs.size := Heap.lt_size he
    have hil : it < s.heap.objs.size := by obtain ⟨_, q, _⟩ := itAt_obj hit; exact Heap.lt_size q
    have hii : i < its.toArray.size := by rw [List.size_toArray]; exact (List.getElem?_eq_some_iff.mp hu).1
    refine wpAny_pyNext_enum_itemC (drawsQ t (A := X.A.in1) (I.ok.hd hc) it a hia its.toArray) he ⟨hit, hs⟩ hii hei (by simp [hei, hea]) fun y h' tk hy ho hst hT hsz hk => ?_
    have ey : y = u := by
      have hy' : its[i]? = some y := by simpa using hy
      exact Option.some.inj (hy'.symm.trans hu)
    subst ey
    refine ⟨_, rfl, wpAny_letOwnedTupleGo_enum (s := { s with heap := h', toks := tk + 1 }) ho fun h'' he' sb => ?_⟩
    have hT2 : h''.get? s.heap.objs.size = some { cls := .type "tuple", data := .seq #[.int (k + (i : Nat)) tk, y] } := (sb.2 _ (Nat.ne_of_gt hel)).trans hT
    have new : ObjOk X.prog X.w (upd H s.heap.objs.size (.tup [.int (k + (i : Nat)), x])) h'' s.heap.objs.size (.tup [.int (k + (i : Nat)), x]) :=
      ⟨by show 2 ≤ sizeLine; decide, [.int (k + (i : Nat)) tk, y], .cons ⟨_, rfl⟩ (.cons ru .nil), ⟨_, hT2, rfl, _, rfl⟩⟩
    have I1 : Inv X pins σ (upd H s.heap.objs.size (.tup [.int (k + (i : Nat)), x])) { s with heap := h'', toks := tk + 1 } :=
      I.turnedNew (ch := [e, it]) (fun b ob hb q => (sb.2 b (fun z => hb (by simp [z]))).trans (hk b ob (fun z => hb (by simp [z])) (fun z => hb (by simp [z])) q)) hf (Nat.le_refl _) new
    refine ⟨.ref s.heap.objs.size, _, I1, rfl, ⟨_, x, rfl, I.hok.fresh (Nat.le_refl _), rfl, fun ys hy => by rw [sqQ_inj I hy hq]; exact hx⟩, ⟨⟨y, ?_⟩, itAt_at hst.1 fun o q => (sb.2 it (Ne.symm hei)).trans q⟩, fun b hb => ?_⟩
    · have e1 : k + ((i + 1 : Nat) : Int) = k + (i : Int) + 1 := by omega
      rw [e1]
      exact he'
    · have hb' : b < s.heap.objs.size := by
        have e' : b = e ∨ b = it := by simpa using hb
        rcases e' with z | z
        · rw [z]; exact hel
        · rw [z]; exact hil
      rw [upd_ne (Nat.ne_of_lt hb')]
      exact (hf b hb).1
  done := by
    intro X hP hw hK hc i pins s σ H E I hf st hg
    subst hP hw hK
    obtain ⟨⟨old, he⟩, hit⟩ := st
    obtain ⟨xs, hq, hx⟩ := hg
    obtain ⟨its, rv, hs, hal⟩ := sqQ_is I hq
    obtain ⟨f0, f1, f2, f3, f4, f5⟩ := hf it (by simp)
    have hl := rv.length
    have hn : its.toArray.size = i := by rw [List.size_toArray]; omega
    exact wpAny_pyNext_enum_endD (drawsQ t (A := X.A.in1) (I.ok.hd hc) it a hia its.toArray) he (by rw [hn]; exact ⟨hit, hs⟩) fun h' eb => ⟨rfl, I.turned (t' := s.toks) (fun b o hb q => eb b o hb q) f0 f1 f3 f4 f5⟩
  self := fun A i s Q E st h => let ⟨⟨_, he⟩, _⟩ := st; wpAny_pyIter_enum he h
/-- enumerate(v): its two new cells -/
theorem meets_enumerate_new1 {v : Value} {o : Obj} {H : Heap → Prop} (B : Begins v o H) :
    Meets (Builtin.«enumerate.__new__» ⟨[.type "enumerate", v], []⟩) (fun _ R s => H s.heap ∧
      R (.ok (.ret (.ref (s.heap.push o).objs.size))) { s with heap := (s.heap.push o).push { cls := .type "enumerate", data := .fields #[.none, .bool false, .ref s.heap.objs.size, rawInt 0, .none, .none] } }) :=
  .of_wp fun prog w A R s h => by
    obtain ⟨hp, g, d, tk, os⟩ := s
    obtain ⟨h1, h⟩ := h
    have hsub := sub_enumerate
    have q1 : ∀ {A' : Around} {E : Value → Shared → Prop} {Q : Value → Shared → Prop}, Q (.ref hp.objs.size) ⟨hp.push o, g, d, tk, os⟩ → wpAny (model prog w) A' (pyIter v) Q E ⟨hp, g, d, tk, os⟩ := fun q => B.iter prog w _ _ ⟨hp, g, d, tk, os⟩ _ h1 q
    wp_walk using q1
    refine wpAny_stack_any fun st => wpAny_pure ?_
    split
    · rename_i c _ _ _ _ _
      cases (c == Value.type "enumerate")
      · wp_walk using q1
        exact ⟨_, rfl, h⟩
      · wp_walk using q1
        exact ⟨_, rfl, h⟩
    · wp_walk using q1
      exact ⟨_, rfl, h⟩
theorem enum_begins1 {prog : Program} {w : World} {A : Around} {E : Value → Shared → Prop} {s : Shared} {v : Value} {o : Obj} {H : Heap → Prop} {Q : Value → Shared → Prop} (B : Begins v o H) (h1 : H s.heap)
    (h : ∀ h', IsEnum h' (s.heap.objs.size + 1) s.heap.objs.size 0 .none → h'.get? s.heap.objs.size = some o → (∀ b o, s.heap.get? b = some o → h'.get? b = some o) → Q (.ref (s.heap.objs.size + 1)) { s with heap := h' }) :
    wpAny (model prog w) A (call (.type "enumerate") [v]) Q E s := by
  refine callType_new F.called_enumerate (by decide) (F.typeCall_enumerate_1 _) (F.newCall_enumerate_1 _) (fun obj => F.args_object_init_2 obj _) F.entry_enumerate_new (meets_enumerate_new1 B) ⟨h1, ?_⟩
  have hz : (s.heap.push o).objs.size = s.heap.objs.size + 1 := Heap.size_push ..
  have he := Heap.get?_push_size (s.heap.push o) (o := { cls := .type "enumerate", data := .fields #[.none, .bool false, .ref s.heap.objs.size, rawInt 0, .none, .none] }) rfl
  rw [hz] at he
  show _ ∧ _
  rw [hz]
  exact ⟨⟨_, he, rfl⟩, h _ he (Heap.get?_push_of_some _ (Heap.get?_push_size _ B.free)) fun b o x => Heap.get?_push_of_some _ (Heap.get?_push_of_some _ x)⟩
def iEnumQ (K : PySem.W.Frag) (k : Int) (ta : TA) : TI := fun σ H R => ta σ H fun vs H1 => ∃ t a xs, vs = [.ref a] ∧ SqQ t K H1 a xs ∧ R (IteQ t K a k) H1
def iEnumQ2 (K : PySem.W.Frag) (ta : TA) : TI := fun σ H R => ta σ H fun vs H1 => ∃ t a xs k, vs = [.ref a, .int k] ∧ 0 ≤ k ∧ k ≤ 1000 ∧ SqQ t K H1 a xs ∧ R (IteQ t K a k) H1
section
variable {X : Cx} {e e2 : Expr} {ta : TA} {p pos tpos : Pos} {elts : List Expr} {kk : Nat}
theorem pi_enumQ (hg : Gl X "enumerate") (hm : X.mg "enumerate" = none) (ha : PA X [e] ta) (hs : starEach [e] X.env = [(false, eval e X.env)] := by rfl) : PI X (.Tuple elts kk tpos) (.Call (.Name "enumerate" p) [e] [] pos) (iEnumQ X.K 0 ta) := by
  refine ⟨fun pins s σ H R I h => ?_⟩
  refine Call_ (ld_blt I hg hm boot_enumerate (PyProof.Rows.callWith_type1 (thn (ha.run pos pins s σ H _ I h) fun us s1 ⟨vs, H1, I1, r1, q1⟩ => ?_) hs rfl))
  obtain ⟨t, a, xs, ex, hq, q⟩ := q1
  subst ex
  obtain ⟨u, rfl, ru⟩ := vals1 r1
  cases ru
  obtain ⟨its, rv, hsq, hal⟩ := sqQ_is I1 hq
  refine enum_begins1 (beginsQ t a its.toArray) hsq fun h' he hit hk => wpAny_pyIter_enum he ?_
  have I2 : Inv X pins σ H1 { s1 with heap := h' } := I1.kept (t' := s1.toks) hk
  refine ⟨s1.heap.objs.size + 1, [s1.heap.objs.size + 1, s1.heap.objs.size], _, _, H1, rfl, I2, turn_enumQ t 0 a (s1.heap.objs.size + 1) s1.heap.objs.size (Nat.succ_ne_self _) (Nat.ne_of_gt (Nat.lt_succ_of_lt hal)) (Nat.ne_of_lt hal), ⟨⟨.none, he⟩, itAt_new hit⟩, fun b hb => ?_, q⟩
  have hle : s1.heap.objs.size ≤ b := by
    have e' : b = s1.heap.objs.size + 1 ∨ b = s1.heap.objs.size := by simpa using hb
    rcases e' with z | z
    · rw [z]; exact Nat.le_add_right _ _
    · rw [z]; exact Nat.le_refl _
  exact I1.fpOk hle (I1.hok.fresh hle)
theorem pi_enumQ2 (hg : Gl X "enumerate") (hm : X.mg "enumerate" = none) (ha : PA X [e, e2] ta) (hs : starEach [e, e2] X.env = (false, eval e X.env) :: starEach [e2] X.env := by rfl) (hpl : (backTo pos (starEach [e2] X.env)).any (·.1) = false := by rfl) :
    PI X (.Tuple elts kk tpos) (.Call (.Name "enumerate" p) [e, e2] [] pos) (iEnumQ2 X.K ta) := by
  refine ⟨fun pins s σ H R I h => ?_⟩
  refine Call_ (ld_blt I hg hm boot_enumerate (PyProof.Rows.callWith_type1 (thn (ha.run pos pins s σ H _ I h) fun us s1 ⟨vs, H1, I1, r1, q1⟩ => ?_) hs hpl))
  obtain ⟨t, a, xs, k, ex, k0, k1, hq, q⟩ := q1
  subst ex
  obtain ⟨u, u2, rfl, ru, ru2⟩ := vals2 r1
  cases ru
  obtain ⟨tk, rfl⟩ := ru2
  obtain ⟨its, rv, hsq, hal⟩ := sqQ_is I1 hq
  refine enum_begins (beginsQ t a its.toArray) hsq (by omega) (by omega) fun h' he hit _ hk => wpAny_pyIter_enum he ?_
  have I2 : Inv X pins σ H1 { s1 with heap := h' } := I1.kept (t' := s1.toks) hk
  refine ⟨s1.heap.objs.size + 1, [s1.heap.objs.size + 1, s1.heap.objs.size], _, _, H1, rfl, I2, turn_enumQ t k a (s1.heap.objs.size + 1) s1.heap.objs.size (Nat.succ_ne_self _) (Nat.ne_of_gt (Nat.lt_succ_of_lt hal)) (Nat.ne_of_lt hal), ⟨⟨.none, by simpa using he⟩, itAt_new hit⟩, fun b hb => ?_, q⟩
  have hle : s1.heap.objs.size ≤ b := by
    have e' : b = s1.heap.objs.size + 1 ∨ b = s1.heap.objs.size := by simpa using hb
    rcases e' with z | z
    · rw [z]; exact Nat.le_add_right _ _
    · rw [z]; exact Nat.le_refl _
  exact I1.fpOk hle (I1.hok.fresh hle)
end
def ItzQ (t u : Bool) (K : PySem.W.Frag) (a b : Addr) : It :=
  ⟨fun i H => ∃ (xs ys : List V) (x y : V), SqQ t K H a xs ∧ SqQ u K H b ys ∧ xs[i]? = some x ∧ ys[i]? = some y,
   fun i H v H' => ∃ T x y, v = .ref T ∧ H T = none ∧ H' = upd H T (.tup [x, y]) ∧ (∀ xs, SqQ t K H a xs → xs[i]? = some x) ∧ ∀ ys, SqQ u K H b ys → ys[i]? = some y,
   fun i H => ∃ xs ys : List V, SqQ t K H a xs ∧ SqQ u K H b ys ∧ min xs.length ys.length = i⟩
theorem turn_zipQ {P : Program} {w : World} {K : PySem.W.Frag} {elts : List Expr} {kk : Nat} {tpos : Pos} {t u : Bool} {a b z TI TO i1 i2 : Addr} (S : ZipSep2 z TI TO i1 i2 [i1, a] [i2, b]) (h1a : a ≠ i1) (h2b : b ≠ i2) :
    Turn P w K (.Tuple elts kk tpos) (ItzQ t u K a b) [z, TI, TO, i1, i2] z (fun i h => IsZip h z TI TO .none ∧ IsTupOf2 h TI (.ref i1) (.ref i2) ∧ (∃ x y, IsTupOf2 h TO x y) ∧ ItAt t h i1 a i ∧ ItAt u h i2 b i) where
  mem := by simp
  obj := fun i h st c hc => by
    obtain ⟨hz, hTI, ⟨x, y, hTO⟩, h1, h2⟩ := st
    have e' : c = z ∨ c = TI ∨ c = TO ∨ c = i1 ∨ c = i2 := by simpa using hc
    rcases e' with q | q | q | q | q
    · rw [q]; exact ⟨_, hz, fun v q => nomatch q⟩
    · rw [q]; exact ⟨_, hTI, fun v q => nomatch q⟩
    · rw [q]; exact ⟨_, hTO, fun v q => nomatch q⟩
    · rw [q]; exact itAt_obj h1
    · rw [q]; exact itAt_obj h2
  keep := fun i h h' st k => by
    obtain ⟨hz, hTI, ⟨x, y, hTO⟩, h1, h2⟩ := st
    exact ⟨k z (by simp) _ hz, k TI (by simp) _ hTI, ⟨x, y, k TO (by simp) _ hTO⟩, itAt_at h1 fun o q => k i1 (by simp) o q, itAt_at h2 fun o q => k i2 (by simp) o q⟩
  item := by
    intro X hP hw hK hc i pins s σ H E I hf st hg
    subst hP hw hK
    obtain ⟨hz, hTI, ⟨x0, y0, hTO⟩, h1, h2⟩ := st
    obtain ⟨xs, ys, x, y, hqx, hqy, hx, hy⟩ := hg
    obtain ⟨its, rv, p1, _⟩ := sqQ_is I hqx
    obtain ⟨its2, rv2, p2, _⟩ := sqQ_is I hqy
    obtain ⟨v1, hu, ru⟩ := rv.get hx
    obtain ⟨v2, hu2, ru2⟩ := rv2.get hy
    have hzl : z < s.heap.objs.size := Heap.lt_size hz
    have l1 : i < its.toArray.size := by rw [List.size_toArray]; exact (List.getElem?_eq_some_iff.mp hu).1
    have l2 : i < its2.toArray.size := by rw [List.size_toArray]; exact (List.getElem?_eq_some_iff.mp hu2).1
    refine wpAny_pyNext_zipD2_item S (drawsQ t (A := X.A.in1) (I.ok.hd hc) i1 a h1a its.toArray) (drawsQ u (A := X.A.in1) (I.ok.hd hc) i2 b h2b its2.toArray) hz hTI hTO ⟨h1, p1⟩ ⟨h2, p2⟩ l1 l2 fun w1 w2 h' tk e1 e2 b1 b2 d1 d2 b5 b6 hk => ?_
    have ew1 : w1 = v1 := Option.some.inj ((show its[i]? = some w1 by simpa using e1).symm.trans hu)
    have ew2 : w2 = v2 := Option.some.inj ((show its2[i]? = some w2 by simpa using e2).symm.trans hu2)
    subst ew1 ew2
    refine ⟨_, rfl, wpAny_letOwnedTupleGo_zip (s := { s with heap := h', toks := tk }) b1 fun h'' z'' sb => ?_⟩
    have hT2 : h''.get? s.heap.objs.size = some { cls := .type "tuple", data := .seq #[w1, w2] } := (sb.2 _ (Nat.ne_of_gt hzl)).trans b5
    have new : ObjOk X.prog X.w (upd H s.heap.objs.size (.tup [x, y])) h'' s.heap.objs.size (.tup [x, y]) :=
      ⟨by show 2 ≤ sizeLine; decide, [w1, w2], .cons ru (.cons ru2 .nil), ⟨_, hT2, rfl, _, rfl⟩⟩
    have I1 : Inv X pins σ (upd H s.heap.objs.size (.tup [x, y])) { s with heap := h'', toks := tk } :=
      I.turnedNew (t' := tk) (ch := [z, TI, TO, i1, i2]) (fun c o hb q => (sb.2 c (fun q' => hb (by simp [q']))).trans (hk c o (fun q' => hb (by simp [q'])) (fun q' => hb (by simp [q'])) (fun q' => hb (by simp [q'])) (fun q' => hb (by simp [q'])) q)) hf (Nat.le_refl _) new
    refine ⟨.ref s.heap.objs.size, _, I1, rfl, ⟨_, x, y, rfl, I.hok.fresh (Nat.le_refl _), rfl, fun l hl => by rw [sqQ_inj I hl hqx]; exact hx, fun l hl => by rw [sqQ_inj I hl hqy]; exact hy⟩, ⟨z'', ?_, ⟨w1, w2, ?_⟩, ?_, ?_⟩, fun c hcm => ?_⟩
    · exact (sb.2 _ S.TIz).trans (hk _ _ S.TIz S.TITO S.TIi1 S.TIi2 hTI)
    · exact (sb.2 _ S.TOz).trans b2
    · exact itAt_at d1.1 fun o q => (sb.2 _ (Ne.symm S.zi1)).trans q
    · exact itAt_at d2.1 fun o q => (sb.2 _ (Ne.symm S.zi2)).trans q
    · have hlt : c < s.heap.objs.size := by
        have e' : c = z ∨ c = TI ∨ c = TO ∨ c = i1 ∨ c = i2 := by simpa using hcm
        rcases e' with q | q | q | q | q
        · rw [q]; exact hzl
        · rw [q]; exact Heap.lt_size hTI
        · rw [q]; exact Heap.lt_size hTO
        · rw [q]; obtain ⟨_, e1, _⟩ := itAt_obj h1; exact Heap.lt_size e1
        · rw [q]; obtain ⟨_, e2, _⟩ := itAt_obj h2; exact Heap.lt_size e2
      rw [upd_ne (Nat.ne_of_lt hlt)]
      exact (hf c hcm).1
  done := by
    intro X hP hw hK hc i pins s σ H E I hf st hg
    subst hP hw hK
    obtain ⟨hz, hTI, ⟨x0, y0, hTO⟩, h1, h2⟩ := st
    obtain ⟨xs, ys, hqx, hqy, hend⟩ := hg
    obtain ⟨its, rv, p1, _⟩ := sqQ_is I hqx
    obtain ⟨its2, rv2, p2, _⟩ := sqQ_is I hqy
    have l1 := rv.length
    have l2 := rv2.length
    have m1 : its.toArray.size = its.length := List.size_toArray
    have m2 : its2.toArray.size = its2.length := List.size_toArray
    exact wpAny_pyNext_zipD2_end S (drawsQ t (A := X.A.in1) (I.ok.hd hc) i1 a h1a its.toArray) (drawsQ u (A := X.A.in1) (I.ok.hd hc) i2 b h2b its2.toArray) hz hTI hTO ⟨h1, p1⟩ ⟨h2, p2⟩ (by omega) (by omega) (by omega) fun h' tk hk =>
      ⟨rfl, I.turnedL (t' := tk) (ch := [z, TI, TO, i1, i2]) (fun c o hb q => hk c o (fun q' => hb (by simp [q'])) (fun q' => hb (by simp [q'])) (fun q' => hb (by simp [q'])) (fun q' => hb (by simp [q'])) q) hf⟩
  self := fun A i s Q E st h => wpAny_pyIter_zip st.1 h
theorem zsep (n a b : Nat) (ha : a < n) (hb : b < n) : ZipSep2 (n + 4) (n + 2) (n + 3) n (n + 1) [n, a] [n + 1, b] := by
  exact ⟨(show (n + 2 : Nat) ≠ n + 4 by omega), (show (n + 3 : Nat) ≠ n + 4 by omega), (show (n + 2 : Nat) ≠ n + 3 by omega), (show (n + 2 : Nat) ≠ n by omega), List.mem_cons_self .., (show (n + 4 : Nat) ∉ [n, a] by simp; omega), (show (n + 3 : Nat) ∉ [n, a] by simp; omega),
    (show (n + 2 : Nat) ≠ n + 1 by omega), List.mem_cons_self .., (show (n + 4 : Nat) ∉ [n + 1, b] by simp; omega), (show (n + 3 : Nat) ∉ [n + 1, b] by simp; omega), (show (n : Nat) ∉ [n + 1, b] by simp; omega), (show (n + 1 : Nat) ∉ [n, a] by simp; omega)⟩
def iZipQ (K : PySem.W.Frag) (ta : TA) : TI := fun σ H R => ta σ H fun vs H1 => ∃ t u a b xs ys, vs = [.ref a, .ref b] ∧ SqQ t K H1 a xs ∧ SqQ u K H1 b ys ∧ R (ItzQ t u K a b) H1
theorem pi_zipQ {X : Cx} {e e2 : Expr} {ta : TA} {p pos tpos : Pos} {elts : List Expr} {kk : Nat} (hg : Gl X "zip") (hm : X.mg "zip" = none) (ha : PA X [e, e2] ta)
    (hs : starEach [e, e2] X.env = (false, eval e X.env) :: starEach [e2] X.env := by rfl) (hpl : (backTo pos (starEach [e2] X.env)).any (·.1) = false := by rfl) :
    PI X (.Tuple elts kk tpos) (.Call (.Name "zip" p) [e, e2] [] pos) (iZipQ X.K ta) := by
  refine ⟨fun pins s σ H R I h => ?_⟩
  refine Call_ (ld_blt I hg hm PyProof.Rows.boot_zip (PyProof.Rows.callWith_type1 (thn (ha.run pos pins s σ H _ I h) fun us s1 ⟨vs, H1, I1, r1, q1⟩ => ?_) hs hpl))
  obtain ⟨t, u, a, b, xs, ys, ex, hqx, hqy, q⟩ := q1
  subst ex
  obtain ⟨u1, u2, rfl, r1, r2⟩ := vals2 r1
  cases r1
  cases r2
  obtain ⟨its, rv, p1, la⟩ := sqQ_is I1 hqx
  obtain ⟨its2, rv2, p2, lb⟩ := sqQ_is I1 hqy
  refine zip_begins2 (beginsQ t a its.toArray) (beginsQ u b its2.toArray) p1 p2 fun h' hz hTI hTO g1 g2 _ hk => wpAny_pyIter_zip hz ?_
  have I2 : Inv X pins σ H1 { s1 with heap := h' } := I1.kept (t' := s1.toks) hk
  have S : ZipSep2 (s1.heap.objs.size + 4) (s1.heap.objs.size + 2) (s1.heap.objs.size + 3) s1.heap.objs.size (s1.heap.objs.size + 1) [s1.heap.objs.size, a] [s1.heap.objs.size + 1, b] := zsep _ a b la lb
  refine ⟨s1.heap.objs.size + 4, [s1.heap.objs.size + 4, s1.heap.objs.size + 2, s1.heap.objs.size + 3, s1.heap.objs.size, s1.heap.objs.size + 1], _, _, H1, rfl, I2, turn_zipQ S (Nat.ne_of_lt la) (Nat.ne_of_lt (Nat.lt_succ_of_lt lb)), ⟨hz, hTI, ⟨_, _, hTO⟩, itAt_new g1, itAt_new g2⟩, fun c hcm => ?_, q⟩
  have hle : s1.heap.objs.size ≤ c := by
    have e' : c = s1.heap.objs.size + 4 ∨ c = s1.heap.objs.size + 2 ∨ c = s1.heap.objs.size + 3 ∨ c = s1.heap.objs.size ∨ c = s1.heap.objs.size + 1 := by simpa using hcm
    rcases e' with z | z | z | z | z
    · rw [z]; exact Nat.le_add_right _ _
    · rw [z]; exact Nat.le_add_right _ _
    · rw [z]; exact Nat.le_add_right _ _
    · rw [z]; exact Nat.le_refl _
    · rw [z]; exact Nat.le_add_right _ _
  exact I1.fpOk hle (I1.hok.fresh hle)
end DL

namespace DL
open PySem PySem.Spec PyProof.Rows L2
/-- one turn's body, then the rest -/
def mThen (b k : MS) : MS := fun σd S => match b σd S with
  | .nx σ1 S1 => k σ1 S1
  | .ct σ1 S1 => k σ1 S1
  | .bk σ1 S1 => .nx σ1 S1
  | r => r
def mWhile (t : M Bool) (b : MS) : Nat → MS
  | 0 => fun _ _ => .bad
  | n + 1 => mBS t fun c => if c = true then mThen b (mWhile t b n) else mPass
section
variable {g : Gx} {W : WX} {X : Cx} {e a b : Expr} {es : List Expr} {pos p : Pos} {sts : List Stmt}
theorem then_post {B O : List Addr} {S : Sto} {σd : Sl} {H : Hp} {mb k : MS} {J : Ends} {N : L2.St → Hp → Prop} (p : PostS ⟨g.K, g.G, B, O⟩ W H (mThen mb k σd S) J)
    (hN : ∀ σ1 S1 σ' O' H', Rel ⟨g.K, g.G, B, O'⟩ S1 σ1 σ' H' → Step O H O' H' → PostS ⟨g.K, g.G, B, O'⟩ W H' (k σ1 S1) J → N σ' H') : PostS ⟨g.K, g.G, B, O⟩ W H (mb σd S) { J with nx := N, ct := N, bk := J.nx } := by
  unfold mThen at p
  revert p
  cases mb σd S with
  | nx σ1 S1 => exact fun p σ' O' H' h1 h3 => hN σ1 S1 σ' O' H' h1 h3 (PostS.step (c := ⟨g.K, g.G, B, O⟩) h3 p)
  | ct σ1 S1 => exact fun p σ' O' H' h1 h3 => hN σ1 S1 σ' O' H' h1 h3 (PostS.step (c := ⟨g.K, g.G, B, O⟩) h3 p)
  | bk σ1 S1 => exact fun p => p
  | rt d S1 => exact fun p => p
  | exc k ns ds σ1 S1 => exact fun p => p
  | bad => exact fun p => p
theorem ss_while (n : Nat) {c : Expr} {t : M Bool} {m : MS} (hp : PassesOwn (model X.prog X.w) X.A X.env X.xe) (hc : PT X c (rdT g W t)) (hb : PSs X sts (rdS g W m)) : PS X (.While c sts [] pos) (rdS g W (mWhile t m n)) :=
  PS.imp (ps_while hp hc hb) fun J σ H ⟨B, O, S, σd, r, p⟩ => by
    refine ⟨fun k σ H => ∃ O1 S1 σd1, Rel ⟨g.K, g.G, B, O1⟩ S1 σd1 σ H ∧ PostS ⟨g.K, g.G, B, O1⟩ W H (mWhile t m k σd1 S1) J, ⟨n, O, S, σd, r, p⟩, fun k σ1 H1 hw => ?_⟩
    obtain ⟨O1, S1, σd1, r1, p1⟩ := hw
    cases k with
    | zero => exact p1.elim
    | succ k =>
      refine rdG_mono (rdS_then (rel := same) r1 p1) fun v H2 ⟨x, O2, S2, r2, rx, st2, p2⟩ => ?_
      cases (show _ = _ from rx)
      cases v with
      | true =>
        show ∃ N : L2.St → Hp → Prop, _
        exact ⟨fun σ' H' => ∃ O1 S1 σd1, Rel ⟨g.K, g.G, B, O1⟩ S1 σd1 σ' H' ∧ PostS ⟨g.K, g.G, B, O1⟩ W H' (mWhile t m k σd1 S1) J, fun σ' H' q => ⟨k, Nat.lt_succ_self k, q⟩,
          B, O2, S2, σd1, r2, then_post p2 fun σ3 S3 σ' O' H' h1 h3 hp => ⟨O', S3, σ3, h1, hp⟩⟩
      | false =>
        show J.nx σ1 H2
        exact postS_nx p2 r2
theorem Mv.refl (c : Ct) (H : Hp) : Mv c c H H := ⟨fun _ _ h e => ⟨h, e⟩, fun _ _ e => e, rfl, rfl⟩
theorem Mv.trans {c c1 c2 : Ct} {H H1 H2 : Hp} (a : Mv c c1 H H1) (b : Mv c1 c2 H1 H2) : Mv c c2 H H2 :=
  ⟨fun x o h e => let ⟨h1, e1⟩ := a.kp x o h e; b.kp x o h1 e1, fun n x e => b.rf n x (a.rf n x e), b.k.trans a.k, b.g.trans a.g⟩
structure Its where
  items : List D
  src : List Nat
  pair : Bool
/-- the things of the store that are walked stand as they stood -/
def Gd (S0 : Sto) (src : List Nat) (S : Sto) : Prop := ∀ n ∈ src, S[n]? = S0[n]?
/-- what is handed out at a turn -/
def YD (c : Ct) (H : Hp) (pair : Bool) (d : D) (x : V) (H' : Hp) : Prop := match pair with
  | false => H' = H ∧ RD c H d x
  | true => ∃ T d1 d2 v1 v2, d = .tup [d1, d2] ∧ x = .ref T ∧ H T = none ∧ H' = upd H T (.tup [v1, v2]) ∧ RD c H d1 v1 ∧ RD c H d2 v2
structure ItOk (c : Ct) (S0 : Sto) (H0 : Hp) (it : Its) (J : It) : Prop where
  go : ∀ c' S H, RelS c' S H → Mv c c' H0 H → Gd S0 it.src S → ∀ i, i < it.items.length → J.go i H ∧ ∀ x H', J.yld i H x H' → ∃ d, it.items[i]? = some d ∧ YD c' H it.pair d x H'
  stop : ∀ c' S H, RelS c' S H → Mv c c' H0 H → Gd S0 it.src S → J.stop it.items.length H
def PostI (c : Ct) (W : WX) (σ : L2.St) (σd : Sl) (H : Hp) (r : R Its) (Q : It → Hp → Prop) : Prop := match r with
  | .ok it S' => ∀ J O' H', Rel (c.at O') S' σd σ H' → ItOk (c.at O') S' H' it J → Step c.O H O' H' → Q J H'
  | .exc k ns ds S' => ∀ dd O' H', Rel (c.at O') S' σd σ H' → XOk (c.at O') H' ns ds dd → Step c.O H O' H' → W (.ref (c.G k)) dd σ H'
  | .bad => False
def rdI (g : Gx) (W : WX) (m : M Its) : TI := fun σ H Q => ∃ B O S σd, Rel ⟨g.K, g.G, B, O⟩ S σd σ H ∧ PostI ⟨g.K, g.G, B, O⟩ W σ σd H (m σd S) Q
theorem PI.imp {tg it : Expr} {w w' : TI} (h : PI X tg it w) (i : ∀ σ H R, w' σ H R → w σ H R) : PI X tg it w' := ⟨fun pins s σ H R I q => h.run pins s σ H R I (i σ H R q)⟩
theorem PI.or {tg it : Expr} {w w' : TI} (h : PI X tg it w) (h' : PI X tg it w') : PI X tg it (fun σ H R => w σ H R ∨ w' σ H R) := ⟨fun pins s σ H R I q => q.elim (h.run pins s σ H R I) (h'.run pins s σ H R I)⟩
theorem rdI_then {α β : Type} {rel : Ct → Hp → α → β → Prop} {S : Sto} {σd : Sl} {σ : L2.St} {H : Hp} {B O : List Addr} {a : M α} {f : α → M Its} {Q : It → Hp → Prop} (r : Rel ⟨g.K, g.G, B, O⟩ S σd σ H) (p : PostI ⟨g.K, g.G, B, O⟩ W σ σd H (mB a f σd S) Q) :
    rdG rel g W a σ H fun v H1 => ∃ d O1 S1, Rel ⟨g.K, g.G, B, O1⟩ S1 σd σ H1 ∧ rel ⟨g.K, g.G, B, O1⟩ H1 d v ∧ Step O H O1 H1 ∧ PostI ⟨g.K, g.G, B, O1⟩ W σ σd H1 (f d σd S1) Q := by
  refine ⟨B, O, S, σd, r, ?_⟩
  unfold mB at p
  revert p
  cases a σd S with
  | ok d S' =>
    intro p v O' H' h1 h2 h3
    refine ⟨d, O', S', h1, h2, h3, ?_⟩
    revert p
    show PostI _ W σ σd H (f d σd S') Q → _
    cases f d σd S' with
    | ok it S2 => exact fun p J O2 H2 g1 g2 g3 => p J O2 H2 g1 g2 (h3.trans g3)
    | exc k ns ds S2 => exact fun p dd O2 H2 g1 g2 g3 => p dd O2 H2 g1 g2 (h3.trans g3)
    | bad => exact fun p => p
  | exc k ns ds S' => exact fun p dd O' H' h1 h2 h3 => p dd O' H' h1 h2 h3
  | bad => exact fun p => p.elim
/-- the items of a list or tuple, and whether they lie in the store -/
def srcOf : D → List Nat | .ref n => [n] | _ => []
def itsOf (S : Sto) (d : D) : Option (List D) := match d with
  | .scr ns => some (ns.map D.int)
  | d => seqOf S d
/-- what stands of it while its guard holds -/
theorem its_stays {c : Ct} {S0 : Sto} {H0 : Hp} {d : D} {ds : List D} {v : V} (r0 : RelS c S0 H0) (h : RD c H0 d v) (e : itsOf S0 d = some ds) :
    ∃ t a, v = .ref a ∧ ∀ c' S H, RelS c' S H → Mv c c' H0 H → Gd S0 (srcOf d) S → ∃ vs, SqQ t c.K H a vs ∧ RDs c' H ds vs := by
  cases d with
  | scr ns =>
    cases Option.some.inj e
    obtain ⟨a, rfl, _⟩ := id h
    refine ⟨false, a, rfl, fun c' S H r st _ => ⟨_, ?_, RDs.of_int ns⟩⟩
    obtain ⟨a', ea, h1⟩ := scr_sq (RD.mv st _ _ h)
    cases ea
    rw [st.k] at h1
    exact h1
  | tup xs =>
    cases Option.some.inj (show some xs = some ds from e)
    obtain ⟨a, vs, rfl, h1⟩ := id h
    refine ⟨true, a, rfl, fun c' S H r st _ => ?_⟩
    obtain ⟨b, us, eb, h2, h3, h4⟩ := RD.mv st _ _ h
    cases eb
    exact ⟨us, h3.sq, h4⟩
  | lst xs =>
    cases Option.some.inj (show some xs = some ds from e)
    obtain ⟨a, vs, rfl, h1⟩ := id h
    refine ⟨false, a, rfl, fun c' S H r st _ => ?_⟩
    obtain ⟨b, us, eb, h2, h3, h4⟩ := RD.mv st _ _ h
    cases eb
    exact ⟨us, SqL.of h3, h4⟩
  | ref n =>
    obtain ⟨a, ho, rfl⟩ := id h
    refine ⟨false, a, rfl, fun c' S H r st gd => ?_⟩
    have e' : lstOf S0 (.ref n) = some ds := e
    have e2 : lstOf S (.ref n) = some ds := by
      unfold lstOf at e' ⊢
      simp only at e' ⊢
      rw [gd n (List.mem_singleton.mpr rfl)]
      exact e'
    obtain ⟨b, us, eb, h3, h4⟩ := lstOf_ok r (RD.mv st _ _ h) e2
    cases eb
    exact ⟨us, SqL.of h3, h4⟩
  | _ => cases e
theorem sqQ_fun {t : Bool} {K : PySem.W.Frag} {a : Addr} {xs : List V} : Walk (match t with | true => Itt K a | false => Itl K a) xs.length (fun H => SqQ t K H a xs) (YAt xs) := by
  cases t with
  | true => exact walk_tup
  | false => exact walk_list
def mSeqI (m : M D) : M Its := mB m fun d => fun _ S => match itsOf S d with
  | some ds => .ok ⟨ds, srcOf d, false⟩ S
  | none => .bad
abbrev itQ (t : Bool) (K : PySem.W.Frag) (a : Addr) : It := match t with | true => Itt K a | false => Itl K a
theorem pi_seqQ {tg l : Expr} {tl : TE} (hl : PE X l tl) : PI X tg l (fun σ H R => tl σ H fun x H1 => ∃ t a, x = .ref a ∧ (∃ xs, SqQ t X.K H1 a xs) ∧ R (itQ t X.K a) H1) := by
  refine ⟨fun pins s σ H R I h => ?_⟩
  refine thn (hl.run pins s σ H _ I h) fun v s1 ⟨x, H1, I1, r1, q1⟩ => ?_
  obtain ⟨t, a, e, ⟨xs, hq⟩, q⟩ := q1
  have fp : ∀ b, b ∈ [s1.heap.objs.size] → FpOk X pins H1 b := fun b hb => by
    have e : b = s1.heap.objs.size := by simpa using hb
    subst e
    exact I1.fpOk (Nat.le_refl _) (I1.hok.fresh (Nat.le_refl _))
  subst e
  cases r1
  cases t with
  | false =>
    obtain ⟨its, rv, p, hz⟩ := I1.list hq
    refine wpAny_pyIter_list p.isList ?_
    exact ⟨s1.heap.objs.size, [s1.heap.objs.size], _, _, H1, rfl, I1.kept (t' := s1.toks) fun b o e => Heap.get?_push_of_some _ e, turn_list a _, ⟨_, Heap.get?_push_size _ rfl, rfl, rfl⟩, fp, q⟩
  | true =>
    obtain ⟨its, rv, p, hz⟩ := I1.tuple hq
    refine wpAny_pyIter_tuple (show s1.heap.IsTuple a its.toArray from p) ?_
    exact ⟨s1.heap.objs.size, [s1.heap.objs.size], _, _, H1, rfl, I1.kept (t' := s1.toks) fun b o e => Heap.get?_push_of_some _ e, turn_tuple a _, ⟨_, Heap.get?_push_size _ rfl, rfl, rfl⟩, fp, q⟩
theorem si_seq {tg : Expr} {m : M D} (hk : X.K = g.K) (h : PE X e (rdE g W m)) : PI X tg e (rdI g W (mSeqI m)) := PI.imp (pi_seqQ h) fun σ H R ⟨B, O, S, σd, rel, p⟩ =>
  rdG_mono (rdI_then (rel := RD) rel p) fun v H1 ⟨d, O1, S1, r1, rx, st1, p1⟩ => by
    rw [hk]
    split at p1
    · next ds e =>
      obtain ⟨t, a, ev, st⟩ := its_stays r1.toRelS rx e
      obtain ⟨xs, h1, _⟩ := st _ S1 H1 r1.toRelS (Mv.refl _ _) fun n _ => rfl
      refine ⟨t, a, ev, ⟨xs, h1⟩, p1 _ O1 H1 r1 ⟨fun O2 S2 H2 r2 s2 gd i hi => ?_, fun O2 S2 H2 r2 s2 gd => ?_⟩ (Step.refl _ _)⟩
      · obtain ⟨vs, q1, q2⟩ := st O2 S2 H2 r2 s2 gd
        have w := sqQ_fun (t := t) (K := g.K) (a := a) (xs := vs)
        have hi' : i < vs.length := by rw [← q2.length]; exact hi
        refine ⟨w.goes i H2 hi' q1, fun x H' y => ?_⟩
        obtain ⟨e1, e2⟩ := w.yields i H2 x H' hi' q1 y
        refine ⟨ds[i], List.getElem?_eq_getElem hi, e1, ?_⟩
        obtain ⟨u, g1, g2⟩ := q2.get (List.getElem?_eq_getElem hi)
        cases Option.some.inj (g1.symm.trans e2)
        exact g2
      · obtain ⟨vs, q1, q2⟩ := st O2 S2 H2 r2 s2 gd
        have w := sqQ_fun (t := t) (K := g.K) (a := a) (xs := vs)
        have := w.stops H2 q1
        rw [← q2.length] at this
        exact this
    · exact p1.elim
def mRgI (m : M (List D)) : M Its := mB m fun ds => fun _ S => match ds with
  | [.int n] => if okRg (0, n) then .ok ⟨rgD 0 n, [], false⟩ S else .bad
  | _ => .bad
def mRgI2 (m : M (List D)) : M Its := mB m fun ds => fun _ S => match ds with
  | [.int i, .int n] => if okRg (i, n) then .ok ⟨rgD i n, [], false⟩ S else .bad
  | _ => .bad
theorem it_range {c : Ct} {S : Sto} {H : Hp} (i n : Int) : ItOk c S H ⟨rgD i n, [], false⟩ (Itr i (n - i).toNat) := by
  have hl : (rgD i n).length = (n - i).toNat := by unfold rgD; rw [List.length_map, List.length_range]
  refine ⟨fun O2 S2 H2 r2 s2 gd j hj => ?_, fun O2 S2 H2 r2 s2 gd => ?_⟩
  · have hj' : j < (n - i).toNat := hl ▸ hj
    refine ⟨hj', fun x H' y => ⟨.int (i + (j : Nat)), ?_, y.1, y.2⟩⟩
    show (rgD i n)[j]? = _
    unfold rgD
    rw [List.getElem?_map, List.getElem?_range hj']
    rfl
  · show (n - i).toNat ≤ (rgD i n).length
    rw [hl]
    exact Nat.le_refl _
theorem si_range1 {tg : Expr} {m : M (List D)} (hg : Gl X "range") (hm : X.mg "range" = none) (ha : PA X [a] (rdA g W m)) (hs : starEach [a] X.env = [(false, eval a X.env)] := by rfl) : PI X tg (.Call (.Name "range" p) [a] [] pos) (rdI g W (mRgI m)) :=
  PI.imp (pi_range1 hg hm ha hs) fun σ H R ⟨B, O, S, σd, rel, q⟩ => rdG_mono (rdI_then (rel := RDs) rel q) fun vs H1 ⟨ds, O1, S1, r1, rx, st1, p1⟩ => by
    split at p1
    · next n =>
      obtain ⟨v, rfl, hv⟩ := RDs.one_inv rx
      cases (show _ = _ from hv)
      split at p1
      · next hr =>
        obtain ⟨b1, b2, b3, b4, _⟩ := okRg_ok hr
        refine ⟨n, rfl, b3, b4, ?_⟩
        have := p1 _ O1 H1 r1 (it_range 0 n) (Step.refl _ _)
        rw [Int.sub_zero] at this
        exact this
      · exact p1.elim
    · exact p1.elim
theorem si_range2 {tg : Expr} {m : M (List D)} (hg : Gl X "range") (hm : X.mg "range" = none) (ha : PA X [a, b] (rdA g W m)) (hs : starEach [a, b] X.env = [(false, eval a X.env), (false, eval b X.env)] := by rfl) (hs2 : starEach [b] X.env = [(false, eval b X.env)] := by rfl) :
    PI X tg (.Call (.Name "range" p) [a, b] [] pos) (rdI g W (mRgI2 m)) :=
  PI.imp (pi_range2 hg hm ha hs hs2) fun σ H R ⟨B, O, S, σd, rel, q⟩ => rdG_mono (rdI_then (rel := RDs) rel q) fun vs H1 ⟨ds, O1, S1, r1, rx, st1, p1⟩ => by
    split at p1
    · next i n =>
      obtain ⟨v, w, rfl, hv, hw⟩ := RDs.two_inv rx
      cases (show _ = _ from hv)
      cases (show _ = _ from hw)
      split at p1
      · next hr =>
        obtain ⟨b1, b2, b3, b4, _⟩ := okRg_ok hr
        exact ⟨i, n, rfl, ⟨b1, b2, b3, b4⟩, p1 _ O1 H1 r1 (it_range i n) (Step.refl _ _)⟩
      · exact p1.elim
    · exact p1.elim
def enumD (k : Int) : List D → List D
  | [] => []
  | d :: ds => .tup [.int k, d] :: enumD (k + 1) ds
theorem enumD_len (k : Int) (ds : List D) : (enumD k ds).length = ds.length := by
  induction ds generalizing k with
  | nil => rfl
  | cons d ds ih => show (enumD (k + 1) ds).length + 1 = _; rw [ih]; rfl
theorem enumD_get : ∀ (k : Int) (ds : List D) (i : Nat) (d : D), ds[i]? = some d → (enumD k ds)[i]? = some (.tup [.int (k + (i : Nat)), d])
  | _, [], i, d, h => by simp at h
  | k, _ :: _, 0, d, h => by simp at h; subst h; simp [enumD]
  | k, _ :: ds, i + 1, d, h => by
    have := enumD_get (k + 1) ds i d (by simpa using h)
    show (enumD (k + 1) ds)[i]? = _
    rw [this, show k + 1 + (i : Int) = k + ((i + 1 : Nat) : Int) by omega]
def mEnum (m : M (List D)) : M Its := mB m fun ds => fun _ S => match ds with
  | [d] => match itsOf S d with
    | some xs => .ok ⟨enumD 0 xs, srcOf d, true⟩ S
    | none => .bad
  | _ => .bad
def mEnum2 (m : M (List D)) : M Its := mB m fun ds => fun _ S => match ds with
  | [d, .int k] => if 0 ≤ k ∧ k ≤ 1000 then match itsOf S d with
      | some xs => .ok ⟨enumD k xs, srcOf d, true⟩ S
      | none => .bad
    else .bad
  | _ => .bad
theorem it_enum {c : Ct} {S : Sto} {H : Hp} {d : D} {ds : List D} {a : Addr} {t : Bool} {k : Int} (st : ∀ c' S2 H2, RelS c' S2 H2 → Mv c c' H H2 → Gd S (srcOf d) S2 → ∃ vs, SqQ t c.K H2 a vs ∧ RDs c' H2 ds vs) :
    ItOk c S H ⟨enumD k ds, srcOf d, true⟩ (IteQ t c.K a k) := by
  refine ⟨fun O2 S2 H2 r2 s2 gd i hi => ?_, fun O2 S2 H2 r2 s2 gd => ?_⟩
  · obtain ⟨vs, q1, q2⟩ := st O2 S2 H2 r2 s2 gd
    have hi' : i < ds.length := by rw [← enumD_len k ds]; exact hi
    obtain ⟨u, g1, g2⟩ := q2.get (List.getElem?_eq_getElem hi')
    refine ⟨⟨vs, u, q1, g1⟩, fun x H' y => ?_⟩
    obtain ⟨T, x', e1, e2, e3, e4⟩ := y
    have ex : x' = u := Option.some.inj ((e4 vs q1).symm.trans g1)
    subst ex
    exact ⟨_, enumD_get k ds i _ (List.getElem?_eq_getElem hi'), T, _, _, _, _, rfl, e1, e2, e3, rfl, g2⟩
  · obtain ⟨vs, q1, q2⟩ := st O2 S2 H2 r2 s2 gd
    exact ⟨vs, q1, by show vs.length = (enumD k ds).length; rw [enumD_len, q2.length]⟩
theorem si_enum {elts : List Expr} {kk : Nat} {tpos : Pos} {m : M (List D)} (hk : X.K = g.K) (hg : Gl X "enumerate") (hm : X.mg "enumerate" = none) (ha : PA X [a] (rdA g W m)) (hs : starEach [a] X.env = [(false, eval a X.env)] := by rfl) :
    PI X (.Tuple elts kk tpos) (.Call (.Name "enumerate" p) [a] [] pos) (rdI g W (mEnum m)) :=
  PI.imp (pi_enumQ hg hm ha hs) fun σ H R ⟨B, O, S, σd, rel, q⟩ => rdG_mono (rdI_then (rel := RDs) rel q) fun vs H1 ⟨ds, O1, S1, r1, rx, st1, p1⟩ => by
    split at p1
    · next d =>
      obtain ⟨v, rfl, hv⟩ := RDs.one_inv rx
      split at p1
      · next xs e =>
        obtain ⟨t, l, ev, st⟩ := its_stays r1.toRelS hv e
        obtain ⟨us, h1, _⟩ := st _ S1 H1 r1.toRelS (Mv.refl _ _) fun n _ => rfl
        rw [hk]
        exact ⟨t, l, us, by rw [ev], h1, p1 _ O1 H1 r1 (it_enum st) (Step.refl _ _)⟩
      · exact p1.elim
    · exact p1.elim
theorem si_enum2 {elts : List Expr} {kk : Nat} {tpos : Pos} {m : M (List D)} (hk : X.K = g.K) (hg : Gl X "enumerate") (hm : X.mg "enumerate" = none) (ha : PA X [a, b] (rdA g W m)) (hs : starEach [a, b] X.env = (false, eval a X.env) :: starEach [b] X.env := by rfl) (hpl : (backTo pos (starEach [b] X.env)).any (·.1) = false := by rfl) :
    PI X (.Tuple elts kk tpos) (.Call (.Name "enumerate" p) [a, b] [] pos) (rdI g W (mEnum2 m)) :=
  PI.imp (pi_enumQ2 hg hm ha hs hpl) fun σ H R ⟨B, O, S, σd, rel, q⟩ => rdG_mono (rdI_then (rel := RDs) rel q) fun vs H1 ⟨ds, O1, S1, r1, rx, st1, p1⟩ => by
    split at p1
    · next d k =>
      obtain ⟨v, w, rfl, hv, hw⟩ := RDs.two_inv rx
      cases (show _ = _ from hw)
      split at p1
      · next hb =>
        split at p1
        · next xs e =>
          obtain ⟨t, l, ev, st⟩ := its_stays r1.toRelS hv e
          obtain ⟨us, h1, _⟩ := st _ S1 H1 r1.toRelS (Mv.refl _ _) fun n _ => rfl
          rw [hk]
          exact ⟨t, l, us, k, by rw [ev], hb.1, hb.2, h1, p1 _ O1 H1 r1 (it_enum st) (Step.refl _ _)⟩
        · exact p1.elim
      · exact p1.elim
    · exact p1.elim
def zipD : List D → List D → List D
  | x :: xs, y :: ys => .tup [x, y] :: zipD xs ys
  | _, _ => []
theorem zipD_len : ∀ xs ys : List D, (zipD xs ys).length = min xs.length ys.length
  | [], ys => by simp [zipD]
  | _ :: _, [] => by simp [zipD]
  | x :: xs, y :: ys => by show (zipD xs ys).length + 1 = _; rw [zipD_len xs ys, List.length_cons, List.length_cons]; omega
theorem zipD_get : ∀ (xs ys : List D) (i : Nat) (x y : D), xs[i]? = some x → ys[i]? = some y → (zipD xs ys)[i]? = some (.tup [x, y])
  | [], _, _, _, _, h, _ => by simp at h
  | _ :: _, [], _, _, _, _, h => by simp at h
  | _ :: _, _ :: _, 0, x, y, h, h2 => by simp at h h2; subst h h2; simp [zipD]
  | _ :: xs, _ :: ys, i + 1, x, y, h, h2 => zipD_get xs ys i x y (by simpa using h) (by simpa using h2)
def mZip (m : M (List D)) : M Its := mB m fun ds => fun _ S => match ds with
  | [d, e] => match itsOf S d with
    | some xs => match itsOf S e with
      | some ys => .ok ⟨zipD xs ys, srcOf d ++ srcOf e, true⟩ S
      | none => .bad
    | none => .bad
  | _ => .bad
theorem si_zip {elts : List Expr} {kk : Nat} {tpos : Pos} {m : M (List D)} (hk : X.K = g.K) (hg : Gl X "zip") (hm : X.mg "zip" = none) (ha : PA X [a, b] (rdA g W m)) (hs : starEach [a, b] X.env = (false, eval a X.env) :: starEach [b] X.env := by rfl) (hpl : (backTo pos (starEach [b] X.env)).any (·.1) = false := by rfl) :
    PI X (.Tuple elts kk tpos) (.Call (.Name "zip" p) [a, b] [] pos) (rdI g W (mZip m)) :=
  PI.imp (pi_zipQ hg hm ha hs hpl) fun σ H R ⟨B, O, S, σd, rel, q⟩ => rdG_mono (rdI_then (rel := RDs) rel q) fun vs H1 ⟨ds, O1, S1, r1, rx, st1, p1⟩ => by
    split at p1
    · next d d' =>
      obtain ⟨v, w, rfl, hv, hw⟩ := RDs.two_inv rx
      split at p1
      · next xs e =>
        split at p1
        · next ys e2 =>
          obtain ⟨t, l, ev, st⟩ := its_stays r1.toRelS hv e
          obtain ⟨t2, l2, ev2, sq2⟩ := its_stays r1.toRelS hw e2
          obtain ⟨us, h1, _⟩ := st _ S1 H1 r1.toRelS (Mv.refl _ _) fun n _ => rfl
          obtain ⟨us2, h2, _⟩ := sq2 _ S1 H1 r1.toRelS (Mv.refl _ _) fun n _ => rfl
          rw [hk]
          refine ⟨t, t2, l, l2, us, us2, by rw [ev, ev2], h1, h2, p1 _ O1 H1 r1 ⟨fun O2 S2 H2 r2 s2 gd i hi => ?_, fun O2 S2 H2 r2 s2 gd => ?_⟩ (Step.refl _ _)⟩
          · obtain ⟨as, q1, q2⟩ := st O2 S2 H2 r2 s2 fun n hn => gd n (List.mem_append_left _ hn)
            obtain ⟨bs, q3, q4⟩ := sq2 O2 S2 H2 r2 s2 fun n hn => gd n (List.mem_append_right _ hn)
            have hi2 : i < min xs.length ys.length := by rw [← zipD_len]; exact hi
            obtain ⟨u, g1, g2⟩ := q2.get (List.getElem?_eq_getElem (show i < xs.length by omega))
            obtain ⟨u2, g3, g4⟩ := q4.get (List.getElem?_eq_getElem (show i < ys.length by omega))
            refine ⟨⟨as, bs, u, u2, q1, q3, g1, g3⟩, fun x H' y => ?_⟩
            obtain ⟨T, x1, x2, e1, e2, e3, e4, e5⟩ := y
            have ex1 : x1 = u := Option.some.inj ((e4 as q1).symm.trans g1)
            have ex2 : x2 = u2 := Option.some.inj ((e5 bs q3).symm.trans g3)
            subst ex1 ex2
            exact ⟨_, zipD_get xs ys i _ _ (List.getElem?_eq_getElem (show i < xs.length by omega)) (List.getElem?_eq_getElem (show i < ys.length by omega)), T, _, _, _, _, rfl, e1, e2, e3, g2, g4⟩
          · obtain ⟨as, q1, q2⟩ := st O2 S2 H2 r2 s2 fun n hn => gd n (List.mem_append_left _ hn)
            obtain ⟨bs, q3, q4⟩ := sq2 O2 S2 H2 r2 s2 fun n hn => gd n (List.mem_append_right _ hn)
            exact ⟨as, bs, q1, q3, by show min as.length bs.length = (zipD xs ys).length; rw [zipD_len, q2.length, q4.length]⟩
        · exact p1.elim
      · exact p1.elim
    · exact p1.elim
/-- a name takes no pair that is handed out -/
def Tgt.st (t : Tgt) (pair : Bool) (d : D) : Option (List D) := match t with
  | .nm _ => if pair then none else some [d]
  | .tp _ => t.ds d
theorem yd_ok {c : Ct} {K : PySem.W.Frag} {S : Sto} {H H' : Hp} {t : Tgt} {pair : Bool} {d : D} {ds : List D} {v : V} {σ : L2.St} {σd : Sl} {Q : L2.St → Hp → Prop} (r : Rel c S σd σ H) (y : YD c H pair d v H') (e : t.st pair d = some ds) :
    ∃ vs, RDs c H' ds vs ∧ Rel c S σd σ H' ∧ Step c.O H c.O H' ∧ ∀ σ' : L2.St, (Q (setVs σ' t.slots vs) H' → t.g K v σ' H' Q) := by
  cases pair with
  | false =>
    obtain ⟨rfl, hd⟩ := y
    have e' : t.ds d = some ds := by cases t <;> exact e
    cases t with
    | nm i => cases Option.some.inj e'; exact ⟨[v], RDs.one hd, r, Step.refl _ _, fun σ' q => q⟩
    | tp is =>
      unfold Tgt.ds at e'
      simp only at e'
      split at e'
      · next xs q =>
        split at e'
        · next hl =>
          cases Option.some.inj e'
          obtain ⟨a, vs, rfl, h1, h2⟩ := tupOf_ok hd q
          exact ⟨vs, h2, r, Step.refl _ _, fun σ' q => ⟨a, vs, rfl, h1.sq, by rw [← h2.length]; exact hl, gNs_of is (by rw [← h2.length]; exact hl) q⟩⟩
        · cases e'
      · cases e'
  | true =>
    obtain ⟨T, d1, d2, v1, v2, rfl, rfl, hT, rfl, h1, h2⟩ := y
    cases t with
    | nm i => cases e
    | tp is =>
      have e' : (if [d1, d2].length = is.length then some [d1, d2] else none) = some ds := e
      split at e'
      · next hl =>
        cases Option.some.inj e'
        have s1 : Step c.O H c.O (upd H T (.tup [v1, v2])) := Step.new hT
        refine ⟨[v1, v2], ⟨v1, [v2], rfl, RD.step (c := c) (O' := c.O) s1 d1 v1 h1, RDs.one (RD.step (c := c) (O' := c.O) s1 d2 v2 h2)⟩, r.new hT, s1, fun σ' q => ⟨T, [v1, v2], rfl, SqT.of upd_same, hl, gNs_of is hl q⟩⟩
      · cases e'
open Classical in
noncomputable def forL (S0 : Sto) (src : List Nat) (pair : Bool) (t : Tgt) (b : MS) : List D → MS
  | [] => fun σd S => if Gd S0 src S then .nx σd S else .bad
  | d :: ds => fun σd S => if Gd S0 src S then match t.st pair d with
      | some xs => mThen b (forL S0 src pair t b ds) (setAll σd t.slots xs) S
      | none => .bad
    else .bad
noncomputable def mFor (m : M Its) (t : Tgt) (b : MS) : MS := mBS m fun it => fun σd S => forL S it.src it.pair t b it.items σd S
theorem rdSI_then {S : Sto} {σd : Sl} {σ : L2.St} {H : Hp} {B O : List Addr} {a : M Its} {f : Its → MS} {J : Ends} (r : Rel ⟨g.K, g.G, B, O⟩ S σd σ H) (p : PostS ⟨g.K, g.G, B, O⟩ W H (mBS a f σd S) J) {R : It → Hp → Prop}
    (hR : ∀ it S1 I O1 H1, Rel ⟨g.K, g.G, B, O1⟩ S1 σd σ H1 → ItOk ⟨g.K, g.G, B, O1⟩ S1 H1 it I → Step O H O1 H1 → PostS ⟨g.K, g.G, B, O1⟩ W H1 (f it σd S1) J → R I H1) : rdI g W a σ H R := by
  refine ⟨B, O, S, σd, r, ?_⟩
  unfold mBS at p
  revert p
  cases a σd S with
  | ok it S' => exact fun p I O' H' h1 h2 h3 => hR it S' I O' H' h1 h2 h3 (PostS.step (c := ⟨g.K, g.G, B, O⟩) h3 p)
  | exc k ns ds S' => exact fun p dd O' H' h1 h2 h3 => p dd σ O' H' h1 h2 h3
  | bad => exact fun p => p.elim
theorem ss_for {tg iter : Expr} {t : Tgt} {mi : M Its} {m : MS} (hp : PassesOwn (model X.prog X.w) X.A X.env X.xe) (hc : X.calm = true) (hi : PI X tg iter (rdI g W mi)) (hg : PG X tg (t.g X.K)) (hb : PSs X sts (rdS g W m))
    (hs : ∀ x, foldedSetIterable iter X.env x = pure x := by intro _; rfl) : PS X (.For tg iter sts [] pos) (rdS g W (mFor mi t m)) :=
  PS.imp (ps_for hp hc hi hg hb hs) fun J σ H ⟨B, O, S, σd, r, p⟩ => rdSI_then r p fun it S1 I O1 H1 r1 iok st1 p1 => by
    refine ⟨fun i k σ H => k = it.items.length - i ∧ i ≤ it.items.length ∧ ∃ O2 S2 σ2, Rel ⟨g.K, g.G, B, O2⟩ S2 σ2 σ H ∧ Step O1 H1 O2 H ∧ PostS ⟨g.K, g.G, B, O2⟩ W H (forL S1 it.src it.pair t m (it.items.drop i) σ2 S2) J,
      ⟨it.items.length, rfl, Nat.zero_le _, O1, S1, σd, r1, Step.refl _ _, p1⟩, fun i k σ2 H2 hw => ?_⟩
    obtain ⟨rfl, hle, O2, S2, σd2, r2, st2, p2⟩ := hw
    by_cases hlt : i < it.items.length
    · rw [List.drop_eq_getElem_cons hlt] at p2
      unfold forL at p2
      split at p2
      · next gd =>
        obtain ⟨hgo, hy⟩ := iok.go _ S2 H2 r2.toRelS (Step.mv (c := ⟨g.K, g.G, B, O1⟩) st2) gd i hlt
        refine .inr ⟨hgo, fun σ' H' => i + 1 ≤ it.items.length ∧ ∃ O2 S2 σ2, Rel ⟨g.K, g.G, B, O2⟩ S2 σ2 σ' H' ∧ Step O1 H1 O2 H' ∧ PostS ⟨g.K, g.G, B, O2⟩ W H' (forL S1 it.src it.pair t m (it.items.drop (i + 1)) σ2 S2) J, fun σ' H' q => ⟨it.items.length - (i + 1), by omega, rfl, q.1, q.2⟩, fun x H' y => ?_⟩
        obtain ⟨d, ed, yd⟩ := hy x H' y
        have edd : d = it.items[i] := Option.some.inj (ed.symm.trans (List.getElem?_eq_getElem hlt))
        subst edd
        split at p2
        · next xs ex =>
          obtain ⟨vs, h1, h2, h3, h4⟩ := yd_ok (K := X.K) (Q := fun σ2 H2 => rdS g W m { J with nx := _, ct := _, bk := J.nx } σ2 H2) r2 yd ex
          refine h4 σ2 ⟨B, O2, S2, _, Rel.setAll t.slots h2 h1, ?_⟩
          have p3 := PostS.step (c := ⟨g.K, g.G, B, O2⟩) h3 p2
          exact then_post p3 fun σ3 S3 σ' O' H3 g1 g2 g3 => ⟨hlt, O', S3, σ3, g1, (st2.trans h3).trans g2, g3⟩
        · exact p2.elim
      · exact p2.elim
    · have ei : i = it.items.length := by omega
      subst ei
      rw [List.drop_length] at p2
      unfold forL at p2
      split at p2
      · next gd => exact .inl ⟨iok.stop _ S2 H2 r2.toRelS (Step.mv (c := ⟨g.K, g.G, B, O1⟩) st2) gd, postS_nx p2 r2⟩
      · exact p2.elim
end
end DL

namespace DL
open PySem PySem.Spec PyProof.Rows L2
abbrev W0 : WX := fun _ _ _ _ => False
def wipeD (σ : Sl) : List Nat → Sl
  | [] => σ
  | v :: vs => (wipeD σ vs).set v .dead
theorem Rel.kill {c : Ct} {S : Sto} {σd : Sl} {σ : L2.St} {H : Hp} (r : Rel c S σd σ H) (i : Nat) : Rel c S (σd.set i .dead) (σ.set i none) H :=
  { r.toRelS with
    len := by rw [List.length_set, List.length_set]; exact r.len
    sl := fun j e q => by
      by_cases hj : i = j
      · subst hj
        by_cases hl : i < σd.length
        · rw [List.getElem?_set_self hl] at q
          exact .inl (Option.some.inj q).symm
        · rw [List.getElem?_eq_none (by rw [List.length_set]; omega)] at q
          cases q
      · rw [List.getElem?_set_ne hj] at q
        rcases r.sl j e q with z | ⟨u, h1, h2⟩
        · exact .inl z
        · exact .inr ⟨u, by rw [List.getElem?_set_ne hj]; exact h1, h2⟩ }
theorem Rel.wipe {c : Ct} {S : Sto} {σd : Sl} {σ : L2.St} {H : Hp} (r : Rel c S σd σ H) : ∀ vs : List Nat, Rel c S (wipeD σd vs) (L2.wipe σ vs) H
  | [] => r
  | v :: vs => (Rel.wipe r vs).kill v
theorem wipe_get (σ : L2.St) (vs : List Nat) (i : Nat) (h : i ∈ vs) (hl : i < σ.length) : (L2.wipe σ vs)[i]? = some none := by
  induction vs with
  | nil => cases h
  | cons v vs ih =>
    unfold L2.wipe
    by_cases e : v = i
    · subst e
      rw [List.getElem?_set_self (by rw [wipe_length]; exact hl)]
    · rw [List.getElem?_set_ne e]
      exact ih ((List.mem_cons.mp h).elim (fun z => absurd z.symm e) id)
theorem wipe_out' (σ : L2.St) (vs : List Nat) (i : Nat) (h : i ∉ vs) : (L2.wipe σ vs)[i]? = σ[i]? := wipe_out h
theorem wipe_ext {σ τ : L2.St} {vs : List Nat} (hl : σ.length = τ.length) (h : ∀ i, i ∉ vs → σ[i]? = τ[i]?) : L2.wipe σ vs = L2.wipe τ vs := by
  apply List.ext_getElem?
  intro i
  by_cases hi : i ∈ vs
  · by_cases hb : i < σ.length
    · rw [wipe_get σ vs i hi hb, wipe_get τ vs i hi (hl ▸ hb)]
    · rw [List.getElem?_eq_none (by rw [wipe_length]; omega), List.getElem?_eq_none (by rw [wipe_length]; omega)]
  · rw [wipe_out' σ vs i hi, wipe_out' τ vs i hi]
    exact h i hi
theorem setVs_len : ∀ (is : List Nat) (σ : L2.St) (vs : List V), (setVs σ is vs).length = σ.length
  | [], _, _ => rfl
  | _ :: _, _, [] => rfl
  | i :: is, σ, v :: vs => by show (setVs (σ.set i (some v)) is vs).length = _; rw [setVs_len is, List.length_set]
theorem setVs_out : ∀ (is : List Nat) (σ : L2.St) (vs : List V) (j : Nat), j ∉ is → (setVs σ is vs)[j]? = σ[j]?
  | [], _, _, _, _ => rfl
  | _ :: _, _, [], _, _ => rfl
  | i :: is, σ, v :: vs, j, h => by
    show (setVs (σ.set i (some v)) is vs)[j]? = _
    rw [setVs_out is _ vs j (fun z => h (List.mem_cons_of_mem _ z)), List.getElem?_set_ne (fun z => h (by rw [z]; exact List.mem_cons_self ..))]
theorem wipe_set {σ : L2.St} {vs is : List Nat} {ws : List V} (h : ∀ i ∈ is, i ∈ vs) : L2.wipe (setVs (L2.wipe σ vs) is ws) vs = L2.wipe σ vs := by
  refine wipe_ext (by rw [setVs_len, wipe_length]) fun i hi => ?_
  rw [setVs_out is _ ws i fun z => hi (h i z), wipe_out' σ vs i hi]
open Classical in
noncomputable def compL (S0 : Sto) (src : List Nat) (pair : Bool) (t : Tgt) (wσ : Sl) (c : M Bool) (e : M D) : List D → List D → Sto → R (List D)
  | [], acc, S => if Gd S0 src S then .ok acc S else .bad
  | d :: ds, acc, S => if Gd S0 src S then match t.st pair d with
      | some xs => match c (setAll wσ t.slots xs) S with
        | .ok b S1 => if b = true then match e (setAll wσ t.slots xs) S1 with
            | .ok x S2 => if acc.length < LIM then compL S0 src pair t wσ c e ds (acc ++ [x]) S2 else .bad
            | _ => .bad
          else compL S0 src pair t wσ c e ds acc S1
        | _ => .bad
      | none => .bad
    else .bad
noncomputable def mComp (m : M Its) (t : Tgt) (vs : List Nat) (c : M Bool) (e : M D) : M (List D) := mB m fun it => fun σd S => compL S it.src it.pair t (wipeD σd vs) c e it.items [] S
/-- the list at p grows -/
def PostP (K : PySem.W.Frag) (G : Nat → Addr) (B O : List Addr) (p : Addr) (σ : L2.St) (σd : Sl) (H : Hp) (r : R (List D)) (Q : VK) : Prop := match r with
  | .ok ds S' => ∀ vs O' H', Rel ⟨K, G, p :: B, O'⟩ S' σd σ H' → H' p = some (.lst vs) → RDs ⟨K, G, p :: B, O'⟩ H' ds vs → Step O H O' H' → Q (.ref p) H'
  | _ => False
theorem mv_pwrite {c : Ct} {H : Hp} {p : Addr} {o : HO} (h : p ∈ c.B) : Mv c c H (upd H p o) :=
  ⟨fun a u q e => ⟨q, by
    have ne : a ≠ p := fun z => q.2 (by rw [z]; exact h)
    rw [upd_ne ne]; exact e⟩, fun _ _ e => e, rfl, rfl⟩
theorem Rel.pwrite {c : Ct} {S : Sto} {σd : Sl} {σ : L2.St} {H : Hp} {p : Addr} {o : HO} (r : Rel c S σd σ H) (h : p ∈ c.B) : Rel c S σd σ (upd H p o) where
  ol := r.ol
  nd := r.nd
  nb := r.nb
  hb := fun a ha e => by
    by_cases q : a = p
    · subst q; rw [upd_same] at e; cases e
    · rw [upd_ne q] at e; exact r.hb a ha e
  ob := fun n o' a h1 h2 => OO.mv (mv_pwrite h) (fun u e => by
    have ne : a ≠ p := fun z => r.nb a (mem_of_at h2) (by rw [z]; exact h)
    rw [upd_ne ne]; exact e) (r.ob n o' a h1 h2)
  len := r.len
  sl := fun i d e => (r.sl i d e).imp id fun ⟨v, h1, h2⟩ => ⟨v, h1, RD.mv (mv_pwrite h) d v h2⟩
section
variable {g : Gx} {W : WX} {X : Cx} {elt tg iter : Expr} {ifs : List Expr} {scope : Scope} {own : List (Str × Nat)} {pos : Pos}
theorem st_yes : PTs X [] (rdT g W fun _ S => .ok true S) := ⟨fun pins s σ H Q I ⟨B, O, S, σd, r, p⟩ => pts_nil.run pins s σ H Q I (post_val p r rfl)⟩
theorem st_ifs {c : Expr} {m : M Bool} (h : PT X c (rdT g W m)) : PTs X [c] (rdT g W m) := pts_one h
theorem compL_ne {S0 : Sto} {src : List Nat} {pair : Bool} {t : Tgt} {wσ : Sl} {c : M Bool} {e : M D} {k : Nat} {ns : List Str} {es : List D} {S' : Sto} : ∀ (ds acc : List D) (S : Sto), compL S0 src pair t wσ c e ds acc S ≠ .exc k ns es S'
  | [], acc, S => by
    unfold compL
    split <;> (intro h; cases h)
  | d :: ds, acc, S => by
    unfold compL
    split
    · split
      · split
        · split
          · split
            · split
              · exact compL_ne ds _ _
              · intro h; cases h
            · intro h; cases h
          · exact compL_ne ds _ _
        · intro h; cases h
      · intro h; cases h
    · intro h; cases h
theorem Step.pwrite {O O' : List Addr} {H H' : Hp} {p : Addr} {o : HO} (s : Step O H O' H') (h : H p = none) : Step O H O' (upd H' p o) :=
  ⟨s.pre, fun a u n e => ⟨by rw [upd_ne (ne_of_none e h)]; exact (s.kp a u n e).1, (s.kp a u n e).2⟩⟩
theorem lc_imp {mi : M Its} {t : Tgt} {vs : List Nat} {mc : M Bool} {me : M D} (hsub : ∀ i ∈ t.slots, i ∈ vs) (σ : L2.St) (H : Hp) (Q : VK) (h : rdN g W (mComp mi t vs mc me) σ H Q) :
    tLc (rdI g W mi) (t.g X.K) (rdT g W0 mc) (rdE g W0 me) vs σ H Q := by
  obtain ⟨B, O, S, σd, r, p⟩ := h
  have main : rdI g W mi σ H fun J H1 => ∃ it O1 S1, Rel ⟨g.K, g.G, B, O1⟩ S1 σd σ H1 ∧ ItOk ⟨g.K, g.G, B, O1⟩ S1 H1 it J ∧ Step O H O1 H1 ∧ PostN ⟨g.K, g.G, B, O1⟩ W σ σd H1 (compL S1 it.src it.pair t (wipeD σd vs) mc me it.items [] S1) Q := by
    refine ⟨B, O, S, σd, r, ?_⟩
    unfold mComp mB at p
    revert p
    cases mi σd S with
    | ok it S' => exact fun p I O' H' h1 h2 h3 => ⟨it, O', S', h1, h2, h3, PostN.step (c := ⟨g.K, g.G, B, O⟩) h3 h1.toRelS p⟩
    | exc k ns ds S' => exact fun p dd O' H' h1 h2 h3 => p dd O' H' h1 h2 h3
    | bad => exact fun p => p.elim
  obtain ⟨B', O', S', σd', r', p'⟩ := main
  refine ⟨B', O', S', σd', r', ?_⟩
  revert p'
  cases mi σd' S' with
  | exc k ns ds S2 => exact fun p => p
  | bad => exact fun p => p
  | ok it0 S2 =>
    intro p' J O2 H2 a1 a2 a3
    obtain ⟨it, O1, S1, r1, iok, st1, pn⟩ := p' J O2 H2 a1 a2 a3
    intro D hD
    have av := r1.fresh hD
    have pp : PostP g.K g.G B O1 D σ σd H2 (compL S1 it.src it.pair t (wipeD σd vs) mc me it.items [] S1) Q := by
      revert pn
      cases hq : compL S1 it.src it.pair t (wipeD σd vs) mc me it.items [] S1 with
      | ok ds S3 => exact fun pn us O' H' h1 h2 h3 h4 => pn D us O' H' hD h1 av.2 h2 h3 h4
      | exc k ns ds S3 => exact absurd hq (compL_ne _ _ _)
      | bad => exact fun pn => pn.elim
    refine ⟨fun i k H => k = it.items.length - i ∧ i ≤ it.items.length ∧ ∃ O3 S3 acc accV, Rel ⟨g.K, g.G, D :: B, O3⟩ S3 σd σ H ∧ Mv ⟨g.K, g.G, B, O1⟩ ⟨g.K, g.G, D :: B, O3⟩ H2 H ∧ Step O1 H2 O3 H ∧ H D = some (.lst accV) ∧ RDs ⟨g.K, g.G, D :: B, O3⟩ H acc accV ∧ PostP g.K g.G B O1 D σ σd H2 (compL S1 it.src it.pair t (wipeD σd vs) mc me (it.items.drop i) acc S3) Q,
      ⟨it.items.length, rfl, Nat.zero_le _, O1, S1, [], [], r1.ban hD, mv_ban hD, Step.new hD, upd_same, rfl, pp⟩, fun i k H3 hw => ?_⟩
    obtain ⟨rfl, hle, O3, S3, acc, accV, r3, mv3, st3, hD3, rd3, pp3⟩ := hw
    have hDB : D ∈ (⟨g.K, g.G, D :: B, O3⟩ : Ct).B := List.mem_cons_self ..
    by_cases hlt : i < it.items.length
    · rw [List.drop_eq_getElem_cons hlt] at pp3
      unfold compL at pp3
      split at pp3
      · next gd =>
        obtain ⟨hgo, hy⟩ := iok.go _ S3 H3 r3.toRelS mv3 gd i hlt
        refine .inr ⟨hgo, fun H => i + 1 ≤ it.items.length ∧ ∃ O3 S3 acc accV, Rel ⟨g.K, g.G, D :: B, O3⟩ S3 σd σ H ∧ Mv ⟨g.K, g.G, B, O1⟩ ⟨g.K, g.G, D :: B, O3⟩ H2 H ∧ Step O1 H2 O3 H ∧ H D = some (.lst accV) ∧ RDs ⟨g.K, g.G, D :: B, O3⟩ H acc accV ∧ PostP g.K g.G B O1 D σ σd H2 (compL S1 it.src it.pair t (wipeD σd vs) mc me (it.items.drop (i + 1)) acc S3) Q,
          fun H' q => ⟨it.items.length - (i + 1), by omega, rfl, q.1, q.2⟩, fun x H' y => ?_⟩
        obtain ⟨d, ed, yd⟩ := hy x H' y
        have edd : d = it.items[i] := Option.some.inj (ed.symm.trans (List.getElem?_eq_getElem hlt))
        subst edd
        split at pp3
        · next xs ex =>
          obtain ⟨ws, h1, h2, h3, h4⟩ := yd_ok (K := X.K) (Q := fun σ2 H2 => L2.wipe σ2 vs = L2.wipe σ vs ∧ rdT g W0 mc σ2 H2 _) (Rel.wipe r3 vs) yd ex
          refine h4 (L2.wipe σ vs) ⟨wipe_set hsub, D :: B, O3, S3, _, Rel.setAll t.slots h2 h1, ?_⟩
          have r3' : Rel ⟨g.K, g.G, D :: B, O3⟩ S3 σd σ H' := Rel.step (c := ⟨g.K, g.G, D :: B, O3⟩) (O' := O3) r3 h3 h2.toRelS
          have carry : ∀ {O4 S4 H4 σd4 σ4}, Rel ⟨g.K, g.G, D :: B, O4⟩ S4 σd4 σ4 H4 → Step O3 H' O4 H4 → Rel ⟨g.K, g.G, D :: B, O4⟩ S4 σd σ H4 ∧ Mv ⟨g.K, g.G, B, O1⟩ ⟨g.K, g.G, D :: B, O4⟩ H2 H4 ∧ Step O1 H2 O4 H4 ∧ H4 D = some (.lst accV) ∧ RDs ⟨g.K, g.G, D :: B, O4⟩ H4 acc accV := fun {O4 S4 H4 σd4 σ4} q1 q2 => by
            have q3 : Step O3 H3 O4 H4 := Step.trans (show Step O3 H3 O3 H' from h3) q2
            have nD : D ∉ O3 := fun z => r3.nb D z hDB
            exact ⟨Rel.step (c := ⟨g.K, g.G, D :: B, O3⟩) r3' q2 q1.toRelS, mv3.trans (Step.mv (c := ⟨g.K, g.G, D :: B, O3⟩) q3), st3.trans q3, (q3.kp D _ nD hD3).1, RDs.step (c := ⟨g.K, g.G, D :: B, O3⟩) q3 acc accV rd3⟩
          revert pp3
          cases mc (setAll (wipeD σd vs) t.slots xs) S3 with
          | exc k ns ds S4 => exact fun pp3 => pp3.elim
          | bad => exact fun pp3 => pp3.elim
          | ok b S4 =>
            intro pp3 v O4 H4 q1 q2 q3
            have ev : b = v := q2
            subst ev
            simp only at pp3
            cases b with
            | false =>
              obtain ⟨c1, c2, c3, c4, c5⟩ := carry q1 q3
              exact ⟨hlt, O4, S4, acc, accV, c1, c2, c3, c4, c5, pp3⟩
            | true =>
              refine ⟨D :: B, O4, S4, _, q1, ?_⟩
              revert pp3
              simp only [if_true]
              cases me (setAll (wipeD σd vs) t.slots xs) S4 with
              | exc k ns ds S5 => exact fun pp3 => pp3.elim
              | bad => exact fun pp3 => pp3.elim
              | ok z S5 =>
                intro pp3 u O5 H5 q4 q5 q6
                simp only at pp3
                split at pp3
                · next hl =>
                  obtain ⟨c1, c2, c3, c4, c5⟩ := carry q4 (q3.trans q6)
                  have hDB5 : D ∈ (⟨g.K, g.G, D :: B, O5⟩ : Ct).B := List.mem_cons_self ..
                  refine ⟨accV, c4, by rw [← c5.length]; exact lim_lt hl, hlt, O5, S5, acc ++ [z], accV ++ [u], c1.pwrite hDB5, c2.trans (mv_pwrite hDB5), c3.pwrite hD, upd_same, RDs.mv (mv_pwrite hDB5) _ _ (c5.append (RDs.one q5)), pp3⟩
                · exact pp3.elim
        · exact pp3.elim
      · exact pp3.elim
    · have ei : i = it.items.length := by omega
      subst ei
      rw [List.drop_length] at pp3
      unfold compL at pp3
      split at pp3
      · next gd => exact .inl ⟨iok.stop _ S3 H3 r3.toRelS mv3 gd, pp3 accV O3 H3 r3 hD3 rd3 st3⟩
      · exact pp3.elim
abbrev Blk (X : Cx) (scope : Scope) (P : Cx → Prop) : Prop := ∀ (s : Shared) (H : Hp) (C : Addr) (cl : List (Str × Addr)) (fp : List Addr), P (X.blk s H scope (compEnvC scope cl C X.env) fp)
theorem sn_comp {mi : M Its} {t : Tgt} {mc : M Bool} {me : M D} (hc : X.calm = true) (hN : X.N.Nodup) (hi : PI X tg iter (rdI g W mi)) (ok : BlkOk X.N X.env.scope scope own) (hg : Blk X scope fun Y => PG Y tg (t.g X.K)) (ht : Blk X scope fun Y => PTs Y ifs (rdT g W0 mc))
    (he : Blk X scope fun Y => PE Y elt (rdE g W0 me)) (hsub : ∀ i ∈ t.slots, i ∈ own.map (·.2)) (hs : ∀ x, foldedSetIterable iter X.env x = pure x := by intro _; rfl) :
    PE X (.ListComp elt [⟨tg, iter, ifs, 0⟩] scope pos) (rdN g W (mComp mi t (own.map (·.2)) mc me)) := PE.imp (pe_lc hc hN hi ok hg ht he hs) (lc_imp hsub)
/-- y = [..], y a local name -/
theorem ss_setComp {i : Nat} {y : Str} {py spos : Pos} {mi : M Its} {t : Tgt} {mc : M Bool} {me : M D} {f : M (List D) → M D} (hf : ∀ (m : M (List D)) σ H Q, rdE g W (f m) σ H Q → rdN g W m σ H Q) (hc : X.calm = true) (hN : X.N.Nodup) (hy : X.N[i]? = some y) (hyl : X.env.scope.names.lookup y = some .local)
    (hsw : swapsWith (.ListComp elt [⟨tg, iter, ifs, 0⟩] scope pos) (some (.Name y py)) spos.line X.env = pure true)
    (hi : PI X tg iter (rdI g W mi)) (ok : BlkOk X.N X.env.scope scope own) (hg : Blk X scope fun Y => PG Y tg (t.g X.K)) (ht : Blk X scope fun Y => PTs Y ifs (rdT g W0 mc))
    (he : Blk X scope fun Y => PE Y elt (rdE g W0 me)) (hsub : ∀ i ∈ t.slots, i ∈ own.map (·.2)) (hs : ∀ x, foldedSetIterable iter X.env x = pure x := by intro _; rfl) :
    PS X (.Assign [.Name y py] (.ListComp elt [⟨tg, iter, ifs, 0⟩] scope pos) spos) (rdS g W (mSet i (f (mComp mi t (own.map (·.2)) mc me)))) :=
  PS.imp (ps_setLc hc hN hy hyl hsw hi ok hg ht he hs) fun J σ H ⟨B, O, S, σd, r, p⟩ => by
    refine lc_imp hsub σ H _ (hf _ σ H _ (rdG_mono (rdS_then (rel := RD) r p) fun v H1 ⟨x, O1, S1, r1, rx, st1, p1⟩ => ?_))
    exact postS_nx p1 (r1.set i rx)
end
end DL

namespace DL
open PySem PySem.Spec PyProof.Rows L2
open AutoSeq1 (wpAny_loadPart')
theorem tuple_mulS (l : Addr) (items : Array Value) (n : Nat) (dd : Option Addr) (sl : Array (Option Value)) (x : Int) (u : Tok) (c0 : (decide (x < -(2 ^ 63)) || decide (x ≥ 2 ^ 63)) = false) (c1 : (items.isEmpty || x == 1) = true) :
    Meets (Builtin.«tuple.__mul__» ⟨[.ref l, .int x u], []⟩) (fun _ R s => s.heap.get? l = some { cls := .type "tuple", dict := dd, data := .seq items n, slots := sl } ∧ R (.ok (.ret (Value.ref l))) s) :=
  .of_wp fun prog w A R s h => by
    obtain ⟨hp, g, d, tk, os⟩ := s
    obtain ⟨hl, h⟩ := h
    have f1 := AutoSeq1.idx_int
    wp_walk using wpAny_loadPart' hl
    repeat (first
      | (refine wpAny_ite_false (decide_eq_false (by rw [c0]; exact Bool.false_ne_true)) ?_; wp_walk using wpAny_loadPart' hl)
      | (refine wpAny_ite_true (decide_eq_true c1) ?_; wp_walk using wpAny_loadPart' hl))
    exact ⟨_, rfl, h⟩
theorem tuple_mul0 (l : Addr) (items : Array Value) (n : Nat) (dd : Option Addr) (sl : Array (Option Value)) (x : Int) (u : Tok) (c0 : (decide (x < -(2 ^ 63)) || decide (x ≥ 2 ^ 63)) = false) (c1 : (items.isEmpty || x == 1) = false) (c2 : (decide (x ≤ 0) || items.isEmpty) = true) :
    Meets (Builtin.«tuple.__mul__» ⟨[.ref l, .int x u], []⟩) (fun _ R s => s.heap.get? l = some { cls := .type "tuple", dict := dd, data := .seq items n, slots := sl } ∧
      R (.ok (.ret (Value.ref s.heap.objs.size))) { s with heap := s.heap.push { cls := Value.type "tuple", data := Data.seq #[] }, toks := s.toks }) :=
  .of_wp fun prog w A R s h => by
    obtain ⟨hp, g, d, tk, os⟩ := s
    obtain ⟨hl, h⟩ := h
    have f1 := AutoSeq1.idx_int
    wp_walk using wpAny_loadPart' hl
    repeat (first
      | (refine wpAny_ite_false (decide_eq_false (by rw [c0]; exact Bool.false_ne_true)) ?_; wp_walk using wpAny_loadPart' hl)
      | (refine wpAny_ite_false (decide_eq_false (by rw [c1]; exact Bool.false_ne_true)) ?_; wp_walk using wpAny_loadPart' hl)
      | (refine wpAny_ite_true (decide_eq_true c2) ?_; wp_walk using wpAny_loadPart' hl))
    exact ⟨_, rfl, h⟩
/-- t * k -/
def rRepF (K : PySem.W.Frag) : R2 := fun x y H Q => ∃ l k xs, x = .ref l ∧ y = .int k ∧ SqT K H l xs ∧ -1000 ≤ k ∧ k ≤ 1000 ∧ xs.length ≤ 1000 ∧ ((xs = [] ∨ k = 1) → Q (.ref l) H) ∧ NewT (List.replicate k.toNat xs).flatten H Q
theorem op_repF {X : Cx} : OpR X (binaryOp .Mult) (rRepF X.K) := by
  intro pins s σ H x y v u Q I rx ry h
  obtain ⟨l, k, xs, rfl, rfl, hT, k0, k1, hz, qs, qn⟩ := h
  cases rx
  obtain ⟨t, rfl⟩ := ry
  obtain ⟨its, r, ⟨⟨cls, dd, data, sl⟩, ho, hc, n, hd⟩, hs⟩ := I.tuple hT
  simp only at hc hd
  subst hc hd
  have hle : its.length = xs.length := r.length.symm
  have c0 : (decide (k < -(2 ^ 63)) || decide (k ≥ 2 ^ 63)) = false := by
    rw [decide_eq_false (by omega), decide_eq_false (by omega)]
    rfl
  have road : ∀ {W : Value → Shared → Prop}, wpAny (model X.prog X.w) X.A.in1 (call (.builtin "tuple.__mul__") [.ref l, .int k t]) W X.xe s → True := fun _ => trivial
  by_cases h1 : (its.toArray.isEmpty || k == 1) = true
  · have hq : xs = [] ∨ k = 1 := by
      rcases Bool.or_eq_true_iff.mp h1 with z | z
      · left
        have z2 : its = [] := by simpa using z
        rw [z2] at hle
        exact List.eq_nil_of_length_eq_zero hle.symm
      · right
        exact eq_of_beq z
    refine wpAny_binaryOp_repeat_ref (T := "tuple") (U := "int") (by decide) ⟨_, ho, rfl⟩ (fun s' => typeIs_int s' k t) noFill_tuple_mul F.fills_int_mul F.slot_int_rmul repeat_tuple F.slot_int_index.lookup
      (call_meets F.slot_int_rmul (typeIs_int s k t) F.entry_int_rmul (F.args_int_rmul_2 _ _) (int_rmul_tuple k t l its.toArray n dd sl)
        ⟨ho, rfl, ⟨_, ho, rfl⟩, call_meets F.slot_tuple_mul ⟨_, ho, rfl⟩ F.entry_tuple_mul (F.args_tuple_mul_2 _ _) (tuple_mulS l its.toArray n dd sl k t c0 h1) ⟨ho, ⟨.ref l, H, I, rfl, qs hq⟩⟩⟩)
  · have h1' : (its.toArray.isEmpty || k == 1) = false := by simpa using h1
    by_cases h2 : k ≤ 0
    · have c2 : (decide (k ≤ 0) || its.toArray.isEmpty) = true := by rw [decide_eq_true h2]; rfl
      have e0 : k.toNat = 0 := by omega
      rw [e0] at qn
      refine wpAny_binaryOp_repeat_ref (T := "tuple") (U := "int") (by decide) ⟨_, ho, rfl⟩ (fun s' => typeIs_int s' k t) noFill_tuple_mul F.fills_int_mul F.slot_int_rmul repeat_tuple F.slot_int_index.lookup
        (call_meets F.slot_int_rmul (typeIs_int s k t) F.entry_int_rmul (F.args_int_rmul_2 _ _) (int_rmul_tuple k t l its.toArray n dd sl)
          ⟨ho, rfl, ⟨_, ho, rfl⟩, call_meets F.slot_tuple_mul ⟨_, ho, rfl⟩ F.entry_tuple_mul (F.args_tuple_mul_2 _ _) (tuple_mul0 l its.toArray n dd sl k t c0 h1' c2) ⟨ho, endT (its := []) I .nil (Nat.zero_le _) qn⟩⟩)
    · have hi : its.toArray.isEmpty = false := (Bool.or_eq_false_iff.mp h1').1
      have c2 : (decide (k ≤ 0) || its.toArray.isEmpty) = false := by rw [hi, decide_eq_false h2]; rfl
      have hsz0 : its.toArray.size = xs.length := by rw [List.size_toArray, hle]
      have hm : ((its.toArray.size : Nat) : Int) * k ≤ 1000000 := by
        rw [hsz0]
        have a1 : ((xs.length : Nat) : Int) * k ≤ 1000 * k := Int.mul_le_mul_of_nonneg_right (by omega) (by omega)
        omega
      have fl : (List.replicate k.toNat xs).flatten.length ≤ sizeLine := by
        rw [PyProof.Rows.lm_len_rep_flat, sizeLine_eq]
        have a1 : k.toNat * xs.length ≤ 1000 * 1000 := Nat.mul_le_mul (by omega) hz
        omega
      have fl2 : (List.replicate k.toNat its).flatten.length ≤ sizeLine := by
        rw [PyProof.Rows.lm_len_rep_flat, hle, sizeLine_eq]
        have a1 : k.toNat * xs.length ≤ 1000 * 1000 := Nat.mul_le_mul (by omega) hz
        omega
      have c4 : Builtin.Tuple.tupleTooMany (((its.toArray.size : Nat) : Int) * k) = false := by
        unfold Builtin.Tuple.tupleTooMany
        rw [sizeLine_eq]
        exact decide_eq_false (by omega)
      refine wpAny_binaryOp_repeat_ref (T := "tuple") (U := "int") (by decide) ⟨_, ho, rfl⟩ (fun s' => typeIs_int s' k t) noFill_tuple_mul F.fills_int_mul F.slot_int_rmul repeat_tuple F.slot_int_index.lookup
        (call_meets F.slot_int_rmul (typeIs_int s k t) F.entry_int_rmul (F.args_int_rmul_2 _ _) (int_rmul_tuple k t l its.toArray n dd sl)
          ⟨ho, rfl, ⟨_, ho, rfl⟩, call_meets F.slot_tuple_mul ⟨_, ho, rfl⟩ F.entry_tuple_mul (F.args_tuple_mul_2 _ _) (tuple_mulW l its.toArray n dd sl k t c0 h1' c2 (by omega) c4 (by rw [size_rep, List.size_toArray]; exact fl2)) ⟨ho, ?_⟩⟩)
      rw [size_rep]
      exact endT I (r.rep k.toNat) fl qn
section
variable {g : Gx} {W : WX} {X : Cx} {e a b : Expr} {es : List Expr} {pos p : Pos}
def repD (k : Int) (xs : List D) : List D := (List.replicate k.toNat xs).flatten
theorem rep_rd {c : Ct} {H : Hp} {ds : List D} {vs : List V} (h : RDs c H ds vs) : ∀ n : Nat, RDs c H (List.replicate n ds).flatten (List.replicate n vs).flatten
  | 0 => rfl
  | n + 1 => by rw [List.replicate_succ, List.replicate_succ, List.flatten_cons, List.flatten_cons]; exact h.append (rep_rd h n)
def okMul (i j : Int) : Bool := decide (i.natAbs < 2 ^ 64) || decide (j.natAbs < 2 ^ 64) || (decide (i.natAbs < 2 ^ 20000) && decide (j.natAbs < 2 ^ 20000))
theorem okMul_ok {i j : Int} (h : okMul i j = true) : CMulW i j ∨ CMul i j := by
  unfold okMul at h
  rw [Bool.or_eq_true, Bool.or_eq_true, Bool.and_eq_true] at h
  rcases h with (h | h) | h
  · have := of_decide_eq_true h
    right; left
    constructor <;> omega
  · have := of_decide_eq_true h
    right; right
    constructor <;> omega
  · exact .inl (wide_mul (of_decide_eq_true h.1) (of_decide_eq_true h.2) (by decide) (by decide) (by decide))
/-- ints, a tuple times an int -/
def fMul (x y : D) (S : Sto) : R D := match x with
  | .int i => match y with
    | .int j => if okMul i j then .ok (.int (i * j)) S else .bad
    | _ => .bad
  | .tup ds => match y with
    | .int k => if -1000 ≤ k ∧ k ≤ 1000 ∧ ds.length ≤ 1000 then .ok (.tup (repD k ds)) S else .bad
    | _ => .bad
  | _ => .bad
abbrev rMulAll (K : PySem.W.Frag) : R2 := fun x y H Q => ((rI CMulW fun i j => V.int (i * j)) x y H Q ∨ (rI CMul fun i j => V.int (i * j)) x y H Q) ∨ rRepF K x y H Q
theorem fMul_ok {K : PySem.W.Frag} : OpS g W (rMulAll K) fMul := fun {B O S σd σ H x y v w Q} r hx hy p => by
  unfold fMul at p
  cases x with
  | int i =>
    cases y with
    | int j =>
      cases (show _ = _ from hx)
      cases (show _ = _ from hy)
      simp only at p
      split at p
      · next h =>
        rcases okMul_ok h with h | h
        · exact .inl (.inl ⟨_, _, rfl, rfl, h, post_val p r rfl⟩)
        · exact .inl (.inr ⟨_, _, rfl, rfl, h, post_val p r rfl⟩)
      · exact p.elim
    | _ => exact p.elim
  | tup ds =>
    cases y with
    | int k =>
      cases (show _ = _ from hy)
      simp only at p
      split at p
      · next h =>
        obtain ⟨a, vs, rfl, h1, h2, h3⟩ := id hx
        refine .inr ⟨a, k, vs, rfl, rfl, h2.sq, h.1, h.2.1, by rw [← h3.length]; exact h.2.2, fun z => ?_, post_newT p r (rep_rd h3 _)⟩
        have e0 : repD k ds = ds := by
          rcases z with z | z
          · have : ds = [] := List.eq_nil_of_length_eq_zero (by rw [h3.length, z]; rfl)
            subst this
            unfold repD
            simp
          · subst z
            unfold repD
            simp
        rw [e0] at p
        exact post_val p r hx
      · exact p.elim
    | _ => exact p.elim
  | _ => exact p.elim
theorem se_mul {ma mb : M D} (ha : PE X a (rdE g W ma)) (hb : PE X b (rdE g W mb)) : PE X (.BinOp a .Mult b pos) (rdE g W (mOp fMul ma mb)) := se_op ((op_mulW.or op_mul).or op_repF) fMul_ok ha hb
/-- a list times an int, a new list -/
def fMulL (x y : D) (S : Sto) : R (List D) := match y with
  | .int k => match lstOf S x with
    | some ds => if -1000 ≤ k ∧ k ≤ 1000 ∧ ds.length ≤ 100 then .ok (repD k ds) S else .bad
    | none => .bad
  | _ => .bad
def mOpN (f : D → D → Sto → R (List D)) (a b : M D) : M (List D) := mB a fun x => mB b fun y => fun _ S => f x y S
theorem sn_mul {ma mb : M D} (ha : PE X a (rdE g W ma)) (hb : PE X b (rdE g W mb)) : PE X (.BinOp a .Mult b pos) (rdN g W (mOpN fMulL ma mb)) :=
  PE.imp (pe_op op_rep ha hb) fun σ H Q ⟨B, O, S, σd, rel, p⟩ => rdG_mono (rdN_then (rel := RD) rel p) fun v H1 ⟨x, O1, S1, r1, rx, st1, p1⟩ =>
    rdG_mono (rdN_then (rel := RD) r1 p1) fun w H2 ⟨y, O2, S2, r2, ry, st2, p2⟩ => by
      unfold fMulL at p2
      split at p2
      · next k =>
        cases (show _ = _ from ry)
        split at p2
        · next ds q =>
          split at p2
          · next h =>
            obtain ⟨l, vs, rfl, h1, h2⟩ := lstOf_ok r2.toRelS (RD.step (c := ⟨g.K, g.G, B, O1⟩) st2 x v rx) q
            refine ⟨l, k, vs, rfl, rfl, h1, by omega, by omega, ?_, postN_new p2 r2 (rep_rd h2 _)⟩
            rw [← h2.length, sizeLine_eq]
            have a1 : ds.length * k.toNat ≤ 100 * 1000 := Nat.mul_le_mul h.2.2 (by omega)
            omega
          · exact p2.elim
        · exact p2.elim
      · exact p2.elim
/-- lists, + and slices, as new lists -/
def fAddL (x y : D) (S : Sto) : R (List D) := match lstOf S x with
  | some i => match lstOf S y with
    | some j => if i.length + j.length ≤ LIM then .ok (i ++ j) S else .bad
    | none => .bad
  | none => .bad
theorem sn_add {ma mb : M D} (ha : PE X a (rdE g W ma)) (hb : PE X b (rdE g W mb)) : PE X (.BinOp a .Add b pos) (rdN g W (mOpN fAddL ma mb)) :=
  PE.imp (pe_op op_cat ha hb) fun σ H Q ⟨B, O, S, σd, rel, p⟩ => rdG_mono (rdN_then (rel := RD) rel p) fun v H1 ⟨x, O1, S1, r1, rx, st1, p1⟩ =>
    rdG_mono (rdN_then (rel := RD) r1 p1) fun w H2 ⟨y, O2, S2, r2, ry, st2, p2⟩ => by
      unfold fAddL at p2
      split at p2
      · next i q =>
        split at p2
        · next j q2 =>
          split at p2
          · next h =>
            obtain ⟨l, vs, rfl, h1, h2⟩ := lstOf_ok r2.toRelS (RD.step (c := ⟨g.K, g.G, B, O1⟩) st2 x v rx) q
            obtain ⟨l2, ws, rfl, h3, h4⟩ := lstOf_ok r2.toRelS ry q2
            exact ⟨l, l2, vs, ws, rfl, rfl, h1, h3, by rw [← h2.length, ← h4.length]; exact lim_ok h, postN_new p2 r2 (h2.append h4)⟩
          · exact p2.elim
        · exact p2.elim
      · exact p2.elim
def mSlL (m : M D) (l h : M (Option Int)) : M (List D) := mB m fun x => mB l fun lo => mB h fun hi => fun _ S => match lstOf S x with
  | some ds => .ok (cutD ds lo hi) S
  | none => .bad
theorem sn_slice {lo hi : Option Expr} {p2 : Pos} {m : M D} {l h : M (Option Int)} (he : PE X e (rdE g W m)) (hl : PO X lo (rdO g W l)) (hh : PO X hi (rdO g W h)) : PE X (.Subscript e (.Slice lo hi none p2) pos) (rdN g W (mSlL m l h)) :=
  PE.imp (pe_slice sl_list he hl hh) fun σ H Q ⟨B, O, S, σd, rel, p⟩ => rdG_mono (rdN_then (rel := RD) rel p) fun v H1 ⟨x, O1, S1, r1, rx, st1, p1⟩ =>
    rdG_mono (rdN_then (rel := same) r1 p1) fun lo' H2 ⟨l', O2, S2, r2, e2, st2, p2⟩ => rdG_mono (rdN_then (rel := same) r2 p2) fun hi' H3 ⟨h', O3, S3, r3, e3, st3, p3⟩ => by
      cases (show _ = _ from e2)
      cases (show _ = _ from e3)
      split at p3
      · next ds q =>
        obtain ⟨a, vs, rfl, h1, h2⟩ := lstOf_ok r3.toRelS (RD.step (c := ⟨g.K, g.G, B, O1⟩) (st2.trans st3) x v rx) q
        exact ⟨a, vs, rfl, SqL.of h1, postN_new p3 r3 (cut_rd h2 _ _)⟩
      · exact p3.elim
end
end DL

namespace DL
open PySem PySem.Spec PyProof.Rows L2
section
variable {g : Gx} {W : WX} {X : Cx} {e a b c : Expr} {es : List Expr} {pos p : Pos} {sts : List Stmt}
def CmpS (g : Gx) (W : WX) (X : Cx) (op : CmpOp) (f : D → D → Sto → R D) : Prop := ∃ r, OpR X (compareOp op) r ∧ OpS g W r f
theorem sc_lt : CmpS g W X .Lt fLt0 := ⟨_, op_lt, fInt_ok (by intros; rfl)⟩
theorem sc_le : CmpS g W X .LtE fLe := ⟨_, op_le, fInt_ok (by intros; rfl)⟩
theorem sc_gt : CmpS g W X .Gt fGt := ⟨_, op_gt, fInt_ok (by intros; rfl)⟩
theorem sc_ge : CmpS g W X .GtE fGe := ⟨_, op_ge, fInt_ok (by intros; rfl)⟩
theorem sc_eq {k : Nat} (hr : Room k X.A) : CmpS g W X .Eq fEq := ⟨_, op_eqD hr.units, fEq_ok⟩
theorem sc_ne {k : Nat} (hr : Room k X.A) : CmpS g W X .NotEq fNe := ⟨_, op_neD hr.units, fNe_ok⟩
theorem sc_in : CmpS g W X .In (fIn false) := ⟨_, op_in_seq, fIn_ok⟩
theorem sc_notIn : CmpS g W X .NotIn (fIn true) := ⟨_, op_notIn_seq, fIn_ok⟩
theorem se_c1 {op : CmpOp} {f : D → D → Sto → R D} {ma mb : M D} (h : CmpS g W X op f) (ha : PE X a (rdE g W ma)) (hb : PE X b (rdE g W mb)) (hm : behindInMarks op b = false := by first | exact nomark _ | rfl) : PE X (.Compare a [op] [b] pos) (rdE g W (mOp f ma mb)) :=
  let ⟨_, ho, hs⟩ := h
  se_cmp ho hs ha hb hm
theorem st_c1 {op : CmpOp} {f : D → D → Sto → R D} {ma mb : M D} (h : CmpS g W X op f) (ha : PE X a (rdE g W ma)) (hb : PE X b (rdE g W mb)) (hm : behindInMarks op b = false := by first | exact nomark _ | rfl) : PT X (.Compare a [op] [b] pos) (rdT g W (mTest (mOp f ma mb))) :=
  let ⟨_, ho, hs⟩ := h
  PT.imp (pt_cmpR ho ha hb hm) fun σ H Q q => op_imp hs σ H _ (test_imp σ H Q q)
theorem chain_imp {r r' : R2} {f f' : D → D → Sto → R D} {ma mb mc : M D} (hs : OpS g W r f) (hs' : OpS g W r' f') (σ : L2.St) (H : Hp) (Q : VK) (h : rdE g W (mChain f f' ma mb mc) σ H Q) : tChain r r' (rdE g W ma) (rdE g W mb) (rdE g W mc) σ H Q := by
  obtain ⟨B, O, S, σd, rel, p⟩ := h
  refine rdG_mono (rd_then (rel := RD) rel p) fun v H1 ⟨x, O1, S1, r1, rx, st1, p1⟩ => ?_
  refine rdG_mono (rd_then (rel := RD) r1 p1) fun w H2 ⟨y, O2, S2, r2, ry, st2, p2⟩ => ?_
  have rx2 := RD.step (c := ⟨g.K, g.G, B, O1⟩) st2 x v rx
  refine hs r2 rx2 ry ?_
  simp only [mB, mTest] at p2
  revert p2
  cases f x y S2 with
  | ok d S3 =>
    intro p2 v3 O3 H3 h1 h2 h3
    cases d with
    | bl k =>
      refine ⟨k, h2, ?_⟩
      cases k with
      | true =>
        have p3 : Post RD ⟨g.K, g.G, B, O3⟩ W σ σd H3 (mB mc (fun z => fun _ S => f' y z S) σd S3) Q := Post.step (c := ⟨g.K, g.G, B, O2⟩) h3 p2
        exact rdG_mono (rd_then (rel := RD) h1 p3) fun u H4 ⟨z, O4, S4, r4, rz, st4, p4⟩ => hs' r4 (RD.step (c := ⟨g.K, g.G, B, O2⟩) (h3.trans st4) y w ry) rz p4
      | false => exact p2 (.bl false) O3 H3 h1 rfl h3
    | _ => exact p2.elim
  | exc k ns ds S3 => exact fun p2 => p2
  | bad => exact fun p2 => p2.elim
theorem se_c2 {op op' : CmpOp} {f f' : D → D → Sto → R D} {ma mb mc : M D} (h : CmpS g W X op f) (h' : CmpS g W X op' f') (ha : PE X a (rdE g W ma)) (hb : PE X b (rdE g W mb)) (hc : PE X c (rdE g W mc)) (hm : lastMarks [op, op'] [b, c] = false := by with_unfolding_all rfl) :
    PE X (.Compare a [op, op'] [b, c] pos) (rdE g W (mChain f f' ma mb mc)) :=
  let ⟨_, ho, hs⟩ := h
  let ⟨_, ho', hs'⟩ := h'
  PE.imp (pe_chain ho ho' ha hb hc hm) (chain_imp hs hs')
theorem st_c2 {op op' : CmpOp} {f f' : D → D → Sto → R D} {ma mb mc : M D} (h : CmpS g W X op f) (h' : CmpS g W X op' f') (ha : PE X a (rdE g W ma)) (hb : PE X b (rdE g W mb)) (hc : PE X c (rdE g W mc)) (hm : lastMarks [op, op'] [b, c] = false := by with_unfolding_all rfl) :
    PT X (.Compare a [op, op'] [b, c] pos) (rdT g W (mTest (mChain f f' ma mb mc))) :=
  let ⟨_, ho, hs⟩ := h
  let ⟨_, ho', hs'⟩ := h'
  PT.imp (pt_chain ho ho' ha hb hc hm) fun σ H Q q => chain_imp hs hs' σ H _ (test_imp σ H Q q)
theorem isN_imp {ma : M D} (σ : L2.St) (H : Hp) (Q : VK) (h : rdE g W (mUn fIsN ma) σ H Q) : tIsN (rdE g W ma) σ H Q := by
  obtain ⟨B, O, S, σd, rel, p⟩ := h
  refine rdG_mono (rd_then (rel := RD) rel p) fun v H1 ⟨x, O1, S1, r1, rx, st1, p1⟩ => ?_
  rw [isNon_ok rx]
  exact post_val p1 r1 rfl
theorem notN_imp {ma : M D} (σ : L2.St) (H : Hp) (Q : VK) (h : rdE g W (mUn fNotN ma) σ H Q) : tNotN (rdE g W ma) σ H Q := by
  obtain ⟨B, O, S, σd, rel, p⟩ := h
  refine rdG_mono (rd_then (rel := RD) rel p) fun v H1 ⟨x, O1, S1, r1, rx, st1, p1⟩ => ?_
  rw [isNon_ok rx]
  exact post_val p1 r1 rfl
theorem st_isN {j} {pos' : Pos} {ma : M D} (ha : PE X a (rdE g W ma)) : PT X (.Compare a [.Is] [.Constant .none j pos'] pos) (rdT g W (mTest (mUn fIsN ma))) :=
  PT.imp (pt_cmp (pc_isN ha)) fun σ H Q q => isN_imp σ H _ (test_imp σ H Q q)
theorem st_notN {j} {pos' : Pos} {ma : M D} (ha : PE X a (rdE g W ma)) : PT X (.Compare a [.IsNot] [.Constant .none j pos'] pos) (rdT g W (mTest (mUn fNotN ma))) :=
  PT.imp (pt_cmp (pc_notN ha)) fun σ H Q q => notN_imp σ H _ (test_imp σ H Q q)
def fNeg (x : D) (S : Sto) : R D := match x with
  | .int i => .ok (.int (-i)) S
  | _ => .bad
theorem se_neg {ma : M D} (ha : PE X a (rdE g W ma)) : PE X (.UnaryOp .USub a pos) (rdE g W (mUn fNeg ma)) := se_un un_neg (fun {B O S σd σ H x v Q} r hx p => by
  unfold fNeg at p
  split at p
  · cases (show _ = _ from hx)
    exact ⟨_, rfl, post_val p r rfl⟩
  · exact p.elim) ha
open Classical in
noncomputable def mW (t : M Bool) (b : MS) : MS := fun σd S => if h : ∃ n, mWhile t b n σd S ≠ .bad then mWhile t b h.choose σd S else .bad
theorem ss_w {c : Expr} {t : M Bool} {m : MS} (hp : PassesOwn (model X.prog X.w) X.A X.env X.xe) (hc : PT X c (rdT g W t)) (hb : PSs X sts (rdS g W m)) : PS X (.While c sts [] pos) (rdS g W (mW t m)) :=
  ⟨fun pins s σ H J I ⟨B, O, S, σd, r, p⟩ => by
    unfold mW at p
    split at p
    · next h => exact (ss_while h.choose hp hc hb).run pins s σ H J I ⟨B, O, S, σd, r, p⟩
    · exact p.elim⟩
theorem pget_list : PGet X (rIxL X.K) := by
  intro pins s σ H o i ov iv Q I ro ri h
  obtain ⟨p, xs, k, z, rfl, rfl, hq, he, q⟩ := h
  cases ro
  obtain ⟨t, rfl⟩ := ri
  obtain ⟨its, r, pl, hz⟩ := I.list hq
  obtain ⟨j, h1, h2, h3, h4, h5⟩ := atI_get he
  obtain ⟨w, ew, rw'⟩ := r.get h2
  have hl := r.length
  have hn := line63
  have fin : EP X pins σ Q w s := ⟨z, H, I, rw', q⟩
  by_cases h0 : 0 ≤ k
  · have hj : k.toNat = j := by
      rw [seqIndex_of h0 h5] at h1
      exact Option.some.inj h1
    exact wpAny_getItem_list pl.isList h0 (by omega) (by rw [hj]; simpa using ew) fin
  · have hj : (k + (its.toArray.size : Int)).toNat = j := by
      rw [seqIndex_neg (by omega) h4] at h1
      rw [List.size_toArray, ← hl]
      exact Option.some.inj h1
    exact wpAny_getItem_list_neg pl.isList (by omega) (by rw [List.size_toArray] <;> omega) (by omega) (by rw [hj]; simpa using ew) fin
def fIxL (x y : D) (S : Sto) : R D := match y with
  | .int i => match lstOf S x with
    | some ds => match atI ds i with
      | some d => .ok d S
      | none => .bad
    | none => .bad
  | _ => .bad
theorem fIxL_ok {K : PySem.W.Frag} : OpS g W (rIxL K) fIxL := fun {B O S σd σ H x y v w Q} r hx hy p => by
  unfold fIxL at p
  split at p
  · next i =>
    cases (show _ = _ from hy)
    split at p
    · next ds q =>
      split at p
      · next d q2 =>
        obtain ⟨a, vs, rfl, h1, h2⟩ := lstOf_ok r.toRelS hx q
        obtain ⟨u, e1, e2⟩ := atI_rd h2 q2
        exact ⟨a, vs, i, u, rfl, rfl, SqL.of h1, e1, post_val p r e2⟩
      · exact p.elim
    · exact p.elim
  · exact p.elim
def mAugIx (o i : M D) (f : D → D → Sto → R D) (m : M D) : MS := mBS o fun x => mBS i fun y => mBS (fun _ S => fIxL x y S) fun old => mBS m fun z => mBS (fun _ S => f old z S) fun new => fSetIx x y new
theorem fn_post {B O : List Addr} {S : Sto} {σd : Sl} {σ : L2.St} {H : Hp} {F : Sto → R D} {k : D → MS} {J : Ends} {Q : VK} (p : PostS ⟨g.K, g.G, B, O⟩ W H (mBS (fun _ S => F S) k σd S) J)
    (hq : ∀ d v O1 S1 H1, Rel ⟨g.K, g.G, B, O1⟩ S1 σd σ H1 → RD ⟨g.K, g.G, B, O1⟩ H1 d v → Step O H O1 H1 → PostS ⟨g.K, g.G, B, O1⟩ W H1 (k d σd S1) J → Q v H1) : Post RD ⟨g.K, g.G, B, O⟩ W σ σd H (F S) Q := by
  unfold mBS at p
  simp only at p
  revert p
  cases F S with
  | ok d S' => exact fun p v O' H' h1 h2 h3 => hq d v O' S' H' h1 h2 h3 (PostS.step (c := ⟨g.K, g.G, B, O⟩) h3 p)
  | exc k ns ds S' => exact fun p dd O' H' h1 h2 h3 => p dd σ O' H' h1 h2 h3
  | bad => exact fun p => p.elim
theorem ss_augIx {o i : Expr} {tpos : Pos} {op : Operator} {r : R2} {f : D → D → Sto → R D} {mo mi m : M D} (ho : PE X o (rdE g W mo)) (hi : PE X i (rdE g W mi)) (he : PE X e (rdE g W m)) (hp : PIp X op r) (hs : OpS g W r f)
    (ha : ∀ ov iv new, augStore i ov iv new = (do holding [new, ov, iv] (setItem ov iv new); release [new, ov, iv] []; pure .next) := by intros; rfl) : PS X (.AugAssign (.Subscript o i tpos) op e pos) (rdS g W (mAugIx mo mi f m)) :=
  PS.imp (ps_augS ho hi pget_list he hp set_list ha) fun J σ H ⟨B, O, S, σd, r, p⟩ => rdG_mono (rdS_then (rel := RD) r p) fun v H1 ⟨x, O1, S1, r1, rx, st1, p1⟩ =>
    rdG_mono (rdS_then (rel := RD) r1 p1) fun u H2 ⟨y, O2, S2, r2, ry, st2, p2⟩ => by
      have rx2 := RD.step (c := ⟨g.K, g.G, B, O1⟩) st2 x v rx
      refine fIxL_ok r2 rx2 ry (fn_post p2 fun old ov O3 S3 H3 r3 rz st3 p3 => ?_)
      have rx3 := RD.step (c := ⟨g.K, g.G, B, O2⟩) st3 x v rx2
      have ry3 := RD.step (c := ⟨g.K, g.G, B, O2⟩) st3 y u ry
      refine rdG_mono (rdS_then (rel := RD) r3 p3) fun w H4 ⟨zz, O4, S4, r4, rw4, st4, p4⟩ => ?_
      refine hs r4 (RD.step (c := ⟨g.K, g.G, B, O3⟩) st4 _ _ rz) rw4 (fn_post p4 fun new nv O5 S5 H5 r5 rn st5 p5 => ?_)
      exact fSetIx_ok r5 (RD.step (c := ⟨g.K, g.G, B, O3⟩) (st4.trans st5) x v rx3) (RD.step (c := ⟨g.K, g.G, B, O3⟩) (st4.trans st5) y u ry3) rn p5
theorem ip_addS : OpS g W (ipI fun i j => i + j) (fInt fun i j => .int (i + j)) := fInt_ok (k := fun i j => V.int (i + j)) (by intros; rfl)
theorem ip_subS : OpS g W (ipI fun i j => i - j) (fInt fun i j => .int (i - j)) := fInt_ok (k := fun i j => V.int (i - j)) (by intros; rfl)
noncomputable def mFr (m : M D) : M D := fun σd S => match m σd S with
  | .ok d S1 => fin S S1 d
  | .exc k ns ds S1 => finX S S1 k ns ds
  | .bad => .bad
theorem fr_imp {m : M D} (σ : L2.St) (H : Hp) (Q : VK) (h : rdE g W (mFr m) σ H Q) : rdE g W m σ H Q := by
  obtain ⟨B, O, S, σd, r, p⟩ := h
  refine ⟨B, O, S, σd, r, ?_⟩
  unfold mFr at p
  revert p
  cases m σd S with
  | ok d S' =>
    intro p v O' H' h1 h2 h3
    simp only [fin] at p
    split at p
    · next ok =>
      split at p
      · next d' q =>
        obtain ⟨a1, a2, a3⟩ := relS_take (c := ⟨g.K, g.G, B, O⟩) r.toRelS h1.toRelS h3 ok
        have := fz_ok h1.toRelS 4 d d' v q h2
        rw [show ((⟨g.K, g.G, B, O⟩ : Ct).at O').O.take S.length = O from a3] at this
        exact p v O H' (Rel.step (c := ⟨g.K, g.G, B, O⟩) (O' := O) r a2 a1) this a2
      · exact p.elim
    · exact p.elim
  | exc k ns es S' =>
    intro p dd O' H' h1 hx h3
    simp only [finX] at p
    split at p
    · next ok =>
      obtain ⟨a1, a2, a3⟩ := relS_take (c := ⟨g.K, g.G, B, O⟩) r.toRelS h1.toRelS h3 ok.1
      have tk : Tk (⟨g.K, g.G, B, O'⟩ : Ct) ⟨g.K, g.G, B, O⟩ S.length := by
        have := tk_take (c := ⟨g.K, g.G, B, O'⟩) (n := S.length)
        rw [show (⟨g.K, g.G, B, O'⟩ : Ct).O.take S.length = O from a3] at this
        exact this
      refine p dd O H' (Rel.step (c := ⟨g.K, g.G, B, O⟩) (O' := O) r a2 a1) ?_ a2
      rcases hx with hx | ⟨a, vs, e1, av, e2, l, e3⟩
      · exact .inl hx
      · exact .inr ⟨a, vs, e1, tk.av a av, e2, l, RDs.tk tk es vs ok.2 e3⟩
    · exact p.elim
  | bad => exact fun p => p.elim
theorem se_fr {m : M D} (h : PE X e (rdE g W m)) : PE X e (rdE g W (mFr m)) := PE.imp h fr_imp
end
/-- a def whose own things stay in the store -/
def mFunK (slots n : Nat) (m : MS) (ds : List D) (S : Sto) : R D := if ds.length = n then
    match m (ds ++ List.replicate (slots - n) .dead) S with
    | .rt d S' => .ok d S'
    | .nx _ S' => .ok .non S'
    | .exc k ns es _ S' => .exc k ns es S'
    | _ => .bad
  else .bad
theorem fn_okK {P : Program} {w : World} {K : PySem.W.Frag} {mg : Str → Option Value} {base : Heap} {x qual : Str} {st : Stmt} {f : Addr} {fd : FuncData} {N ps : List Str} {k : Nat} {G : Nat → Addr} {m : MS} (F : Fun K x qual st f fd) (Sc : FnScope N ps (defScope st))
    (hbody : ∀ (cdv : Value) (A : Around) (outer : List Env) (s : Shared) (H : Hp) (E : XK), Room k (A.deeper (envOfC qual (defScope st) s.heap.objs.size f cdv)) →
      PSs (cxOf (L2.CX P w) P w K mg base N qual (defScope st) f cdv A outer s H E) (defBody st) (rdS ⟨K, G⟩ (fun cls d _ H => E cls d H) m)) :
    FnOk P w K mg base (L2.CX P w) (k + 1) f fd ps (spD ⟨K, G⟩ (mFunK N.length ps.length m)) := by
  refine F.okX Sc (fun vs H Q E h => ?_) (fun cdv A outer s H vs Q E hr h => ⟨_, hbody cdv A outer s H E hr, ?_⟩)
  · obtain ⟨B, O, S, ds, r, rd, p⟩ := h
    unfold mFunK at p
    split at p
    · next e => rw [← rd.length]; exact e
    · exact p.elim
  · obtain ⟨B, O, S, ds, r, rd, p⟩ := h
    unfold mFunK at p
    split at p
    · next e =>
      rw [← e] at p
      refine ⟨B, O, S, _, rel_start (N := N) r rd, ?_⟩
      revert p
      cases m (ds ++ List.replicate (N.length - ds.length) .dead) S with
      | rt d S' => exact fun p v O' H' h1 h2 h3 => p v O' H' h1 h2 h3
      | nx σ' S' => exact fun p σ2 O' H' h1 h3 => p .non O' H' h1.toRelS rfl h3
      | exc k ns es σ' S' => exact fun p dd σ2 O' H' h1 hx h3 => p dd O' H' h1.toRelS hx h3
      | bk σ' S' => exact fun p => p.elim
      | ct σ' S' => exact fun p => p.elim
      | bad => exact fun p => p.elim
    · exact p.elim
def insOf (S : Sto) : D → Option (Nat × List Str × List D)
  | .ins k ns ds => some (k, ns, ds)
  | .ref n => match S[n]? with | some (.ins k ns ds) => some (k, ns, ds) | _ => none
  | _ => none
theorem insOf_ok {c : Ct} {S : Sto} {H : Hp} {d : D} {v : V} {k : Nat} {ns : List Str} {ds : List D} (r : RelS c S H) (h : RD c H d v) (e : insOf S d = some (k, ns, ds)) : ∃ a dx vs, v = .ref a ∧ H a = some (.ins (c.G k) dx (ns.zip vs)) ∧ ns.length = vs.length ∧ RDs c H ds vs := by
  cases d with
  | ins k' ns' ds' =>
    cases Option.some.inj e
    obtain ⟨a, dx, vs, e, _, h1, l, h2⟩ := h
    exact ⟨a, dx, vs, e, h1, l, h2⟩
  | ref n =>
    obtain ⟨a, ho, rfl⟩ := h
    unfold insOf at e
    simp only at e
    split at e
    · next q =>
      cases Option.some.inj e
      obtain ⟨dx, vs, h1, l, h2⟩ := r.ob n _ a q ho
      exact ⟨a, dx, vs, rfl, h1, l, h2⟩
    · cases e
  | _ => cases e
/-- the part of that name -/
def fldD (f : Str) : List Str → List D → Option D
  | n :: ns, d :: ds => if n = f then some d else fldD f ns ds
  | _, _ => none
theorem fldD_ok {c : Ct} {H : Hp} {f : Str} : ∀ {ns : List Str} {ds : List D} {vs : List V} {d : D}, RDs c H ds vs → fldD f ns ds = some d → ∃ v, (ns.zip vs).lookup f = some v ∧ RD c H d v
  | [], _, _, _, _, e => by cases e
  | _ :: _, [], _, _, _, e => by cases e
  | n :: ns, x :: ds, _, d, ⟨v, vs', ev, r, t⟩, e => by
    subst ev
    unfold fldD at e
    show ∃ w, ((n, v) :: ns.zip vs').lookup f = some w ∧ _
    by_cases h : n = f
    · rw [if_pos h] at e
      cases Option.some.inj e
      refine ⟨v, ?_, r⟩
      rw [List.lookup_cons, h]
      simp
    · rw [if_neg h] at e
      obtain ⟨w, h1, h2⟩ := fldD_ok t e
      refine ⟨w, ?_, h2⟩
      rw [List.lookup_cons, beq_eq_false_iff_ne.mpr (fun z => h z.symm)]
      exact h1
def putN (f : Str) : List Str → List Str
  | [] => [f]
  | n :: ns => if n = f then n :: ns else n :: putN f ns
def putX {α : Type} (f : Str) (y : α) : List Str → List α → List α
  | n :: ns, x :: xs => if n = f then y :: xs else x :: putX f y ns xs
  | _, _ => [y]
theorem putF_zip {f : Str} {y : V} : ∀ {ns : List Str} {vs : List V}, ns.length = vs.length → putF f y (ns.zip vs) = (putN f ns).zip (putX f y ns vs) ∧ (putN f ns).length = (putX f y ns vs).length
  | [], [], _ => ⟨rfl, rfl⟩
  | n :: ns, v :: vs, h => by
    have h' : ns.length = vs.length := by simpa using h
    obtain ⟨a, b⟩ := putF_zip (f := f) (y := y) h'
    show (if n = f then (n, y) :: ns.zip vs else (n, v) :: putF f y (ns.zip vs)) = (if n = f then n :: ns else n :: putN f ns).zip (if n = f then y :: vs else v :: putX f y ns vs) ∧ (if n = f then n :: ns else n :: putN f ns).length = (if n = f then y :: vs else v :: putX f y ns vs).length
    by_cases q : n = f
    · rw [if_pos q, if_pos q, if_pos q]
      exact ⟨rfl, by simpa using h'⟩
    · rw [if_neg q, if_neg q, if_neg q, a]
      exact ⟨rfl, by simpa using b⟩
  | [], _ :: _, h => by cases h
  | _ :: _, [], h => by cases h
theorem putX_rd {c : Ct} {H : Hp} {f : Str} {d : D} {v : V} (q : RD c H d v) : ∀ {ns : List Str} {ds : List D} {vs : List V}, RDs c H ds vs → RDs c H (putX f d ns ds) (putX f v ns vs)
  | [], _, _, h => by cases h2 : ‹List D› <;> exact RDs.one q
  | n :: ns, [], _, h => by cases (show _ = _ from h); exact RDs.one q
  | n :: ns, x :: ds, _, ⟨w, vs', ev, r, t⟩ => by
    subst ev
    show RDs c H (if n = f then d :: ds else x :: putX f d ns ds) (if n = f then v :: vs' else w :: putX f v ns vs')
    by_cases z : n = f
    · rw [if_pos z, if_pos z]; exact ⟨v, vs', rfl, q, t⟩
    · rw [if_neg z, if_neg z]; exact ⟨w, _, rfl, r, putX_rd q t⟩
section
variable {g : Gx} {W : WX} {X : Cx} {e a b c o : Expr} {es : List Expr} {pos p apos : Pos} {sts : List Stmt}
/-- o.f of an instance of the class k -/
def mFld (k : Nat) (f : Str) (m : M D) : M D := mB m fun x => fun _ S => match insOf S x with
  | some (k', ns, ds) => if k' = k then match fldD f ns ds with
      | some d => .ok d S
      | none => .bad
    else .bad
  | none => .bad
theorem se_fld {k : Nat} {f : Str} {m : M D} (hk : X.K = g.K) (hc : Cls g.K (g.G k)) (hn : NoAttr g.K (g.G k) f) (h : PE X e (rdE g W m)) (hb : attributeBase e f X.env (eval e X.env) = eval e X.env := by rfl) : PE X (.Attribute e f pos) (rdE g W (mFld k f m)) :=
  PE.imp (pe_fld h hb) fun σ H Q ⟨B, O, S, σd, rel, p⟩ => rdG_mono (rd_then (rel := RD) rel p) fun v H1 ⟨x, O1, S1, r1, rx, st1, p1⟩ => by
    split at p1
    · next k' ns ds q =>
      split at p1
      · next ek =>
        subst ek
        split at p1
        · next d qd =>
          obtain ⟨a, dx, vs, ev, h1, l, h2⟩ := insOf_ok r1.toRelS rx q
          obtain ⟨w, h3, h4⟩ := fldD_ok h2 qd
          rw [hk]
          exact ⟨a, g.G k', dx, _, w, ev, h1, hc, hn, h3, post_val p1 r1 h4⟩
        · exact p1.elim
      · exact p1.elim
    · exact p1.elim
/-- o.f = e -/
def mSetFld (k : Nat) (f : Str) (mo mv : M D) : MS := mBS mv fun y => mBS mo fun x => fun σd S => match x with
  | .ref n => match S[n]? with
    | some (.ins k' ns ds) => if k' = k ∧ ns.length < 100 then .nx σd (S.set n (.ins k (putN f ns) (putX f y ns ds))) else .bad
    | _ => .bad
  | _ => .bad
theorem ss_fld {k : Nat} {f : Str} {mo mv : M D} (hk : X.K = g.K) (hc : Cls g.K (g.G k)) (hn : NoAttr g.K (g.G k) f) (ho : PE X o (rdE g W mo)) (hv : PE X e (rdE g W mv)) (hs : swapsWith e (some (.Attribute o f apos)) pos.line X.env = pure false := by rfl) :
    PS X (.Assign [.Attribute o f apos] e pos) (rdS g W (mSetFld k f mo mv)) :=
  PS.imp (ps_fld ho hv hs) fun J σ H ⟨B, O, S, σd, r, p⟩ => rdG_mono (rdS_then (rel := RD) r p) fun v H1 ⟨y, O1, S1, r1, ry, st1, p1⟩ =>
    rdG_mono (rdS_then (rel := RD) r1 p1) fun u H2 ⟨x, O2, S2, r2, rx, st2, p2⟩ => by
      split at p2
      · next n =>
        split at p2
        · next k' ns ds q =>
          split at p2
          · next ek =>
            obtain ⟨ek, el⟩ := ek
            subst ek
            obtain ⟨l, hol, rfl⟩ := rx
            obtain ⟨dx, vs, h1, hl, h2⟩ := r2.ob n _ l q hol
            have ry2 := RD.step (c := ⟨g.K, g.G, B, O1⟩) st2 y v ry
            obtain ⟨e1, e2⟩ := putF_zip (f := f) (y := v) hl
            rw [hk]
            refine ⟨l, g.G k', dx, _, rfl, h1, hc, hn, by rw [List.length_zip]; omega, ?_⟩
            rw [e1]
            exact postS_write p2 r2 hol ⟨dx, _, upd_same, e2, RDs.step (c := ⟨g.K, g.G, B, O2⟩) (O' := O2) (Step.write (mem_of_at hol)) _ _ (putX_rd ry2 h2)⟩
          · exact p2.elim
        · exact p2.elim
      · exact p2.elim
end
end DL

namespace DL
open PySem PySem.Spec PyProof.Rows L2
section
variable {X : Cx} {CX : CXT} {k : Nat} {f C : Addr} {fd : FuncData} {ps : List Str} {sp : Sp} {E : L2.St → XK} {x m : Str} {p pos apos : Pos} {e o : Expr} {es : List Expr} {ta : TE} {t : TA}
def tMakeS (C : Addr) (sp : Sp) (E : L2.St → XK) (t : TA) : TE := fun σ H Q => t σ H fun vs H1 => ∀ x dx, H1 x = none → H1 dx = none → dx ≠ x → sp (.ref x :: vs) (upd (upd H1 dx (.own x)) x (.ins C dx [])) (fun v H2 => v = .non ∧ Q (.ref x) H2) (E σ)
theorem pe_makeS (M : Mk X.K C f) (F : FnOk X.prog X.w X.K X.mg X.base CX k f fd ps sp) (hr : Room (k + 1) X.A) (hg : Gl X x) (hm : X.mg x = some (.ref C)) (hb : Binds X.K fd ps []) (hx : ∀ σ, PassesAt CX X σ (E σ)) (ha : PA X (e :: es) t)
    (hdb : (x == ("__debug__" : Str)) = false := by decide) (he : starEach (e :: es) X.env = (false, eval e X.env) :: starEach es X.env := by rfl) (hpl : (backTo pos (starEach es X.env)).any (·.1) = false := by rfl) : PE X (.Call (.Name x p) (e :: es) [] pos) (tMakeS C sp E t) :=
  ⟨fun pins s σ H Q I h => wpAny_Call_Name_kw (ld_glob I hg hm (PySem.W.callWith_K (h₀ := X.base) I.ok.mod.kin M.kp (thn (ha.run pos pins s σ H _ I h) fun us s1 ⟨vs, H1, I1, r, q⟩ => ⟨I1.kIn, by
    have hq := q (s1.heap.objs.size + 1) s1.heap.objs.size (I1.hok.fresh (Nat.le_succ _)) (I1.hok.fresh (Nat.le_refl _)) (Nat.ne_of_lt (Nat.lt_succ_self _))
    have I2 := Inv.made (C := C) I1
    have r2 : Vals (V.ref (s1.heap.objs.size + 1) :: vs) (Value.ref (s1.heap.objs.size + 1) :: us) := .cons rfl r
    have hl : (Value.ref (s1.heap.objs.size + 1) :: us).length = ps.length := by rw [← r2.length]; exact F.len _ _ _ _ hq
    have bd := hb _ (Value.ref (s1.heap.objs.size + 1) :: us) I2.kIn (by rw [List.append_nil]; exact hl)
    rw [List.append_nil] at bd
    refine wpAny_call (make_map (f := f) I1.kIn M.makes M.init (beq_iff_eq.mp M.fn) (codeAny_mono (F.run _ X.stack _ _ ⟨Value.ref (s1.heap.objs.size + 1) :: us, []⟩ (Value.ref (s1.heap.objs.size + 1) :: us) _ _ (E σ) (hr.make C us []) (I2.env0.make C us []) bd r2 hq) fun r s' hq' => ?_))
    cases r with
    | error er => exact hx σ pins _ _ er s' I2 hq'
    | ok fl =>
      cases fl with
      | ret u =>
        obtain ⟨v, H', I3, rv, ev, q3⟩ := I2.after hq'
        subst ev
        exact ⟨rv, ⟨V.ref (s1.heap.objs.size + 1), H', I3, rfl, q3⟩⟩
      | next => exact hq'.elim
      | brk => exact hq'.elim
      | cont => exact hq'.elim⟩) he hpl) hdb)⟩
end
section
variable {g : Gx} {W : WX} {X : Cx} {e a b c o : Expr} {es : List Expr} {pos p apos : Pos} {n : M (List D)} {x : Str}
/-- C(..): a new thing of the store, then __init__ -/
def mNew (k : Nat) (fn : List D → Sto → R D) (m : M (List D)) : M D := mB m fun ds => fun _ S => match fn (.ref S.length :: ds) (S ++ [.ins k [] []]) with
  | .ok d S' => match d with
    | .non => .ok (.ref S.length) S'
    | _ => .bad
  | .exc k ns es S' => .exc k ns es S'
  | .bad => .bad
theorem se_new {k j : Nat} {f : Addr} {fd : FuncData} {ps : List Str} {fn : List D → Sto → R D} (tk : Takes X W) (M : Mk X.K (g.G k) f) (F : FnOk X.prog X.w X.K X.mg X.base (L2.CX X.prog X.w) j f fd ps (spD g fn)) (hr : Room (j + 1) X.A) (hg : Gl X x) (hm : X.mg x = some (.ref (g.G k)))
    (hb : Binds X.K fd ps []) (ha : PA X (e :: es) (rdA g W n)) (hdb : (x == ("__debug__" : Str)) = false := by decide)
    (he : starEach (e :: es) X.env = (false, eval e X.env) :: starEach es X.env := by rfl) (hpl : (backTo pos (starEach es X.env)).any (·.1) = false := by rfl) : PE X (.Call (.Name x p) (e :: es) [] pos) (rdE g W (mNew k fn n)) :=
  PE.imp (pe_makeS (E := WE W) M F hr hg hm hb (fun σ => passAt tk σ) ha hdb he hpl) fun σ H Q ⟨B, O, S, σd, rel, q⟩ => rdG_mono (rd_then (rel := RDs) rel q) fun vs H1 ⟨ds, O1, S1, r1, rx, st1, p1⟩ => by
    intro x dx hx hdx hne
    have hx' : upd H1 dx (.own x) x = none := by rw [upd_ne (fun z => hne z.symm)]; exact hx
    have ra := r1.new (o := .own x) hdx
    obtain ⟨r2, st2⟩ := RelS.alloc (c := ⟨g.K, g.G, B, O1⟩) ra.toRelS (u := .ins (g.G k) dx []) (o := .ins k [] []) hx' ⟨dx, [], upd_same, rfl, rfl⟩
    have st3 : Step O1 H1 (O1 ++ [x]) (upd (upd H1 dx (.own x)) x (.ins (g.G k) dx [])) := Step.trans (Step.new hdx) st2
    have rs : RDs ⟨g.K, g.G, B, O1 ++ [x]⟩ (upd (upd H1 dx (.own x)) x (.ins (g.G k) dx [])) (.ref S1.length :: ds) (.ref x :: vs) :=
      ⟨.ref x, vs, rfl, ⟨x, by
        show (O1 ++ [x])[S1.length]? = some x
        rw [← show O1.length = S1.length from r1.ol]
        simp, rfl⟩, RDs.step (c := ⟨g.K, g.G, B, O1⟩) st3 ds vs rx⟩
    refine ⟨B, O1 ++ [x], S1 ++ [.ins k [] []], .ref S1.length :: ds, r2, rs, ?_⟩
    revert p1
    cases fn (.ref S1.length :: ds) (S1 ++ [.ins k [] []]) with
    | ok d S' =>
      cases d with
      | non =>
        intro p1 v O' H' h1 h2 h3
        refine ⟨h2, ?_⟩
        have st4 := st3.trans h3
        refine p1 (.ref x) O' H' (r1.step st4 h1) ⟨x, ?_, rfl⟩ st4
        obtain ⟨t, ht⟩ := h3.pre
        show O'[S1.length]? = some x
        rw [show O' = (O1 ++ [x]) ++ t from ht, ← show O1.length = S1.length from r1.ol]
        simp
      | _ => exact fun p1 => p1.elim
    | exc k ns es S' => exact fun p1 dd O' H' h1 h2 h3 => p1 dd O' H' (r1.step (st3.trans h3) h1) h2 (st3.trans h3)
    | bad => exact fun p1 => p1.elim
/-- o.f, a property of the class k -/
def mProp (k : Nat) (fn : List D → Sto → R D) (m : M D) : M D := mB m fun x => fun _ S => match insOf S x with
  | some (k', _, _) => if k' = k then match fn [x] S with
      | .ok d S' => .ok d S'
      | _ => .bad
    else .bad
  | none => .bad
theorem se_prop {k j : Nat} {f : Str} {pp gg : Addr} {fd : FuncData} {ps : List Str} {fn : List D → Sto → R D} {m : M D} (h : PE X e (rdE g W m)) (c : Cls X.K (g.G k)) (hp : PropOf X.K (g.G k) f pp gg) (F : FnOk X.prog X.w X.K X.mg X.base (L2.CX X.prog X.w) j gg fd ps (spD g fn)) (hr : Room (j + 1) X.A) (hb : Binds X.K fd ps [])
    (hab : attributeBase e f X.env (eval e X.env) = eval e X.env := by rfl) : PE X (.Attribute e f pos) (rdE g W (mProp k fn m)) :=
  PE.imp (pe_prop (E := fun _ _ _ => False) h c hp F hr hb .nil (fun pins σ H s e s' I ⟨_, _, _, _, _, _, _, _, _, _, _, _, z⟩ => z.elim) hab) fun σ H Q ⟨B, O, S, σd, rel, q⟩ => rdG_mono (rd_then (rel := RD) rel q) fun v H1 ⟨x, O1, S1, r1, rx, st1, p1⟩ => by
    split at p1
    · next k' ns ds qi =>
      split at p1
      · next ek =>
        subst ek
        obtain ⟨a, dx, vs, ev, h1, l, h2⟩ := insOf_ok r1.toRelS rx qi
        refine ⟨a, dx, _, ev, h1, B, O1, S1, [x], r1.toRelS, by rw [← ev]; exact RDs.one rx, ?_⟩
        revert p1
        cases fn [x] S1 with
        | ok d S' => exact fun p1 v O' H' h1 h2 h3 => p1 v O' H' (r1.step h3 h1) h2 h3
        | exc k ns es S' => exact fun p1 => p1.elim
        | bad => exact fun p1 => p1.elim
      · exact p1.elim
    · exact p1.elim
end
end DL

namespace DL
open PySem PySem.Spec PyProof.Rows L2
theorem fn_bad {P : Program} {w : World} {K : PySem.W.Frag} {mg : Str → Option Value} {base : Heap} {x qual : Str} {st : Stmt} {f : Addr} {fd : FuncData} {N ps : List Str} {k : Nat} {G : Nat → Addr} (F : Fun K x qual st f fd) (Sc : FnScope N ps (defScope st)) :
    FnOk P w K mg base (L2.CX P w) (k + 1) f fd ps (spD ⟨K, G⟩ fun _ _ => .bad) :=
  F.okX Sc (fun _ _ _ _ ⟨_, _, _, _, _, _, p⟩ => p.elim) (fun _ _ _ _ _ _ _ _ _ ⟨_, _, _, _, _, _, p⟩ => p.elim)
/-- the law's promise -/
def spTrue (K : PySem.W.Frag) : Sp := fun vs H Q _ => ∃ (a : Addr) (ns : List Int), vs = [.ref a] ∧ SqL K H a (ns.map V.int) ∧ ns.length ≤ 63 ∧ ∀ H', Q (.bl true) H'
theorem cx_false {P : Program} {w : World} {o : List Env} {H : Hp} {s : Shared} {e : Value} {s' : Shared} (h : L2.CX P w o H s (fun _ _ _ => False) e s') : False := by
  obtain ⟨_, _, _, _, _, _, _, _, _, _, _, _, z⟩ := h
  exact z
theorem fn_true {P : Program} {w : World} {K : PySem.W.Frag} {mg : Str → Option Value} {base : Heap} {f : Addr} {fd : FuncData} {ps : List Str} {k : Nat} {G : Nat → Addr} {fn : List D → Sto → R D} (h : FnOk P w K mg base (L2.CX P w) k f fd ps (spD ⟨K, G⟩ fn))
    (ht : ∀ ns : List Int, ns.length ≤ 63 → ∃ S, fn [.scr ns] [] = .ok (.bl true) S) : FnOk P w K mg base (L2.CX P w) k f fd ps (spTrue K) := by
  have imp : ∀ vs H Q E, spTrue K vs H Q E → spD ⟨K, G⟩ fn vs H Q E := fun vs H Q E ⟨a, ns, e, hS, hl, q⟩ => by
    obtain ⟨S, hS'⟩ := ht ns hl
    refine ⟨[], [], [], [.scr ns], ⟨rfl, List.nodup_nil, nofun, nofun, fun n o a h => nomatch h⟩, ?_, ?_⟩
    · rw [e]
      refine RDs.one ⟨a, rfl, ?_⟩
      rcases hS with h | h
      · exact .inl ⟨h, ⟨nofun, nofun⟩⟩
      · exact .inr h
    · rw [hS']
      exact fun v O' H' _ hv _ => by cases (show _ = _ from hv); exact q H'
  exact h.imp imp
end DL

namespace DL
open PySem PySem.Spec PyProof.Rows L2
def dicOf (S : Sto) : D → Option (List Key × List D)
  | .dic ks ds => some (ks, ds)
  | .ref n => match S[n]? with | some (.dic ks ds) => some (ks, ds) | _ => none
  | _ => none
theorem dicOf_ok {c : Ct} {S : Sto} {H : Hp} {d : D} {v : V} {ks : List Key} {ds : List D} (r : RelS c S H) (h : RD c H d v) (e : dicOf S d = some (ks, ds)) : ∃ a vs, v = .ref a ∧ H a = some (.dK (ks.zip vs)) ∧ ks.length = vs.length ∧ RDs c H ds vs := by
  cases d with
  | dic ks' ds' =>
    cases Option.some.inj e
    obtain ⟨a, vs, e, _, h1, l, h2⟩ := h
    exact ⟨a, vs, e, h1, l, h2⟩
  | ref n =>
    obtain ⟨a, ho, rfl⟩ := h
    unfold dicOf at e
    simp only at e
    split at e
    · next q =>
      cases Option.some.inj e
      obtain ⟨vs, h1, l, h2⟩ := r.ob n _ a q ho
      exact ⟨a, vs, rfl, h1, l, h2⟩
    · cases e
  | _ => cases e
/-- what stands at a key -/
def dget (k : Key) : List Key → List D → Option D
  | n :: ns, d :: ds => if n = k then some d else dget k ns ds
  | _, _ => none
theorem dget_ok {c : Ct} {H : Hp} {k : Key} : ∀ {ks : List Key} {ds : List D} {vs : List V}, ks.length = vs.length → RDs c H ds vs → (∀ d, dget k ks ds = some d → ∃ v, valV (ks.zip vs) k = some v ∧ RD c H d v) ∧ (dget k ks ds = none → valV (ks.zip vs) k = none)
  | [], _, _, _, _ => ⟨nofun, fun _ => rfl⟩
  | n :: ks, [], _, l, h => by cases (show _ = _ from h); cases l
  | n :: ks, x :: ds, _, l, ⟨v, vs', ev, r, t⟩ => by
    subst ev
    have l' : ks.length = vs'.length := by simpa using l
    obtain ⟨h1, h2⟩ := dget_ok (k := k) l' t
    have e : valV ((n :: ks).zip (v :: vs')) k = if n = k then some v else valV (ks.zip vs') k := by
      unfold valV
      rw [List.zip_cons_cons, List.find?_cons]
      by_cases q : n = k
      · rw [if_pos q, decide_eq_true (show (n, v).1 = k from q)]
        rfl
      · rw [if_neg q, decide_eq_false (show ¬ (n, v).1 = k from q)]
    unfold dget
    by_cases q : n = k
    · rw [if_pos q] at e ⊢
      rw [e]
      exact ⟨fun d z => ⟨v, rfl, by cases Option.some.inj z; exact r⟩, nofun⟩
    · rw [if_neg q] at e ⊢
      rw [e]
      exact ⟨h1, h2⟩
def hasK (k : Key) (ks : List Key) : Bool := ks.any fun n => decide (n = k)
def dputN (k : Key) (ks : List Key) : List Key := if hasK k ks then ks else ks ++ [k]
def dputG {α : Type} (k : Key) (y : α) : List Key → List α → List α
  | n :: ns, x :: xs => (if n = k then y else x) :: dputG k y ns xs
  | _, _ => []
def dputX {α : Type} (k : Key) (y : α) (ks : List Key) (xs : List α) : List α := if hasK k ks then dputG k y ks xs else xs ++ [y]
theorem any_zip {k : Key} : ∀ {ks : List Key} {vs : List V}, ks.length = vs.length → ((ks.zip vs).any fun kv => decide (kv.1 = k)) = hasK k ks
  | [], [], _ => rfl
  | n :: ks, v :: vs, l => by
    have := any_zip (k := k) (ks := ks) (vs := vs) (by simpa using l)
    unfold hasK at this ⊢
    rw [List.zip_cons_cons, List.any_cons, List.any_cons, this]
  | [], _ :: _, l => by cases l
  | _ :: _, [], l => by cases l
theorem put_zip {k : Key} {y : V} : ∀ {ks : List Key} {vs : List V}, ks.length = vs.length → (ks.zip vs).map (fun kv => if kv.1 = k then (kv.1, y) else kv) = ks.zip (dputG k y ks vs) ∧ ks.length = (dputG k y ks vs).length
  | [], [], _ => ⟨rfl, rfl⟩
  | n :: ks, v :: vs, l => by
    obtain ⟨a, b⟩ := put_zip (k := k) (y := y) (ks := ks) (vs := vs) (by simpa using l)
    rw [List.zip_cons_cons, List.map_cons, a, show dputG k y (n :: ks) (v :: vs) = (if n = k then y else v) :: dputG k y ks vs from rfl]
    refine ⟨?_, by simpa using b⟩
    by_cases q : n = k
    · rw [if_pos q, if_pos (show (n, v).1 = k from q)]
      rfl
    · rw [if_neg q, if_neg (show ¬ (n, v).1 = k from q)]
      rfl
  | [], _ :: _, l => by cases l
  | _ :: _, [], l => by cases l
theorem putK_zip {k : Key} {y : V} {ks : List Key} {vs : List V} (l : ks.length = vs.length) : putK (ks.zip vs) k y = (dputN k ks).zip (dputX k y ks vs) ∧ (dputN k ks).length = (dputX k y ks vs).length := by
  unfold putK dputN dputX
  rw [any_zip l]
  obtain ⟨a, b⟩ := put_zip (k := k) (y := y) l
  cases hasK k ks with
  | true => exact ⟨a, b⟩
  | false =>
    refine ⟨?_, ?_⟩
    · simp only [Bool.false_eq_true, if_false]
      rw [List.zip_append l]
      rfl
    · simp [l]
theorem dputG_rd {c : Ct} {H : Hp} {k : Key} {d : D} {v : V} (q : RD c H d v) : ∀ {ks : List Key} {ds : List D} {vs : List V}, RDs c H ds vs → RDs c H (dputG k d ks ds) (dputG k v ks vs)
  | [], ds, vs, _ => by cases ds <;> cases vs <;> rfl
  | n :: ks, [], _, h => by cases (show _ = _ from h); rfl
  | n :: ks, x :: ds, _, ⟨w, vs', ev, r, t⟩ => by
    subst ev
    refine ⟨_, _, rfl, ?_, dputG_rd q t⟩
    by_cases z : n = k
    · rw [if_pos z, if_pos z]; exact q
    · rw [if_neg z, if_neg z]; exact r
theorem dputX_rd {c : Ct} {H : Hp} {k : Key} {d : D} {v : V} (q : RD c H d v) {ks : List Key} {ds : List D} {vs : List V} (h : RDs c H ds vs) : RDs c H (dputX k d ks ds) (dputX k v ks vs) := by
  unfold dputX
  cases hasK k ks with
  | true => exact dputG_rd q h
  | false => exact h.append (RDs.one q)
section
variable {g : Gx} {W : WX} {X : Cx} {e a b o i : Expr} {es : List Expr} {pos p apos tpos : Pos}
/-- {} as a thing of the store, as a settled one -/
def mDicL : M D := fun _ S => .ok (.ref S.length) (S ++ [.dic [] []])
def mDicF : M D := fun _ S => .ok (.dic [] []) S
theorem se_dicL : PE X (.Dict [] [] pos) (rdE g W mDicL) := PE.imp pe_dnewK fun σ H Q ⟨B, O, S, σd, r, p⟩ => fun q hq => by
  obtain ⟨r2, st⟩ := RelS.alloc (c := ⟨g.K, g.G, B, O⟩) r.toRelS (u := .dK []) (o := .dic [] []) hq ⟨[], upd_same, rfl, rfl⟩
  refine p (.ref q) (O ++ [q]) _ (r.step st r2) ⟨q, ?_, rfl⟩ st
  show (O ++ [q])[S.length]? = some q
  rw [← show O.length = S.length from r.ol]
  simp
theorem se_dicF : PE X (.Dict [] [] pos) (rdE g W mDicF) := PE.imp pe_dnewK fun σ H Q ⟨B, O, S, σd, r, p⟩ => fun q hq =>
  post_new p r hq ⟨q, [], rfl, r.fresh hq, upd_same, rfl, rfl⟩
def fDIn (neg : Bool) (x y : D) (S : Sto) : R D := match x with
  | .int j => match dicOf S y with
    | some (ks, ds) => .ok (.bl (if neg then !(dget (.inl j) ks ds).isSome else (dget (.inl j) ks ds).isSome)) S
    | none => .bad
  | _ => .bad
theorem fDIn_ok {neg : Bool} {B O : List Addr} {S : Sto} {σd : Sl} {σ : L2.St} {H : Hp} {x y : D} {v w : V} {Q : VK} (r : Rel ⟨g.K, g.G, B, O⟩ S σd σ H) (hx : RD ⟨g.K, g.G, B, O⟩ H x v) (hy : RD ⟨g.K, g.G, B, O⟩ H y w) (p : Post RD ⟨g.K, g.G, B, O⟩ W σ σd H (fDIn neg x y S) Q) :
    ∃ a o, w = .ref a ∧ DGet H a v o ∧ Q (.bl (if neg then !o.isSome else o.isSome)) H := by
  unfold fDIn at p
  split at p
  · next j =>
    split at p
    · next ks ds q =>
      cases (show _ = _ from hx)
      obtain ⟨a, vs, ew, h1, l, h2⟩ := dicOf_ok r.toRelS hy q
      obtain ⟨g1, g2⟩ := dget_ok (k := .inl j) l h2
      refine ⟨a, _, ew, DGet.k (k := .inl j) h1, ?_⟩
      have e : (valV (ks.zip vs) (.inl j)).isSome = (dget (.inl j) ks ds).isSome := by
        cases z : dget (.inl j) ks ds with
        | none => rw [g2 z]; rfl
        | some d => obtain ⟨u, h3, _⟩ := g1 d z; rw [h3]; rfl
      rw [e]
      exact post_val p r rfl
    · exact p.elim
  · exact p.elim
theorem din_imp {ma mb : M D} (σ : L2.St) (H : Hp) (Q : VK) (h : rdE g W (mOp (fDIn false) ma mb) σ H Q) : tDIn (rdE g W ma) (rdE g W mb) σ H Q := by
  obtain ⟨B, O, S, σd, rel, p⟩ := h
  refine rdG_mono (rd_then (rel := RD) rel p) fun v H1 ⟨x, O1, S1, r1, rx, st1, p1⟩ => ?_
  exact rdG_mono (rd_then (rel := RD) r1 p1) fun w H2 ⟨y, O2, S2, r2, ry, st2, p2⟩ => fDIn_ok (neg := false) r2 (RD.step (c := ⟨g.K, g.G, B, O1⟩) st2 x v rx) ry p2
theorem dnotin_imp {ma mb : M D} (σ : L2.St) (H : Hp) (Q : VK) (h : rdE g W (mOp (fDIn true) ma mb) σ H Q) : tDNotIn (rdE g W ma) (rdE g W mb) σ H Q := by
  obtain ⟨B, O, S, σd, rel, p⟩ := h
  refine rdG_mono (rd_then (rel := RD) rel p) fun v H1 ⟨x, O1, S1, r1, rx, st1, p1⟩ => ?_
  exact rdG_mono (rd_then (rel := RD) r1 p1) fun w H2 ⟨y, O2, S2, r2, ry, st2, p2⟩ => fDIn_ok (neg := true) r2 (RD.step (c := ⟨g.K, g.G, B, O1⟩) st2 x v rx) ry p2
theorem se_din {k : Nat} {ma mb : M D} (hr : Room k X.A) (ha : PE X a (rdE g W ma)) (hb : PE X b (rdE g W mb)) (hm : behindInMarks .In b = false := by rfl) : PE X (.Compare a [.In] [b] pos) (rdE g W (mOp (fDIn false) ma mb)) := PE.imp (pe_cmp (pc_din (hu_of hr) ha hb) hm) din_imp
theorem se_dnotin {k : Nat} {ma mb : M D} (hr : Room k X.A) (ha : PE X a (rdE g W ma)) (hb : PE X b (rdE g W mb)) (hm : behindInMarks .NotIn b = false := by rfl) : PE X (.Compare a [.NotIn] [b] pos) (rdE g W (mOp (fDIn true) ma mb)) := PE.imp (pe_cmp (pc_dnotin (hu_of hr) ha hb) hm) dnotin_imp
theorem st_din {k : Nat} {ma mb : M D} (hr : Room k X.A) (ha : PE X a (rdE g W ma)) (hb : PE X b (rdE g W mb)) (hm : behindInMarks .In b = false := by rfl) : PT X (.Compare a [.In] [b] pos) (rdT g W (mTest (mOp (fDIn false) ma mb))) := PT.imp (pt_cmp (pc_din (hu_of hr) ha hb) hm) fun σ H Q q => din_imp σ H _ (test_imp σ H Q q)
theorem st_dnotin {k : Nat} {ma mb : M D} (hr : Room k X.A) (ha : PE X a (rdE g W ma)) (hb : PE X b (rdE g W mb)) (hm : behindInMarks .NotIn b = false := by rfl) : PT X (.Compare a [.NotIn] [b] pos) (rdT g W (mTest (mOp (fDIn true) ma mb))) := PT.imp (pt_cmp (pc_dnotin (hu_of hr) ha hb) hm) fun σ H Q q => dnotin_imp σ H _ (test_imp σ H Q q)
/-- d[k] -/
def fDGet (x y : D) (S : Sto) : R D := match y with
  | .int j => match dicOf S x with
    | some (ks, ds) => match dget (.inl j) ks ds with
      | some d => .ok d S
      | none => .bad
    | none => .bad
  | _ => .bad
theorem se_dget {k : Nat} {ma mb : M D} (hr : Room k X.A) (ha : PE X a (rdE g W ma)) (hb : PE X b (rdE g W mb)) (hs : NoSl b := by exact fun _ _ => rfl) : PE X (.Subscript a b pos) (rdE g W (mOp fDGet ma mb)) :=
  PE.imp (pe_dget (hu_of hr) ha hb hs) fun σ H Q ⟨B, O, S, σd, rel, p⟩ => rdG_mono (rd_then (rel := RD) rel p) fun v H1 ⟨x, O1, S1, r1, rx, st1, p1⟩ =>
    rdG_mono (rd_then (rel := RD) r1 p1) fun w H2 ⟨y, O2, S2, r2, ry, st2, p2⟩ => by
      unfold fDGet at p2
      split at p2
      · next j =>
        split at p2
        · next ks ds q =>
          split at p2
          · next d qd =>
            cases (show _ = _ from ry)
            obtain ⟨a, vs, ew, h1, l, h2⟩ := dicOf_ok r2.toRelS (RD.step (c := ⟨g.K, g.G, B, O1⟩) st2 x v rx) q
            obtain ⟨u, h3, h4⟩ := (dget_ok (k := .inl j) l h2).1 d qd
            exact ⟨a, u, ew, h3 ▸ DGet.k (k := .inl j) h1, post_val p2 r2 h4⟩
          · exact p2.elim
        · exact p2.elim
      · exact p2.elim
/-- d[k] = v -/
def fDPut (x y z : D) (σd : Sl) (S : Sto) : RS := match x with
  | .ref n => match y with
    | .int j => match S[n]? with
      | some (.dic ks ds) => if ks.length < LIM then .nx σd (S.set n (.dic (dputN (.inl j) ks) (dputX (.inl j) z ks ds))) else .bad
      | _ => .bad
    | _ => .bad
  | _ => .bad
theorem fDPut_ok {B O : List Addr} {S : Sto} {σd : Sl} {σ : L2.St} {H : Hp} {x y z : D} {v u w : V} {J : Ends} (r : Rel ⟨g.K, g.G, B, O⟩ S σd σ H) (hx : RD ⟨g.K, g.G, B, O⟩ H x v) (hy : RD ⟨g.K, g.G, B, O⟩ H y u) (hz : RD ⟨g.K, g.G, B, O⟩ H z w)
    (p : PostS ⟨g.K, g.G, B, O⟩ W H (fDPut x y z σd S) J) : ∃ a H4, v = .ref a ∧ DPut H a u w H4 ∧ J.nx σ H4 := by
  unfold fDPut at p
  split at p
  · next n =>
    split at p
    · next j =>
      split at p
      · next ks ds q =>
        split at p
        · next hl =>
          obtain ⟨a, ho, rfl⟩ := hx
          cases (show _ = _ from hy)
          obtain ⟨vs, h1, l, h2⟩ := r.ob n _ a q ho
          obtain ⟨e1, e2⟩ := putK_zip (k := .inl j) (y := w) l
          refine ⟨a, _, rfl, DPut.k (k := .inl j) h1 (by rw [List.length_zip, ← l, Nat.min_self]; exact lim_lt hl), ?_⟩
          rw [e1]
          exact postS_write p r ho ⟨_, upd_same, e2, RDs.step (c := ⟨g.K, g.G, B, O⟩) (O' := O) (Step.write (mem_of_at ho)) _ _ (dputX_rd hz h2)⟩
        · exact p.elim
      · exact p.elim
    · exact p.elim
  · exact p.elim
def mDPut (o i v : M D) : MS := mBS v fun z => mBS o fun x => mBS i fun y => fDPut x y z
theorem ss_dput {k : Nat} {mo mi mv : M D} (hr : Room k X.A) (ho : PE X o (rdE g W mo)) (hi : PE X i (rdE g W mi)) (hv : PE X e (rdE g W mv)) (hs : swapsWith e (some (.Subscript o i tpos)) pos.line X.env = pure false := by rfl) : PS X (.Assign [.Subscript o i tpos] e pos) (rdS g W (mDPut mo mi mv)) :=
  PS.imp (ps_dput (hu_of hr) ho hi hv hs) fun J σ H ⟨B, O, S, σd, r, p⟩ => rdG_mono (rdS_then (rel := RD) r p) fun w H1 ⟨z, O1, S1, r1, rz, st1, p1⟩ =>
    rdG_mono (rdS_then (rel := RD) r1 p1) fun v H2 ⟨x, O2, S2, r2, rx, st2, p2⟩ => rdG_mono (rdS_then (rel := RD) r2 p2) fun u H3 ⟨y, O3, S3, r3, ry, st3, p3⟩ =>
      fDPut_ok r3 (RD.step (c := ⟨g.K, g.G, B, O2⟩) st3 x v rx) ry (RD.step (c := ⟨g.K, g.G, B, O1⟩) (st2.trans st3) z w rz) p3
def ixOf (y : D) : List D → Option Nat
  | [] => none
  | d :: ds => if eqD d y then some 0 else (ixOf y ds).map (· + 1)
theorem ixOf_spec {y : D} : ∀ {ds : List D} {j : Nat}, ixOf y ds = some j → (∃ d, ds[j]? = some d ∧ eqD d y = true) ∧ ∀ m d, m < j → ds[m]? = some d → eqD d y = false
  | [], _, e => by cases e
  | d :: ds, j, e => by
    unfold ixOf at e
    by_cases q : eqD d y = true
    · rw [if_pos q] at e
      cases Option.some.inj e
      exact ⟨⟨d, rfl, q⟩, fun m d' h _ => absurd h (Nat.not_lt_zero m)⟩
    · rw [if_neg q] at e
      obtain ⟨i, h1, h2⟩ := Option.map_eq_some_iff.mp e
      subst h2
      obtain ⟨h3, h4⟩ := ixOf_spec h1
      refine ⟨h3, fun m d' hm he => ?_⟩
      cases m with
      | zero => cases Option.some.inj (show some d = some d' from he); simpa using q
      | succ m => exact h4 m d' (by omega) he
def fIndex (x : D) (ds : List D) (S : Sto) : R D := match ds with
  | [y] => match lstOf S x with
    | some xs => if flatD y && xs.all flatD then match ixOf y xs with
        | some j => .ok (.int j) S
        | none => .bad
      else .bad
    | none => .bad
  | _ => .bad
theorem RDs.get' {c : Ct} {H : Hp} {ds : List D} {vs : List V} {i : Nat} {v : V} (h : RDs c H ds vs) (e : vs[i]? = some v) : ∃ d, ds[i]? = some d ∧ RD c H d v := by
  have hl : i < ds.length := by rw [h.length]; exact (List.getElem?_eq_some_iff.mp e).1
  obtain ⟨w, h1, h2⟩ := h.get (List.getElem?_eq_getElem hl)
  rw [e] at h1
  cases Option.some.inj h1
  exact ⟨_, List.getElem?_eq_getElem hl, h2⟩
theorem all_get {ds : List D} {p : D → Bool} (h : ds.all p = true) {i : Nat} {d : D} (e : ds[i]? = some d) : p d = true := List.all_eq_true.mp h d (List.mem_of_getElem? e)
theorem fIndex_ok {K : PySem.W.Frag} : MethS g W (rIndex K) fIndex := fun {B O S σd σ H x v ds vs Q} r hx hs p => by
  unfold fIndex at p
  split at p
  · next y =>
    split at p
    · next xs q =>
      split at p
      · next hf =>
        obtain ⟨f1, f2⟩ := Bool.and_eq_true_iff.mp hf
        split at p
        · next j qj =>
          obtain ⟨w, rfl, hy⟩ := RDs.one_inv hs
          obtain ⟨l, us, rfl, h1, h2⟩ := lstOf_ok r.toRelS hx q
          obtain ⟨⟨d, e1, e2⟩, e3⟩ := ixOf_spec qj
          obtain ⟨z, e4, rz⟩ := h2.get e1
          refine ⟨l, us, w, j, z, rfl, rfl, SqL.of h1, flat_of hy f1, flats_of h2 f2, e4, ?_, fun m z' hm ez => ?_, post_val p r rfl⟩
          · rw [eq_flat rz hy (all_get f2 e1) f1]; exact e2
          · obtain ⟨d', e5, rd'⟩ := h2.get' ez
            rw [eq_flat rd' hy (all_get f2 e5) f1]
            exact e3 m d' hm e5
        · exact p.elim
      · exact p.elim
    · exact p.elim
  · exact p.elim
theorem se_index {mo : M D} {m : M (List D)} (ho : PE X a (rdE g W mo)) (ha : PA X [e] (rdA g W m)) (hbase : attributeBase a "index" X.env (eval a X.env) = eval a X.env := by rfl)
    (hline : (apos.endLine == pos.line) = true := by rfl) (hs : starEach [e] X.env = (false, eval e X.env) :: starEach [] X.env := by rfl) :
    PE X (.Call (.Attribute a "index" apos) [e] [] pos) (rdE g W (mMeth fIndex mo m)) :=
  PE.imp (pe_bm PySem.F.plainAttrs_list PySem.F.slot_list_index PySem.F.type_list_index mt_index ho ha hbase (by rw [hs]; rfl) hline hs rfl) (meth_imp fIndex_ok)
theorem RDs.rev {c : Ct} {H : Hp} : ∀ {ds : List D} {vs : List V}, RDs c H ds vs → RDs c H ds.reverse vs.reverse
  | [], _, h => by rw [show _ = _ from h]; rfl
  | d :: ds, _, ⟨v, vs', e, r, t⟩ => by
    subst e
    rw [List.reverse_cons, List.reverse_cons]
    exact (RDs.rev t).append (RDs.one r)
structure Own (K : PySem.W.Frag) (C : Addr) : Prop where
  cl : Cls K C
  ha : PySem.W.findIn K (.ref C) "__class__" = some (some (.builtin "object.__class__"))
  hn : PySem.W.specialIn K (.builtin "object.__class__") "__get__" = some (some (.builtin "getset_descriptor.__get__"))
  ht : PySem.W.takesIn K (.builtin "object.__class__") = some true
  hm : PySem.W.mroIn K C (.type "object") = some true
/-- of the built-in types, of the class k itself -/
structure IsC (K : PySem.W.Frag) (C : Addr) : Prop where
  ow : Own K C
  tys : ∀ t : Ty, PySem.W.kitOne K (.type t.s) (.ref C) = some false
  self : PySem.W.kitOne K (.ref C) (.ref C) = some true
def mIsC (k : Nat) (m : M D) : M D := mB m fun d => fun _ S => match tyOf S d with
  | some _ => .ok (.bl false) S
  | none => match insOf S d with
    | some (k', _, _) => if k' = k then .ok (.bl true) S else .bad
    | none => .bad
theorem se_isC {k : Nat} {m : M D} {T : Str} {p2 : Pos} (hk : X.K = g.K) (hg : Gl X "isinstance") (hm : X.mg "isinstance" = none) (ha : PE X a (rdE g W m)) (hgT : Gl X T) (hT : X.mg T = some (.ref (g.G k))) (h : IsC g.K (g.G k)) (hd : (T == ("__debug__" : Str)) = false := by decide)
    (na : starEach [a, .Name T p2] X.env = (false, eval a X.env) :: starEach [.Name T p2] X.env := by rfl) (nb : starEach [.Name T p2] X.env = (false, eval (.Name T p2) X.env) :: starEach [] X.env := by rfl) (hp : (backTo pos (starEach [.Name T p2] X.env)).any (·.1) = false := by rfl) :
    PE X (.Call (.Name "isinstance" p) [a, .Name T p2] [] pos) (rdE g W (mIsC k m)) :=
  PE.imp (pe_callB call_isi hg hm (by decide +kernel) (pa_cons ha (pa_cons (pe_glob hgT hT (v := .ref (g.G k)) rfl hd) pa_nil nb) na) (by decide) (by decide) na hp) fun σ H Q ⟨B, O, S, σd, rel, q⟩ => rdG_mono (rd_then (rel := RD) rel q) fun v H1 ⟨x, O1, S1, r1, rx, st1, p1⟩ => by
    rw [hk]
    split at p1
    · next y qy => exact ⟨v, .ref (g.G k), .type y.s, .ref (g.G k), false, rfl, .own _, tyOf_ok r1.toRelS rx qy, h.tys y, post_val p1 r1 rfl⟩
    · split at p1
      · next k' ns ds qi =>
        split at p1
        · next ek =>
          subst ek
          obtain ⟨a, dx, vs, ev, h1, l, h2⟩ := insOf_ok r1.toRelS rx qi
          exact ⟨v, .ref (g.G k'), .ref (g.G k'), .ref (g.G k'), true, rfl, .own _, ev ▸ .base (.ins h1 h.ow.cl h.ow.ha h.ow.hn h.ow.ht h.ow.hm), h.self, post_val p1 r1 rfl⟩
        · exact p1.elim
      · exact p1.elim
def fIsB (c : Bool) (x : D) (S : Sto) : R D := match x with
  | .bl b => .ok (.bl (decide (b = c))) S
  | .non => .ok (.bl false) S
  | _ => .bad
def fExtend (x y : D) (S : Sto) : R D := match x with
  | .ref n => match S[n]? with
    | some (.lst xs) => match lstOf S y with
      | some ys => if xs.length + ys.length ≤ LIM then .ok (.ref n) (S.set n (.lst (xs ++ ys))) else .bad
      | none => .bad
    | _ => .bad
  | _ => .bad
theorem fExtend_ok : OpS g W rExt2 fExtend := fun {B O S σd σ H x y v w Q} r hx hy p => by
  unfold fExtend at p
  split at p
  · next n =>
    split at p
    · next xs q =>
      split at p
      · next ys q2 =>
        split at p
        · next hl =>
          obtain ⟨l, ho, rfl⟩ := hx
          obtain ⟨us, h1, h2⟩ := r.ob n _ l q ho
          obtain ⟨l2, ws, rfl, h3, h4⟩ := lstOf_ok r.toRelS hy q2
          exact ⟨l, l2, us, ws, rfl, rfl, h1, h3, by rw [← h2.length, ← h4.length]; exact lim_ok hl, post_write p r ho (oo_lst r.toRelS ho (h2.append h4)) ⟨l, ho, rfl⟩⟩
        · exact p.elim
      · exact p.elim
    · exact p.elim
  · exact p.elim
end
end DL

namespace DL
open PySem PySem.Spec PyProof.Rows L2
theorem each_of {β : Type} {P : Value → β → Prop} {f : β → V} (h : ∀ (b : β) (v : Value), RelV (f b) v → P v b) : ∀ {bs : List β} {us : List Value}, Vals (bs.map f) us → PySem.W.EachIs P us bs
  | [], _, .nil => .nil
  | b :: bs, _, .cons r t => .cons (h b _ r) (each_of h t)
theorem vals_of {β : Type} {f : β → V} : ∀ {bs : List β} {us : List Value}, PySem.W.EachIs (fun v b => RelV (f b) v) us bs → Vals (bs.map f) us
  | [], _, .nil => .nil
  | b :: bs, _, .cons r t => .cons r (vals_of t)
/-- sorted(xs) of data that can be compared -/
def rSortD (K : PySem.W.Frag) : List V → Hp → VK → Prop := fun vs H Q => ∃ (a : Addr) (β : Type) (bs : List β) (f : β → V) (enc : β → PyData), vs = [.ref a] ∧ SqL K H a (bs.map f) ∧ (∀ b ∈ bs, Dp K H (f b) (enc b)) ∧ PySem.W.AllAlike (bs.map enc) ∧ PySem.W.Sortable (bs.map enc) ∧
  (∀ b ∈ bs, (enc b).depth ≤ 8) ∧ ∀ p, H p = none → Q (.ref p) (upd H p (.lst ((bs.mergeSort (PySem.W.dataLe false enc)).map f)))
theorem each_mem {β : Type} {P : Value → β → Prop} {f : β → V} : ∀ {bs : List β} {us : List Value}, (∀ b ∈ bs, ∀ v, RelV (f b) v → P v b) → Vals (bs.map f) us → PySem.W.EachIs P us bs
  | [], _, _, .nil => .nil
  | b :: bs, _, h, .cons r t => .cons (h b (List.mem_cons_self ..) _ r) (each_mem (fun b hb => h b (List.mem_cons_of_mem _ hb)) t)
theorem cr_sortD {X : Cx} (hu : X.A.units + 64 < cLine) : CallR X (.builtin "sorted") (rSortD X.K) := by
  intro pins s σ H vs us Q I r h
  obtain ⟨a, β, bs, f, enc, rfl, hs, hd, hal, hk, hdep, q⟩ := h
  obtain ⟨its, rv, hl, hz⟩ := I.list hs
  obtain ⟨u, rfl, ru⟩ := vals1 r
  obtain rfl : u = Value.ref a := ru
  refine PySem.W.sorted_data (R := fun v b => RelV (f b) v) (enc := enc) (bs := bs) (vs := its) hl.isList (each_of (fun b v h => h) rv) (each_mem (fun b hb v h => Dp.reads I (enc b) (f b) v (hd b hb) h) rv) hal hk (by rw [List.length_map] at hz; exact hz) (fun b hb => by have := hdep b hb; omega) fun out hlen he => ?_
  have hv := vals_of he
  obtain ⟨n, hn⟩ := PyProof.Rows.sortedAll_at s.heap its (List.toArray out)
  refine ⟨.ref (s.heap.objs.size + 1), _, I.laid (t' := s.toks) (o := .lst ((bs.mergeSort (PySem.W.dataLe false enc)).map f)) (fun b o e => PyProof.Rows.sortedAll_old e) (Nat.le_succ _) ⟨?_, out, n, hv, hn⟩, rfl, q _ (I.hok.fresh (Nat.le_succ _))⟩
  rw [List.length_map, List.length_mergeSort]
  rw [List.length_map] at hz
  exact hz
/-- data that can be sorted -/
def SrtOk (xs : List D) : Prop := PySem.W.AllAlike (xs.map toPy) ∧ PySem.W.Sortable (xs.map toPy) ∧ ∀ d ∈ xs, pln 8 d = true
open Classical in
noncomputable def fSorted (ds : List D) (S : Sto) : R (List D) := match ds with
  | [x] => match lstOf S x with
    | some xs => if SrtOk xs then .ok (xs.mergeSort (PySem.W.dataLe false toPy)) S else .bad
    | none => .bad
  | _ => .bad
theorem rds_pairs {c : Ct} {H : Hp} : ∀ {ps : List (D × V)}, (∀ p ∈ ps, RD c H p.1 p.2) → RDs c H (ps.map (·.1)) (ps.map (·.2))
  | [], _ => rfl
  | p :: ps, h => ⟨p.2, _, rfl, h p (List.mem_cons_self ..), rds_pairs fun q hq => h q (List.mem_cons_of_mem _ hq)⟩
theorem rds_zip {c : Ct} {H : Hp} : ∀ {ds : List D} {vs : List V}, RDs c H ds vs → (∀ p ∈ ds.zip vs, RD c H p.1 p.2) ∧ (ds.zip vs).map (·.1) = ds ∧ (ds.zip vs).map (·.2) = vs
  | [], _, h => by cases (show _ = _ from h); exact ⟨nofun, rfl, rfl⟩
  | d :: ds, _, ⟨v, vs', e, r, t⟩ => by
    subst e
    obtain ⟨h1, h2, h3⟩ := rds_zip t
    refine ⟨fun p hp => ?_, ?_, ?_⟩
    · rcases List.mem_cons.mp hp with rfl | hp
      · exact r
      · exact h1 p hp
    · rw [List.zip_cons_cons, List.map_cons, h2]
    · rw [List.zip_cons_cons, List.map_cons, h3]
section
variable {g : Gx} {W : WX} {X : Cx} {e a b : Expr} {es : List Expr} {pos p : Pos} {n : M (List D)}
theorem fSorted_ok {K : PySem.W.Frag} : CallSN g W (rSortD K) fSorted := fun {B O S σd σ H ds vs Q} r h p => by
  unfold fSorted at p
  split at p
  · next x =>
    obtain ⟨v, rfl, hx⟩ := RDs.one_inv h
    split at p
    · next xs q =>
      split at p
      · next ok =>
        obtain ⟨l, us, rfl, h1, h2⟩ := lstOf_ok r.toRelS hx q
        obtain ⟨z1, z2, z3⟩ := rds_zip h2
        obtain ⟨o1, o2, o3⟩ := ok
        have em : (xs.zip us).map (fun q => toPy q.1) = xs.map toPy := by
          have e2 : ((xs.zip us).map (·.1)).map toPy = (xs.zip us).map fun q => toPy q.1 := by rw [List.map_map]; rfl
          rw [← e2, z2]
        have hm : ∀ q ∈ xs.zip us, q.1 ∈ xs := fun q hq => by rw [← z2]; exact List.mem_map_of_mem hq
        refine ⟨l, D × V, xs.zip us, (·.2), fun q => toPy q.1, rfl, by rw [z3]; exact SqL.of h1, fun b hb => dp_of 8 b.1 b.2 (o3 _ (hm b hb)) (z1 b hb), by rw [em]; exact o1, by rw [em]; exact o2, fun b hb => (pln_lay 8 b.1 (o3 _ (hm b hb))).2, ?_⟩
        have es : xs.mergeSort (PySem.W.dataLe false toPy) = ((xs.zip us).mergeSort (PySem.W.dataLe false fun q => toPy q.1)).map (·.1) := by
          rw [List.map_mergeSort (r := PySem.W.dataLe false fun q : D × V => toPy q.1) (s := PySem.W.dataLe false toPy) (f := (·.1)) (l := xs.zip us) (fun _ _ _ _ => rfl), z2]
        rw [es] at p
        exact postN_new p r (rds_pairs fun q hq => z1 q (List.mem_mergeSort.mp hq))
      · exact p.elim
    · exact p.elim
  · exact p.elim
theorem sn_sorted {k : Nat} (hr : Room k X.A) (hg : Gl X "sorted") (hm : X.mg "sorted" = none) (ha : PA X (e :: es) (rdA g W n)) (he : starEach (e :: es) X.env = (false, eval e X.env) :: starEach es X.env := by rfl) (hpl : (backTo pos (starEach es X.env)).any (·.1) = false := by rfl) :
    PE X (.Call (.Name "sorted" p) (e :: es) [] pos) (rdN g W (mApp fSorted n)) := PE.imp (pe_callB (cr_sortD hr.units) hg hm (by decide +kernel) ha (by decide) (by decide) he hpl) (appN_imp fSorted_ok)
def rLtD (K : PySem.W.Frag) : R2 := fun x y H Q => ∃ d e, Dp K H x d ∧ Dp K H y e ∧ PySem.W.alike d e = true ∧ d ≠ .none ∧ d.depth ≤ 8 ∧ e.depth ≤ 8 ∧ Q (.bl (PySem.W.dataLt d e)) H
theorem op_ltD (hu : X.A.units + 64 < cLine) : OpR X (compareOp .Lt) (rLtD X.K) := by
  intro pins s σ H x y v u Q I rx ry h
  obtain ⟨d, e, hd, he, al, nn, d8, e8, q⟩ := h
  obtain ⟨as, r1⟩ := Dp.reads I d x v hd rx
  obtain ⟨bs, r2⟩ := Dp.reads I e y u he ry
  exact PySem.W.rcLt_alike d e X.A s v u as bs r1 r2 al nn (by omega) X.prog X.w _ _ ⟨.bl _, H, I, rfl, q⟩
def isTup : D → Bool | .tup _ => true | _ => false
open Classical in
/-- < of ints or of tuples of data -/
noncomputable def fLt (x y : D) (S : Sto) : R D := match x with
  | .int i => match y with
    | .int j => .ok (.bl (decide (i < j))) S
    | _ => .bad
  | .tup xs => if pln 8 (.tup xs) = true ∧ pln 8 y = true ∧ PySem.W.alike (toPy (.tup xs)) (toPy y) = true then .ok (.bl (PySem.W.dataLt (toPy (.tup xs)) (toPy y))) S else .bad
  | _ => .bad
theorem fLt_ok {K : PySem.W.Frag} : OpS g W (fun x y H Q => (rI0 fun i j => V.bl (decide (i < j))) x y H Q ∨ rLtD K x y H Q) fLt := fun {B O S σd σ H x y v w Q} r hx hy p => by
  unfold fLt at p
  split at p
  · split at p
    · cases (show _ = _ from hx)
      cases (show _ = _ from hy)
      exact .inl ⟨_, _, rfl, rfl, post_val p r rfl⟩
    · exact p.elim
  · split at p
    · next h => exact .inr ⟨_, _, dp_of 8 _ v h.1 hx, dp_of 8 _ w h.2.1 hy, h.2.2, nofun, (pln_lay 8 _ h.1).2, (pln_lay 8 _ h.2.1).2, post_val p r rfl⟩
    · exact p.elim
  · exact p.elim
theorem sc_ltD {k : Nat} (hr : Room k X.A) : CmpS g W X .Lt fLt := ⟨_, op_lt.or (op_ltD hr.units), fLt_ok⟩
theorem isB_ok {c : Ct} {H : Hp} {x : D} {v : V} {k b : Bool} (h : RD c H x v) (e : fIsB k x [] = .ok (.bl b) []) : decide (v = .bl k) = b := by
  cases x with
  | bl y =>
    cases (show _ = _ from h)
    have : decide (y = k) = b := by
      unfold fIsB at e
      injection e with e
      injection e
    rw [← this]
    simp
  | non =>
    cases (show _ = _ from h)
    have : false = b := by
      unfold fIsB at e
      injection e with e
      injection e
    rw [← this]
    rfl
  | _ => cases e
end
end DL

namespace HT
open PySem PyProof.Rows
section
variable {prog : Program} {w : World} {A : Around} {E : Value → Shared → Prop} {s : Shared}
theorem adjust_rev (n : Nat) : Builtin.Slice.sliceAdjust none none (-1) (n : Int) = ((n : Int) - 1, -1) := rfl
theorem places_rev (n : Nat) : Builtin.Slice.slicePlaces ((n : Int) - 1) (-1) (-1) = n := by
  unfold Builtin.Slice.slicePlaces
  have h1 : ¬ ((-1 : Int) > 0) := by omega
  simp only [h1, if_false]
  by_cases h : (n : Int) - 1 > -1
  · simp only [h, if_true]
    rw [show (- -1 : Int) = 1 by decide, Int.ediv_one]
    omega
  · simp only [h, if_false]
    omega
theorem sliceApplied_rev {sl : Addr} {vl vu vs : Value} {n : Nat} {Q : Int × Int × Nat → Shared → Prop} (hs : s.heap.IsSliceOf sl vl vu vs) (pl : IsPart vl none) (pu : IsPart vu none) (ps : IsPart vs (some (-1)))
    (h : Q ((n : Int) - 1, -1, n) s) : wpAny (model prog w) A (Builtin.Slice.sliceApplied (.ref sl) (pure (n : Int))) Q E s := by
  obtain ⟨os, hos, hcs, hds⟩ := id hs
  unfold Builtin.Slice.sliceApplied Builtin.Slice.sliceFields
  refine wpAny_bind (wpAny_bind (wpAny_field hos hds (x := vl) rfl (wpAny_bind (wpAny_field hos hds (x := vu) rfl (wpAny_bind (wpAny_field hos hds (x := vs) rfl (wpAny_pure ?_)))))))
  refine wpAny_bind (slicePart_ ps ?_)
  show wpAny _ _ (if ((-1 : Int) == 0) = true then _ else _) _ _ s
  rw [if_neg (by decide)]
  refine wpAny_bind (slicePart_ pl (wpAny_bind (slicePart_ pu (wpAny_bind (wpAny_pure ?_)))))
  show wpAny _ _ (match Builtin.Slice.sliceAdjust none none (-1) (n : Int) with | (lo, hi) => pure (lo, (-1 : Int), Builtin.Slice.slicePlaces lo hi (-1))) _ _ s
  rw [adjust_rev n]
  show wpAny _ _ (pure ((n : Int) - 1, (-1 : Int), Builtin.Slice.slicePlaces ((n : Int) - 1) (-1) (-1))) _ _ s
  rw [places_rev]
  exact wpAny_pure h
theorem fm_congr {α β : Type} {f g : α → Option β} : ∀ {l : List α}, (∀ a ∈ l, f a = g a) → l.filterMap f = l.filterMap g
  | [], _ => rfl
  | x :: l, h => by
    rw [List.filterMap_cons, List.filterMap_cons, h x (List.mem_cons_self ..), fm_congr fun a ha => h a (List.mem_cons_of_mem _ ha)]
theorem pick_rev (xs : Array Value) : ((List.range xs.size).filterMap fun (m : Nat) => xs[(((xs.size : Int) - 1) + (m : Int) * (-1)).toNat]?).toArray = xs.toList.reverse.toArray := by
  congr 1
  have e : ((List.range xs.size).filterMap fun (m : Nat) => xs[(((xs.size : Int) - 1) + (m : Int) * (-1)).toNat]?) = ((List.range xs.size).map fun k => xs.size - 1 - k).filterMap (xs[·]?) := by
    rw [List.filterMap_map]
    refine fm_congr fun m hm => ?_
    have := List.mem_range.mp hm
    show xs[(((xs.size : Int) - 1) + (m : Int) * (-1)).toNat]? = xs[xs.size - 1 - m]?
    rw [show (((xs.size : Int) - 1) + (m : Int) * (-1)).toNat = xs.size - 1 - m by omega]
  rw [e, PySem.W.krv_range, List.filterMap_reverse, PySem.W.krv_all]
theorem getItem_tuple_rev {t sl : Addr} {items : Array Value} {vl vu vs : Value} {Q : Value → Shared → Prop} (ht : IsTup s.heap t items) (hs : s.heap.IsSliceOf sl vl vu vs) (pl : IsPart vl none) (pu : IsPart vu none) (ps : IsPart vs (some (-1)))
    (h : Q (.ref s.heap.objs.size) { s with heap := s.heap.push { cls := .type "tuple", data := .seq items.toList.reverse.toArray } })
    (hsz : items.size ≤ sizeLine) : wpAny (model prog w) A (getItem (.ref t) (.ref sl)) Q E s := by
  have htake : sizeOk (.seq items.toList.reverse.toArray) := by
    show items.toList.reverse.toArray.size ≤ sizeLine
    rw [List.size_toArray, List.length_reverse, Array.length_toList]
    exact hsz
  obtain ⟨os, hos, hcs, hds⟩ := id hs
  have hTs : s.TypeIs (.ref sl) "slice" := ⟨os, hos, hcs⟩
  unfold getItem
  try with_reducible refine wpAny_holding ?_
  first | refine wpAny_bind (wpAny_pure ?_) | skip
  refine wpAny_bind (wpAny_sequenceKey ht.typeIs (by decide) ?_)
  refine wpAny_bind (wpAny_callSpecial?_slot (name := Str.ofString "__getitem__") ht.typeIs PyProof.Rows.slot_tuple_getitem
    (wpAny_call_entry PyProof.Rows.slot_tuple_getitem ht.typeIs entry_tuple_getitem ?_ (args_tuple_getitem _ _)))
  show wpAny _ _ (Builtin.Tuple.tupleItemsOf (.ref t) >>= _) _ _ s
  refine wpAny_bind (tupleItemsOf_ ht ?_)
  refine wpAny_bind (wpAny_typeOf hTs ?_)
  rw [if_pos (by decide)]
  refine wpAny_bind (sliceApplied_rev hs pl pu ps ?_)
  have hno : ¬ ((((items.size : Int) - 1) == 0 && (-1 : Int) == 1 && items.size == items.size) = true) := by
    intro q
    rw [Bool.and_eq_true, Bool.and_eq_true] at q
    exact absurd (eq_of_beq q.1.2) (by decide)
  show wpAny _ _ (if (((items.size : Int) - 1) == 0 && (-1 : Int) == 1 && items.size == items.size) = true then _ else _) _ _ s
  rw [if_neg hno, pick_rev]
  first
    | exact wpAny_bind (m := Builtin.Tuple.tupleExact _) (wpAny_newObj_type (wpAny_pure ⟨_, rfl, wpAny_pure h⟩) htake)
    | exact wpAny_bind (m := Builtin.Tuple.tupleExact _) (wpAny_newObj_type (wpAny_bind (wpAny_pure (wpAny_pure ⟨_, rfl, wpAny_pure h⟩))) htake)
    | exact wpAny_bind (wpAny_bind (m := Builtin.Tuple.tupleExact _) (wpAny_newObj_type (wpAny_pure (wpAny_pure ⟨_, rfl, wpAny_pure h⟩)) htake))
    | exact wpAny_bind (wpAny_bind (m := Builtin.Tuple.tupleExact _) (wpAny_newObj_type (wpAny_pure ⟨_, rfl, wpAny_pure h⟩) htake))
end
end HT
namespace DL
open PySem PySem.Spec PyProof.Rows L2
section
variable {g : Gx} {W : WX} {X : Cx} {e a b : Expr} {pos : Pos}
def tRevT (K : PySem.W.Frag) (te : TE) : TE := fun σ H Q => te σ H fun x H1 => ∃ a xs, x = .ref a ∧ SqT K H1 a xs ∧ NewT xs.reverse H1 Q
theorem pe_revT {e : Expr} {te : TE} {k : Nat} {p1 p2 p3 pos : Pos} (he : PE X e te) : PE X (.Subscript e (.Slice none none (some (.UnaryOp .USub (.Constant (.int 1) k p1) p2)) p3) pos) (tRevT X.K te) := by
  refine ⟨fun pins s σ H Q I h => ?_⟩
  refine Subscript_ (thn (he.run pins s σ H _ I h) fun v s1 ⟨x, H1, I1, r1, q1⟩ => ?_)
  obtain ⟨a, xs, ex, hx, q⟩ := q1
  subst ex
  cases r1
  have hst : PO X (some (.UnaryOp .USub (.Constant (.int 1) k p1) p2)) (tPart (tUn (rU fun i => .int (-i)) (tC (.int 1)))) := po_some (pe_un un_neg pe_int)
  refine wpAny_Slice (thn (po_none.run pins s1 σ H1 (fun o H2 => o = none ∧ H2 = H1) I1 ⟨rfl, rfl⟩) fun vl s2 ⟨l, H2, I2, pl, el, e2⟩ => ?_)
  subst el e2
  refine thn (po_none.run pins s2 σ H2 (fun o H3 => o = none ∧ H3 = H2) I2 ⟨rfl, rfl⟩) fun vu s3 ⟨u, H3, I3, pu, eu, e3⟩ => ?_
  subst eu e3
  refine thn (hst.run pins s3 σ H3 (fun o H4 => o = some (-1) ∧ H4 = H3) I3 ⟨1, rfl, -1, rfl, rfl, rfl⟩) fun vs s4 ⟨o, H4, I4, ps, eo, e4⟩ => ?_
  subst eo e4
  have I5 : Inv X pins σ H4 { s4 with heap := s4.heap.push { cls := .type "slice", data := .fields #[vl, vu, vs] } } := I4.kept (t' := s4.toks) fun b ob q => Heap.get?_push_of_some _ q
  obtain ⟨its, r, ht, hz⟩ := I5.tuple hx
  have hlen := r.length
  show wpAny (model X.prog X.w) X.A (subscriptTail e (.Slice none none (some (.UnaryOp .USub (.Constant (.int 1) k p1) p2)) p3) (.ref a) (.ref s4.heap.objs.size)) (EP X pins σ Q) X.xe { s4 with heap := s4.heap.push { cls := .type "slice", data := .fields #[vl, vu, vs] } }
  refine tail_any (ops := [.ref a, .ref s4.heap.objs.size]) ht.typeIs (PyProof.Rows.slot_tuple_getitem.lookup) ?_ (by with_unfolding_all rfl)
  refine HT.getItem_tuple_rev ht (Heap.IsSliceOf.new _ vl vu vs) pl pu ps ?_ (by rw [List.size_toArray]; omega)
  exact endT I5 r.reverse (by rw [List.length_reverse]; exact hz) q
def fRev (x : D) (S : Sto) : R D := match x with
  | .tup ds => .ok (.tup ds.reverse) S
  | _ => .bad
theorem RDs.reverse {c : Ct} {H : Hp} : ∀ {ds : List D} {vs : List V}, RDs c H ds vs → RDs c H ds.reverse vs.reverse
  | [], _, h => by cases (show _ = _ from h); exact rfl
  | d :: ds, _, ⟨v, vs', e, r, t⟩ => by
    subst e
    rw [List.reverse_cons, List.reverse_cons]
    exact RDs.append (RDs.reverse t) ⟨v, [], rfl, r, rfl⟩
theorem se_back {k : Nat} {p1 p2 p3 : Pos} {m : M D} (he : PE X e (rdE g W m)) : PE X (.Subscript e (.Slice none none (some (.UnaryOp .USub (.Constant (.int 1) k p1) p2)) p3) pos) (rdE g W (mUn fRev m)) :=
  PE.imp (pe_revT he) fun σ H Q ⟨B, O, S, σd, rel, p⟩ => rdG_mono (rd_then (rel := RD) rel p) fun v H1 ⟨x, O1, S1, r1, rx, st1, p1⟩ => by
    cases x with
    | tup ds =>
      obtain ⟨a, vs, rfl, ht, h1, h2⟩ := id rx
      exact ⟨a, vs, rfl, h1.sq, post_newT p1 r1 h2.reverse⟩
    | _ => exact p1.elim
end
end DL

namespace DL
open PySem PySem.Spec PyProof.Rows L2
section
variable {prog : Program} {w : World} {A : Around} {E : Value → Shared → Prop} {s : Shared} {K : PySem.W.Frag} {x C f : Addr} {ox : Obj} {od : Option Obj}
theorem len_K {Q : Value → Shared → Prop} (X : K.In s.heap) (I : PySem.W.InstAt s.heap x ox C od) (hs : PySem.W.findIn K (.ref C) "__len__" = some (some (.ref f))) (hf : PySem.W.isFn K (.ref f) = true)
    (h : wpAny (model prog w) A.in1 (call (.ref f) [.ref x]) (fun r s' => ∃ n u, r = .int n u ∧ 0 ≤ n ∧ n < 2 ^ 63 ∧ Q (.int n s'.toks) { s' with toks := s'.toks + 1 }) E s) :
    wpAny (model prog w) A (call (.builtin "len") [.ref x]) Q E s := by
  refine Calls.call_function_entry kind_len plain_len entry_len (args_len1 _) ?_
  unfold Builtin.«len»
  refine wpAny_bind (m := oneArg "len" _) (wpAny_pure ?_)
  refine wpAny_bind (m := callSpecial? (.ref x) (Str.ofString "__len__")) (PySem.W.special_fn X I hs (beq_iff_eq.mp hf) (wpAny_mono h (fun r s' hr => ?_) fun _ _ y => y))
  obtain ⟨n, u, rfl, h0, h1, hq⟩ := hr
  refine wpAny_bind (wpAny_holding (wpAny_pure ?_))
  refine wpAny_bind (wpAny_letGo ?_)
  show wpAny _ _ (if n < 0 then _ else _) _ _ _
  rw [if_neg (by omega)]
  show wpAny _ _ (if n ≥ 2 ^ 63 then _ else _) _ _ _
  rw [if_neg (by omega)]
  exact wpAny_bind (wpAny_mkInt (wpAny_pure ⟨_, rfl, hq⟩))
end
section
variable {X : Cx} {C f : Addr} {fd : FuncData} {ps : List Str} {sp : Sp} {n : Nat}
def rLenO (C : Addr) (sp : Sp) : List V → Hp → VK → Prop := fun xs H Q => ∃ a dx fs, xs = [.ref a] ∧ H a = some (.ins C dx fs) ∧ sp [.ref a] H (fun v H' => ∃ n : Int, v = .int n ∧ 0 ≤ n ∧ n < 2 ^ 63 ∧ Q v H') (fun _ _ _ => False)
theorem cr_lenO (F : FnOk X.prog X.w X.K X.mg X.base (L2.CX X.prog X.w) n f fd ps sp) (hs : PySem.W.findIn X.K (.ref C) "__len__" = some (some (.ref f))) (hf : PySem.W.isFn X.K (.ref f) = true) (hb : Binds X.K fd ps []) (hr : Room (n + 1) X.A) : CallR X (.builtin "len") (rLenO C sp) := by
  intro pins s σ H xs us Q I r h
  obtain ⟨a, dx, fs, rfl, ha, q⟩ := h
  obtain ⟨u, rfl, rx⟩ := vals1 r
  cases rx
  obtain ⟨mA, J, _⟩ := ins_get I.hok ha
  obtain ⟨od, J, _⟩ := J.look
  refine len_K I.kIn J hs hf ?_
  have hl := F.len _ _ _ _ q
  have r2 : Vals [V.ref a] [Value.ref a] := .cons rfl .nil
  refine wpAny_call (codeAny_mono (F.run X.A.in1 X.stack s H ⟨[.ref a], []⟩ [.ref a] [.ref a] _ _ hr.in1 I.env0.in1 (by
    have := hb s [.ref a] I.kIn (by simpa using hl)
    simpa using this) r2 q) fun r s' hq => ?_)
  cases r with
  | error e => exact (cx_false hq).elim
  | ok fl =>
    cases fl with
    | ret w =>
      obtain ⟨z, H', I', rz, m, ez, h0, h1, qq⟩ := I.after hq
      subst ez
      obtain ⟨t, e⟩ := (show ∃ t, w = Value.int m t from rz)
      subst e
      exact ⟨m, t, rfl, h0, h1, .int m, H', I'.tok _, ⟨_, rfl⟩, qq⟩
    | next => exact False.elim hq
    | brk => exact False.elim hq
    | cont => exact False.elim hq
/-- x == y, x an instance of the class at C whose own == is at f -/
def rEqO (K : PySem.W.Frag) (C : Addr) (sp : Sp) : R2 := fun x y H Q => ∃ a dx fs, x = .ref a ∧ H a = some (.ins C dx fs) ∧ ((∃ b dy gs, y = .ref b ∧ H b = some (.ins C dy gs)) ∨ ∃ t, TyX K H y (.type t) ∧ PySem.W.notFirst K C (.type t) = true) ∧
  sp [x, y] H (fun v H' => ∃ b, v = .bl b ∧ Q v H') (fun _ _ _ => False)
variable {g : Gx} {W : WX} {e : Expr} {es : List Expr} {p pos : Pos}
def fLenO (k : Nat) (fn : List D → Sto → R D) (ds : List D) (S : Sto) : R D := match ds with
  | [x] => match insOf S x with
    | some (k', _, _) => if k' = k then match fn [x] S with
        | .ok d S' => match d with
          | .int n => if 0 ≤ n ∧ n < 2 ^ 62 then .ok (.int n) S' else .bad
          | _ => .bad
        | _ => .bad
      else .bad
    | none => .bad
  | _ => .bad
theorem fLenO_ok {k : Nat} {fn : List D → Sto → R D} : CallS g W (rLenO (g.G k) (spD g fn)) (fLenO k fn) := fun {B O S σd σ H ds vs Q} r h p => by
  unfold fLenO at p
  split at p
  · next x =>
    split at p
    · next k' ns ds' qi =>
      split at p
      · next ek =>
        subst ek
        obtain ⟨v, rfl, rx⟩ := RDs.one_inv h
        obtain ⟨a, dx, vs, ev, h1, l, h2⟩ := insOf_ok r.toRelS rx qi
        refine ⟨a, dx, _, by rw [ev], h1, B, O, S, [x], r.toRelS, by rw [← ev]; exact RDs.one rx, ?_⟩
        revert p
        cases fn [x] S with
        | ok d S' =>
          cases d with
          | int n =>
            intro p
            simp only at p
            split at p
            · next hn => exact fun v O' H' h1 h2 h3 => ⟨n, h2, hn.1, by omega, p v O' H' (r.step h3 h1) h2 h3⟩
            · exact p.elim
          | _ => exact fun p => p.elim
        | exc k ns es S' => exact fun p => p.elim
        | bad => exact fun p => p.elim
      · exact p.elim
    · exact p.elim
  · exact p.elim
theorem se_lenO {k j : Nat} {f : Addr} {fd : FuncData} {ps : List Str} {fn : List D → Sto → R D} {n : M (List D)} (hk : X.K = g.K) (F : FnOk X.prog X.w X.K X.mg X.base (L2.CX X.prog X.w) j f fd ps (spD g fn)) (hr : Room (j + 1) X.A) (hb : Binds X.K fd ps [])
    (hs : PySem.W.findIn g.K (.ref (g.G k)) "__len__" = some (some (.ref f))) (hf : PySem.W.isFn g.K (.ref f) = true) (hg : Gl X "len") (hm : X.mg "len" = none) (ha : PA X (e :: es) (rdA g W n))
    (he : starEach (e :: es) X.env = (false, eval e X.env) :: starEach es X.env := by rfl) (hpl : (backTo pos (starEach es X.env)).any (·.1) = false := by rfl) :
    PE X (.Call (.Name "len" p) (e :: es) [] pos) (rdE g W (mApp (fLenO k fn) n)) :=
  PE.imp (pe_callB (cr_lenO F (by rw [hk]; exact hs) (by rw [hk]; exact hf) hb hr) hg hm (by decide +kernel) ha (by decide) (by decide) he hpl) (app_imp fLenO_ok)
end
end DL

namespace DL
open PySem PySem.Spec PyProof.Rows L2
open Classical in
noncomputable def comp2L (S0 : Sto) (src : List Nat) (pair : Bool) (t : Tgt) (wσ : Sl) (c : M Bool) (mi1 : M Its) (t1 : Tgt) (vs1 : List Nat) (c1 : M Bool) (e : M D) : List D → List D → Sto → R (List D)
  | [], acc, S => if Gd S0 src S then .ok acc S else .bad
  | d :: ds, acc, S => if Gd S0 src S then match t.st pair d with
      | some xs => match c (setAll wσ t.slots xs) S with
        | .ok b S1 => if b = true then match mi1 (setAll wσ t.slots xs) S1 with
            | .ok it1 S2 => match compL S2 it1.src it1.pair t1 (wipeD (setAll wσ t.slots xs) vs1) c1 e it1.items acc S2 with
              | .ok acc' S3 => comp2L S0 src pair t wσ c mi1 t1 vs1 c1 e ds acc' S3
              | _ => .bad
            | _ => .bad
          else comp2L S0 src pair t wσ c mi1 t1 vs1 c1 e ds acc S1
        | _ => .bad
      | none => .bad
    else .bad
noncomputable def mComp2 (m : M Its) (t : Tgt) (vs : List Nat) (c : M Bool) (mi1 : M Its) (t1 : Tgt) (vs1 : List Nat) (c1 : M Bool) (e : M D) : M (List D) := mB m fun it => fun σd S => comp2L S it.src it.pair t (wipeD σd vs) c mi1 t1 vs1 c1 e it.items [] S
theorem comp2L_ne {S0 : Sto} {src : List Nat} {pair : Bool} {t : Tgt} {wσ : Sl} {c : M Bool} {mi1 : M Its} {t1 : Tgt} {vs1 : List Nat} {c1 : M Bool} {e : M D} {k : Nat} {ns : List Str} {es : List D} {S' : Sto} : ∀ (ds acc : List D) (S : Sto), comp2L S0 src pair t wσ c mi1 t1 vs1 c1 e ds acc S ≠ .exc k ns es S'
  | [], acc, S => by
    unfold comp2L
    split <;> (intro h; cases h)
  | d :: ds, acc, S => by
    unfold comp2L
    split
    · split
      · split
        · split
          · split
            · split
              · exact comp2L_ne ds _ _
              · intro h; cases h
            · intro h; cases h
          · exact comp2L_ne ds _ _
        · intro h; cases h
      · intro h; cases h
    · intro h; cases h
section
variable {g : Gx} {W : WX} {X : Cx} {elt tg iter tg1 iter1 : Expr} {ifs ifs1 : List Expr} {scope : Scope} {own : List (Str × Nat)} {pos : Pos}
/-- the second clause's loop -/
theorem lc2_in {B O1 : List Addr} {z : Addr} {σ2 : L2.St} {σd2 : Sl} {H2 : Hp} {vs1 : List Nat} {t1 : Tgt} {mi1 : M Its} {mc1 : M Bool} {me : M D} {PQ : R (List D) → Prop} {Nx : Hp → Prop} (hsub1 : ∀ i ∈ t1.slots, i ∈ vs1) (hbad : PQ .bad → False) (hz : H2 z = none)
    (hnx : ∀ O3 S3 acc accV H, Rel ⟨g.K, g.G, z :: B, O3⟩ S3 σd2 σ2 H → Mv ⟨g.K, g.G, B, O1⟩ ⟨g.K, g.G, z :: B, O3⟩ H2 H → Step O1 H2 O3 H → H z = some (.lst accV) → RDs ⟨g.K, g.G, z :: B, O3⟩ H acc accV → PQ (.ok acc S3) → Nx H)
    {O3 : List Addr} {S3 : Sto} {acc : List D} {accV : List V} {H3 : Hp} (r3 : Rel ⟨g.K, g.G, z :: B, O3⟩ S3 σd2 σ2 H3) (mv3 : Mv ⟨g.K, g.G, B, O1⟩ ⟨g.K, g.G, z :: B, O3⟩ H2 H3) (st3 : Step O1 H2 O3 H3) (hD3 : H3 z = some (.lst accV)) (rd3 : RDs ⟨g.K, g.G, z :: B, O3⟩ H3 acc accV)
    (p : match mi1 σd2 S3 with
      | .ok it1 S4 => PQ (compL S4 it1.src it1.pair t1 (wipeD σd2 vs1) mc1 me it1.items acc S4)
      | _ => False) :
    rdI g W0 mi1 σ2 H3 fun J1 H4 => ∃ W1 : Nat → Nat → Hp → Prop, (∃ m, W1 0 m H4) ∧ ∀ j k H, W1 j k H →
      (J1.stop j H ∧ Nx H) ∨ (J1.go j H ∧ ∃ Nx1 : Hp → Prop, (∀ H', Nx1 H' → ∃ k', k' < k ∧ W1 (j + 1) k' H') ∧ ∀ x H', J1.yld j H x H' → t1.g X.K x (L2.wipe σ2 vs1) H' fun σ3 H5 => L2.wipe σ3 vs1 = L2.wipe σ2 vs1 ∧ rdT g W0 mc1 σ3 H5 fun b H6 =>
        if b = true then rdE g W0 me σ3 H6 fun y H7 => ∃ acc, H7 z = some (.lst acc) ∧ acc.length < sizeLine ∧ Nx1 (upd H7 z (.lst (acc ++ [y]))) else Nx1 H6) := by
  refine ⟨z :: B, O3, S3, σd2, r3, ?_⟩
  revert p
  cases mi1 σd2 S3 with
  | exc k ns ds S4 => exact fun p => p.elim
  | bad => exact fun p => p.elim
  | ok it S4 =>
    intro p J O4 H4 a1 iok a3
    simp only at p
    have nD3 : z ∉ O3 := fun y => r3.nb z y (List.mem_cons_self ..)
    have mv4 : Mv ⟨g.K, g.G, B, O1⟩ ⟨g.K, g.G, z :: B, O4⟩ H2 H4 := mv3.trans (Step.mv (c := ⟨g.K, g.G, z :: B, O3⟩) a3)
    refine ⟨fun i k H => k = it.items.length - i ∧ i ≤ it.items.length ∧ ∃ O5 S5 acc accV, Rel ⟨g.K, g.G, z :: B, O5⟩ S5 σd2 σ2 H ∧ Mv ⟨g.K, g.G, z :: B, O4⟩ ⟨g.K, g.G, z :: B, O5⟩ H4 H ∧ Mv ⟨g.K, g.G, B, O1⟩ ⟨g.K, g.G, z :: B, O5⟩ H2 H ∧ Step O1 H2 O5 H ∧ H z = some (.lst accV) ∧ RDs ⟨g.K, g.G, z :: B, O5⟩ H acc accV ∧
        PQ (compL S4 it.src it.pair t1 (wipeD σd2 vs1) mc1 me (it.items.drop i) acc S5),
      ⟨it.items.length, rfl, Nat.zero_le _, O4, S4, acc, accV, a1, Mv.refl _ _, mv4, st3.trans a3, (a3.kp z _ nD3 hD3).1, RDs.step (c := ⟨g.K, g.G, z :: B, O3⟩) a3 acc accV rd3, p⟩, fun i k H5 hw => ?_⟩
    obtain ⟨rfl, hle, O5, S5, acc, accV, r5, mvi, mv5, st5, hD5, rd5, pp5⟩ := hw
    have hDB : z ∈ (⟨g.K, g.G, z :: B, O5⟩ : Ct).B := List.mem_cons_self ..
    by_cases hlt : i < it.items.length
    · rw [List.drop_eq_getElem_cons hlt] at pp5
      unfold compL at pp5
      split at pp5
      · next gd =>
        obtain ⟨hgo, hy⟩ := iok.go _ S5 H5 r5.toRelS mvi gd i hlt
        refine .inr ⟨hgo, fun H => i + 1 ≤ it.items.length ∧ ∃ O5 S5 acc accV, Rel ⟨g.K, g.G, z :: B, O5⟩ S5 σd2 σ2 H ∧ Mv ⟨g.K, g.G, z :: B, O4⟩ ⟨g.K, g.G, z :: B, O5⟩ H4 H ∧ Mv ⟨g.K, g.G, B, O1⟩ ⟨g.K, g.G, z :: B, O5⟩ H2 H ∧ Step O1 H2 O5 H ∧ H z = some (.lst accV) ∧ RDs ⟨g.K, g.G, z :: B, O5⟩ H acc accV ∧
            PQ (compL S4 it.src it.pair t1 (wipeD σd2 vs1) mc1 me (it.items.drop (i + 1)) acc S5),
          fun H' q => ⟨it.items.length - (i + 1), by omega, rfl, q.1, q.2⟩, fun x H' y => ?_⟩
        obtain ⟨d, ed, yd⟩ := hy x H' y
        have edd : d = it.items[i] := Option.some.inj (ed.symm.trans (List.getElem?_eq_getElem hlt))
        subst edd
        split at pp5
        · next xs ex =>
          obtain ⟨ws, h1, h2, h3, h4⟩ := yd_ok (K := X.K) (Q := fun σ3 H5 => L2.wipe σ3 vs1 = L2.wipe σ2 vs1 ∧ rdT g W0 mc1 σ3 H5 _) (Rel.wipe r5 vs1) yd ex
          refine h4 (L2.wipe σ2 vs1) ⟨wipe_set hsub1, z :: B, O5, S5, _, Rel.setAll t1.slots h2 h1, ?_⟩
          have r5' : Rel ⟨g.K, g.G, z :: B, O5⟩ S5 σd2 σ2 H' := Rel.step (c := ⟨g.K, g.G, z :: B, O5⟩) (O' := O5) r5 h3 h2.toRelS
          have carry : ∀ {O6 S6 H6 σd6 σ6}, Rel ⟨g.K, g.G, z :: B, O6⟩ S6 σd6 σ6 H6 → Step O5 H' O6 H6 → Rel ⟨g.K, g.G, z :: B, O6⟩ S6 σd2 σ2 H6 ∧ Mv ⟨g.K, g.G, z :: B, O4⟩ ⟨g.K, g.G, z :: B, O6⟩ H4 H6 ∧ Mv ⟨g.K, g.G, B, O1⟩ ⟨g.K, g.G, z :: B, O6⟩ H2 H6 ∧ Step O1 H2 O6 H6 ∧ H6 z = some (.lst accV) ∧ RDs ⟨g.K, g.G, z :: B, O6⟩ H6 acc accV := fun {O6 S6 H6 σd6 σ6} q1 q2 => by
            have q3 : Step O5 H5 O6 H6 := Step.trans (show Step O5 H5 O5 H' from h3) q2
            have nD : z ∉ O5 := fun y => r5.nb z y hDB
            exact ⟨Rel.step (c := ⟨g.K, g.G, z :: B, O5⟩) r5' q2 q1.toRelS, mvi.trans (Step.mv (c := ⟨g.K, g.G, z :: B, O5⟩) q3), mv5.trans (Step.mv (c := ⟨g.K, g.G, z :: B, O5⟩) q3), st5.trans q3, (q3.kp z _ nD hD5).1, RDs.step (c := ⟨g.K, g.G, z :: B, O5⟩) q3 acc accV rd5⟩
          revert pp5
          cases mc1 (setAll (wipeD σd2 vs1) t1.slots xs) S5 with
          | exc k ns ds S4 => exact fun pp5 => (hbad pp5).elim
          | bad => exact fun pp5 => (hbad pp5).elim
          | ok b S6 =>
            intro pp5 v O6 H6 q1 q2 q3
            have ev : b = v := q2
            subst ev
            simp only at pp5
            cases b with
            | false =>
              obtain ⟨c1, c2, c3, c4, c5, c6⟩ := carry q1 q3
              exact ⟨hlt, O6, S6, acc, accV, c1, c2, c3, c4, c5, c6, pp5⟩
            | true =>
              refine ⟨z :: B, O6, S6, _, q1, ?_⟩
              revert pp5
              simp only [if_true]
              cases me (setAll (wipeD σd2 vs1) t1.slots xs) S6 with
              | exc k ns ds S5 => exact fun pp5 => (hbad pp5).elim
              | bad => exact fun pp5 => (hbad pp5).elim
              | ok y S7 =>
                intro pp5 u O7 H7 q4 q5 q6
                simp only at pp5
                split at pp5
                · next hl =>
                  obtain ⟨c1, c2, c3, c4, c5, c6⟩ := carry q4 (q3.trans q6)
                  have hDB7 : z ∈ (⟨g.K, g.G, z :: B, O7⟩ : Ct).B := List.mem_cons_self ..
                  refine ⟨accV, c5, by rw [← c6.length]; exact lim_lt hl, hlt, O7, S7, acc ++ [y], accV ++ [u], c1.pwrite hDB7, c2.trans (mv_pwrite hDB7), c3.trans (mv_pwrite hDB7), c4.pwrite hz, upd_same, RDs.mv (mv_pwrite hDB7) _ _ (c6.append (RDs.one q5)), pp5⟩
                · exact (hbad pp5).elim
        · exact (hbad pp5).elim
      · exact (hbad pp5).elim
    · have ei : i = it.items.length := by omega
      subst ei
      rw [List.drop_length] at pp5
      unfold compL at pp5
      split at pp5
      · next gd => exact .inl ⟨iok.stop _ S5 H5 r5.toRelS mvi gd, hnx O5 S5 acc accV H5 r5 mv5 st5 hD5 rd5 pp5⟩
      · exact (hbad pp5).elim
theorem lc2_imp {mi : M Its} {t : Tgt} {vs : List Nat} {mc : M Bool} {mi1 : M Its} {t1 : Tgt} {vs1 : List Nat} {mc1 : M Bool} {me : M D} (hsub : ∀ i ∈ t.slots, i ∈ vs) (hsub1 : ∀ i ∈ t1.slots, i ∈ vs1) (σ : L2.St) (H : Hp) (Q : VK) (h : rdN g W (mComp2 mi t vs mc mi1 t1 vs1 mc1 me) σ H Q) :
    tLc2 (rdI g W mi) (t.g X.K) (rdT g W0 mc) (rdI g W0 mi1) (t1.g X.K) (rdT g W0 mc1) (rdE g W0 me) vs vs1 σ H Q := by
  obtain ⟨B, O, S, σd, r, p⟩ := h
  have main : rdI g W mi σ H fun J H1 => ∃ it O1 S1, Rel ⟨g.K, g.G, B, O1⟩ S1 σd σ H1 ∧ ItOk ⟨g.K, g.G, B, O1⟩ S1 H1 it J ∧ Step O H O1 H1 ∧ PostN ⟨g.K, g.G, B, O1⟩ W σ σd H1 (comp2L S1 it.src it.pair t (wipeD σd vs) mc mi1 t1 vs1 mc1 me it.items [] S1) Q := by
    refine ⟨B, O, S, σd, r, ?_⟩
    unfold mComp2 mB at p
    revert p
    cases mi σd S with
    | ok it S' => exact fun p I O' H' h1 h2 h3 => ⟨it, O', S', h1, h2, h3, PostN.step (c := ⟨g.K, g.G, B, O⟩) h3 h1.toRelS p⟩
    | exc k ns ds S' => exact fun p dd O' H' h1 h2 h3 => p dd O' H' h1 h2 h3
    | bad => exact fun p => p.elim
  obtain ⟨B', O', S', σd', r', p'⟩ := main
  refine ⟨B', O', S', σd', r', ?_⟩
  revert p'
  cases mi σd' S' with
  | exc k ns ds S2 => exact fun p => p
  | bad => exact fun p => p
  | ok it0 S2 =>
    intro p' J O2 H2 a1 a2 a3
    obtain ⟨it, O1, S1, r1, iok, st1, pn⟩ := p' J O2 H2 a1 a2 a3
    intro z hz
    have av := r1.fresh hz
    have pp : PostP g.K g.G B O1 z σ σd H2 (comp2L S1 it.src it.pair t (wipeD σd vs) mc mi1 t1 vs1 mc1 me it.items [] S1) Q := by
      revert pn
      cases hq : comp2L S1 it.src it.pair t (wipeD σd vs) mc mi1 t1 vs1 mc1 me it.items [] S1 with
      | ok ds S3 => exact fun pn us O' H' h1 h2 h3 h4 => pn z us O' H' hz h1 av.2 h2 h3 h4
      | exc k ns ds S3 => exact absurd hq (comp2L_ne _ _ _)
      | bad => exact fun pn => pn.elim
    refine ⟨fun i k H => k = it.items.length - i ∧ i ≤ it.items.length ∧ ∃ O3 S3 acc accV, Rel ⟨g.K, g.G, z :: B, O3⟩ S3 σd σ H ∧ Mv ⟨g.K, g.G, B, O1⟩ ⟨g.K, g.G, z :: B, O3⟩ H2 H ∧ Step O1 H2 O3 H ∧ H z = some (.lst accV) ∧ RDs ⟨g.K, g.G, z :: B, O3⟩ H acc accV ∧ PostP g.K g.G B O1 z σ σd H2 (comp2L S1 it.src it.pair t (wipeD σd vs) mc mi1 t1 vs1 mc1 me (it.items.drop i) acc S3) Q,
      ⟨it.items.length, rfl, Nat.zero_le _, O1, S1, [], [], r1.ban hz, mv_ban hz, Step.new hz, upd_same, rfl, pp⟩, fun i k H3 hw => ?_⟩
    obtain ⟨rfl, hle, O3, S3, acc, accV, r3, mv3, st3, hD3, rd3, pp3⟩ := hw
    have hDB : z ∈ (⟨g.K, g.G, z :: B, O3⟩ : Ct).B := List.mem_cons_self ..
    by_cases hlt : i < it.items.length
    · rw [List.drop_eq_getElem_cons hlt] at pp3
      unfold comp2L at pp3
      split at pp3
      · next gd =>
        obtain ⟨hgo, hy⟩ := iok.go _ S3 H3 r3.toRelS mv3 gd i hlt
        refine .inr ⟨hgo, fun H => i + 1 ≤ it.items.length ∧ ∃ O3 S3 acc accV, Rel ⟨g.K, g.G, z :: B, O3⟩ S3 σd σ H ∧ Mv ⟨g.K, g.G, B, O1⟩ ⟨g.K, g.G, z :: B, O3⟩ H2 H ∧ Step O1 H2 O3 H ∧ H z = some (.lst accV) ∧ RDs ⟨g.K, g.G, z :: B, O3⟩ H acc accV ∧ PostP g.K g.G B O1 z σ σd H2 (comp2L S1 it.src it.pair t (wipeD σd vs) mc mi1 t1 vs1 mc1 me (it.items.drop (i + 1)) acc S3) Q,
          fun H' q => ⟨it.items.length - (i + 1), by omega, rfl, q.1, q.2⟩, fun x H' y => ?_⟩
        obtain ⟨d, ed, yd⟩ := hy x H' y
        have edd : d = it.items[i] := Option.some.inj (ed.symm.trans (List.getElem?_eq_getElem hlt))
        subst edd
        split at pp3
        · next xs ex =>
          obtain ⟨ws, h1, h2, h3, h4⟩ := yd_ok (K := X.K) (Q := fun σ2 H2 => L2.wipe σ2 vs = L2.wipe σ vs ∧ rdT g W0 mc σ2 H2 _) (Rel.wipe r3 vs) yd ex
          refine h4 (L2.wipe σ vs) ⟨wipe_set hsub, z :: B, O3, S3, _, Rel.setAll t.slots h2 h1, ?_⟩
          have r3' : Rel ⟨g.K, g.G, z :: B, O3⟩ S3 σd σ H' := Rel.step (c := ⟨g.K, g.G, z :: B, O3⟩) (O' := O3) r3 h3 h2.toRelS
          have nD : z ∉ O3 := fun y => r3.nb z y hDB
          have carry : ∀ {O4 S4 H4 σd4 σ4}, Rel ⟨g.K, g.G, z :: B, O4⟩ S4 σd4 σ4 H4 → Step O3 H' O4 H4 → Rel ⟨g.K, g.G, z :: B, O4⟩ S4 σd σ H4 ∧ Mv ⟨g.K, g.G, B, O1⟩ ⟨g.K, g.G, z :: B, O4⟩ H2 H4 ∧ Step O1 H2 O4 H4 ∧ H4 z = some (.lst accV) ∧ RDs ⟨g.K, g.G, z :: B, O4⟩ H4 acc accV := fun {O4 S4 H4 σd4 σ4} q1 q2 => by
            have q3 : Step O3 H3 O4 H4 := Step.trans (show Step O3 H3 O3 H' from h3) q2
            exact ⟨Rel.step (c := ⟨g.K, g.G, z :: B, O3⟩) r3' q2 q1.toRelS, mv3.trans (Step.mv (c := ⟨g.K, g.G, z :: B, O3⟩) q3), st3.trans q3, (q3.kp z _ nD hD3).1, RDs.step (c := ⟨g.K, g.G, z :: B, O3⟩) q3 acc accV rd3⟩
          have back : ∀ {O4 S4 H4 σd4 σ4}, Rel ⟨g.K, g.G, z :: B, O4⟩ S4 σd4 σ4 H4 → Mv ⟨g.K, g.G, B, O1⟩ ⟨g.K, g.G, z :: B, O4⟩ H2 H4 → Step O1 H2 O4 H4 → Rel ⟨g.K, g.G, z :: B, O4⟩ S4 σd σ H4 := fun {O4 S4 H4 σd4 σ4} q1 q2 q3 =>
            { q1.toRelS with len := r1.len, sl := fun i d e => (r1.sl i d e).imp id fun ⟨v, h1, h2⟩ => ⟨v, h1, RD.mv q2 d v h2⟩ }
          revert pp3
          cases mc (setAll (wipeD σd vs) t.slots xs) S3 with
          | exc k ns ds S4 => exact fun pp3 => pp3.elim
          | bad => exact fun pp3 => pp3.elim
          | ok b S4 =>
            intro pp3 v O4 H4 q1 q2 q3
            have ev : b = v := q2
            subst ev
            simp only at pp3
            cases b with
            | false =>
              obtain ⟨c1, c2, c3, c4, c5⟩ := carry q1 q3
              exact ⟨hlt, O4, S4, acc, accV, c1, c2, c3, c4, c5, pp3⟩
            | true =>
              obtain ⟨c1, c2, c3, c4, c5⟩ := carry q1 q3
              simp only [if_true] at pp3 ⊢
              refine lc2_in (B := B) (O1 := O1) (z := z) (H2 := H2) (PQ := fun r => PostP g.K g.G B O1 z σ σd H2 (match r with
                | .ok acc' S5 => comp2L S1 it.src it.pair t (wipeD σd vs) mc mi1 t1 vs1 mc1 me (it.items.drop (i + 1)) acc' S5
                | _ => .bad) Q) hsub1 (fun z => z.elim) hz (fun O5 S5 acc5 accV5 H5 g1 g2 g3 g4 g5 g6 => ⟨hlt, O5, S5, acc5, accV5, back g1 g2 g3, g2, g3, g4, g5, g6⟩) q1 c2 c3 c4 c5 ?_
              revert pp3
              cases mi1 (setAll (wipeD σd vs) t.slots xs) S4 with
              | exc k ns ds S5 => exact fun pp3 => pp3.elim
              | bad => exact fun pp3 => pp3.elim
              | ok it1 S5 =>
                intro pp3
                simp only at pp3 ⊢
                revert pp3
                cases compL S5 it1.src it1.pair t1 (wipeD (setAll (wipeD σd vs) t.slots xs) vs1) mc1 me it1.items acc S5 with
                | exc k ns ds S6 => exact fun pp3 => pp3
                | bad => exact fun pp3 => pp3
                | ok acc' S6 => exact fun pp3 => pp3
        · exact pp3.elim
      · exact pp3.elim
    · have ei : i = it.items.length := by omega
      subst ei
      rw [List.drop_length] at pp3
      unfold comp2L at pp3
      split at pp3
      · next gd => exact .inl ⟨iok.stop _ S3 H3 r3.toRelS mv3 gd, pp3 accV O3 H3 r3 hD3 rd3 st3⟩
      · exact pp3.elim
theorem sn_comp2 {mi mi1 : M Its} {t t1 : Tgt} {vs1 : List Nat} {mc mc1 : M Bool} {me : M D} (hc : X.calm = true) (hN : X.N.Nodup) (hi : PI X tg iter (rdI g W mi)) (ok : BlkOk X.N X.env.scope scope own) (hv : ∀ i ∈ vs1, i ∈ own.map (·.2)) (hg : Blk X scope fun Y => PG Y tg (t.g X.K)) (ht : Blk X scope fun Y => PTs Y ifs (rdT g W0 mc))
    (hi1 : Blk X scope fun Y => PI Y tg1 iter1 (rdI g W0 mi1)) (hg1 : Blk X scope fun Y => PG Y tg1 (t1.g X.K)) (ht1 : Blk X scope fun Y => PTs Y ifs1 (rdT g W0 mc1))
    (he : Blk X scope fun Y => PE Y elt (rdE g W0 me)) (hsub : ∀ i ∈ t.slots, i ∈ own.map (·.2)) (hsub1 : ∀ i ∈ t1.slots, i ∈ vs1) (hs : ∀ x, foldedSetIterable iter X.env x = pure x := by intro _; rfl) (hs1 : ∀ env x, foldedSetIterable iter1 env x = pure x := by intro _ _; rfl) :
    PE X (.ListComp elt [⟨tg, iter, ifs, 0⟩, ⟨tg1, iter1, ifs1, 0⟩] scope pos) (rdN g W (mComp2 mi t (own.map (·.2)) mc mi1 t1 vs1 mc1 me)) := PE.imp (pe_lc2 hc hN hi ok hv hg ht hi1 hg1 ht1 he hs hs1) (lc2_imp hsub hsub1)
theorem ss_setComp2 {i : Nat} {y : Str} {py spos : Pos} {mi mi1 : M Its} {t t1 : Tgt} {vs1 : List Nat} {mc mc1 : M Bool} {me : M D} {f : M (List D) → M D} (hf : ∀ (m : M (List D)) σ H Q, rdE g W (f m) σ H Q → rdN g W m σ H Q) (hc : X.calm = true) (hN : X.N.Nodup) (hy : X.N[i]? = some y) (hyl : X.env.scope.names.lookup y = some .local)
    (hsw : swapsWith (.ListComp elt [⟨tg, iter, ifs, 0⟩, ⟨tg1, iter1, ifs1, 0⟩] scope pos) (some (.Name y py)) spos.line X.env = pure true)
    (hi : PI X tg iter (rdI g W mi)) (ok : BlkOk X.N X.env.scope scope own) (hv : ∀ i ∈ vs1, i ∈ own.map (·.2)) (hg : Blk X scope fun Y => PG Y tg (t.g X.K)) (ht : Blk X scope fun Y => PTs Y ifs (rdT g W0 mc))
    (hi1 : Blk X scope fun Y => PI Y tg1 iter1 (rdI g W0 mi1)) (hg1 : Blk X scope fun Y => PG Y tg1 (t1.g X.K)) (ht1 : Blk X scope fun Y => PTs Y ifs1 (rdT g W0 mc1))
    (he : Blk X scope fun Y => PE Y elt (rdE g W0 me)) (hsub : ∀ i ∈ t.slots, i ∈ own.map (·.2)) (hsub1 : ∀ i ∈ t1.slots, i ∈ vs1) (hs : ∀ x, foldedSetIterable iter X.env x = pure x := by intro _; rfl) (hs1 : ∀ env x, foldedSetIterable iter1 env x = pure x := by intro _ _; rfl) :
    PS X (.Assign [.Name y py] (.ListComp elt [⟨tg, iter, ifs, 0⟩, ⟨tg1, iter1, ifs1, 0⟩] scope pos) spos) (rdS g W (mSet i (f (mComp2 mi t (own.map (·.2)) mc mi1 t1 vs1 mc1 me)))) :=
  PS.imp (ps_setLc2 hc hN hy hyl hsw hi ok hv hg ht hi1 hg1 ht1 he hs hs1) fun J σ H ⟨B, O, S, σd, r, p⟩ => by
    refine lc2_imp hsub hsub1 σ H _ (hf _ σ H _ (rdG_mono (rdS_then (rel := RD) r p) fun v H1 ⟨x, O1, S1, r1, rx, st1, p1⟩ => ?_))
    exact postS_nx p1 (r1.set i rx)
theorem fSetIx_seq {B O : List Addr} {S : Sto} {σd : Sl} {σ : L2.St} {H : Hp} {x y z : D} {v u w : V} {J : Ends} {n : MS} {G : L2.St → Hp → Prop} (r : Rel ⟨g.K, g.G, B, O⟩ S σd σ H) (hx : RD ⟨g.K, g.G, B, O⟩ H x v) (hy : RD ⟨g.K, g.G, B, O⟩ H y u) (hz : RD ⟨g.K, g.G, B, O⟩ H z w)
    (hn : ∀ σ1 S1 σ' O' H', Rel ⟨g.K, g.G, B, O'⟩ S1 σ1 σ' H' → Step O H O' H' → PostS ⟨g.K, g.G, B, O'⟩ W H' (n σ1 S1) J → G σ' H')
    (p : PostS ⟨g.K, g.G, B, O⟩ W H (mSeq (fSetIx x y z) n σd S) J) : rSetL v u w H fun H4 => G σ H4 := by
  refine fSetIx_ok (J := { J with nx := G }) (W := W) r hx hy hz ?_
  unfold mSeq at p
  revert p
  cases fSetIx x y z σd S with
  | nx σ1 S1 => exact fun p σ' O' H' h1 h3 => hn σ1 S1 σ' O' H' h1 h3 (PostS.step (c := ⟨g.K, g.G, B, O⟩) h3 p)
  | rt d S1 => exact fun p => p
  | bk d S1 => exact fun p => p
  | ct d S1 => exact fun p => p
  | exc k ns ds σ1 S1 => exact fun p => p
  | bad => exact fun p => p
def mSetIx2 (o1 i1 o2 i2 v : M D) : MS := mBS v fun z => fun σd S => match tupOf z with
  | some [z1, z2] => mBS o1 (fun x => mBS i1 fun y => mSeq (fSetIx x y z1) (mBS o2 fun x2 => mBS i2 fun y2 => fSetIx x2 y2 z2)) σd S
  | _ => .bad
theorem rSetL_mono {v u w : V} {H : Hp} {P Q : Hp → Prop} (h : rSetL v u w H P) (m : ∀ H', P H' → Q H') : rSetL v u w H Q := by
  obtain ⟨p, xs, k, j, e1, e2, e3, e4, q⟩ := h
  exact ⟨p, xs, k, j, e1, e2, e3, e4, m _ q⟩
theorem ss_setIx2 {o1 i1 o2 i2 v : Expr} {p1 p2 pt : Pos} {kt : Nat} {m1 n1 m2 n2 mv : M D} (hc : X.calm = true) (ho1 : PE X o1 (rdE g W m1)) (hi1 : PE X i1 (rdE g W n1)) (ho2 : PE X o2 (rdE g W m2)) (hi2 : PE X i2 (rdE g W n2)) (hv : PE X v (rdE g W mv))
    (hg : ∀ {t1 t2 t3 t4 : TE}, PE X o1 t1 → PE X i1 t2 → PE X o2 t3 → PE X i2 t4 → PG X (.Tuple [.Subscript o1 i1 p1, .Subscript o2 i2 p2] kt pt) (gTup X.K 2 (gCons (gSub t1 t2 rSetL) (gCons (gSub t3 t4 rSetL) gNil))))
    (hs : swapsWithSole [.Tuple [.Subscript o1 i1 p1, .Subscript o2 i2 p2] kt pt] v pos.line X.env = pure false := by rfl) (hw : swappedStores [.Tuple [.Subscript o1 i1 p1, .Subscript o2 i2 p2] kt pt] v X.env = pure none := by rfl)
    (h1 : (assignEach [.Tuple [.Subscript o1 i1 p1, .Subscript o2 i2 p2] kt pt] X.env).map (·.2) = [assign (.Tuple [.Subscript o1 i1 p1, .Subscript o2 i2 p2] kt pt) X.env] := by rfl) :
    PS X (.Assign [.Tuple [.Subscript o1 i1 p1, .Subscript o2 i2 p2] kt pt] v pos) (rdS g W (mSetIx2 m1 n1 m2 n2 mv)) :=
  PS.imp (ps_asg hv (hg ho1 hi1 ho2 hi2) hs hw h1) fun J σ H ⟨B, O, S, σd, r, p⟩ => rdG_mono (rdS_then (rel := RD) r p) fun w H1 ⟨z, O1, S1, r1, rz, st1, p1⟩ => by
    split at p1
    · next z1 z2 q =>
      obtain ⟨a, vs, rfl, hsq, hds⟩ := tupOf_ok rz q
      obtain ⟨w1, vs1, rfl, hd1, hds1⟩ := hds
      obtain ⟨w2, vs2, rfl, hd2, hds2⟩ := hds1
      have : vs2 = [] := hds2
      subst this
      refine ⟨a, _, rfl, hsq.sq, rfl, w1, _, rfl, ?_⟩
      refine rdG_mono (rdS_then (rel := RD) r1 p1) fun v2 H2 ⟨x, O2, S2, r2, rx, st2, p2⟩ => rdG_mono (rdS_then (rel := RD) r2 p2) fun u H3 ⟨y, O3, S3, r3, ry, st3, p3⟩ => ?_
      refine fSetIx_seq (W := W) (G := fun σ' H' => gCons (gSub (rdE g W m2) (rdE g W n2) rSetL) gNil [w2] σ' H' J.nx) r3 (RD.step (c := ⟨g.K, g.G, B, O2⟩) st3 x v2 rx) ry (RD.step (c := ⟨g.K, g.G, B, O1⟩) (st2.trans st3) z1 w1 hd1) (fun σ1 S4 σ' O' H' r4 st4 p4 => ?_) p3
      refine ⟨w2, [], rfl, ?_⟩
      refine rdG_mono (rdS_then (rel := RD) r4 p4) fun v5 H5 ⟨x5, O5, S5, r5, rx5, st5, p5⟩ => rdG_mono (rdS_then (rel := RD) r5 p5) fun u6 H6 ⟨y6, O6, S6, r6, ry6, st6, p6⟩ => ?_
      have hz2 := RD.step (c := ⟨g.K, g.G, B, O1⟩) ((st2.trans st3).trans (st4.trans (st5.trans st6))) z2 w2 hd2
      have := fSetIx_ok (J := { J with nx := fun σ H => J.nx σ H }) (W := W) r6 (RD.step (c := ⟨g.K, g.G, B, O5⟩) st6 x5 v5 rx5) ry6 hz2 p6
      exact rSetL_mono this fun H7 q7 => ⟨rfl, q7⟩
    · exact p1.elim
end
end DL

namespace DL
open PySem PySem.Spec PyProof.Rows L2
abbrev KD := List Key × List D
/-- a dict that was made just now -/
def PostD (c : Ct) (W : WX) (σ : L2.St) (σd : Sl) (H : Hp) (r : R KD) (Q : VK) : Prop := match r with
  | .ok q S' => ∀ p vs O' H', H p = none → Rel ⟨c.K, c.G, p :: c.B, O'⟩ S' σd σ H' → p ∉ c.B → H' p = some (.dK (q.1.zip vs)) → q.1.length = vs.length → RDs ⟨c.K, c.G, p :: c.B, O'⟩ H' q.2 vs → Step c.O H O' H' → Q (.ref p) H'
  | .exc k ns ds S' => ∀ dd O' H', Rel (c.at O') S' σd σ H' → XOk (c.at O') H' ns ds dd → Step c.O H O' H' → W (.ref (c.G k)) dd σ H'
  | .bad => False
def rdD (g : Gx) (W : WX) (m : M KD) : TE := fun σ H Q => ∃ B O S σd, Rel ⟨g.K, g.G, B, O⟩ S σd σ H ∧ PostD ⟨g.K, g.G, B, O⟩ W σ σd H (m σd S) Q
def mDFz (m : M KD) : M D := fun σd S => match m σd S with
  | .ok q S1 => .ok (.dic q.1 q.2) S1
  | .exc k ns ds S1 => .exc k ns ds S1
  | .bad => .bad
def mDLoc (m : M KD) : M D := fun σd S => match m σd S with
  | .ok q S1 => .ok (.ref S1.length) (S1 ++ [.dic q.1 q.2])
  | .exc k ns ds S1 => .exc k ns ds S1
  | .bad => .bad
open Classical in
noncomputable def dcompL (S0 : Sto) (src : List Nat) (pair : Bool) (t : Tgt) (wσ : Sl) (c : M Bool) (k e : M D) : List D → List Key → List D → Sto → R KD
  | [], ks, acc, S => if Gd S0 src S then .ok (ks, acc) S else .bad
  | d :: ds, ks, acc, S => if Gd S0 src S then match t.st pair d with
      | some xs => match c (setAll wσ t.slots xs) S with
        | .ok b S1 => if b = true then match k (setAll wσ t.slots xs) S1 with
            | .ok y S2 => match y with
              | .int j => match e (setAll wσ t.slots xs) S2 with
                | .ok x S3 => if ks.length < LIM then dcompL S0 src pair t wσ c k e ds (dputN (.inl j) ks) (dputX (.inl j) x ks acc) S3 else .bad
                | _ => .bad
              | _ => .bad
            | _ => .bad
          else dcompL S0 src pair t wσ c k e ds ks acc S1
        | _ => .bad
      | none => .bad
    else .bad
noncomputable def mDComp (m : M Its) (t : Tgt) (vs : List Nat) (c : M Bool) (k e : M D) : M KD := mB m fun it => fun σd S => dcompL S it.src it.pair t (wipeD σd vs) c k e it.items [] [] S
def PostQ (K : PySem.W.Frag) (G : Nat → Addr) (B O : List Addr) (p : Addr) (σ : L2.St) (σd : Sl) (H : Hp) (r : R KD) (Q : VK) : Prop := match r with
  | .ok q S' => ∀ vs O' H', Rel ⟨K, G, p :: B, O'⟩ S' σd σ H' → H' p = some (.dK (q.1.zip vs)) → q.1.length = vs.length → RDs ⟨K, G, p :: B, O'⟩ H' q.2 vs → Step O H O' H' → Q (.ref p) H'
  | _ => False
section
variable {g : Gx} {W : WX} {X : Cx} {kx vx tg iter : Expr} {ifs : List Expr} {scope : Scope} {own : List (Str × Nat)} {pos : Pos}
theorem dfz_imp {m : M KD} (σ : L2.St) (H : Hp) (Q : VK) (h : rdE g W (mDFz m) σ H Q) : rdD g W m σ H Q := by
  obtain ⟨B, O, S, σd, r, p⟩ := h
  refine ⟨B, O, S, σd, r, ?_⟩
  unfold mDFz at p
  revert p
  cases m σd S with
  | ok q S' => exact fun p a vs O' H' h0 h1 h2 h3 h3' h4 h5 => p (.ref a) O' H' (Rel.unban (c := ⟨g.K, g.G, B, O'⟩) h1) ⟨a, vs, rfl, ⟨fun z => h1.nb a z (List.mem_cons_self ..), h2⟩, h3, h3', RDs.mv (mv_unban (c := ⟨g.K, g.G, B, O'⟩)) q.2 vs h4⟩ h5
  | exc k ns ds S' => exact fun p => p
  | bad => exact fun p => p
theorem dloc_imp {m : M KD} (σ : L2.St) (H : Hp) (Q : VK) (h : rdE g W (mDLoc m) σ H Q) : rdD g W m σ H Q := by
  obtain ⟨B, O, S, σd, r, p⟩ := h
  refine ⟨B, O, S, σd, r, ?_⟩
  unfold mDLoc at p
  revert p
  cases m σd S with
  | ok q S' =>
    intro p a vs O' H' h0 h1 h2 h3 h3' h4 h5
    have hq : (O' ++ [a])[S'.length]? = some a := by
      rw [← show O'.length = S'.length from h1.ol]
      simp
    exact p (.ref a) (O' ++ [a]) H' (Rel.locate (c := ⟨g.K, g.G, B, O'⟩) h1 h2 ⟨vs, h3, h3', h4⟩) ⟨a, hq, rfl⟩ (h5.loc h0)
  | exc k ns ds S' => exact fun p => p
  | bad => exact fun p => p
theorem PostD.step {c : Ct} {O1 : List Addr} {H H1 : Hp} {σ : L2.St} {σd : Sl} {r : R KD} {Q : VK} {S' : Sto} (s : Step c.O H O1 H1) (rl : RelS (c.at O1) S' H1) (p : PostD c W σ σd H r Q) : PostD (c.at O1) W σ σd H1 r Q := by
  cases r with
  | ok d S' => exact fun v vs O' H' h0 h1 h2 h3 h3' h4 h5 => p v vs O' H' (s.back rl h0) h1 h2 h3 h3' h4 (s.trans h5)
  | exc k ns ds S' => exact fun dd O' H' h1 h2 h3 => p dd O' H' h1 h2 (s.trans h3)
  | bad => exact p
theorem dcompL_ne {S0 : Sto} {src : List Nat} {pair : Bool} {t : Tgt} {wσ : Sl} {c : M Bool} {kk e : M D} {k : Nat} {ns : List Str} {es : List D} {S' : Sto} : ∀ (ds : List D) (ks : List Key) (acc : List D) (S : Sto), dcompL S0 src pair t wσ c kk e ds ks acc S ≠ .exc k ns es S'
  | [], ks, acc, S => by
    unfold dcompL
    split <;> (intro h; cases h)
  | d :: ds, ks, acc, S => by
    unfold dcompL
    split
    · split
      · split
        · split
          · split
            · split
              · split
                · split
                  · exact dcompL_ne ds _ _ _
                  · intro h; cases h
                · intro h; cases h
              · intro h; cases h
            · intro h; cases h
          · exact dcompL_ne ds _ _ _
        · intro h; cases h
      · intro h; cases h
    · intro h; cases h
theorem dc_imp {mi : M Its} {t : Tgt} {vs : List Nat} {mc : M Bool} {mk me : M D} (hsub : ∀ i ∈ t.slots, i ∈ vs) (σ : L2.St) (H : Hp) (Q : VK) (h : rdD g W (mDComp mi t vs mc mk me) σ H Q) :
    tDc (rdI g W mi) (t.g X.K) (rdT g W0 mc) (rdE g W0 mk) (rdE g W0 me) vs σ H Q := by
  obtain ⟨B, O, S, σd, r, p⟩ := h
  have main : rdI g W mi σ H fun J H1 => ∃ it O1 S1, Rel ⟨g.K, g.G, B, O1⟩ S1 σd σ H1 ∧ ItOk ⟨g.K, g.G, B, O1⟩ S1 H1 it J ∧ Step O H O1 H1 ∧ PostD ⟨g.K, g.G, B, O1⟩ W σ σd H1 (dcompL S1 it.src it.pair t (wipeD σd vs) mc mk me it.items [] [] S1) Q := by
    refine ⟨B, O, S, σd, r, ?_⟩
    unfold mDComp mB at p
    revert p
    cases mi σd S with
    | ok it S' => exact fun p I O' H' h1 h2 h3 => ⟨it, O', S', h1, h2, h3, PostD.step (c := ⟨g.K, g.G, B, O⟩) h3 h1.toRelS p⟩
    | exc k ns ds S' => exact fun p dd O' H' h1 h2 h3 => p dd O' H' h1 h2 h3
    | bad => exact fun p => p.elim
  obtain ⟨B', O', S', σd', r', p'⟩ := main
  refine ⟨B', O', S', σd', r', ?_⟩
  revert p'
  cases mi σd' S' with
  | exc k ns ds S2 => exact fun p => p
  | bad => exact fun p => p
  | ok it0 S2 =>
    intro p' J O2 H2 a1 a2 a3
    obtain ⟨it, O1, S1, r1, iok, st1, pn⟩ := p' J O2 H2 a1 a2 a3
    intro D hD
    have av := r1.fresh hD
    have pp : PostQ g.K g.G B O1 D σ σd H2 (dcompL S1 it.src it.pair t (wipeD σd vs) mc mk me it.items [] [] S1) Q := by
      revert pn
      cases hq : dcompL S1 it.src it.pair t (wipeD σd vs) mc mk me it.items [] [] S1 with
      | ok ds S3 => exact fun pn us O' H' h1 h2 h2' h3 h4 => pn D us O' H' hD h1 av.2 h2 h2' h3 h4
      | exc k ns ds S3 => exact absurd hq (dcompL_ne _ _ _ _)
      | bad => exact fun pn => pn.elim
    refine ⟨fun i k H => k = it.items.length - i ∧ i ≤ it.items.length ∧ ∃ O3 S3 ks acc accV, Rel ⟨g.K, g.G, D :: B, O3⟩ S3 σd σ H ∧ Mv ⟨g.K, g.G, B, O1⟩ ⟨g.K, g.G, D :: B, O3⟩ H2 H ∧ Step O1 H2 O3 H ∧ (H D = some (.dK (List.zip ks accV)) ∧ ks.length = accV.length) ∧ RDs ⟨g.K, g.G, D :: B, O3⟩ H acc accV ∧ PostQ g.K g.G B O1 D σ σd H2 (dcompL S1 it.src it.pair t (wipeD σd vs) mc mk me (it.items.drop i) ks acc S3) Q,
      ⟨it.items.length, rfl, Nat.zero_le _, O1, S1, [], [], [], r1.ban hD, mv_ban hD, Step.new hD, ⟨upd_same, rfl⟩, rfl, pp⟩, fun i k H3 hw => ?_⟩
    obtain ⟨rfl, hle, O3, S3, ks, acc, accV, r3, mv3, st3, hD3, rd3, pp3⟩ := hw
    have hDB : D ∈ (⟨g.K, g.G, D :: B, O3⟩ : Ct).B := List.mem_cons_self ..
    by_cases hlt : i < it.items.length
    · rw [List.drop_eq_getElem_cons hlt] at pp3
      unfold dcompL at pp3
      split at pp3
      · next gd =>
        obtain ⟨hgo, hy⟩ := iok.go _ S3 H3 r3.toRelS mv3 gd i hlt
        refine .inr ⟨hgo, fun H => i + 1 ≤ it.items.length ∧ ∃ O3 S3 ks acc accV, Rel ⟨g.K, g.G, D :: B, O3⟩ S3 σd σ H ∧ Mv ⟨g.K, g.G, B, O1⟩ ⟨g.K, g.G, D :: B, O3⟩ H2 H ∧ Step O1 H2 O3 H ∧ (H D = some (.dK (List.zip ks accV)) ∧ ks.length = accV.length) ∧ RDs ⟨g.K, g.G, D :: B, O3⟩ H acc accV ∧ PostQ g.K g.G B O1 D σ σd H2 (dcompL S1 it.src it.pair t (wipeD σd vs) mc mk me (it.items.drop (i + 1)) ks acc S3) Q,
          fun H' q => ⟨it.items.length - (i + 1), by omega, rfl, q.1, q.2⟩, fun x H' y => ?_⟩
        obtain ⟨d, ed, yd⟩ := hy x H' y
        have edd : d = it.items[i] := Option.some.inj (ed.symm.trans (List.getElem?_eq_getElem hlt))
        subst edd
        split at pp3
        · next xs ex =>
          obtain ⟨ws, h1, h2, h3, h4⟩ := yd_ok (K := X.K) (Q := fun σ2 H2 => L2.wipe σ2 vs = L2.wipe σ vs ∧ rdT g W0 mc σ2 H2 _) (Rel.wipe r3 vs) yd ex
          refine h4 (L2.wipe σ vs) ⟨wipe_set hsub, D :: B, O3, S3, _, Rel.setAll t.slots h2 h1, ?_⟩
          have r3' : Rel ⟨g.K, g.G, D :: B, O3⟩ S3 σd σ H' := Rel.step (c := ⟨g.K, g.G, D :: B, O3⟩) (O' := O3) r3 h3 h2.toRelS
          have carry : ∀ {O4 S4 H4 σd4 σ4}, Rel ⟨g.K, g.G, D :: B, O4⟩ S4 σd4 σ4 H4 → Step O3 H' O4 H4 → Rel ⟨g.K, g.G, D :: B, O4⟩ S4 σd σ H4 ∧ Mv ⟨g.K, g.G, B, O1⟩ ⟨g.K, g.G, D :: B, O4⟩ H2 H4 ∧ Step O1 H2 O4 H4 ∧ (H4 D = some (.dK (List.zip ks accV)) ∧ ks.length = accV.length) ∧ RDs ⟨g.K, g.G, D :: B, O4⟩ H4 acc accV := fun {O4 S4 H4 σd4 σ4} q1 q2 => by
            have q3 : Step O3 H3 O4 H4 := Step.trans (show Step O3 H3 O3 H' from h3) q2
            have nD : D ∉ O3 := fun z => r3.nb D z hDB
            exact ⟨Rel.step (c := ⟨g.K, g.G, D :: B, O3⟩) r3' q2 q1.toRelS, mv3.trans (Step.mv (c := ⟨g.K, g.G, D :: B, O3⟩) q3), st3.trans q3, ⟨(q3.kp D _ nD hD3.1).1, hD3.2⟩, RDs.step (c := ⟨g.K, g.G, D :: B, O3⟩) q3 acc accV rd3⟩
          revert pp3
          cases mc (setAll (wipeD σd vs) t.slots xs) S3 with
          | exc k ns ds S4 => exact fun pp3 => pp3.elim
          | bad => exact fun pp3 => pp3.elim
          | ok b S4 =>
            intro pp3 v O4 H4 q1 q2 q3
            have ev : b = v := q2
            subst ev
            simp only at pp3
            cases b with
            | false =>
              obtain ⟨c1, c2, c3, c4, c5⟩ := carry q1 q3
              exact ⟨hlt, O4, S4, ks, acc, accV, c1, c2, c3, c4, c5, pp3⟩
            | true =>
              refine ⟨D :: B, O4, S4, _, q1, ?_⟩
              revert pp3
              simp only [if_true]
              cases mk (setAll (wipeD σd vs) t.slots xs) S4 with
              | exc k ns ds S5 => exact fun pp3 => pp3.elim
              | bad => exact fun pp3 => pp3.elim
              | ok y5 S5 =>
                intro pp3 uk O5 H5 k4 k5 k6
                simp only at pp3
                split at pp3
                · next j =>
                  cases (show _ = _ from k5)
                  refine ⟨D :: B, O5, S5, _, k4, ?_⟩
                  revert pp3
                  cases me (setAll (wipeD σd vs) t.slots xs) S5 with
                  | exc k ns ds S6 => exact fun pp3 => pp3.elim
                  | bad => exact fun pp3 => pp3.elim
                  | ok z S6 =>
                    intro pp3 u O6 H6 q4 q5 q6
                    simp only at pp3
                    split at pp3
                    · next hl =>
                      obtain ⟨c1, c2, c3, c4, c5⟩ := carry q4 ((q3.trans k6).trans q6)
                      have hDB5 : D ∈ (⟨g.K, g.G, D :: B, O6⟩ : Ct).B := List.mem_cons_self ..
                      obtain ⟨e1, e2⟩ := putK_zip (k := .inl j) (y := u) c4.2
                      refine ⟨_, .inl j, rfl, c4.1, by rw [List.length_zip, ← c4.2, Nat.min_self]; exact lim_lt hl, hlt, O6, S6, dputN (.inl j) ks, dputX (.inl j) z ks acc, dputX (.inl j) u ks accV, c1.pwrite hDB5, c2.trans (mv_pwrite hDB5), c3.pwrite hD, ⟨by rw [e1]; exact upd_same, e2⟩, RDs.mv (mv_pwrite hDB5) _ _ (dputX_rd q5 c5), pp3⟩
                    · exact pp3.elim
                · exact pp3.elim
        · exact pp3.elim
      · exact pp3.elim
    · have ei : i = it.items.length := by omega
      subst ei
      rw [List.drop_length] at pp3
      unfold dcompL at pp3
      split at pp3
      · next gd => exact .inl ⟨iok.stop _ S3 H3 r3.toRelS mv3 gd, pp3 accV O3 H3 r3 hD3.1 hD3.2 rd3 st3⟩
      · exact pp3.elim
theorem sd_comp {mi : M Its} {t : Tgt} {mc : M Bool} {mk me : M D} (hc : X.calm = true) (hN : X.N.Nodup) (hi : PI X tg iter (rdI g W mi)) (ok : BlkOk X.N X.env.scope scope own) (hg : Blk X scope fun Y => PG Y tg (t.g X.K)) (ht : Blk X scope fun Y => PTs Y ifs (rdT g W0 mc))
    (hk : Blk X scope fun Y => PE Y kx (rdE g W0 mk)) (he : Blk X scope fun Y => PE Y vx (rdE g W0 me)) (hsub : ∀ i ∈ t.slots, i ∈ own.map (·.2)) (hs : ∀ x, foldedSetIterable iter X.env x = pure x := by intro _; rfl) :
    PE X (.DictComp kx vx [⟨tg, iter, ifs, 0⟩] scope pos) (rdD g W (mDComp mi t (own.map (·.2)) mc mk me)) := PE.imp (pe_dc hc hN hi ok hg ht hk he hs) (dc_imp hsub)
theorem sd_frz {e : Expr} {m : M KD} (h : PE X e (rdD g W m)) : PE X e (rdE g W (mDFz m)) := PE.imp h dfz_imp
theorem sd_loc {e : Expr} {m : M KD} (h : PE X e (rdD g W m)) : PE X e (rdE g W (mDLoc m)) := PE.imp h dloc_imp
/-- y = {k: v for ..} on one line, y a local name -/
theorem ps_setDc {i : Nat} {y : Str} {py spos : Pos} {wi : TI} {gg : TG} {tt : TT} {tk tv : TE} (hc : X.calm = true) (hN : X.N.Nodup) (hy : X.N[i]? = some y) (hyl : X.env.scope.names.lookup y = some .local)
    (hsw : swapsWith (.DictComp kx vx [⟨tg, iter, ifs, 0⟩] scope pos) (some (.Name y py)) spos.line X.env = pure true) (hi : PI X tg iter wi) (ok : BlkOk X.N X.env.scope scope own)
    (hg : Blk X scope fun Y => PG Y tg gg) (ht : Blk X scope fun Y => PTs Y ifs tt) (hk : Blk X scope fun Y => PE Y kx tk) (he : Blk X scope fun Y => PE Y vx tv) (hs : ∀ x, foldedSetIterable iter X.env x = pure x := by intro _; rfl) :
    PS X (.Assign [.Name y py] (.DictComp kx vx [⟨tg, iter, ifs, 0⟩] scope pos) spos) (tAsg (tDc wi gg tt tk tv (own.map (·.2))) (gName i)) := by
  refine ⟨fun pins s σ H D I h => ?_⟩
  rw [exec_Assign_Name_used _ _ _ _ hsw]
  refine wpAny_bind (wpAny_standAt (wpAny_bind ?_))
  show wpAny _ X.A (do let _ ← comprehension (.DictComp kx vx [⟨tg, iter, ifs, 0⟩] scope pos) scope X.env (firstIterPos [⟨tg, iter, ifs, 0⟩] pos) newDict false (eval iter X.env) (some (assign (.Name y py) X.env))) _ _ s
  have h : tDc wi gg tt tk tv (own.map (·.2)) σ H (fun x H1 => gName i x σ H1 D.nx) := h
  refine wpAny_bind (thn (dc_core (Qf := fun _ s' => SP X pins D .next s') hc hN I hi ok hg ht hk he hs h fun L C s' m H' I' q hn f => ?_) fun _ s' hq => wpAny_pure (wpAny_pure hq))
  show wpAny _ _ (assign (.Name y py) X.env (.ref L)) _ _ _
  refine wpAny_assign_Name (store_ok2 (v := V.ref L) I' hN hy (.inl hyl) rfl (fun s2 I2 ⟨a, sb, ha⟩ => ?_) (.inr hyl))
  obtain ⟨f0, f1, f2, f3, f4, f5⟩ := f
  have haC : C ≠ a := by
    rcases ha with z | z
    · rw [z]; exact f1
    · exact fun e => f4 y a z e.symm
  refine ⟨m, hn.sameBut sb haC, fun h3 sb3 => ?_⟩
  exact ⟨_, H', I2.turned (t' := s2.toks) (fun b o hb e => (sb3.2 b hb).trans e) f0 f1 f3 f4 f5, q⟩
theorem sw_trueD {kx vx : Expr} {gs : List Comprehension} {scope : Scope} {pos py : Pos} {y : Str} {l : Nat} {env : Env} (hk : env.scope.kind = .function) (hy : env.scope.names.lookup y = some .local) (hl : (py.line == pos.line) = true)
    (ha : (scope.names.any fun (n, k) => n == y && (k == .local || k == .cell)) = false) : swapsWith (.DictComp kx vx gs scope pos) (some (.Name y py)) l env = pure true := by
  have ky : env.kindOf y = some .local := hy
  have hb : env.blockKind = .function := by unfold Env.blockKind; rw [hk]; rfl
  unfold swapsWith
  simp only [hb, ky, ha, Expr.pos, hl]
  rfl
theorem ss_setDComp {i : Nat} {y : Str} {py spos : Pos} {mi : M Its} {t : Tgt} {mc : M Bool} {mk me : M D} {f : M KD → M D} (hf : ∀ (m : M KD) σ H Q, rdE g W (f m) σ H Q → rdD g W m σ H Q) (hc : X.calm = true) (hN : X.N.Nodup) (hy : X.N[i]? = some y) (hyl : X.env.scope.names.lookup y = some .local)
    (hsw : swapsWith (.DictComp kx vx [⟨tg, iter, ifs, 0⟩] scope pos) (some (.Name y py)) spos.line X.env = pure true)
    (hi : PI X tg iter (rdI g W mi)) (ok : BlkOk X.N X.env.scope scope own) (hg : Blk X scope fun Y => PG Y tg (t.g X.K)) (ht : Blk X scope fun Y => PTs Y ifs (rdT g W0 mc))
    (hk : Blk X scope fun Y => PE Y kx (rdE g W0 mk)) (he : Blk X scope fun Y => PE Y vx (rdE g W0 me)) (hsub : ∀ i ∈ t.slots, i ∈ own.map (·.2)) (hs : ∀ x, foldedSetIterable iter X.env x = pure x := by intro _; rfl) :
    PS X (.Assign [.Name y py] (.DictComp kx vx [⟨tg, iter, ifs, 0⟩] scope pos) spos) (rdS g W (mSet i (f (mDComp mi t (own.map (·.2)) mc mk me)))) :=
  PS.imp (ps_setDc hc hN hy hyl hsw hi ok hg ht hk he hs) fun J σ H ⟨B, O, S, σd, r, p⟩ => by
    refine dc_imp hsub σ H _ (hf _ σ H _ (rdG_mono (rdS_then (rel := RD) r p) fun v H1 ⟨x, O1, S1, r1, rx, st1, p1⟩ => ?_))
    exact postS_nx p1 (r1.set i rx)
end
end DL

namespace DL
open PySem PySem.Spec PyProof.Rows L2
/-- the keys of a dict one by one, each with what stands there, into another -/
def dcopy (ks0 : List Key) (ds0 : List D) : List Key → KD → Option KD
  | [], q => some q
  | k :: ks, q => match dget k ks0 ds0 with
    | some d => if q.1.length < LIM then dcopy ks0 ds0 ks (dputN k q.1, dputX k d q.1 q.2) else none
    | none => none
def mDCopy (i j : Nat) : M KD := fun σd S => if j < σd.length then match σd[i]? with
  | some d => match dicOf S d with
    | some (ks, ds) => match dcopy ks ds ks ([], []) with
      | some q => .ok q S
      | none => .bad
    | none => .bad
  | none => .bad
  else .bad
section
variable {g : Gx} {W : WX} {X : Cx} {scope : Scope} {own : List (Str × Nat)} {pos spos p1 p2 p3 p4 p5 p6 py : Pos}
theorem zip_get {ks : List Key} {vs : List V} (l : ks.length = vs.length) {i : Nat} {k : Key} {v : V} (h : (ks.zip vs)[i]? = some (k, v)) : ks[i]? = some k := by
  rw [List.getElem?_zip_eq_some] at h
  exact h.1
theorem dcopy_imp {i j iy : Nat} {vs : List Nat} (hj : j ∈ vs) (hi : i ∉ vs) (J : Ends) (σ : L2.St) (H : Hp) (h : rdS g W (mSet iy (mDLoc (mDCopy i j))) J σ H) :
    tLock (tAsg (tDc (iKeys (tVar i)) (gName j) tYes (tVar j) (tDGet (tVar i) (tVar j)) vs) (gName iy)) J σ H := by
  obtain ⟨B, O, S, σd, r, p⟩ := h
  have p0 : PostS ⟨g.K, g.G, B, O⟩ W H (match mDCopy i j σd S with | .ok q S1 => .nx (σd.set iy (.ref S1.length)) (S1 ++ [.dic q.1 q.2]) | .exc k ns ds S1 => .exc k ns ds σd S1 | .bad => .bad) J := by
    unfold mSet mBS mDLoc at p
    revert p
    cases mDCopy i j σd S with
    | ok q S1 => exact fun p => p
    | exc k ns ds S1 => exact fun p => p
    | bad => exact fun p => p
  clear p
  unfold mDCopy at p0
  by_cases hjl : j < σd.length
  case neg => rw [if_neg hjl] at p0; exact p0.elim
  rw [if_pos hjl] at p0
  cases hs : σd[i]? with
  | none => rw [hs] at p0; exact p0.elim
  | some d =>
    rw [hs] at p0
    simp only at p0
    cases hd : dicOf S d with
    | none => rw [hd] at p0; exact p0.elim
    | some kd =>
      obtain ⟨ks, ds⟩ := kd
      rw [hd] at p0
      simp only at p0
      cases hq : dcopy ks ds ks ([], []) with
      | none => rw [hq] at p0; exact p0.elim
      | some q =>
        rw [hq] at p0
        simp only at p0
        rcases r.sl i d hs with z | ⟨v, h1, h2⟩
        · subst z; cases hd
        · obtain ⟨a, us, rfl, ha, hl, rd⟩ := dicOf_ok r.toRelS h2 hd
          refine ⟨a, .dK (ks.zip us), ha, trivial, fun od => ?_⟩
          show tDc (iKeys (tVar i)) (gName j) tYes (tVar j) (tDGet (tVar i) (tVar j)) vs σ _ _
          refine ⟨.ref a, h1, a, od, rfl, .inl ⟨ks.zip us, upd_same, fun D hD => ?_⟩⟩
          have hDa : D ≠ a := fun z => by rw [z, upd_same] at hD; cases hD
          have hDH : H D = none := by rw [upd_ne hDa] at hD; exact hD
          have hwl : (L2.wipe σ vs).length = σ.length := wipe_length ..
          have hwi : (L2.wipe σ vs)[i]? = some (some (.ref a)) := by rw [wipe_out' σ vs i hi]; exact h1
          refine ⟨fun n m H' => m = ks.length - n ∧ n ≤ ks.length ∧ ∃ (q1 : KD) (ws : List V), dcopy ks ds (ks.drop n) q1 = some q ∧ q1.1.length = ws.length ∧ RDs ⟨g.K, g.G, B, O⟩ H q1.2 ws ∧ H' = upd (upd H a (.frz od (.dK (ks.zip us)))) D (.dK (q1.1.zip ws)), ⟨ks.length, rfl, Nat.zero_le _, ([], []), [], hq, rfl, rfl, rfl⟩, fun n m H' hw => ?_⟩
          obtain ⟨rfl, hn, q1, ws, hc, hlw, rdw, rfl⟩ := hw
          have hloc : (upd (upd H a (.frz od (.dK (ks.zip us)))) D (.dK (q1.1.zip ws))) a = some (.frz od (.dK (ks.zip us))) := by rw [upd_ne (Ne.symm hDa), upd_same]
          have hzl : (ks.zip us).length = ks.length := by rw [List.length_zip, ← hl, Nat.min_self]
          by_cases hlt : n < ks.length
          · refine .inr ⟨⟨hloc, by rw [hzl]; exact hlt⟩, fun H' => n + 1 ≤ ks.length ∧ ∃ (q1 : KD) (ws : List V), dcopy ks ds (ks.drop (n + 1)) q1 = some q ∧ q1.1.length = ws.length ∧ RDs ⟨g.K, g.G, B, O⟩ H q1.2 ws ∧ H' = upd (upd H a (.frz od (.dK (ks.zip us)))) D (.dK (q1.1.zip ws)), fun H' z => ⟨ks.length - (n + 1), by omega, rfl, z.1, z.2⟩, fun x H' y => ?_⟩
            obtain ⟨rfl, k, v, hkv, rfl⟩ := y
            have hk := zip_get hl hkv
            have hkn : ks[n] = k := by rw [List.getElem?_eq_getElem hlt] at hk; exact Option.some.inj hk
            rw [List.drop_eq_getElem_cons hlt, hkn] at hc
            unfold dcopy at hc
            split at hc
            · next e he =>
              split at hc
              · next hlim =>
                obtain ⟨w, hw1, hw2⟩ := (dget_ok (k := k) hl rd).1 e he
                refine ⟨?_, ?_⟩
                · have := wipe_set (σ := σ) (vs := vs) (is := [j]) (ws := [kV k]) (fun z hz => by rw [List.mem_singleton.mp hz]; exact hj)
                  exact this
                · have hne : j ≠ i := fun z => hi (z ▸ hj)
                  have hjl2 : j < (L2.wipe σ vs).length := by rw [hwl, ← r.len]; exact hjl
                  have hgj : ((L2.wipe σ vs).set j (some (kV k)))[j]? = some (some (kV k)) := List.getElem?_set_self hjl2
                  have hgi : ((L2.wipe σ vs).set j (some (kV k)))[i]? = some (some (.ref a)) := by rw [List.getElem?_set_ne hne]; exact hwi
                  obtain ⟨e1, e2⟩ := putK_zip (k := k) (y := w) hlw
                  have hfin : upd (upd (upd H a (.frz od (.dK (ks.zip us)))) D (.dK (q1.1.zip ws))) D (.dK (putK (q1.1.zip ws) k w)) = upd (upd H a (.frz od (.dK (ks.zip us)))) D (.dK ((dputN k q1.1).zip (dputX k w q1.1 ws))) := by
                    rw [e1]
                    funext b
                    by_cases e : b = D
                    · subst e; rw [upd_same, upd_same]
                    · rw [upd_ne e, upd_ne e, upd_ne e]
                  exact ⟨kV k, hgj, .ref a, hgi, kV k, hgj, a, w, rfl, .inl ⟨ks.zip us, k, .inr ⟨od, hloc⟩, rfl, hw1.symm⟩, q1.1.zip ws, k, rfl, upd_same, by rw [List.length_zip, ← hlw, Nat.min_self]; exact lim_lt hlim, hlt, (dputN k q1.1, dputX k e q1.1 q1.2), dputX k w q1.1 ws, hc, e2, dputX_rd hw2 rdw, hfin⟩
              · cases hc
            · cases hc
          · have en : n = ks.length := by omega
            subst en
            rw [List.drop_length] at hc
            have : q1 = q := Option.some.inj hc
            subst this
            refine .inl ⟨⟨hloc, by rw [hzl]; exact Nat.le_refl _⟩, hloc, ?_⟩
            have hH : upd (upd (upd H a (.frz od (.dK (ks.zip us)))) D (.dK (q1.1.zip ws))) a (.dK (ks.zip us)) = upd H D (.dK (q1.1.zip ws)) := by
              funext b
              by_cases e1 : b = a
              · subst e1
                rw [upd_same, upd_ne (Ne.symm hDa), ha]
              · rw [upd_ne e1]
                by_cases e2 : b = D
                · subst e2; rw [upd_same, upd_same]
                · rw [upd_ne e2, upd_ne e2, upd_ne e1]
            show J.nx (σ.set iy (some (.ref D))) _
            rw [hH]
            have rb := r.ban (p := D) (o := .dK (q1.1.zip ws)) hDH
            have hDO : D ∉ B := (r.fresh hDH).2
            have rl := Rel.locate (c := ⟨g.K, g.G, B, O⟩) (o := .dic q1.1 q1.2) rb hDO ⟨ws, upd_same, hlw, RDs.mv (mv_ban (c := ⟨g.K, g.G, B, O⟩) hDH) _ _ rdw⟩
            have hO : (O ++ [D])[S.length]? = some D := by
              rw [← show O.length = S.length from r.ol]
              simp
            exact p0 _ (O ++ [D]) _ (rl.set iy ⟨D, hO, rfl⟩) ((Step.new (O := O) hDH).loc hDH)
theorem ss_setDCopy {i j iy : Nat} {x z y : Str} {own : List (Str × Nat)} {k : Nat} (hr : Room k X.A) (hc : X.calm = true) (hN : X.N.Nodup) (hy : X.N[iy]? = some y) (hyl : X.env.scope.names.lookup y = some .local) (hx : X.N[i]? = some x) (hz : X.N[j]? = some z)
    (hsw : swapsWith (.DictComp (.Name z p1) (.Subscript (.Name x p2) (.Name z p3) p4) [⟨.Name z p5, .Name x p6, [], 0⟩] scope pos) (some (.Name y py)) spos.line X.env = pure true)
    (ok : BlkOk X.N X.env.scope scope own) (hv : Vis X.env.scope x) (hg : Blk X scope fun Y => PG Y (.Name z p5) (gName j)) (h1 : Blk X scope fun Y => PE Y (.Name z p1) (tVar j)) (h2 : Blk X scope fun Y => PE Y (.Subscript (.Name x p2) (.Name z p3) p4) (tDGet (tVar i) (tVar j)))
    (hj : j ∈ own.map (·.2)) (hi : i ∉ own.map (·.2)) (hd : (x == ("__debug__" : Str)) = false := by decide) (hcd : (x == ("__classdict__" : Str)) = false := by decide) (hs : ∀ v, foldedSetIterable (.Name x p6) X.env v = pure v := by intro _; rfl) :
    PS X (.Assign [.Name y py] (.DictComp (.Name z p1) (.Subscript (.Name x p2) (.Name z p3) p4) [⟨.Name z p5, .Name x p6, [], 0⟩] scope pos) spos) (rdS g W (mSet iy (mDLoc (mDCopy i j)))) :=
  PS.imp (ps_lock (ps_setDc hc hN hy hyl hsw (pi_keys (pe_var hx hv hd hcd)) ok hg (fun _ _ _ _ _ => pts_nil) h1 h2 hs)) (dcopy_imp hj hi)
def fIs2 (x y : D) (S : Sto) : R D := match y with
  | .bl c => match x with
    | .bl b => .ok (.bl (decide (b = c))) S
    | .non => .ok (.bl false) S
    | _ => .bad
  | _ => .bad
def rIsB2 : R2 := fun x y H Q => ∃ b : Bool, y = .bl b ∧ ((∃ a : Bool, x = .bl a ∧ Q (.bl (decide (a = b))) H) ∨ (x = .non ∧ Q (.bl false) H))
theorem op_isB2 : OpR X (compareOp .Is) rIsB2 := by
  intro pins s σ H x y v u Q I rx ry h
  obtain ⟨b, rfl, ⟨a, rfl, q⟩ | ⟨rfl, q⟩⟩ := h
  · exact op_isBl pins s σ H _ _ v u Q I rx ry ⟨a, b, rfl, rfl, q⟩
  · cases (show v = Value.none from rx)
    cases (show u = Value.bool b from ry)
    exact wpAny_is_other rfl (fun z => by cases z) ⟨.bl false, H, I, rfl, q⟩
theorem sc_isB : CmpS g W X .Is fIs2 := ⟨_, op_isB2, fun {B O S σd σ H x y v w Q} r hx hy p => by
  unfold fIs2 at p
  split at p
  · next c =>
    cases (show _ = _ from hy)
    split at p
    · next b =>
      cases (show _ = _ from hx)
      exact ⟨c, rfl, .inl ⟨b, rfl, post_val p r rfl⟩⟩
    · cases (show _ = _ from hx)
      exact ⟨c, rfl, .inr ⟨rfl, post_val p r rfl⟩⟩
    · exact p.elim
  · exact p.elim⟩
theorem ip_ext : PIp X .Add rExt2 := iop_ext
def fReverse (x : D) (ds : List D) (S : Sto) : R D := match x with
  | .ref n => match ds with
    | [] => match S[n]? with
      | some (.lst xs) => .ok .non (S.set n (.lst xs.reverse))
      | _ => .bad
    | _ => .bad
  | _ => .bad
theorem fReverse_ok : MethS g W rReverse fReverse := fun {B O S σd σ H x v ds vs Q} r hx hs p => by
  unfold fReverse at p
  split at p
  · next n =>
    split at p
    · split at p
      · next xs q =>
        obtain ⟨l, ho, rfl⟩ := hx
        cases (show _ = _ from hs)
        obtain ⟨us, h1, h2⟩ := r.ob n _ l q ho
        exact ⟨l, us, rfl, rfl, h1, post_write p r ho (oo_lst r.toRelS ho (RDs.rev h2)) rfl⟩
      · exact p.elim
    · exact p.elim
  · exact p.elim
theorem se_reverse {a : Expr} {apos pos : Pos} {mo : M D} (ho : PE X a (rdE g W mo)) (hbase : attributeBase a "reverse" X.env (eval a X.env) = eval a X.env := by rfl) (hline : (apos.endLine == pos.line) = true := by rfl) :
    PE X (.Call (.Attribute a "reverse" apos) [] [] pos) (rdE g W (mMeth fReverse mo mNil)) :=
  PE.imp (pe_bm0 PySem.F.plainAttrs_list PySem.F.slot_list_reverse PySem.F.type_list_reverse mt_reverse ho hbase hline) (meth0_imp fReverse_ok)
end
end DL

namespace DL
open PySem PySem.Spec PyProof.Rows L2
section
variable {X : Cx} {C f : Addr} {fd : FuncData} {ps : List Str} {sp : Sp} {n : Nat}
def rEqW (K : PySem.W.Frag) (C : Addr) (sp : Sp) : R2 := fun x y H Q => ∃ a dx fs, x = .ref a ∧ H a = some (.ins C dx fs) ∧ ((∃ b dy gs, y = .ref b ∧ H b = some (.ins C dy gs)) ∨ ∃ b vs, y = .ref b ∧ SqT K H b vs) ∧
  sp [x, y] H (fun v H' => ∃ b, v = .bl b ∧ Q v H') (fun _ _ _ => False)
theorem op_eqW (F : FnOk X.prog X.w X.K X.mg X.base (L2.CX X.prog X.w) n f fd ps sp) (hs : PySem.W.findIn X.K (.ref C) "__eq__" = some (some (.ref f))) (hf : PySem.W.isFn X.K (.ref f) = true) (hb : Binds X.K fd ps []) (hr : Room n X.A) (nf : PySem.W.notFirst X.K C (.type "tuple") = true) : OpR X (compareOp .Eq) (rEqW X.K C sp) := by
  intro pins s σ H x y v u Q I rx ry h
  obtain ⟨a, dx, fs, rfl, ha, hy, q⟩ := h
  obtain ⟨b, eb⟩ : ∃ b, y = .ref b := by
    rcases hy with ⟨b, _, _, e, _⟩ | ⟨b, _, e, _⟩ <;> exact ⟨b, e⟩
  subst eb
  cases rx
  cases ry
  obtain ⟨mA, J, _⟩ := ins_get I.hok ha
  obtain ⟨od, J, _⟩ := J.look
  obtain ⟨m, hF⟩ := I.fr
  obtain ⟨tb, ht, hn⟩ : ∃ tb, PySem.W.Looks (model X.prog X.w) s.heap (typeOf (.ref b)) tb ∧ PySem.W.notFirst X.K C tb = true := by
    rcases hy with ⟨b', dy, gs, e, hb'⟩ | ⟨b', vs, e, hb'⟩
    · cases e
      obtain ⟨mB, J', _⟩ := ins_get I.hok hb'
      obtain ⟨od', J', _⟩ := J'.look
      exact ⟨.ref C, J'.type, by simp [PySem.W.notFirst]⟩
    · cases e
      obtain ⟨its, _, ⟨o, ho, hc, _⟩, _⟩ := I.tuple hb'
      exact ⟨.type "tuple", fun A Q E s k q => wpAny_typeOf_ref (k _ _ ho) (by rw [hc]; exact q), nf⟩
  show wpAny (model X.prog X.w) X.A (richCompare .Eq (.ref a) (.ref b)) (EP X pins σ Q) X.xe s
  refine PySem.W.cmp_K (op := .Eq) (tb := tb) hr.units0 hF I.ok.mod.kin J ht hn hs hf ?_
  have hl := F.len _ _ _ _ q
  have r2 : Vals [V.ref a, V.ref b] [Value.ref a, Value.ref b] := .cons rfl (.cons rfl .nil)
  refine wpAny_call (codeAny_mono (F.run X.A X.stack s H ⟨[.ref a, .ref b], []⟩ [.ref a, .ref b] [.ref a, .ref b] _ _ hr I.env0 (by
    have := hb s [.ref a, .ref b] I.kIn (by simpa using hl)
    simpa using this) r2 q) fun r s' hq => ?_)
  cases r with
  | error e => exact (cx_false hq).elim
  | ok fl =>
    cases fl with
    | ret w =>
      obtain ⟨z, H', I', rz, c, ez, qq⟩ := I.after hq
      subst ez
      cases rz
      exact ⟨.bl c, H', I', rfl, qq⟩
    | next => exact False.elim hq
    | brk => exact False.elim hq
    | cont => exact False.elim hq
variable {g : Gx} {W : WX}
/-- the other side: the same class, or a tuple -/
def sideOk (k : Nat) (S : Sto) (y : D) : Bool := match tupOf y with
  | some _ => true
  | none => match insOf S y with
    | some (k', _, _) => decide (k' = k)
    | none => false
def fEqO (k : Nat) (fn : List D → Sto → R D) (x y : D) (S : Sto) : R D := match insOf S x with
  | some (k', _, _) => if k' = k ∧ sideOk k S y = true then match fn [x, y] S with
      | .ok d S' => match d with
        | .bl b => .ok (.bl b) S'
        | _ => .bad
      | _ => .bad
    else .bad
  | none => .bad
theorem fEqO_ok {k : Nat} {fn : List D → Sto → R D} {K : PySem.W.Frag} : OpS g W (rEqW K (g.G k) (spD g fn)) (fEqO k fn) := fun {B O S σd σ H x y v w Q} r hx hy p => by
  unfold fEqO at p
  split at p
  · next k' ns ds qi =>
    split at p
    · next ek =>
      obtain ⟨ek, sd⟩ := ek
      subst ek
      obtain ⟨a, dx, vs, ev, h1, l, h2⟩ := insOf_ok r.toRelS hx qi
      refine ⟨a, dx, _, ev, h1, ?_, B, O, S, [x, y], r.toRelS, ⟨v, [w], rfl, hx, RDs.one hy⟩, ?_⟩
      · unfold sideOk at sd
        split at sd
        · next ds q =>
          obtain ⟨b, us, e, h3, h4⟩ := tupOf_ok hy q
          exact .inr ⟨b, us, e, h3.sq⟩
        · split at sd
          · next k2 ns2 ds2 q =>
            have e2 := of_decide_eq_true sd
            subst e2
            obtain ⟨b, dy, us, e, h3, _, _⟩ := insOf_ok r.toRelS hy q
            exact .inl ⟨b, dy, _, e, h3⟩
          · cases sd
      · revert p
        cases fn [x, y] S with
        | ok d S' =>
          cases d with
          | bl b => exact fun p v O' H' h1 h2 h3 => ⟨b, h2, p v O' H' (r.step h3 h1) h2 h3⟩
          | _ => exact fun p => p.elim
        | exc k ns es S' => exact fun p => p.elim
        | bad => exact fun p => p.elim
    · exact p.elim
  · exact p.elim
theorem sc_eqO {k j : Nat} {f : Addr} {fd : FuncData} {ps : List Str} {fn : List D → Sto → R D} (hk : X.K = g.K) (F : FnOk X.prog X.w X.K X.mg X.base (L2.CX X.prog X.w) j f fd ps (spD g fn)) (hr : Room j X.A) (hb : Binds X.K fd ps [])
    (hs : PySem.W.findIn g.K (.ref (g.G k)) "__eq__" = some (some (.ref f))) (hf : PySem.W.isFn g.K (.ref f) = true) (nf : PySem.W.notFirst g.K (g.G k) (.type "tuple") = true) : CmpS g W X .Eq (fEqO k fn) :=
  ⟨_, op_eqW F (by rw [hk]; exact hs) (by rw [hk]; exact hf) hb hr (by rw [hk]; exact nf), fEqO_ok⟩
end
end DL

set_option maxHeartbeats 4000000
namespace PySem
namespace DLX
open PySem.W PySem.Calls PyProof.Rows PySem.HandSPX
def iA (fs : List (Str × Pos)) (p1 : Pos) : Arguments := { posonlyargs := [], args := { arg := "self", annotation := none, pos := p1 } :: fs.map fun f => { arg := f.1, annotation := none, pos := f.2 }, vararg := none, kwonlyargs := [], kw_defaults := [], kwarg := none, defaults := [] }
def iSup (m : Str) (q1 q2 q3 q4 q5 q6 : Pos) : Stmt := .Expr (.Call (.Attribute (.Call (.Name "super" q1) [] [] q2) "__init__" q3) [.Constant (.str m) 0 q4] [] q5) q6
def iSto (f : Str) (r1 r2 r3 r4 : Pos) : Stmt := .Assign [.Attribute (.Name "self" r1) f r2] (.Name f r3) r4
def iS1 (f : Str) : Scope := { kind := .function, names := [(PySem.Str.ofString "self", .local), (f, .local), (PySem.Str.ofString "__class__", .free), (PySem.Str.ofString "super", .globalImplicit)], isGenerator := false, isCoroutine := false, more := [] }
def iS2 (f g : Str) : Scope := { kind := .function, names := [(PySem.Str.ofString "self", .local), (f, .local), (g, .local), (PySem.Str.ofString "__class__", .free), (PySem.Str.ofString "super", .globalImplicit)], isGenerator := false, isCoroutine := false, more := [] }
/-- what the written part says of an exception class at C with an own __init__ at fI -/
structure XCl (prog : Program) (K : Frag) (mg : Str → Option Value) (C fI : Addr) : Prop where
  cls : ∃ nm q N bs bm sn sub ab col dd k0 k1 k2 k3 k5, K.lookup C = some (excClassObj nm q C N bs bm true sn sub ab col dd k0 k1 k2 k3 k5 "ValueError.__new__") ∧ refsVE bm = true
  sa : findIn K (.ref C) "__setattr__" = some (some (.builtin "object.__setattr__"))
  iC : findIn K (.ref C) "__init__" = some (some (.ref fI))
  tC : typeIn K (.ref fI) = some (.type "function")
  kC : keepIn K (.ref C) = true
  exC : subIn K (.ref C) (.type "BaseException") = some true
  tyC : typeIn K (.ref C) = some (.type "type")
  su : ks_superIn K C C "__init__" = some (some (.builtin "ValueError.__init__"))
  op : nsIn K cStatics "thirdparty.any" = some none
  ms : mroIn K C (.ref C) = some true
  vE : subIn K (.ref C) (.type "ValueError") = some true
  sup : mg "super" = none
  top : (prog.main.scope.names.lookup ("super" : Str)).isSome = false
/-- its __init__'s own text -/
structure XFn (prog : Program) (K : Frag) (C fI : Addr) (qual : Str) (ar : Arguments) (bd : List Stmt) (sc : Scope) : Prop where
  fn : ∃ (oc : Value) (od : Option Addr) (doc pm dV kV : Value) (an : Option Addr) (ct : Value) (osl : Array (Option Value)) (cda cc : Addr) (ccl cl : Value) (cdd cld : Option Addr) (vs : Array Value) (file : Str) (tf : Tok) (ccs csl : Array (Option Value)),
    K.lookup fI = some ⟨oc, od, .func (ksFn "__init__" qual ar bd sc dV kV doc pm an (.ref cda) ct cc), osl⟩ ∧ codeIn K (.ref cda) qual = true ∧ K.lookup cda = some ⟨ccl, cdd, .fields vs, ccs⟩ ∧ vs[2]? = some (.str file tf) ∧ ((prog.main.file : Str) == file) = true ∧
      K.lookup cc = some ⟨cl, cld, .cell (some (.ref C)), csl⟩ ∧ dV = .none
/-- what __init__ leaves of a fresh exception at x -/
structure InitEnd (h h' : Heap) (x C dx t1 : Addr) (m : Str → Option Value) : Prop where
  keep : ∀ b o, b ≠ x → h.get? b = some o → h'.get? b = some o
  obj : h'.get? x = some { cls := .ref C, dict := some dx, data := .fields #[.ref t1, .none, .none, .none, .bool false, .none] }
  dbig : h.objs.size ≤ dx
  dne : dx ≠ x
  ns : h'.Ns1 dx m
/-- the globals stand -/
structure Gm (h : Heap) (mg : Str → Option Value) : Prop where
  g : h.Ns mainGlobals mg
  b : ∃ mb, h.Ns builtinsNs mb ∧ ∀ x : Str, x ≠ "__name__" → mb x = bootBuiltins x
theorem Gm.keeps {h h' : Heap} {mg : Str → Option Value} (G : Gm h mg) (k : ∀ b o, h.get? b = some o → h'.get? b = some o) : Gm h' mg := ⟨G.g.keeps k, by obtain ⟨mb, h1, h2⟩ := G.b; exact ⟨mb, h1.keeps k, h2⟩⟩
section
variable {prog : Program} {w : World} {A : Around} {E : Value → Shared → Prop} {R : Result → Shared → Prop} {s : Shared} {K : Frag} {mg : Str → Option Value} {C fI : Addr}
theorem mw_call {nm q : Str} {N : Addr} {bs bm : List Value} {sn : List Str} {sub : List Value} {ab : Bool} {col : Option Bool} {dd : Option Addr} {k0 k1 k2 k3 k5 : Option Value} {u e t0 : Addr} {rest : List Value} {Q : Value → Shared → Prop} (hbm : refsVE bm = true)
    (hC : s.heap.get? C = some (excClassObj nm q C N bs bm true sn sub ab col dd k0 k1 k2 k3 k5 "ValueError.__new__")) (he : s.heap.get? e = some (excO C t0)) (hu : s.heap.get? u = some (kxs_mw "ValueError.__init__" e)) (hrest : rest.length ≤ sizeLine)
    (hq : ∀ h' t1, (∀ b o, b ≠ e → s.heap.get? b = some o → h'.get? b = some o) → h'.get? e = some (excO C t1) → Q .none { s with heap := h' }) :
    wpAny (model prog w) A (call (.ref u) rest) Q E s := by
  obtain ⟨hh, g, d, tk, os⟩ := s
  refine wpAny_call (codeAny_of_tree ?_)
  show wpAny _ A.in1 (callAny (.ref u) ⟨rest, []⟩) _ _ _
  simp only [callAny]
  refine wpAny_bind (wpAny_load hu ?_)
  simp only [kxs_mw, show (Value.type "method-wrapper" == Value.type "method" || Value.type "method-wrapper" == Value.type "builtin_function_or_method" || Value.type "method-wrapper" == Value.type "method-wrapper") = true by decide, if_true]
  refine KFB.if_so (by decide) ?_
  refine wpAny_bind (check_bound_init F.excBase_ValueError.toExcCallFacts hC he rfl ?_)
  refine wpAny_bind (wpAny_pure (wpAny_pure ?_))
  refine ⟨plainId_quiet F.excBase_ValueError.init.plain _, codeAny_builtin F.excBase_ValueError.initEntry ?_⟩
  exact exc_init_tree (cls := .ref C) (t0 := t0) (dv := none) (c2 := .none) (c3 := .none) (b4 := .bool false) he hrest fun h' k e' t' => hq h' _ k e'
/-- super().__init__(text) is a call of a method, as its place tells -/
def SupEv (fI : Addr) (qual : Str) (sc : Scope) (m : Str) (q1 q2 q3 q4 q5 q6 : Pos) : Prop := ∀ (L cda cc : Addr), interactive (ksEnv qual sc L fI (.ref cda) cc) = false ∧ swapsWith (.Call (.Attribute (.Call (.Name "super" q1) [] [] q2) "__init__" q3) [.Constant (.str m) 0 q4] [] q5) none q6.line (ksEnv qual sc L fI (.ref cda) cc) = pure false ∧ ∃ pl : Sem Bool, eval (.Call (.Attribute (.Call (.Name "super" q1) [] [] q2) "__init__" q3) [.Constant (.str m) 0 q4] [] q5) (ksEnv qual sc L fI (.ref cda) cc) = (do
      let ov ← attributeBase (.Call (.Name "super" q1) [] [] q2) "__init__" (ksEnv qual sc L fI (.ref cda) cc) (eval (.Call (.Name "super" q1) [] [] q2) (ksEnv qual sc L fI (.ref cda) cc))
      standAt q3.atName
      let (f, first) ← holding [ov] (getMethod ov "__init__" pl)
      callWith q5 f first (backTo q5 (starEach [.Constant (.str m) 0 q4] (ksEnv qual sc L fI (.ref cda) cc))) [])
/-- up to behind super().__init__(text) -/
theorem xsup {qual : Str} {ar : Arguments} {bd : List Stmt} {sc : Scope} {m : Str} {q1 q2 q3 q4 q5 q6 : Pos} (T : XCl prog K mg C fI) (U : XFn prog K C fI qual ar (iSup m q1 q2 q3 q4 q5 q6 :: bd) sc) {x t0 : Addr} {args : List Value} {binds : List (Str × Value)} {a0 : Arg} (X : K.In s.heap) (G : Gm s.heap mg) (hlim : s.heap.NoLimit) (hx : s.heap.get? x = some (excO C t0)) (hroom : A.depth < recursionLimit)
    (hb : ∀ (dV kV doc pm : Value) (an : Option Addr) (cdv ct : Value) (cc : Addr), dV = .none → BindsTo s (ksFn "__init__" qual ar (iSup m q1 q2 q3 q4 q5 q6 :: bd) sc dV kV doc pm an cdv ct cc) ⟨args, []⟩ binds) (hcell : ∀ x ∈ sc.names, x.2 ≠ .cell) (hloc : ∀ y ∈ binds, sc.names.lookup y.1 = some .local)
    (hp : (ar.posonlyargs ++ ar.args).head? = some a0) (hself : a0.arg = "self") (hv : binds.reverse.lookup ("self" : Str) = some (.ref x)) (hks : sc.names.lookup ("super" : Str) = some .globalImplicit) (hkc : sc.names.lookup ("__class__" : Str) = some .free) (hka : sc.names.lookup ("self" : Str) = some .local) (hk : sc.kind = .function) (hco : sc.isCoroutine = false) (hgen : sc.isGenerator = false) (hev : SupEv fI qual sc m q1 q2 q3 q4 q5 q6)
    (hq : ∀ h' tk t1 L cdv cc E', (∀ b o, b ≠ x → s.heap.get? b = some o → h'.get? b = some o) → h'.get? x = some (excO C t1) → s.heap.objs.size < h'.objs.size → h'.Ns L (fun y => binds.reverse.lookup y) →
      wpAny (model prog w) (A.deeper (ksEnv qual sc L fI cdv cc)) (execs bd (ksEnv qual sc L fI cdv cc)) (fun f s' => R (.ok (.ret (match f with | .ret v => v | _ => .none))) s') E' { s with heap := h', toks := tk }) :
    codeAny (model prog w) A (.call (.ref fI) ⟨args, []⟩) R s := by
  obtain ⟨oc, od, doc, pm, dV, kV, an, ct, osl, cda, cc, ccl, cl, cdd, cld, vs, file, tf, ccs, csl, ho, hcd, hco1, hvs, hfile, hcl1, hdV⟩ := U.fn
  obtain ⟨nm, q, N, bs, bm, sn, sub, ab, col, dd, k0, k1, k2, k3, k5, hC, hbm⟩ := T.cls
  refine ks_codeAny_call_defAt (fd := ksFn "__init__" qual ar (iSup m q1 q2 q3 q4 q5 q6 :: bd) sc dV kV doc pm an (.ref cda) ct cc) (body := iSup m q1 q2 q3 q4 q5 q6 :: bd) (binds := binds) hroom (X _ _ ho) rfl hlim (codeRec_of X hcd) rfl (hb _ _ _ _ _ _ _ _ hdV) hcell hloc (fun h₁ hns k => ?_) hco hgen hk
  have X₁ : K.In h₁ := X.keeps k
  have G₁ := G.keeps k
  have hx₁ := k _ _ hx
  have hC₁ := X₁ _ _ hC
  have hxC : x ≠ C := fun z => by
    rw [z] at hx₁
    have := hx₁.symm.trans hC₁
    cases this
  obtain ⟨mb, hmb, hmb2⟩ := G₁.b
  show _root_.PySem.wpAt (model prog w) (A.deeper (ksEnv qual sc s.heap.objs.size fI (.ref cda) cc)) (.func (iSup m q1 q2 q3 q4 q5 q6 :: bd) (ksEnv qual sc s.heap.objs.size fI (.ref cda) cc)) (execs (iSup m q1 q2 q3 q4 q5 q6 :: bd) (ksEnv qual sc s.heap.objs.size fI (.ref cda) cc)) _ _ _
  obtain ⟨hi1, hs1, pl, hpl⟩ := hev s.heap.objs.size cda cc
  refine ks_wpAt_execs_cons (ks_wpAt_Expr_any (ks_wpAt_MethodCall ?_ hpl) hi1 hs1)
  refine ks_wpAt_super_base (env := ksEnv qual sc s.heap.objs.size fI (.ref cda) cc) hks hkc (by decide) rfl (X₁ _ _ ho) rfl hp rfl (X₁ _ _ hco1) rfl hvs hfile T.top ?_
  refine ks_loadName_global hk hks (loadGlobal_builtin (env := ksEnv qual sc s.heap.objs.size fI (.ref cda) cc) G₁.g T.sup hmb ((hmb2 _ (by decide)).trans (by first | boot_by_name | rfl | kernel_rfl)) ⟨rfl, ?_⟩)
  refine wpAny_loadName_free hk hkc rfl ⟨_, X₁ _ _ hcl1, rfl⟩ ?_
  refine wpAny_loadName_local (v := .ref x) hk (by rw [hself]; exact hka) hns (by rw [hself]; exact hv) ?_
  refine ks_wpAny_isType_cls hC₁ rfl ⟨rfl, ?_⟩
  refine ks_wpAny_call_super hC₁ rfl hx₁ rfl (fun c e => by cases e) (looks_mroIn X₁ T.ms) (fun h₂ hso k₂ => ?_)
  have X₂ : K.In h₂ := X₁.keeps k₂
  have hx₂ := k₂ _ _ hx₁
  have hI : Looks (model prog w) h₂ (isInstance (.ref x) (.type "ValueError")) true := (show W.InstAt h₂ x (excO C t0) C none from ⟨hx₂, rfl, rfl, trivial⟩).type.andThen (looks_subIn X₂ T.vE)
  have hsu := T.su
  have hcl : clsIn K C = some { name := nm, bases := bs, mro := .ref C :: bm, ns := N, qualname := q, hasDict := true, slotNames := sn, subclasses := sub, abstract := ab, collection := col, hasDel := false } := by unfold clsIn; rw [hC] <;> rfl
  unfold ks_superIn at hsu
  rw [hcl] at hsu
  refine kxs_getMethod kxs_ValueError hso (looks_opaque X₂ T.op) (l₀ := .ref C :: bm) (fun A Q E s k q => wpAny_bind ((looks_clsIn X₂ hcl) A _ E s k (wpAny_pure q))) rfl X₂ hsu hI hxC (by decide) ?_
  have k₃ : ∀ b o, h₂.get? b = some o → (h₂.push (kxs_mw "ValueError.__init__" x)).get? b = some o := fun b o e => Heap.get?_push_of_some _ e
  refine kxs_callWith (i := "ValueError.__init__") (x := x) rfl (evalArgs_plain (spliced_cons (Calls.Constant_str (k := 0) (pos := q4) (spliced_nil ⟨show Heap.get? _ _ = _ from Heap.get?_push_at rfl rfl, ?_⟩))))
  refine mw_call (s := ⟨h₂.push (kxs_mw "ValueError.__init__" x), _, _, _, _⟩) hbm (k₃ _ _ (k₂ _ _ hC₁)) (k₃ _ _ hx₂) (Heap.get?_push_at rfl rfl) (by show 1 ≤ sizeLine; rw [sizeLine_eq]; omega) fun h₄ t1 k₄ hx₄ => ?_
  refine wpAt_of_wpAny ?_
  obtain ⟨oL, es, ep, hL, r⟩ := hns
  have hLx : s.heap.objs.size ≠ x := Nat.ne_of_gt (Heap.lt_size hx)
  have hL4 := k₄ _ _ hLx (k₃ _ _ (k₂ _ _ hL))
  exact hq h₄ _ t1 s.heap.objs.size (.ref cda) cc _ (fun b o hb e => k₄ b o hb (k₃ _ _ (k₂ _ _ (k b o e)))) hx₄ (Heap.lt_size hL4) ⟨oL, es, ep, hL4, r⟩
end
end DLX
end PySem

set_option maxHeartbeats 4000000
namespace PySem
namespace DLX
open PySem.W PySem.Calls PyProof.Rows PySem.HandSPX
/-- what __init__ does with the arguments us: the fields are m's -/
def InitOk (prog : Program) (w : World) (K : Frag) (mg : Str → Option Value) (C fI : Addr) (us : List Value) (m : Str → Option Value) : Prop := ∀ {A : Around} {R : Result → Shared → Prop} {s : Shared} {x t0 : Addr}, K.In s.heap → Gm s.heap mg → s.heap.NoLimit → s.heap.get? x = some (excO C t0) → K.lookup x = none → A.depth < recursionLimit →
  (∀ h' tk dx t1, InitEnd s.heap h' x C dx t1 m → R (.ok (.ret .none)) { s with heap := h', toks := tk }) → codeAny (model prog w) A (.call (.ref fI) ⟨.ref x :: us, []⟩) R s
section
variable {prog : Program} {w : World} {K : Frag} {mg : Str → Option Value} {C fI : Addr}
theorem ldK {M : Model} {A : Around} {E : Value → Shared → Prop} {s : Shared} {q : Str} {sc : Scope} {L a cc : Addr} {cd : Value} {m : Str → Option Value} {x : Str} {pos : Pos} {v : Value} {Q : Value → Shared → Prop} (hk : sc.kind = .function) (hl : sc.names.lookup x = some .local) (hn : s.heap.Ns L m) (hv : m x = some v) (h : Q v s)
    (hd : (x == ("__debug__" : Str)) = false) : wpAny M A (eval (.Name x pos) (ksEnv q sc L a cd cc)) Q E s := wpAny_Name (wpAny_loadName_local (env := ksEnv q sc L a cd cc) hk hl hn hv h) hd
theorem xinit1 {qual f m : Str} {ar : Arguments} {a0 : Arg} {q1 q2 q3 q4 q5 q6 r1 r2 r3 r4 : Pos} (T : XCl prog K mg C fI) (U : XFn prog K C fI qual ar (iSup m q1 q2 q3 q4 q5 q6 :: [iSto f r1 r2 r3 r4]) (iS1 f)) (hev : SupEv fI qual (iS1 f) m q1 q2 q3 q4 q5 q6) (hno : findIn K (.ref C) f = some none) (v : Value)
    (hb : ∀ (s : Shared) (x : Addr) (dV kV doc pm : Value) (an : Option Addr) (cdv ct : Value) (cc : Addr), dV = .none → BindsTo s (ksFn "__init__" qual ar (iSup m q1 q2 q3 q4 q5 q6 :: [iSto f r1 r2 r3 r4]) (iS1 f) dV kV doc pm an cdv ct cc) ⟨[.ref x, v], []⟩ [("self", .ref x), (f, v)])
    (hp : (ar.posonlyargs ++ ar.args).head? = some a0) (hself : a0.arg = "self") (hfs : (("self" : Str) == f) = false) (hfd : (f == ("__debug__" : Str)) = false) (hfl : (iS1 f).names.lookup f = some .local) (hks : (iS1 f).names.lookup ("super" : Str) = some .globalImplicit) (hkc : (iS1 f).names.lookup ("__class__" : Str) = some .free)
    (hsw : ∀ (L cc : Addr) (cd : Value), swapsWith (.Name f r3) (some (.Attribute (.Name "self" r1) f r2)) r4.line (ksEnv qual (iS1 f) L fI cd cc) = pure false) : InitOk prog w K mg C fI [v] (fun y => if y = f then some v else none) := by
  intro A R s x t0 X G hlim hx hnx hroom hq
  have hfs' : f ≠ "self" := fun z => by rw [z] at hfs; revert hfs; decide
  have lkf : ([((("self" : Str)), Value.ref x), (f, v)].reverse).lookup f = some v := by simp [List.lookup]
  have lks : ([((("self" : Str)), Value.ref x), (f, v)].reverse).lookup ("self" : Str) = some (.ref x) := by simp [List.lookup, hfs]
  obtain ⟨nm, q, N, bs, bm, sn, sub, ab, col, dd, k0, k1, k2, k3, k5, hC, hbm⟩ := T.cls
  have hcl : clsIn K C = some { name := nm, bases := bs, mro := .ref C :: bm, ns := N, qualname := q, hasDict := true, slotNames := sn, subclasses := sub, abstract := ab, collection := col, hasDel := false } := by unfold clsIn; rw [hC] <;> rfl
  refine xsup T U X G hlim hx hroom (fun dV kV doc pm an cdv ct cc e => hb s x dV kV doc pm an cdv ct cc e) (by unfold iS1; simp) (fun y hy => ?_) hp hself lks hks hkc rfl rfl rfl rfl hev (fun h' tk t1 L cdv cc E' k hx1 hsz hns => ?_)
  · rcases List.mem_cons.mp hy with z | z
    · rw [z]; rfl
    · rw [List.mem_singleton.mp z]; exact hfl
  · have X' : K.In h' := fun a o e => k a o (fun z => by rw [z, hnx] at e; cases e) (X a o e)
    refine wpAny_execs_cons (plainObj_wpAny_Assign_Attribute ?_ (hsw _ _ _))
    refine ldK (v := v) rfl hfl hns lkf (ldK (v := .ref x) rfl rfl hns lks ?_ (by decide)) hfd
    refine set_plain X' (ox := excO C t1) (od := none) ⟨hx1, rfl, rfl, trivial⟩ T.sa ?_
    refine exc_osa X' hx1 hcl (show refsVE (.ref C :: bm) = true from hbm) rfl hno (fun h₃ tk₃ dx k₃ dn dne hx₃ hn₃ => ?_)
    exact wpAny_execs_nil (hq h₃ tk₃ dx t1 ⟨fun b o hb e => k₃ b o hb (k b o hb e), hx₃, Nat.le_of_lt (Nat.lt_of_lt_of_le hsz dn), dne, hn₃⟩)
theorem xinit2 {qual f g m : Str} {ar : Arguments} {a0 : Arg} {q1 q2 q3 q4 q5 q6 r1 r2 r3 r4 u1 u2 u3 u4 : Pos} (T : XCl prog K mg C fI) (U : XFn prog K C fI qual ar (iSup m q1 q2 q3 q4 q5 q6 :: [iSto f r1 r2 r3 r4, iSto g u1 u2 u3 u4]) (iS2 f g)) (hev : SupEv fI qual (iS2 f g) m q1 q2 q3 q4 q5 q6) (hno : findIn K (.ref C) f = some none) (hno2 : findIn K (.ref C) g = some none) (v v2 : Value)
    (hb : ∀ (s : Shared) (x : Addr) (dV kV doc pm : Value) (an : Option Addr) (cdv ct : Value) (cc : Addr), dV = .none → BindsTo s (ksFn "__init__" qual ar (iSup m q1 q2 q3 q4 q5 q6 :: [iSto f r1 r2 r3 r4, iSto g u1 u2 u3 u4]) (iS2 f g) dV kV doc pm an cdv ct cc) ⟨[.ref x, v, v2], []⟩ [("self", .ref x), (f, v), (g, v2)])
    (hp : (ar.posonlyargs ++ ar.args).head? = some a0) (hself : a0.arg = "self") (hfs : (("self" : Str) == f) = false) (hgs : (("self" : Str) == g) = false) (hgf : (f == g) = false) (hfd : (f == ("__debug__" : Str)) = false) (hgd : (g == ("__debug__" : Str)) = false) (hfl : (iS2 f g).names.lookup f = some .local) (hgl : (iS2 f g).names.lookup g = some .local) (hks : (iS2 f g).names.lookup ("super" : Str) = some .globalImplicit) (hkc : (iS2 f g).names.lookup ("__class__" : Str) = some .free)
    (hsw : ∀ (L cc : Addr) (cd : Value), swapsWith (.Name f r3) (some (.Attribute (.Name "self" r1) f r2)) r4.line (ksEnv qual (iS2 f g) L fI cd cc) = pure false) (hsw2 : ∀ (L cc : Addr) (cd : Value), swapsWith (.Name g u3) (some (.Attribute (.Name "self" u1) g u2)) u4.line (ksEnv qual (iS2 f g) L fI cd cc) = pure false) :
    InitOk prog w K mg C fI [v, v2] (fun y => if y = g then some v2 else if y = f then some v else none) := by
  intro A R s x t0 X G hlim hx hnx hroom hq
  have lkg : ([((("self" : Str)), Value.ref x), (f, v), (g, v2)].reverse).lookup g = some v2 := by simp [List.lookup]
  have lkf : ([((("self" : Str)), Value.ref x), (f, v), (g, v2)].reverse).lookup f = some v := by simp [List.lookup, hgf]
  have lks : ([((("self" : Str)), Value.ref x), (f, v), (g, v2)].reverse).lookup ("self" : Str) = some (.ref x) := by simp [List.lookup, hfs, hgs]
  obtain ⟨nm, q, N, bs, bm, sn, sub, ab, col, dd, k0, k1, k2, k3, k5, hC, hbm⟩ := T.cls
  have hcl : clsIn K C = some { name := nm, bases := bs, mro := .ref C :: bm, ns := N, qualname := q, hasDict := true, slotNames := sn, subclasses := sub, abstract := ab, collection := col, hasDel := false } := by unfold clsIn; rw [hC] <;> rfl
  refine xsup T U X G hlim hx hroom (fun dV kV doc pm an cdv ct cc e => hb s x dV kV doc pm an cdv ct cc e) (by unfold iS2; simp) (fun y hy => ?_) hp hself lks hks hkc rfl rfl rfl rfl hev (fun h' tk t1 L cdv cc E' k hx1 hsz hns => ?_)
  · rcases List.mem_cons.mp hy with z | z
    · rw [z]; rfl
    · rcases List.mem_cons.mp z with z | z
      · rw [z]; exact hfl
      · rw [List.mem_singleton.mp z]; exact hgl
  · have X' : K.In h' := fun a o e => k a o (fun z => by rw [z, hnx] at e; cases e) (X a o e)
    refine wpAny_execs_cons (plainObj_wpAny_Assign_Attribute ?_ (hsw _ _ _))
    refine ldK (v := v) rfl hfl hns lkf (ldK (v := .ref x) rfl rfl hns lks ?_ (by decide)) hfd
    refine set_plain X' (ox := excO C t1) (od := none) ⟨hx1, rfl, rfl, trivial⟩ T.sa ?_
    refine exc_osa X' hx1 hcl (show refsVE (.ref C :: bm) = true from hbm) rfl hno (fun h₃ tk₃ dx k₃ dn dne hx₃ hn₃ => ?_)
    have X3 : K.In h₃ := fun a o e => k₃ a o (fun z => by rw [z, hnx] at e; cases e) (X' a o e)
    obtain ⟨oL, es, ep, hL, r⟩ := hns
    have hLx : L ≠ x := fun z => by
      rw [z, hx1] at hL
      have := Option.some.inj hL
      subst this
      cases r.1
    have hns3 : h₃.Ns L (fun y => [((("self" : Str)), Value.ref x), (f, v), (g, v2)].reverse.lookup y) := ⟨oL, es, ep, k₃ _ _ hLx hL, r⟩
    refine wpAny_execs_cons (plainObj_wpAny_Assign_Attribute ?_ (hsw2 _ _ _))
    refine ldK (v := v2) rfl hgl hns3 lkg (ldK (v := .ref x) rfl rfl hns3 lks ?_ (by decide)) hgd
    have hw : Within (fun y => if y = f then some v else none) [f] := fun y hy => by
      by_cases z : y = f
      · rw [z]; exact List.mem_cons_self ..
      · exact absurd (show (if y = f then some v else none) = none by rw [if_neg z]) hy
    obtain ⟨oD, _, _, hoD, _, _⟩ := hn₃.count hw
    refine set_plain X3 (ox := { cls := .ref C, dict := some dx, data := .fields #[.ref t1, .none, .none, .none, .bool false, .none] }) (od := some oD) ⟨hx₃, rfl, rfl, hoD⟩ T.sa ?_
    refine PySem.OEX.osa_old X3 hx₃ hn₃ hw (by simp) hcl (show refsVE (.ref C :: bm) = true from hbm) rfl hno2 (fun h4 tk4 k4 hn4 => ?_)
    exact wpAny_execs_nil (hq h4 tk4 dx t1 ⟨fun b o hb e => by
      by_cases z : b = dx
      · rw [z] at e
        exact absurd (Heap.lt_size e) (Nat.not_lt.mpr (Nat.le_of_lt (Nat.lt_of_lt_of_le hsz dn)))
      · exact k4 b o z (k₃ b o hb (k b o hb e)), k4 x _ (Ne.symm dne) hx₃, Nat.le_of_lt (Nat.lt_of_lt_of_le hsz dn), dne, hn4⟩)
/-- a made exception -/
structure OwnMade (h h' : Heap) (e C d : Addr) (m : Str → Option Value) : Prop where
  keep : ∀ b o, h.get? b = some o → h'.get? b = some o
  new : h.objs.size ≤ e
  obj : ∃ oe vs, h'.get? e = some oe ∧ oe.cls = .ref C ∧ oe.dict = some d ∧ oe.data = .fields vs ∧ vs[1]? = some .none ∧ vs[2]? = some .none
  dbig : h.objs.size ≤ d
  dne : d ≠ e
  ns : h'.Ns1 d m
  six : ∀ oe vs, h'.get? e = some oe → oe.data = .fields vs → 4 < vs.size
theorem xmade {A : Around} {R : Result → Shared → Prop} {s : Shared} (T : XCl prog K mg C fI) {us : List Value} {m : Str → Option Value} (hI : InitOk prog w K mg C fI us m) (X : K.In s.heap) (G : Gm s.heap mg) (hlim : s.heap.NoLimit) (hroom : A.depth + 1 < recursionLimit) (hus : us.length ≤ sizeLine)
    (hq : ∀ h' tk e d, OwnMade s.heap h' e C d m → R (.ok (.ret (.ref e))) { s with heap := h', toks := tk }) : codeAny (model prog w) A (.call (.ref C) ⟨us, []⟩) R s := by
  obtain ⟨nm, q, N, bs, bm, sn, sub, ab, col, dd, k0, k1, k2, k3, k5, hC, hbm⟩ := T.cls
  obtain ⟨hp, g, dr, tk, os⟩ := s
  have k : ∀ b o, hp.get? b = some o → ((hp.push (kdv_tup us)).push (excO C hp.objs.size)).get? b = some o := fun b o e => Heap.get?_push_of_some _ (Heap.get?_push_of_some _ e)
  have hget : ((hp.push (kdv_tup us)).push (excO C hp.objs.size)).get? (hp.objs.size + 1) = some (excO C hp.objs.size) := by heap_get
  have hnx : K.lookup (hp.objs.size + 1) = none := by
    cases e : K.lookup (hp.objs.size + 1) with
    | none => rfl
    | some o =>
      have z : hp.get? (hp.objs.size + 1) = some o := X _ _ e
      exact absurd (Nat.lt_of_succ_lt (Heap.lt_size z)) (Nat.lt_irrefl _)
  refine call_own F.excBase_ValueError (fun X => refsVE_contains X bm hbm) (X _ _ hC) (looks_findIn X T.iC) (fun self => bind_fn X self T.tC) hus ?_
  refine hI (s := ⟨(hp.push (kdv_tup us)).push (excO C hp.objs.size), g, dr, tk, os⟩) (X.keeps k) (G.keeps k) (hlim.keeps k) hget hnx ?_ fun h' tk' dx t1 ⟨k', hx, dn, dne, hns⟩ => ?_
  · show A.depth + 1 < recursionLimit
    exact hroom
  · have old : ∀ b o, hp.get? b = some o → h'.get? b = some o := fun b o e => k' b o (Nat.ne_of_lt (Nat.lt_succ_of_lt (Heap.lt_size e))) (k b o e)
    have z : hp.objs.size + 1 + 1 ≤ dx := by
      first
        | (simpa only [Heap.size_push] using dn)
        | exact dn
        | (have q := dn; rw [Heap.size_push, Heap.size_push] at q; exact q)
    exact ⟨rfl, hq h' tk' (hp.objs.size + 1) dx ⟨old, Nat.le_succ _, ⟨_, _, hx, rfl, rfl, rfl, rfl, rfl⟩, Nat.le_trans (Nat.le_trans (Nat.le_succ _) (Nat.le_succ _)) z, dne, hns, fun o us e1 e2 => by
      rw [hx] at e1
      cases e1
      cases e2
      show (4 : Nat) < 6
      decide⟩⟩
end
end DLX
end PySem

set_option maxHeartbeats 4000000
namespace DL
open PySem PySem.Spec PyProof.Rows L2
/-- an exception class with an own __init__ that keeps the fields ns -/
structure XMk (prog : Program) (K : PySem.W.Frag) (mg : Str → Option Value) (C : Addr) (ns : List Str) : Prop where
  ex : ∃ fI, PySem.DLX.XCl prog K mg C fI ∧ ∀ (w : World) (us : List Value), us.length = ns.length → PySem.DLX.InitOk prog w K mg C fI us (fun y => (ns.zip us).lookup y)
theorem relO_zip {f : Str} : ∀ {ns : List Str} {vs : List V} {us : List Value}, Vals vs us → RelO ((ns.zip vs).lookup f) ((ns.zip us).lookup f)
  | [], _, _, _ => True.intro
  | _ :: _, _, _, .nil => True.intro
  | n :: ns, v :: vs, u :: us, .cons r t => by
    rw [List.zip_cons_cons, List.zip_cons_cons]
    cases e : f == n with
    | true => simp only [List.lookup, e]; exact r
    | false => simp only [List.lookup, e]; exact relO_zip t
section
variable {X : Cx} {C : Addr} {x : Str} {p pos : Pos} {e : Expr} {es : List Expr} {ta : TA} {ns : List Str}
def tMkX (C : Addr) (ns : List Str) (ta : TA) : L2.St → Hp → XK → Prop := fun σ H Q => ta σ H fun vs H1 => vs.length = ns.length ∧ ∀ d, H1 d = none → Q (.ref C) (some d) (upd H1 d (.xd (ns.zip vs)))
theorem pmk_x {k : Nat} (T : XMk X.prog X.K X.mg C ns) (hl : ns.length ≤ 1000) (hr : Room (k + 1) X.A) (hm : X.mg x = some (.ref C)) (ha : PA X (e :: es) ta) (hg : Gl X x) (hdb : (x == ("__debug__" : Str)) = false)
    (he : starEach (e :: es) X.env = (false, eval e X.env) :: starEach es X.env := by rfl) (hpl : (backTo pos (starEach es X.env)).any (·.1) = false := by rfl) :
    PMk X (.Call (.Name x p) (e :: es) [] pos) (tMkX C ns ta) := by
  intro pins s σ H Q I h
  obtain ⟨fI, T, ini⟩ := T.ex
  refine wpAny_Call_Name_kw (ld_glob I hg hm ?_ hdb)
  refine PySem.W.callWith_K (h₀ := X.base) I.ok.mod.kin T.kC (thn (ha.run pos pins s σ H _ I h) fun us s1 hh => ?_) he hpl
  obtain ⟨vs, H1, I1, r1, hvl, q1⟩ := hh
  refine ⟨I1.kIn, ?_⟩
  show wpAny _ _ (call (.ref C) us) _ _ _
  have hlim := I1.nolimit
  have hul : us.length = ns.length := by rw [← r1.length]; exact hvl
  have hG : PySem.DLX.Gm s1.heap X.mg := ⟨I1.mod.glob.keeps I1.bk, by obtain ⟨mb, h1, h2⟩ := I1.mod.blt; exact ⟨mb, h1.keeps I1.bk, h2⟩⟩
  obtain ⟨hp, g, dr, tk, os⟩ := s1
  refine wpAny_call (PySem.DLX.xmade T (ini X.w us hul) I1.kIn hG hlim (by have := hr.dp; omega) (by rw [hul, sizeLine_eq]; omega) fun h' tk' e d M => ?_)
  show MkP X pins σ Q (.ref e) ⟨h', g, dr, tk', os⟩
  obtain ⟨oe, fv, hoe, hc, hd, hdat, h1, h2⟩ := M.obj
  have hns := M.ns
  obtain ⟨G', g1, g2⟩ := restrict h' fun b => decide (b ≠ e)
  have gk : ∀ b, b ≠ e → G'.get? b = h'.get? b := fun b hb => g1 b (decide_eq_true hb)
  have ge : G'.get? e = none := g2 e (by simp)
  have old : ∀ b o, hp.get? b = some o → G'.get? b = some o := fun b o q => (gk b (Nat.ne_of_lt (Nat.lt_of_lt_of_le (Heap.lt_size q) M.new))).trans (M.keep b o q)
  have ob : ObjOk X.prog X.w (upd H1 d (.xd (ns.zip vs))) G' d (.xd (ns.zip vs)) := ⟨_, hns.at (fun o q => (gk d M.dne).trans q), fun f => relO_zip r1⟩
  have J : Inv X pins σ (upd H1 d (.xd (ns.zip vs))) ⟨G', g, dr, tk', os⟩ := I1.laid (t' := tk') old M.dbig ob
  refine ⟨e, oe, fv, ⟨G', g, dr, tk', os⟩, _, .ref C, some d, rfl, J, fun b o q => ?_, ge, hoe, ⟨hc, hd⟩, hdat, h1, ?_, rfl, I1.bare, raises_own T.exC T.tyC, q1 d (I1.hok.fresh M.dbig)⟩
  · by_cases hb : b = e
    · have q' : G'.get? b = some o := q
      rw [hb, ge] at q'; cases q'
    · exact (gk b hb).symm.trans q
  · rw [upd_ne (Ne.symm M.dne)]
    exact I1.hok.fresh M.new
/-- an exception class without own __init__ -/
structure XMk0 (K : PySem.W.Frag) (C : Addr) : Prop where
  ei : PySem.W.excIn K C PySem.HandSPX.veTail "ValueError.__new__" = true
  kC : PySem.W.keepIn K (.ref C) = true
  exC : PySem.W.subIn K (.ref C) (.type "BaseException") = some true
  tyC : PySem.W.typeIn K (.ref C) = some (.type "type")
theorem pmk_x0 (T : XMk0 X.K C) (hm : X.mg x = some (.ref C)) (hg : Gl X x) (hdb : (x == ("__debug__" : Str)) = false) : PMk X (.Call (.Name x p) [] [] pos) (fun _ H Q => Q (.ref C) none H) := by
  intro pins s σ H Q I h
  refine wpAny_Call_Name_kw (ld_glob I hg hm ?_ hdb)
  refine PySem.W.callWith_K0 I.kIn T.kC ?_
  show wpAny _ _ (call (.ref C) []) _ _ _
  obtain ⟨bm, N, nm, qn, bs, hdct, sn, sub, ab, col, dd, k0, k1, k2, k3, k5, mN, hC, hN, hni, OT⟩ := exc_obj I.kIn T.ei
  exact wpAny_call_exc_subT F.excBase_ValueError OT hC hN hni (fun h' e hm => mk_of I hm (raises_own T.exC T.tyC) h (I.hok.gone hm.new)) (Nat.zero_le _)
end
section
variable {g : Gx} {W : WX} {X : Cx} {x : Str} {p pos pos2 : Pos} {e : Expr} {es : List Expr} {m : M (List D)}
def mRaise (k : Nat) (ns : List Str) (m : M (List D)) : MS := mBS m fun ds => fun σd S => if ds.length = ns.length then .exc k ns ds σd S else .bad
theorem ss_raise {k j : Nat} {ns : List Str} (hc : X.calm = true) (tk : Takes X W) (T : XMk X.prog X.K X.mg (g.G k) ns) (hl : ns.length ≤ 1000) (hr : Room (j + 1) X.A) (hm : X.mg x = some (.ref (g.G k))) (ha : PA X (e :: es) (rdA g W m)) (hg : Gl X x := by rfl) (hdb : (x == ("__debug__" : Str)) = false := by decide)
    (he : starEach (e :: es) X.env = (false, eval e X.env) :: starEach es X.env := by rfl) (hpl : (backTo pos (starEach es X.env)).any (·.1) = false := by rfl) :
    PS X (.Raise (some (.Call (.Name x p) (e :: es) [] pos)) none pos2) (rdS g W (mRaise k ns m)) :=
  PS.imp (ps_raise hc tk (pmk_x T hl hr hm ha hg hdb he hpl)) fun J σ H ⟨B, O, S, σd, r, q⟩ => rdG_mono (rdS_then (rel := RDs) r q) fun vs H1 ⟨ds, O1, S1, r1, rx, st1, p1⟩ => by
    split at p1
    · next hd =>
      refine ⟨by rw [← rx.length]; exact hd, fun d n => ?_⟩
      exact p1 (some d) σ O1 _ (r1.new n) (.inr ⟨d, vs, rfl, r1.fresh n, upd_same, by rw [← rx.length]; exact hd.symm, RDs.step (c := ⟨g.K, g.G, B, O1⟩) (O' := O1) (Step.new n) ds vs rx⟩) (Step.new n)
    · exact p1.elim
theorem ss_raise0 {k : Nat} (hc : X.calm = true) (tk : Takes X W) (T : XMk0 X.K (g.G k)) (hm : X.mg x = some (.ref (g.G k))) (hg : Gl X x := by rfl) (hdb : (x == ("__debug__" : Str)) = false := by decide) :
    PS X (.Raise (some (.Call (.Name x p) [] [] pos)) none pos2) (rdS g W (mRaise k [] mNil)) :=
  PS.imp (ps_raise hc tk (pmk_x0 T hm hg hdb)) fun J σ H ⟨B, O, S, σd, r, q⟩ => q none σ O H r (.inl ⟨rfl, rfl, rfl⟩) (Step.refl _ _)
end
end DL

set_option maxHeartbeats 4000000
namespace L2
open PySem PySem.Spec PyProof.Rows
/-- the clauses of a try, each with its name -/
inductive PH (X : Cx) (Wout : WX) : List ExceptHandler → (Ends → WX) → Prop
  | nil : PH X Wout [] (fun _ => Wout)
  | cons {x n : Str} {c : Value} {i : Nat} {b₀ : Stmt} {suite : List Stmt} {np pos' : Pos} {ts : Addr → Value → Option Addr → TS} {hs : List ExceptHandler} {tw : Ends → WX} (hi : X.N[i]? = some n) (hln : X.env.kindOf n = some .local) (hc : Names X x c)
      (hsu : ∀ (a : Addr) (oe : Obj) (cls : Value) (d : Option Addr) (pn : List (Addr × Obj)), Zc cls d oe → (∃ vs, oe.data = .fields vs) → PSs (X.suite a ((a, oe) :: pn)) (b₀ :: suite) (ts a cls d))
      (rest : PH X Wout hs tw) : PH X Wout (.ExceptHandler (some (.Name x np)) (some n) (b₀ :: suite) pos' :: hs) (fun D => wAs X.K c i ts (tw D) D)
section
variable {X : Cx} {Wout : WX}
theorem hand_all {pins : List (Addr × Obj)} (hs : X.stack = X.env :: X.outer) (hf : X.env.frame = some X.env.locals) (hN : X.N.Nodup) (ok : X.Ok) (tk : Takes X Wout) {hh : List ExceptHandler} {tw : Ends → WX} (ph : PH X Wout hh tw) :
    ∀ {a : Addr} {B : Heap} {sI s3 : Shared} {σ' : St} {H' : Hp} {cls : Value} {d : Option Addr} {D : Ends}, Inv X pins σ' H' sI → (∀ b o, sI.heap.get? b = some o → b ∉ frs X.stack → B.get? b = some o) → sI.heap.UpToSlots s3.heap → HandSPX.FlyingZ B (X.env :: X.outer) a (Zc cls d) s3.heap → H' a = none → s3.os = sI.os → AllBare s3.gens → tw D cls d σ' H' →
      wpAny (model X.prog X.w) X.A (handleBy (.ref a) X.env hh) (SP X pins D) X.xe s3 := by
  induction ph with
  | nil =>
    intro a B sI s3 σ' H' cls d D J nb up fl3 na os ag hw
    refine wpAny_handleBy_nil ?_
    obtain ⟨k1, k2, k3, oe, vs, T, oT, ts', he, hz, hd, h1, hr⟩ := id fl3
    unfold PySem.passOn
    refine wpAny_bind (wpAny_field he hd h1 ?_)
    rw [if_neg (show ¬ ((Value.ref T == Value.none) = true) from by simp)]
    have fin : wpAny (model X.prog X.w) X.A (setFlight (.ref a) X.env.frame) (fun _ s4 => wpAny (model X.prog X.w) X.A (throw (.ref a) : Sem Flow) (SP X pins D) X.xe s4) X.xe s3 := by
      rw [hf]
      refine HandSPX.setFlight_upZ fl3 fun h4 hh4 up4 => wpAny_throw (tk _ _ ?_)
      exact ⟨a, B, sI, pins, σ', H', cls, d, rfl, J, nb, up.trans up4, .inr (.inr (by rw [hs]; exact hh4)), na, os, ag, hw⟩
    first
      | exact wpAny_bind (wpAny_pure (wpAny_bind fin))
      | exact wpAny_bind fin
  | @cons x n c i b₀ suite np pos' ts hs' tw' hi hln hc hsu rest ih =>
    intro a B sI s3 σ' H' cls d D J nb up fl3 na os ag hw
    obtain ⟨b, hb1, hyes, hno⟩ := hw
    have hloc : Loc X.env.scope n := .inl hln
    have J3 : Inv X pins σ' H' s3 := J.landed nb fl3.1 up os ag
    obtain ⟨oe3, vs3, he3, hz3, hd3⟩ := fl3.there
    have notFr : ∀ {h : Heap} {o : Obj} {vs : Array Value}, h.FunFrames B (X.env :: X.outer) → h.get? a = some o → o.data = .fields vs → a ∉ frs (X.env :: X.outer) := fun {h o vs} ff e dd hm => by
      obtain ⟨_, o', e', hnf⟩ := ff.mem hm
      rw [e] at e'; cases e'
      exact hnf _ dd
    have nfr := notFr fl3.2.2.1 he3 hd3
    have nL : a ≠ X.env.locals := fun z => nfr (List.mem_filterMap.mpr ⟨X.env, List.mem_cons_self, by rw [hf, z]⟩)
    have nF : a ∉ X.fs := fun hm => by
      obtain ⟨e, he, q⟩ := List.mem_filterMap.mp hm
      exact nfr (List.mem_filterMap.mpr ⟨e, List.mem_cons_of_mem _ he, q⟩)
    have S3 := J3.suite he3 hd3 na nL nF
    refine wpAny_handleBy_cons (codeAny_handlers_test ?_) (by intro q; cases q)
    have LT : PySem.W.Looks (model X.prog X.w) s3.heap (typeOf (.ref a)) cls := fun A Q E s k q => wpAny_typeOf_ref (k _ _ he3) (by rw [hz3.1]; exact q)
    have LM := PySem.W.exm_one (M := model X.prog X.w) (J3.kIn) LT hb1
    have test : ∀ {Q : Value → Shared → Prop} {E : Value → Shared → Prop}, Q c s3 → wpAny (model X.prog X.w) (X.A.mark (some (.ref a))) (eval (.Name x np) X.env) Q E s3 := fun {Q E} q => by
      obtain ⟨hg, hdbg, hm | ⟨hm, hv, hnn⟩⟩ := hc
      · exact ld_glob (X := X.suite a ((a, oe3) :: (X.pn ++ pins))) S3 hg hm q hdbg
      · exact ld_blt (X := X.suite a ((a, oe3) :: (X.pn ++ pins))) S3 hg hm hv q hnn hdbg
    refine test (LM.here ?_)
    cases b with
    | true =>
      refine codeAny_handlers_suite_as ?_
      refine HandSPX.lands_againZ fl3 fun h4 fl4 up4 => ?_
      have J4 : Inv X pins σ' H' { s3 with heap := h4 } := J.landed nb fl4.1 (up.trans up4) os ag
      obtain ⟨oe4, vs4, he4, hz4, hd4⟩ := fl4.there
      have S4 := J4.suite he4 hd4 na nL nF
      refine store_ok (X := X.suite a ((a, oe4) :: (X.pn ++ pins))) (v := .ref a) S4 hN hi hloc rfl (fun s5 S5 => ?_) (.inr hln)
      refine wpAny_mono ((hsu a oe4 cls d (X.pn ++ pins) hz4 ⟨_, hd4⟩).run [] s5 _ H' _ S5 (hyes rfl a na)) (fun f s6 hsp => ?_) (fun _ _ z => False.elim z)
      have end_ : ∀ {σ6 : St} {H6 : Hp} {Q : Shared → Prop}, Inv (X.suite a ((a, oe4) :: (X.pn ++ pins))) [] σ6 H6 s6 → (∀ s7, Inv X pins (σ6.set i none) H6 s7 → Q s7) →
          wpAny (model X.prog X.w) X.A (do bindName X.env n .none; unbindBehindTheSuite X.env n pos') (fun _ s7 => Q s7) X.xe s6 := fun {σ6 H6 Q} S6 hq => gone_ok (S6.unsuite ok) hN hi hln hq
      cases f with
      | next =>
        obtain ⟨σ6, H6, S6, q6⟩ := hsp
        exact end_ S6 fun s7 J7 => ⟨_, _, J7, q6⟩
      | brk =>
        obtain ⟨σ6, H6, S6, q6⟩ := hsp
        exact end_ S6 fun s7 J7 => ⟨_, _, J7, q6⟩
      | cont =>
        obtain ⟨σ6, H6, S6, q6⟩ := hsp
        exact end_ S6 fun s7 J7 => ⟨_, _, J7, q6⟩
      | ret u =>
        obtain ⟨v6, σ6, H6, S6, r6, q6⟩ := hsp
        exact end_ S6 fun s7 J7 => ⟨_, _, _, J7, r6, q6⟩
    | false => exact ih J nb up fl3 na os ag (hno rfl)
theorem ps_try_all {body : List Stmt} {pos : Pos} {tb : WX → TS} {h₀ : ExceptHandler} {hh : List ExceptHandler} {tw : Ends → WX} (hs : X.stack = X.env :: X.outer) (hf : X.env.frame = some X.env.locals) (hN : X.N.Nodup) (tk : Takes X Wout)
    (hb : ∀ (W : WX) (pn : List (Addr × Obj)) (xe : Value → Shared → Prop), Takes (X.tr pn xe) W → PassesOwn (model X.prog X.w) X.A X.env xe → PSs (X.tr pn xe) body (tb W))
    (ph : PH X Wout (h₀ :: hh) tw) : PS X (.Try body (h₀ :: hh) [] [] pos) (fun D σ H => tb (tw D) D σ H) := by
  refine ⟨fun pins s σ H D I h => ?_⟩
  have ok := I.ok
  have hfr : X.A.frames = some (X.env :: X.outer) := by rw [ok.frames, hs]
  refine wpAny_Try_except ?_
  refine wpAny_mono ((hb (tw D) (X.pn ++ pins) (fun e s₁ => wpAny (model X.prog X.w) X.A (noteFrame e X.env) (fun _ s₂ => wpAny (model X.prog X.w) X.A (setFlight e none) (fun _ s₃ =>
    wpAny (model X.prog X.w) X.A (handleBy e X.env (h₀ :: hh)) (SP X pins D) X.xe s₃) X.xe s₂) X.xe s₁) (fun u s' xx => ?_) PassesOwn.looking).run [] s σ H D (I.toTry _) h) (fun f s1 hsp => ?_) (fun e s1 he => he)
  · obtain ⟨a, B, sI, pins', σ', H', cls, d, rfl, J', nb, up, sky, na, os, ag, hw⟩ := xx
    have J : Inv X pins σ' H' sI := J'.ofTry ok
    have sky' : Sky B (X.env :: X.outer) a (Zc cls d) X.env.locals s'.heap := by rw [← hs]; exact sky
    show wpAny (model X.prog X.w) X.A (noteFrame (.ref a) X.env) _ _ _
    refine Sky.land Zc.steady hfr hf sky' fun h3 fl3 up3 => ?_
    exact hand_all hs hf hN ok tk ph J nb (up.trans up3) fl3 na os ag hw
  · cases f with
    | next =>
      obtain ⟨σ', H', J', q⟩ := hsp
      exact wpAny_execs_nil ⟨σ', H', J'.ofTry ok, q⟩
    | brk =>
      obtain ⟨σ', H', J', q⟩ := hsp
      exact ⟨σ', H', J'.ofTry ok, q⟩
    | cont =>
      obtain ⟨σ', H', J', q⟩ := hsp
      exact ⟨σ', H', J'.ofTry ok, q⟩
    | ret u =>
      obtain ⟨v, σ', H', J', r, q⟩ := hsp
      exact ⟨v, σ', H', J'.ofTry ok, r, q⟩
end
end L2

set_option maxHeartbeats 4000000
namespace DL
open PySem PySem.Spec PyProof.Rows L2
/-- a clause: which classes it takes, the slot of its name, its suite -/
structure Cla where
  hit : Nat → Option Bool
  i : Nat
  su : Addr → Nat → Option Addr → MS
def kill (i : Nat) : RS → RS
  | .nx σ S => .nx (σ.set i .dead) S
  | .rt d S => .rt d S
  | .bk σ S => .bk (σ.set i .dead) S
  | .ct σ S => .ct (σ.set i .dead) S
  | .exc _ _ _ _ _ => .bad
  | .bad => .bad
open Classical in
noncomputable def hnd : List Cla → Nat → List Str → List D → MS
  | [], k, ns, ds => fun σ S => .exc k ns ds σ S
  | c :: cl, k, ns, ds => fun σ S => match c.hit k with
    | some true => if ∀ (a : Addr) (dd : Option Addr), kill c.i (c.su a k dd (σ.set c.i (.xc a dd ns ds)) S) = kill c.i (c.su 0 k none (σ.set c.i (.xc 0 none ns ds)) S) then kill c.i (c.su 0 k none (σ.set c.i (.xc 0 none ns ds)) S) else .bad
    | some false => hnd cl k ns ds σ S
    | none => .bad
noncomputable def mTry (b : MS) (cl : List Cla) : MS := fun σd S => match b σd S with
  | .exc k ns ds σ1 S1 => hnd cl k ns ds σ1 S1
  | r => r
section
variable {g : Gx} {W : WX} {X : Cx}
/-- the clauses over data -/
inductive SH (g : Gx) (W : WX) (X : Cx) : List ExceptHandler → List Cla → Prop
  | nil : SH g W X [] []
  | cons {x n : Str} {C : Addr} {c : Cla} {b₀ : Stmt} {suite : List Stmt} {np pos' : Pos} {hs : List ExceptHandler} {cl : List Cla} (hi : X.N[c.i]? = some n) (hln : X.env.kindOf n = some .local) (hc : Names X x (.ref C)) (hh : ∀ k b, c.hit k = some b → PySem.W.exmOne X.K (.ref (g.G k)) (.ref C) = some b)
      (hsu : ∀ (a : Addr) (oe : Obj) (k : Nat) (d : Option Addr) (pn : List (Addr × Obj)), c.hit k = some true → Zc (.ref (g.G k)) d oe → (∃ vs, oe.data = .fields vs) → PSs (X.suite a ((a, oe) :: pn)) (b₀ :: suite) (rdS g W0 (c.su a k d)))
      (rest : SH g W X hs cl) : SH g W X (.ExceptHandler (some (.Name x np)) (some n) (b₀ :: suite) pos' :: hs) (c :: cl)
theorem kill_post {c : Ct} {H : Hp} {i : Nat} {r : RS} {J : Ends} (p : PostS c W H (kill i r) J) : PostS c W0 H r { nx := fun σ' H' => J.nx (σ'.set i none) H', rt := J.rt, bk := fun σ' H' => J.bk (σ'.set i none) H', ct := fun σ' H' => J.ct (σ'.set i none) H' } := by
  cases r with
  | nx σd' S' => exact fun σ' O' H' h1 h2 => p _ O' H' (h1.kill i) h2
  | bk σd' S' => exact fun σ' O' H' h1 h2 => p _ O' H' (h1.kill i) h2
  | ct σd' S' => exact fun σ' O' H' h1 h2 => p _ O' H' (h1.kill i) h2
  | rt d S' => exact fun v O' H' h1 h2 h3 => p v O' H' h1 h2 h3
  | exc k ns ds σd' S' => exact p.elim
  | bad => exact p.elim
theorem sh_ok {hh : List ExceptHandler} {cl : List Cla} (sh : SH g W X hh cl) : ∃ tw, PH X W hh tw ∧ ∀ {J : Ends} {B O : List Addr} {S : Sto} {σd : Sl} {σ : L2.St} {H : Hp} {k : Nat} {ns : List Str} {ds : List D} {dd : Option Addr}, Rel ⟨g.K, g.G, B, O⟩ S σd σ H → XOk ⟨g.K, g.G, B, O⟩ H ns ds dd → PostS ⟨g.K, g.G, B, O⟩ W H (hnd cl k ns ds σd S) J → tw J (.ref (g.G k)) dd σ H := by
  induction sh with
  | nil => exact ⟨_, .nil, fun {J B O S σd σ H k ns ds dd} r xo p => p dd σ O H r xo (Step.refl _ _)⟩
  | @cons x n C c b₀ suite np pos' hs cl hi hln hc hh hsu rest ih =>
    obtain ⟨tw, ph, hw⟩ := ih
    refine ⟨_, .cons (ts := fun a cls d J σ H => ∃ k, c.hit k = some true ∧ cls = .ref (g.G k) ∧ rdS g W0 (c.su a k d) J σ H) hi hln hc (fun a oe cls d pn hz hf => ⟨fun pins s σ H D I h => ?_⟩) ph, fun {J B O S σd σ H k ns ds dd} r xo p => ?_⟩
    · obtain ⟨k, hk, rfl, h⟩ := h
      exact (hsu a oe k d pn hk hz hf).run pins s σ H D I h
    · unfold hnd at p
      cases q : c.hit k with
      | none => rw [q] at p; exact p.elim
      | some b =>
        rw [q] at p
        refine ⟨b, hh k b q, fun eb a na => ?_, fun eb => ?_⟩
        · subst eb
          simp only at p
          split at p
          · next ha =>
            refine ⟨k, q, rfl, B, O, S, _, r.set c.i (d := .xc a dd ns ds) (v := .ref a) ⟨rfl, xo⟩, ?_⟩
            rw [← ha a dd] at p
            exact kill_post p
          · exact p.elim
        · subst eb
          exact hw r xo p
theorem ss_try {body : List Stmt} {pos : Pos} {b : MS} {h₀ : ExceptHandler} {hh : List ExceptHandler} {cl : List Cla} (hs : X.stack = X.env :: X.outer) (hf : X.env.frame = some X.env.locals) (hN : X.N.Nodup) (tk : Takes X W)
    (hb : ∀ (W' : WX) (pn : List (Addr × Obj)) (xe : Value → Shared → Prop), Takes (X.tr pn xe) W' → PassesOwn (model X.prog X.w) X.A X.env xe → PSs (X.tr pn xe) body (rdS g W' b))
    (sh : SH g W X (h₀ :: hh) cl) : PS X (.Try body (h₀ :: hh) [] [] pos) (rdS g W (mTry b cl)) := by
  obtain ⟨tw, ph, hw⟩ := sh_ok sh
  refine PS.imp (ps_try_all (tb := fun W' => rdS g W' b) hs hf hN tk hb ph) fun J σ H ⟨B, O, S, σd, r, p⟩ => ⟨B, O, S, σd, r, ?_⟩
  unfold mTry at p
  revert p
  cases b σd S with
  | exc k ns ds σ1 S1 => exact fun p dd σ' O' H' h1 h2 h3 => hw h1 h2 (PostS.step (c := ⟨g.K, g.G, B, O⟩) h3 p)
  | nx σ1 S1 => exact fun p => p
  | ct σ1 S1 => exact fun p => p
  | bk σ1 S1 => exact fun p => p
  | rt d S1 => exact fun p => p
  | bad => exact fun p => p
/-- err.f in the suite of the exception at a, of class k -/
def mXf (a : Addr) (d : Option Addr) (f : Str) (m : M D) : M D := mB m fun x => fun _ S => match x with
  | .xc a' d' ns ds => if a' = a ∧ d' = d then match fldD f ns ds with
      | some y => .ok y S
      | none => .bad
    else .bad
  | _ => .bad
/-- what the class of a caught exception says -/
structure XHold (K : PySem.W.Frag) (C : Addr) : Prop where
  xf : XfC K C
  cl : (PySem.W.clsIn K C).isSome = true
  ha : PySem.W.findIn K (.ref C) "__class__" = some (some (.builtin "object.__class__"))
  hn : PySem.W.specialIn K (.builtin "object.__class__") "__get__" = some (some (.builtin "getset_descriptor.__get__"))
  ht : PySem.W.takesIn K (.builtin "object.__class__") = some true
  hm : PySem.W.mroIn K C (.type "object") = some true
variable {a : Addr} {oe : Obj} {k : Nat} {d : Option Addr} {pn : List (Addr × Obj)} {e : Expr} {m : M D} {pos p : Pos}
theorem se_xf {f : Str} (T : XHold X.K (g.G k)) (hno : PySem.W.findIn X.K (.ref (g.G k)) f = some none) (hz : Zc (.ref (g.G k)) d oe) (hf : ∃ vs, oe.data = .fields vs) (he : PE (X.suite a ((a, oe) :: pn)) e (rdE g W m)) (hb : attributeBase e f X.env (eval e X.env) = eval e X.env := by rfl) :
    PE (X.suite a ((a, oe) :: pn)) (.Attribute e f pos) (rdE g W (mXf a d f m)) :=
  PE.imp (pe_xf T.xf hno hz hf he hb) fun σ H Q ⟨B, O, S, σd, rel, q⟩ => rdG_mono (rd_then (rel := RD) rel q) fun v H1 ⟨x, O1, S1, r1, rx, st1, p1⟩ => by
    split at p1
    · next a' d' ns ds =>
      split at p1
      · next ha =>
        obtain ⟨rfl, rfl⟩ := ha
        split at p1
        · next y qy =>
          obtain ⟨ev, h⟩ := rx
          rcases h with ⟨z, _⟩ | ⟨dd, vs, e1, h1, h2, l, r⟩
          · rw [z] at qy; cases qy
          · obtain ⟨w, h3, h4⟩ := fldD_ok r qy
            exact ⟨ev, rfl, dd, _, w, e1, h2, h3, post_val p1 r1 h4⟩
        · exact p1.elim
      · exact p1.elim
    · exact p1.elim
/-- isinstance(err, C) -/
def isx (k c : Nat) : Bool := decide (k = c) || decide (c = 2)
def mXis (a : Addr) (k : Nat) (d : Option Addr) (c : Nat) (m : M D) : M D := mB m fun x => fun _ S => match x with
  | .xc a' d' _ _ => if a' = a ∧ d' = d then .ok (.bl (isx k c)) S else .bad
  | _ => .bad
def rIsX (K : PySem.W.Frag) (D a : Addr) (d : Option Addr) : List V → Hp → VK → Prop := fun xs H Q => ∃ (c : V) (cv : Value) (b : Bool), xs = [.ref a, c] ∧ (∀ u, RelV c u → u = cv) ∧ (d = none ∨ ∃ dd fs, d = some dd ∧ H dd = some (.xd fs)) ∧ PySem.W.kitOne K (.ref D) cv = some b ∧ Q (.bl b) H
theorem call_isX {D : Addr} (C : XHold X.K D) (hz : Zc (.ref D) d oe) (hf : ∃ vs, oe.data = .fields vs) : CallR (X.suite a ((a, oe) :: pn)) (.builtin "isinstance") (rIsX X.K D a d) := by
  intro pins s σ H xs us Q I r h
  obtain ⟨c, cv, b, rfl, hcv, hd, e, q⟩ := h
  cases r with
  | cons rx rr =>
    cases rr with
    | cons rt rr =>
      cases rr
      cases rx
      have ec := hcv _ rt
      subst ec
      obtain ⟨hget, _⟩ := I.pin (a, oe) (List.mem_append.mpr (.inl List.mem_cons_self))
      obtain ⟨vs, hv⟩ := hf
      have J : ∃ od, PySem.W.InstAt s.heap a oe D od := by
        rcases hd with hd | ⟨dd, fs, hd, ea⟩
        · subst hd
          exact ⟨none, hget, hz.1, by unfold PySem.W.notCls; rw [hv] <;> rfl, by rw [hz.2]; trivial⟩
        · subst hd
          have hx : ObjOk X.prog X.w H s.heap dd (.xd fs) := I.hok dd _ ea
          obtain ⟨mA, hns, hr⟩ := hx
          obtain ⟨od, ho, hl⟩ := lookIn_ns hns
          exact ⟨some od, hget, hz.1, by unfold PySem.W.notCls; rw [hv] <;> rfl, by rw [hz.2]; exact ho⟩
      obtain ⟨od, J⟩ := J
      exact PySem.W.kia_one (PySem.W.kitx_exc C.cl C.xf.ga C.xf.gg C.xf.exC C.ha C.hn C.ht C.hm) I.kIn J e (fun z => nomatch z) fun tk => ⟨.bl b, H, I.kept (t' := tk) fun _ _ z => z, rfl, q⟩
theorem se_xis {c : Nat} {T : Str} {p2 : Pos} (C : XHold X.K (g.G k)) (hz : Zc (.ref (g.G k)) d oe) (hf : ∃ vs, oe.data = .fields vs) (hg : Gl X "isinstance") (hm : X.mg "isinstance" = none) (he : PE (X.suite a ((a, oe) :: pn)) e (rdE g W m)) (hgT : Gl X T) (hT : X.mg T = some (.ref (g.G c))) (hk : PySem.W.kitOne X.K (.ref (g.G k)) (.ref (g.G c)) = some (isx k c)) (hd : (T == ("__debug__" : Str)) = false := by decide)
    (na : starEach [e, .Name T p2] X.env = (false, eval e X.env) :: starEach [.Name T p2] X.env := by rfl) (nb : starEach [.Name T p2] X.env = (false, eval (.Name T p2) X.env) :: starEach [] X.env := by rfl) (hp : (backTo pos (starEach [.Name T p2] X.env)).any (·.1) = false := by rfl) :
    PE (X.suite a ((a, oe) :: pn)) (.Call (.Name "isinstance" p) [e, .Name T p2] [] pos) (rdE g W (mXis a k d c m)) :=
  PE.imp (pe_callB (X := X.suite a ((a, oe) :: pn)) (call_isX C hz hf) hg hm (by decide +kernel) (pa_cons he (pa_cons (pe_glob (X := X.suite a ((a, oe) :: pn)) hgT hT (v := .ref (g.G c)) rfl hd) pa_nil nb) na) (by decide) (by decide) na hp) fun σ H Q ⟨B, O, S, σd, rel, q⟩ => rdG_mono (rd_then (rel := RD) rel q) fun v H1 ⟨x, O1, S1, r1, rx, st1, p1⟩ => by
    split at p1
    · next a' d' ns ds =>
      split at p1
      · next ha =>
        obtain ⟨rfl, rfl⟩ := ha
        obtain ⟨ev, h⟩ := rx
        refine ⟨.ref (g.G c), .ref (g.G c), isx k c, by rw [ev], fun u hu => hu, ?_, hk, post_val p1 r1 rfl⟩
        rcases h with ⟨_, _, z⟩ | ⟨dd, vs, e1, h1, h2, l, r⟩
        · exact .inl z
        · exact .inr ⟨dd, _, e1, h2⟩
      · exact p1.elim
    · exact p1.elim
end
end DL

set_option maxHeartbeats 4000000
namespace DL
open PySem PySem.Spec PyProof.Rows L2
def hitL (yes no : List Nat) (k : Nat) : Option Bool := if k ∈ yes then some true else if k ∈ no then some false else none
theorem hitL_ok {P : Nat → Bool → Prop} {yes no : List Nat} (hy : ∀ k ∈ yes, P k true) (hn : ∀ k ∈ no, P k false) : ∀ k b, hitL yes no k = some b → P k b := fun k b h => by
  unfold hitL at h
  split at h
  · next q => cases Option.some.inj h; exact hy k q
  · split at h
    · next q => cases Option.some.inj h; exact hn k q
    · cases h
theorem hitL_in {yes no : List Nat} {k : Nat} (h : hitL yes no k = some true) : k ∈ yes := by
  unfold hitL at h
  split at h
  · next q => exact q
  · split at h
    · cases Option.some.inj h
    · cases h
theorem cls_of_hd {K : PySem.W.Frag} {C : Addr} (h : PySem.W.hasDictIn K C = true) : (PySem.W.clsIn K C).isSome = true := by
  obtain ⟨cd, hc, _⟩ := PySem.W.any_some h
  rw [hc]
  rfl
section
open PySem.W PySem.HandSPX PySem.DLX
variable {prog : Program} {K : Frag} {mg : Str → Option Value} {C fI : Addr}
theorem look1 (f : Str) (v : Value) : (fun y => ([f].zip [v]).lookup y) = fun y => if y = f then some v else none := by
  funext y
  by_cases h : y = f
  · subst h; simp [List.lookup]
  · have e : (y == f) = false := by simpa using h
    simp [List.lookup, e, h]
theorem look2 (f g : Str) (v u : Value) (hgf : (f == g) = false) : (fun y => ([f, g].zip [v, u]).lookup y) = fun y => if y = g then some u else if y = f then some v else none := by
  have hne : f ≠ g := by simpa using hgf
  funext y
  by_cases h : y = f
  · subst h
    have : y ≠ g := hne
    simp [List.lookup, this]
  · have e : (y == f) = false := by simpa using h
    by_cases h2 : y = g
    · subst h2; simp [List.lookup, e]
    · have e2 : (y == g) = false := by simpa using h2
      simp [List.lookup, e, e2, h, h2]
theorem xmk1 {qual f m : Str} {ar : Arguments} {a0 : Arg} {q1 q2 q3 q4 q5 q6 r1 r2 r3 r4 : Pos} (T : XCl prog K mg C fI) (U : XFn prog K C fI qual ar (iSup m q1 q2 q3 q4 q5 q6 :: [iSto f r1 r2 r3 r4]) (iS1 f)) (hno : findIn K (.ref C) f = some none) (hev : SupEv fI qual (iS1 f) m q1 q2 q3 q4 q5 q6)
    (hb : ∀ (v : Value) (s : Shared) (x : Addr) (dV kV doc pm : Value) (an : Option Addr) (cdv ct : Value) (cc : Addr), dV = .none → BindsTo s (ksFn "__init__" qual ar (iSup m q1 q2 q3 q4 q5 q6 :: [iSto f r1 r2 r3 r4]) (iS1 f) dV kV doc pm an cdv ct cc) ⟨[.ref x, v], []⟩ [("self", .ref x), (f, v)])
    (hp : (ar.posonlyargs ++ ar.args).head? = some a0) (hself : a0.arg = "self") (hfs : (("self" : Str) == f) = false) (hfd : (f == ("__debug__" : Str)) = false) (hfl : (iS1 f).names.lookup f = some .local) (hks : (iS1 f).names.lookup ("super" : Str) = some .globalImplicit) (hkc : (iS1 f).names.lookup ("__class__" : Str) = some .free)
    (hsw : ∀ (L cc : Addr) (cd : Value), swapsWith (.Name f r3) (some (.Attribute (.Name "self" r1) f r2)) r4.line (ksEnv qual (iS1 f) L fI cd cc) = pure false) : XMk prog K mg C [f] :=
  ⟨fI, T, fun w us hl => match us, hl with
    | [v], _ => by
      rw [look1]
      exact xinit1 T U hev hno v (hb v) hp hself hfs hfd hfl hks hkc hsw⟩
theorem xmk2 {qual f g m : Str} {ar : Arguments} {a0 : Arg} {q1 q2 q3 q4 q5 q6 r1 r2 r3 r4 u1 u2 u3 u4 : Pos} (T : XCl prog K mg C fI) (U : XFn prog K C fI qual ar (iSup m q1 q2 q3 q4 q5 q6 :: [iSto f r1 r2 r3 r4, iSto g u1 u2 u3 u4]) (iS2 f g)) (hno : findIn K (.ref C) f = some none) (hno2 : findIn K (.ref C) g = some none) (hev : SupEv fI qual (iS2 f g) m q1 q2 q3 q4 q5 q6)
    (hb : ∀ (v v2 : Value) (s : Shared) (x : Addr) (dV kV doc pm : Value) (an : Option Addr) (cdv ct : Value) (cc : Addr), dV = .none → BindsTo s (ksFn "__init__" qual ar (iSup m q1 q2 q3 q4 q5 q6 :: [iSto f r1 r2 r3 r4, iSto g u1 u2 u3 u4]) (iS2 f g) dV kV doc pm an cdv ct cc) ⟨[.ref x, v, v2], []⟩ [("self", .ref x), (f, v), (g, v2)])
    (hp : (ar.posonlyargs ++ ar.args).head? = some a0) (hself : a0.arg = "self") (hfs : (("self" : Str) == f) = false) (hgs : (("self" : Str) == g) = false) (hgf : (f == g) = false) (hfd : (f == ("__debug__" : Str)) = false) (hgd : (g == ("__debug__" : Str)) = false) (hfl : (iS2 f g).names.lookup f = some .local) (hgl : (iS2 f g).names.lookup g = some .local) (hks : (iS2 f g).names.lookup ("super" : Str) = some .globalImplicit) (hkc : (iS2 f g).names.lookup ("__class__" : Str) = some .free)
    (hsw : ∀ (L cc : Addr) (cd : Value), swapsWith (.Name f r3) (some (.Attribute (.Name "self" r1) f r2)) r4.line (ksEnv qual (iS2 f g) L fI cd cc) = pure false) (hsw2 : ∀ (L cc : Addr) (cd : Value), swapsWith (.Name g u3) (some (.Attribute (.Name "self" u1) g u2)) u4.line (ksEnv qual (iS2 f g) L fI cd cc) = pure false) : XMk prog K mg C [f, g] :=
  ⟨fI, T, fun w us hl => match us, hl with
    | [v, u], _ => by
      rw [look2 f g v u hgf]
      exact xinit2 T U hev hno hno2 v u (hb v u) hp hself hfs hgs hgf hfd hgd hfl hgl hks hkc hsw hsw2⟩
end
end DL

set_option maxHeartbeats 4000000
namespace DL
open PySem PySem.Spec PyProof.Rows L2
/-- a family of defs: their addresses and promises -/
structure FamOk (X : Cx) (a : Addr) (sp : Sp) : Prop where
  ok : ∃ (j : Nat) (fd : FuncData) (ps : List Str), FnOk X.prog X.w X.K X.mg X.base (L2.CX X.prog X.w) j a fd ps sp ∧ Room j X.A ∧ Binds X.K fd ps []
  kp : PySem.W.keepIn X.K (.ref a) = true
def tCallV (P : Addr → Sp → Prop) (E : L2.St → XK) (tf : TE) (ta : TA) : TE := fun σ H Q => tf σ H fun x H1 => ∃ a sp, P a sp ∧ x = .ref a ∧ ta σ H1 fun vs H2 => sp vs H2 Q (E σ)
section
variable {X : Cx} {f e : Expr} {es : List Expr} {pos : Pos} {tf : TE} {ta : TA} {E : L2.St → XK} {P : Addr → Sp → Prop}
theorem pe_callV (hP : ∀ a sp, P a sp → FamOk X a sp) (hf : PE X f tf) (ha : PA X (e :: es) ta) (hx : ∀ σ, PassesAt (L2.CX X.prog X.w) X σ (E σ))
    (he : starEach (e :: es) X.env = (false, eval e X.env) :: starEach es X.env := by rfl) (hpl : (backTo pos (starEach es X.env)).any (·.1) = false := by rfl)
    (hc : eval (.Call f (e :: es) [] pos) X.env = (do callWith pos (← eval f X.env) [] (backTo pos (starEach (e :: es) X.env)) (backToKw pos (keywordEach [] X.env))) := by rfl) : PE X (.Call f (e :: es) [] pos) (tCallV P E tf ta) := by
  refine ⟨fun pins s σ H Q I h => ?_⟩
  refine Call_ (thn (hf.run pins s σ H _ I h) fun u s1 ⟨x, H1, I1, rx, a, sp, hp, ex, q⟩ => ?_) hc
  subst ex
  obtain rfl : u = Value.ref a := rx
  obtain ⟨⟨j, fd, ps, F, hr, hb⟩, kp⟩ := hP a sp hp
  refine PySem.W.callWith_K (h₀ := X.base) I1.ok.mod.kin kp (thn (ha.run pos pins s1 σ H1 _ I1 q) fun us s2 ⟨vs, H2, I2, r, q2⟩ => ⟨I2.kIn, ?_⟩) he hpl
  exact run_fnS F hr hb (hx σ) I2 r q2
end
section
variable {g : Gx} {W : WX} {X : Cx}
/-- the defs, one behind the other -/
inductive Tab (g : Gx) (X : Cx) : List Addr → List (List D → Sto → R D) → Prop
  | nil : Tab g X [] []
  | cons {a : Addr} {fn : List D → Sto → R D} {as : List Addr} {fns : List (List D → Sto → R D)} (h : FamOk X a (spD g fn)) (t : Tab g X as fns) : Tab g X (a :: as) (fn :: fns)
theorem Tab.get {as : List Addr} {fns : List (List D → Sto → R D)} (t : Tab g X as fns) : ∀ {n : Nat} {fn : List D → Sto → R D}, fns[n]? = some fn → ∃ a, as[n]? = some a ∧ FamOk X a (spD g fn) := by
  induction t with
  | nil => intro n fn e; simp at e
  | cons h t ih =>
    intro n fn e
    cases n with
    | zero => simp at e; subst e; exact ⟨_, rfl, h⟩
    | succ n => exact ih (by simpa using e)
def tabAt (fns : List (List D → Sto → R D)) (i : D) : Option (List D → Sto → R D) := match i with
  | .int n => if 0 ≤ n then fns[n.toNat]? else none
  | _ => none
def mTab (fns : List (List D → Sto → R D)) (mi : M D) (ma : M (List D)) : M D := mB mi fun i => fun σ S => match tabAt fns i with
  | some fn => mB ma (fun ds => fun _ S' => fn ds S') σ S
  | none => .bad
variable {idx e : Expr} {es names : List Expr} {pos lp ip : Pos} {tn : TA} {mi : M D} {ma : M (List D)} {as : List Addr} {fns : List (List D → Sto → R D)}
theorem tab_core (t : Tab g X as fns) {c : Ct} {H : Hp} {x : D} {v : V} {fn : List D → Sto → R D} (rx : RD c H x v) (e : tabAt fns x = some fn) : ∃ a n, FamOk X a (spD g fn) ∧ v = .int n ∧ atI (as.map V.ref) n = some (.ref a) := by
  unfold tabAt at e
  cases x with
  | int n =>
    simp only at e
    split at e
    · next h0 =>
      obtain ⟨a, ha, fo⟩ := t.get e
      cases (show _ = _ from rx)
      refine ⟨a, n, fo, rfl, ?_⟩
      have h1 : n = ((n.toNat : Nat) : Int) := by omega
      rw [h1]
      exact atI_nat (by rw [List.getElem?_map, ha]; rfl)
    · cases e
  | _ => cases e
/-- reading the list, then its place -/
theorem tab_ix (t : Tab g X as fns) (hn : ∀ σ H Q, Q (as.map V.ref) H → tn σ H Q) (hl : as.length ≤ 1000) {B O : List Addr} {S : Sto} {σd : Sl} {σ : L2.St} {H : Hp} {Q : VK} (r : Rel ⟨g.K, g.G, B, O⟩ S σd σ H) {m2 : (List D → Sto → R D) → M D} {Q2 : VK}
    (p : Post RD ⟨g.K, g.G, B, O⟩ W σ σd H (mB mi (fun i => fun σ S => match tabAt fns i with | some fn => m2 fn σ S | none => .bad) σd S) Q2)
    (k : ∀ a fn O1 S1 H1, FamOk X a (spD g fn) → Rel ⟨g.K, g.G, B, O1⟩ S1 σd σ H1 → Post RD ⟨g.K, g.G, B, O1⟩ W σ σd H1 (m2 fn σd S1) Q2 → Q (.ref a) H1) : tOp (rIxL X.K) (tLst tn) (rdE g W mi) σ H Q := by
  refine hn σ H _ ⟨by rw [List.length_map, sizeLine_eq]; omega, fun q hq => ?_⟩
  have r1 := r.new (o := .lst (as.map V.ref)) hq
  have p1 := Post.step (c := ⟨g.K, g.G, B, O⟩) (O1 := O) (H1 := upd H q (.lst (as.map V.ref))) (Step.new hq) p
  refine rdG_mono (rd_then (rel := RD) r1 p1) fun v H1 ⟨x, O1, S1, r2, rx, st, p2⟩ => ?_
  have hq1 : H1 q = some (.lst (as.map V.ref)) := (st.kp q _ (r.fresh hq).1 upd_same).1
  cases e : tabAt fns x with
  | none => rw [e] at p2; exact p2.elim
  | some fn =>
    rw [e] at p2
    obtain ⟨a, n, fo, ev, ha⟩ := tab_core t rx e
    exact ⟨q, _, n, .ref a, rfl, ev, SqL.of hq1, ha, k a fn O1 S1 H1 fo r2 p2⟩
theorem tab_ixS (t : Tab g X as fns) (hn : ∀ σ H Q, Q (as.map V.ref) H → tn σ H Q) (hl : as.length ≤ 1000) {B O : List Addr} {S : Sto} {σd : Sl} {σ : L2.St} {H : Hp} {Q : VK} (r : Rel ⟨g.K, g.G, B, O⟩ S σd σ H) {m2 : (List D → Sto → R D) → MS} {J : Ends}
    (p : PostS ⟨g.K, g.G, B, O⟩ W H (mBS mi (fun i => fun σ S => match tabAt fns i with | some fn => m2 fn σ S | none => .bad) σd S) J)
    (k : ∀ a fn O1 S1 H1, FamOk X a (spD g fn) → Rel ⟨g.K, g.G, B, O1⟩ S1 σd σ H1 → PostS ⟨g.K, g.G, B, O1⟩ W H1 (m2 fn σd S1) J → Q (.ref a) H1) : tOp (rIxL X.K) (tLst tn) (rdE g W mi) σ H Q := by
  refine hn σ H _ ⟨by rw [List.length_map, sizeLine_eq]; omega, fun q hq => ?_⟩
  have r1 := r.new (o := .lst (as.map V.ref)) hq
  have p1 := PostS.step (c := ⟨g.K, g.G, B, O⟩) (O1 := O) (H1 := upd H q (.lst (as.map V.ref))) (Step.new hq) p
  refine rdG_mono (rdS_then (rel := RD) r1 p1) fun v H1 ⟨x, O1, S1, r2, rx, st, p2⟩ => ?_
  have hq1 : H1 q = some (.lst (as.map V.ref)) := (st.kp q _ (r.fresh hq).1 upd_same).1
  cases e : tabAt fns x with
  | none => rw [e] at p2; exact p2.elim
  | some fn =>
    rw [e] at p2
    obtain ⟨a, n, fo, ev, ha⟩ := tab_core t rx e
    exact ⟨q, _, n, .ref a, rfl, ev, SqL.of hq1, ha, k a fn O1 S1 H1 fo r2 p2⟩
theorem se_tab (tk : Takes X W) (t : Tab g X as fns) (hpn : PA X names tn) (hn : ∀ σ H Q, Q (as.map V.ref) H → tn σ H Q) (hl : as.length ≤ 1000) (hi : PE X idx (rdE g W mi)) (ha : PA X (e :: es) (rdA g W ma)) (hx : PlainIx idx := by exact fun _ _ => rfl)
    (he : starEach (e :: es) X.env = (false, eval e X.env) :: starEach es X.env := by rfl) (hpl : (backTo pos (starEach es X.env)).any (·.1) = false := by rfl)
    (hc : eval (.Call (.Subscript (.List names lp) idx ip) (e :: es) [] pos) X.env = (do callWith pos (← eval (.Subscript (.List names lp) idx ip) X.env) [] (backTo pos (starEach (e :: es) X.env)) (backToKw pos (keywordEach [] X.env))) := by rfl) :
    PE X (.Call (.Subscript (.List names lp) idx ip) (e :: es) [] pos) (rdE g W (mTab fns mi ma)) :=
  PE.imp (pe_callV (P := FamOk X) (E := WE W) (fun _ _ h => h) (pe_ix ix_list (pe_lst hpn) hi hx) ha (fun σ => passAt tk σ) he hpl hc) fun σ H Q ⟨B, O, S, σd, r, p⟩ => by
    refine tab_ix t hn hl r p fun a fn O1 S1 H1 fo r1 p1 => ⟨a, _, fo, rfl, rdG_mono (rd_then (rel := RDs) r1 p1) fun vs H2 ⟨ds, O2, S2, r2, rx, st2, p2⟩ => ?_⟩
    refine ⟨B, O2, S2, ds, r2.toRelS, rx, ?_⟩
    revert p2
    cases fn ds S2 with
    | ok d S' => exact fun p2 v O' H' h1 h2 h3 => p2 v O' H' (r2.step h3 h1) h2 h3
    | exc k ns es S' => exact fun p2 dd O' H' h1 h2 h3 => p2 dd O' H' (r2.step h3 h1) h2 h3
    | bad => exact fun p2 => p2.elim
theorem Rel.setDead {c : Ct} {S : Sto} {σd : Sl} {σ : L2.St} {H : Hp} (r : Rel c S σd σ H) (i : Nat) (v : V) : Rel c S (σd.set i .dead) (σ.set i (some v)) H :=
  { r.toRelS with
    len := by simp [r.len]
    sl := fun j d e => by
      by_cases q : j = i
      · subst q
        by_cases hl : j < σd.length
        · rw [List.getElem?_set_self hl] at e
          exact .inl (Option.some.inj e).symm
        · rw [List.getElem?_eq_none (by simpa using hl)] at e; cases e
      · rw [List.getElem?_set_ne (Ne.symm q)] at e
        refine (r.sl j d e).imp id fun ⟨u, h1, h2⟩ => ⟨u, ?_, h2⟩
        rw [List.getElem?_set_ne (Ne.symm q)]
        exact h1 }
def mTabRet (i : Nat) (fns : List (List D → Sto → R D)) (mi : M D) (ma : M (List D)) : MS := mBS mi fun x => fun σ S => match tabAt fns x with
  | some fn => mBS (mB ma fun ds => fun _ S' => fn ds S') (fun d => fun _ S' => .rt d S') (σ.set i .dead) S
  | none => .bad
theorem ss_tabret {i : Nat} {x : Str} {px np apos rpos : Pos} (tk : Takes X W) (hN : X.N.Nodup) (hi : X.N[i]? = some x) (hx : Loc X.env.scope x) (hv : PE X (.Name x np) (tVar i)) (hlt : i < X.N.length) (hfn : X.fn x = true ∨ X.env.scope.names.lookup x = some .local) (t : Tab g X as fns) (hpn : PA X names tn) (hn : ∀ σ H Q, Q (as.map V.ref) H → tn σ H Q) (hl : as.length ≤ 1000) (hix : PE X idx (rdE g W mi)) (ha : PA X (e :: es) (rdA g W ma)) (hpx : PlainIx idx := by exact fun _ _ => rfl)
    (he : starEach (e :: es) X.env = (false, eval e X.env) :: starEach es X.env := by rfl) (hpl : (backTo pos (starEach es X.env)).any (·.1) = false := by rfl)
    (hs : swapsWith (.Subscript (.List names lp) idx ip) (some (.Name x px)) apos.line X.env = pure false := by rfl)
    (hc : eval (.Call (.Name x np) (e :: es) [] pos) X.env = (do callWith pos (← eval (.Name x np) X.env) [] (backTo pos (starEach (e :: es) X.env)) (backToKw pos (keywordEach [] X.env))) := by rfl) :
    PSs X [.Assign [.Name x px] (.Subscript (.List names lp) idx ip) apos, .Return (some (.Call (.Name x np) (e :: es) [] pos)) rpos] (rdS g W (mTabRet i fns mi ma)) :=
  ⟨fun pins s σ H D I h => by
    have hlen : i < σ.length := by rw [I.len]; exact hlt
    refine (pss_cons (ps_set hN hi hx (pe_ix ix_list (pe_lst hpn) hix hpx) hs) (pss_one (ps_ret (pe_callV (P := FamOk X) (E := WE W) (fun _ _ h => h) hv ha (fun σ => passAt tk σ) he hpl hc)))).run pins s σ H D I ?_
    obtain ⟨B, O, S, σd, r, p⟩ := h
    refine tab_ixS t hn hl r p fun a fn O1 S1 H1 fo r1 p1 => ?_
    have r1' := r1.setDead i (.ref a)
    refine ⟨.ref a, List.getElem?_set_self hlen, a, _, fo, rfl, ?_⟩
    refine rdG_mono (rdS_then (J := D) (rel := RDs) (f := fun ds => mBS (fun _ S' => fn ds S') fun d => fun _ S' => .rt d S') r1' ?_) fun vs H2 ⟨ds, O2, S2, r2, rx, st2, p2⟩ => ?_
    · revert p1
      unfold mBS mB
      cases ma (σd.set i .dead) S1 <;> exact fun p => p
    · refine ⟨B, O2, S2, ds, r2.toRelS, rx, ?_⟩
      unfold mBS at p2
      dsimp only at p2
      revert p2
      cases fn ds S2 with
      | ok d S' => exact fun p2 v O' H' h1 h2 h3 => p2 v O' H' h1 h2 h3
      | exc k ns es S' => exact fun p2 dd O' H' h1 h2 h3 => p2 dd _ O' H' (r2.step h3 h1) h2 h3
      | bad => exact fun p2 => p2.elim⟩
end
end DL

namespace DL
open PySem PySem.Spec PyProof.Rows L2
section
variable {X : Cx} {g : Gx} {W : WX} {o e : Expr} {apos pos : Pos}
def strsOf : List D → Option (List Str)
  | [] => some []
  | .str a :: ds => (strsOf ds).map (a :: ·)
  | _ => none
theorem strsOf_rd {c : Ct} {H : Hp} : ∀ {ds : List D} {ys : List Str} {vs : List V}, strsOf ds = some ys → RDs c H ds vs → vs = ys.map V.str
  | [], ys, vs, e, h => by
    cases Option.some.inj e
    exact (show vs = [] from h)
  | .str a :: ds, ys, vs, e, h => by
    unfold strsOf at e
    obtain ⟨zs, e1, rfl⟩ := Option.map_eq_some_iff.mp e
    obtain ⟨v, us, rfl, h1, h2⟩ := h
    rw [strsOf_rd e1 h2, show v = V.str a from h1]
    rfl
/-- a text's method of one value -/
def mTm (f : Str → D → Sto → R D) (mo me : M D) : M D := mB mo fun x => match x with
  | .str a => mB me fun y => fun _ S => f a y S
  | _ => fun _ _ => .bad
def mTmN (f : Str → D → Sto → R (List D)) (mo me : M D) : M (List D) := mB mo fun x => match x with
  | .str a => mB me fun y => fun _ S => f a y S
  | _ => fun _ _ => .bad
def fJoin (a : Str) (y : D) (S : Sto) : R D := match seqOf S y with
  | some ds => match strsOf ds with
    | some ys => if (ys.map (·.length)).sum + ys.length * a.length ≤ 16777216 then .ok (.str (Txt.join a ys)) S else .bad
    | none => .bad
  | none => .bad
theorem se_join {mo me : M D} (ho : PE X o (rdE g W mo)) (he : PE X e (rdE g W me)) (hs : starEach [e] X.env = [(false, eval e X.env)] := by rfl) (hbase : attributeBase o "join" X.env (eval o X.env) = eval o X.env := by rfl) (hline : (apos.endLine == pos.line) = true := by rfl) :
    PE X (.Call (.Attribute o "join" apos) [e] [] pos) (rdE g W (mTm fJoin mo me)) := PE.imp (pe_join ho he hs hbase hline) fun σ H Q ⟨B, O, S, σd, rel, p⟩ =>
  rdG_mono (rd_then (rel := RD) rel p) fun v H1 ⟨x, O1, S1, r1, rx, st1, p1⟩ => by
    cases x with
    | str a =>
      have hv : v = .str a := rx
      subst hv
      refine ⟨⟨a, rfl⟩, rdG_mono (rd_then (rel := RD) r1 p1) fun w H2 ⟨y, O2, S2, r2, ry, st2, p2⟩ => ?_⟩
      unfold fJoin at p2
      split at p2
      · next ds q =>
        split at p2
        · next ys qs =>
          split at p2
          · next hl =>
            obtain ⟨l, us, rfl, h1, h2⟩ := seqOf_ok (K := X.K) r2.toRelS ry q
            rw [strsOf_rd qs h2] at h1
            exact ⟨a, l, ys, rfl, rfl, h1, hl, post_val p2 r2 rfl⟩
          · exact p2.elim
        · exact p2.elim
      · exact p2.elim
    | _ => exact p1.elim
def fSplit (a : Str) (y : D) (S : Sto) : R (List D) := match y with
  | .str b => if (b.length == 0) = false ∧ a.length + 2 ≤ 100000 then .ok ((Txt.split a b).map D.str) S else .bad
  | _ => .bad
theorem strs_rds {c : Ct} {H : Hp} : ∀ ys : List Str, RDs c H (ys.map D.str) (ys.map V.str)
  | [] => rfl
  | y :: ys => ⟨_, _, rfl, rfl, strs_rds ys⟩
theorem sn_split {mo me : M D} (ho : PE X o (rdE g W mo)) (he : PE X e (rdE g W me)) (hs : starEach [e] X.env = [(false, eval e X.env)] := by rfl) (hbase : attributeBase o "split" X.env (eval o X.env) = eval o X.env := by rfl) (hline : (apos.endLine == pos.line) = true := by rfl) :
    PE X (.Call (.Attribute o "split" apos) [e] [] pos) (rdN g W (mTmN fSplit mo me)) := PE.imp (pe_split ho he hs hbase hline) fun σ H Q ⟨B, O, S, σd, rel, p⟩ =>
  rdG_mono (rdN_then (rel := RD) rel p) fun v H1 ⟨x, O1, S1, r1, rx, st1, p1⟩ => by
    cases x with
    | str a =>
      have hv : v = .str a := rx
      subst hv
      refine ⟨⟨a, rfl⟩, rdG_mono (rdN_then (rel := RD) r1 p1) fun w H2 ⟨y, O2, S2, r2, ry, st2, p2⟩ => ?_⟩
      unfold fSplit at p2
      split at p2
      · next b =>
        split at p2
        · next hl =>
          have hw : w = .str b := ry
          subst hw
          exact ⟨a, b, rfl, rfl, hl.1, Nat.le_trans hl.2 (by decide), fun l hn => postN_new p2 r2 (strs_rds _) l hn⟩
        · exact p2.elim
      · exact p2.elim
    | _ => exact p1.elim
end
end DL

namespace DL
open PySem PySem.Spec PyProof.Rows L2
section
variable {X : Cx} {g : Gx} {W : WX} {a b : Expr} {pos : Pos}
def rMulS : R2 := fun x y H Q => ∃ z n, x = .str z ∧ y = .int n ∧ MulOk z n ∧ Q (.str (Txt.mul z n)) H
theorem op_smul : OpR X (binaryOp .Mult) rMulS := by
  intro pins s σ H x y v u Q I rx ry h
  obtain ⟨z, n, rfl, rfl, hk, q⟩ := h
  obtain ⟨t, rfl⟩ := rx
  obtain ⟨t2, rfl⟩ := ry
  exact SB.mul hk fun t' k => ⟨.str (Txt.mul z n), H, I.tok k, ⟨t', rfl⟩, q⟩
def fMulS (x y : D) (S : Sto) : R D := match x with
  | .str z => match y with
    | .int n => if 0 ≤ n ∧ n ≤ 1000 ∧ z.length ≤ 1000 then .ok (.str (Txt.mul z n)) S else .bad
    | _ => .bad
  | _ => .bad
theorem mulS_ok {z : Str} {n : Int} (h : 0 ≤ n ∧ n ≤ 1000 ∧ z.length ≤ 1000) : MulOk z n := by
  refine ⟨by simp; omega, fun h1 _ => ?_, fun h1 _ => ?_⟩
  · intro hc
    have : (1000 : Int) ≤ (2 ^ 63 - 1) / n := by
      rw [Int.le_ediv_iff_mul_le (by omega)]
      omega
    omega
  · unfold Builtin.Str.tooLong sizeLine
    refine decide_eq_false ?_
    have : z.length * n.toNat ≤ 1000 * 1000 := Nat.mul_le_mul h.2.2 (by omega)
    omega
/-- a try that runs through -/
def mQ (m : MS) : MS := fun σ S => match m σ S with
  | .exc _ _ _ _ _ => .bad
  | r => r
theorem ss_thru {sts : List Stmt} {h₀ : ExceptHandler} {hs : List ExceptHandler} {m : MS} (hb : PSs X.nox sts (rdS g W0 m)) : PS X (.Try sts (h₀ :: hs) [] [] pos) (rdS g W (mQ m)) := PS.imp (ps_try_thru0 hb) fun J σ H ⟨B, O, S, σd, r, p⟩ => ⟨B, O, S, σd, r, by
  unfold mQ at p
  revert p
  cases m σd S with
  | exc k ns ds σx Sx => exact fun p => p.elim
  | bad => exact fun p => p.elim
  | _ => exact fun p => p⟩
theorem fMulS_ok : OpS g W rMulS fMulS := fun {B O S σd σ H x y v w Q} r hx hy p => by
  unfold fMulS at p
  split at p
  · split at p
    · split at p
      · next hl =>
        cases (show _ = _ from hx)
        cases (show _ = _ from hy)
        exact ⟨_, _, rfl, rfl, mulS_ok hl, post_val p r rfl⟩
      · exact p.elim
    · exact p.elim
  · exact p.elim
theorem se_smul {ma mb : M D} (ha : PE X a (rdE g W ma)) (hb : PE X b (rdE g W mb)) : PE X (.BinOp a .Mult b pos) (rdE g W (mOp fMulS ma mb)) := se_op op_smul fMulS_ok ha hb
end
end DL

namespace L2
open PySem PySem.Spec PyProof.Rows
theorem takesN0 {X : Cx} : L2N.Takes X (fun _ _ _ _ => False) := fun _ _ x => by
  obtain ⟨_, _, _, _, _, _, _, _, _, _, _, _, _, _, _, _, z⟩ := x
  exact False.elim z
theorem Fun.okXN {P : Program} {w : World} {K : PySem.W.Frag} {mg : Str → Option Value} {base : Heap} {nm ql : Str} {st : Stmt} {a : Addr} {fd : FuncData} {N ps : List Str} {j : Nat} {sp : Sp} (F : Fun K nm ql st a fd) (sc : FnScope N ps (defScope st)) (hl : ∀ vs H Q E, sp vs H Q E → vs.length = ps.length)
    (hb : ∀ (cv : Value) (A : Around) (ou : List Env) (s : Shared) (H : Hp) (vs : List V) (Q : VK) (E : XK), Room j (A.deeper (envOfC ql (defScope st) s.heap.objs.size a cv)) → sp vs H Q E →
      ∃ t, PSs (cxOf (L2N.CX P w) P w K mg base N ql (defScope st) a cv A ou s H E) (defBody st) t ∧ t { nx := fun _ H' => Q .non H', rt := Q } (start N vs) H) : FnOk P w K mg base (L2N.CX P w) (j + 1) a fd ps sp := by
  obtain ⟨c0, c1, c2, c3, c4, c5, cv, c6, c7, rfl, h1, h2⟩ := F.ex
  exact fn_of h1 h2 sc hl fun A ou s H vs Q E hr q => hb cv A ou s H vs Q E hr q
end L2

set_option maxHeartbeats 4000000
namespace L2
open PySem PySem.Spec PyProof.Rows
theorem note_eq {x : Value} {e1 e2 : Env} (h : e1.frame = e2.frame) : noteFrame x e1 = noteFrame x e2 := by
  unfold noteFrame PySem.frameOf
  rw [h]
/-- what a block leaves behind, its own environment told -/
def postX (M : Model) (A : Around) (E : Value → Shared → Prop) (use : Option (Value → Sem Unit)) (Q : Value → Shared → Prop) (acc : Value) (ce : Env) (r : Result) (s' : Shared) : Prop :=
  match r with
  | .error x => ∃ m, s'.heap.Ns ce.locals m ∧ ∀ h', Heap.SameBut ce.locals s'.heap h' → wpAny M A (passOn "comprehension.variables-let-go" x ce : Sem Value) (fun _ _ => False) E { s' with heap := h' }
  | .ok f => compPost M A E use Q acc ce.locals (.ok f) s'
theorem comp_raises {M : Model} {A : Around} {E : Value → Shared → Prop} {s : Shared} {env : Env} {e : Expr} {scope : Scope} {pos : Pos} {newAcc first : Sem Value} {g : Comprehension} {gs : List Comprehension} {cl : List (Str × Addr)} {use : Option (Value → Sem Unit)} {Q : Value → Shared → Prop}
    (c1 : clausesOf e = g :: gs) (c2 : ∀ x, foldedSetIterable g.iter env x = pure x) (c3 : closureFor scope env = pure cl) (c4 : scope.kind = .function) (c5 : ∀ x ∈ scope.names, x.2 = .local → scope.names.lookup x.1 = some .local)
    (h : wpAny M A first (fun x t1 => wpAny M A (pyIter x) (fun it t2 => wpAny M A newAcc (fun acc t3 => wpAny M A (newFunctionEnv scope env.globals cl [] env.qual none .none (some env)) (fun ce t4 =>
      codeAny M A (.compStart e 0 it acc { ce with scope := relabel scope env }) (postX M A E use Q acc { ce with scope := relabel scope env }) t4) E t3) E t2) E t1) E s) :
    wpAny M A (comprehension e scope env pos newAcc false first use) Q E s := by
  unfold comprehension
  rw [c3, c1]
  refine wpAny_bind (wpAny_mono h (fun x t1 k1 => ?_) fun _ _ z => z)
  refine wpAny_bind (wpAny_standAt (wpAny_bind (wpAny_of_eq (c2 x) (wpAny_bind (wpAny_holding ?_)))))
  refine wpAny_mono k1 (fun it t2 k2 => wpAny_standIf (wpAny_bind ?_)) fun _ _ z => z
  refine wpAny_mono k2 (fun acc t3 k3 => wpAny_bind (wpAny_pure (wpAny_bind ?_))) fun _ _ z => z
  refine wpAny_mono k3 (fun ce t4 k4 => ?_) fun _ _ z => z
  dsimp only
  generalize hvl : (scope.names.filter fun x => (x.2 == .local || x.2 == .cell) && x.1 != (".0" : Str)) = vl
  have key : ∀ x ∈ vl, x.2 = .local → Env.kindOf { ce with scope := relabel scope env } x.1 = some .local := fun x hx hl => by
    rw [← hvl] at hx
    exact lookup_relabel_local (c5 x (List.mem_filter.mp hx).1 hl)
  have k1' : ∀ x ∈ vl.reverse, x.2 = .local → Env.kindOf { ce with scope := relabel scope env } x.1 = some .local := fun x hx => key x (List.mem_reverse.mp hx)
  have k2' : ∀ x ∈ vl.reverse.drop 1 ++ vl.reverse.take 1, x.2 = .local → Env.kindOf { ce with scope := relabel scope env } x.1 = some .local := fun x hx =>
    (List.mem_append.mp hx).elim (fun z => k1' x (List.mem_of_mem_drop z)) fun z => k1' x (List.mem_of_mem_take z)
  refine wpAny_holding (wpAny_bind (wpAny_attempt (wpAny_holding (wpAny_run (codeAny_mono k4 fun r t5 k5 => ?_)))))
  cases r with
  | error x =>
    obtain ⟨m, n5, k6⟩ := k5
    refine wpAny_bind (wpAny_holding (wpAny_comp_letGo (cenv := { ce with scope := relabel scope env }) c4 _ t5 m k1' n5 fun h6 m6 _ sb => ?_))
    exact wpAny_mono (k6 h6 sb) (fun _ _ z => z.elim) fun _ _ z => z
  | ok f =>
    cases use with
    | none =>
      obtain ⟨m, n5, k6⟩ := k5
      refine wpAny_bind (wpAny_holding (wpAny_comp_letGo (cenv := { ce with scope := relabel scope env }) c4 _ t5 m k1' n5 fun h6 m6 _ sb => ?_))
      exact wpAny_pure (k6 h6 sb)
    | some u =>
      refine wpAny_bind (wpAny_rule (wpAny_bind (wpAny_holding (wpAny_mono k5 (fun _ t6 k6 => ?_) fun _ _ z => z))))
      obtain ⟨m, n6, k7⟩ := k6
      refine wpAny_bind (wpAny_comp_letGo (cenv := { ce with scope := relabel scope env }) c4 _ t6 m k2' n6 fun h6 m6 _ sb => ?_)
      exact wpAny_pure (k7 h6 sb)
theorem ff_only {h h' base : Heap} : ∀ {l : List Env}, h.FunFrames base l → (∀ b ∈ frs l, ∀ o, h.get? b = some o → ∃ o', h'.get? b = some o' ∧ o'.data = o.data) → h'.FunFrames base l
  | [], _, _ => trivial
  | env :: l, ⟨k, ⟨L, o, f, n, e, d⟩, r⟩, q => by
    have memL : L ∈ frs (env :: l) := List.mem_filterMap.mpr ⟨env, List.mem_cons_self, f⟩
    obtain ⟨o', e', d'⟩ := q L memL o e
    refine ⟨k, ⟨L, o', f, n, e', fun vs => d' ▸ d vs⟩, ff_only r fun b hb => q b ?_⟩
    obtain ⟨x, hx, fx⟩ := List.mem_filterMap.mp hb
    exact List.mem_filterMap.mpr ⟨x, List.mem_cons_of_mem _ hx, fx⟩
section
variable {X : Cx} {W : WX} {pins : List (Addr × Obj)} {σ : L2.St} {H3 : Hp} {s3 : Shared}
/-- an exception out of a call in the block is in the def's air -/
theorem block_air {scope : Scope} {ce : Env} {fp : List Addr} {use : Option (Value → Sem Unit)} {Qf : Value → Shared → Prop} {acc : Value} (hst : X.stack = X.env :: X.outer) (hfr : X.env.frame = some X.env.locals) (tk : Takes X W) (I3 : Inv X pins σ H3 s3)
    (hcf : ce.frame = X.env.frame) (cL : ce.locals = s3.heap.objs.size) (f3 : ∀ b ∈ fp, FpOk X pins H3 b) {pins' : List (Addr × Obj)} {σ' : L2.St} {Hs : Hp} {t0 t : Shared} {u : Value} {E' : Value → Shared → Prop}
    (I' : Inv (X.blk s3 H3 scope ce fp) pins' σ' Hs t0) (c : L2.CX X.prog X.w X.stack Hs t0 (fun cls d H => W cls d σ H) u t) :
    wpAny (model X.prog X.w) X.A (noteFrame u ce) (fun _ t1 => postX (model X.prog X.w) X.A X.xe use Qf acc ce (.error u) t1) E' t := by
  rw [note_eq hcf]
  obtain ⟨a, B, H', cls, d, rfl, fl, hok, ub, na, os, ag, w⟩ := c
  have hfrs : X.A.frames = some (X.env :: X.outer) := by rw [I3.ok.frames, hst]
  have st := fl.1
  have cNot : ce.locals ∉ frs X.stack := fun z => by
    obtain ⟨_, o, e, _⟩ := I3.stack.mem z
    have := Heap.lt_size e
    rw [cL] at this
    exact Nat.lt_irrefl _ this
  have cNe : ∀ {b o}, s3.heap.get? b = some o → b ≠ ce.locals := fun {b o} e z => by
    have := Heap.lt_size e
    rw [z, cL] at this
    exact Nat.lt_irrefl _ this
  obtain ⟨m, ⟨oC, es, ep, hC, dC, rC⟩, _⟩ := id I'.loc
  have hC : t0.heap.get? ce.locals = some oC := hC
  have hCn : Hs ce.locals = none := I'.free
  have hCB : B.get? ce.locals = some oC := ub.keep _ _ hC hCn cNot
  have hC' : H' ce.locals = none := ub.free _ _ hC hCn
  rw [hst] at fl
  refine HandSPX.looks_onZ Zc.steady hfrs hfr fl fun h1 held up1 => ?_
  obtain ⟨q1, q2, q3, oe, vs, T, oT, ts, he, hz, hd, hv1, hnT, hTe, hT, hdT, hv3⟩ := held
  have hC1 : h1.get? ce.locals = some oC := q1 _ _ hCB
  refine ⟨m, ⟨oC, es, ep, hC1, dC, rC⟩, fun h2 sb => ?_⟩
  have aC : a ≠ ce.locals := fun z => by
    rw [z, hC1] at he
    cases he
    rw [dC] at hd
    cases hd
  have TC : T ≠ ce.locals := fun z => by
    rw [z, hC1] at hT
    cases hT
    rw [dC] at hdT
    cases hdT
  obtain ⟨B', b1, b2⟩ := restrict B fun b => decide (b ≠ ce.locals)
  have sub : ∀ {b o}, B'.get? b = some o → B.get? b = some o ∧ b ≠ ce.locals := fun {b o} e => by
    by_cases z : b = ce.locals
    · rw [b2 b (by simp [z])] at e; cases e
    · exact ⟨(b1 b (by simp [z])).symm.trans e, z⟩
  have non : ∀ {b}, B.get? b = none → B'.get? b = none := fun {b} e => by
    cases q : B'.get? b with
    | none => rfl
    | some o => rw [(sub q).1] at e; cases e
  have fB : ∀ b ∈ frs (X.env :: X.outer), B'.get? b = none := fun b hb => non (q3.mem hb).1
  have k2 : ∀ {b o}, b ≠ ce.locals → h1.get? b = some o → h2.get? b = some o := fun {b o} z e => (sb.2 b z).trans e
  have held2 : HandSPX.HeldZ B' (X.env :: X.outer) a (Zc cls d) X.env.locals h2 := by
    refine ⟨fun b o e => k2 (sub e).2 (q1 b o (sub e).1), non q2, ?_, oe, vs, T, oT, ts, k2 aC he, hz, hd, hv1, non hnT, hTe, k2 TC hT, hdT, hv3⟩
    have nfl : ∀ b ∈ frs (X.env :: X.outer), b ≠ ce.locals := fun b hb z => cNot (by rw [hst, ← z]; exact hb)
    exact ff_only (funFrames_none q3 fB) fun b hb o e => ⟨o, k2 (nfl b hb) e, rfl⟩
  -- the state without the exception
  obtain ⟨G, g1, g2⟩ := restrict t.heap fun b => ((B.get? b).isSome || decide (b ∈ frs X.stack)) && decide (b ≠ ce.locals)
  have gB : ∀ {b o}, b ≠ ce.locals → B.get? b = some o → G.get? b = some o := fun {b o} z e => by
    rw [g1 b (by simp [e, z])]
    exact st b o e
  have gF : ∀ {b}, b ∈ frs X.stack → G.get? b = t.heap.get? b := fun {b} hb => by
    have z : b ≠ ce.locals := fun z => cNot (by rw [← z]; exact hb)
    exact g1 b (by simp [hb, z])
  have og : ∀ {b o}, G.get? b = some o → t.heap.get? b = some o ∧ b ≠ ce.locals ∧ ((B.get? b).isSome = true ∨ b ∈ frs X.stack) := fun {b o} e => by
    cases q : (((B.get? b).isSome || decide (b ∈ frs X.stack)) && decide (b ≠ ce.locals)) with
    | false => rw [g2 b q] at e; cases e
    | true =>
      rw [g1 b q] at e
      have z : ((B.get? b).isSome = true ∨ b ∈ frs X.stack) ∧ b ≠ ce.locals := by simpa using q
      exact ⟨e, z.2, z.1⟩
  have hokG : HOk X.prog X.w H' G := fun b o q => (hok b o q).stay (fun c u hc r => gB (fun z => by
    rw [z] at hc
    rcases hc with hc | hc
    · rw [← hc, hC'] at q; cases q
    · rw [hC'] at hc; cases hc) r) (fun _ r => r) fun _ _ r => r
  have ba := I'.base
  have osx : t.os = s3.os := os.trans I'.os
  have un : Un (frs X.stack) fp H3 H' s3.heap G := {
    keep := fun b o e n hb hx => gB (cNe e) (ub.keep b o (ba.keep b o e n hb hx) (ba.free b o e n hx) hb)
    slot := fun b o e n hb hx => by
      obtain ⟨sl, e1⟩ := ba.slot b o e n hb hx
      obtain ⟨sl2, e2⟩ := ub.slot b _ e1 hb
      exact ⟨sl2, (gF hb).trans e2⟩
    free := fun b o e n hx => by
      obtain ⟨o', e1⟩ := ba.there b o e hx
      exact ub.free b o' e1 (ba.free b o e n hx)
    there := fun b o e hx => by
      obtain ⟨o', e1⟩ := ba.there b o e hx
      by_cases hb : b ∈ frs X.stack
      · obtain ⟨sl2, e2⟩ := ub.slot b _ e1 hb
        exact ⟨_, (gF hb).trans e2⟩
      · obtain ⟨o2, e2⟩ := ub.there b o' e1 hb
        exact ⟨o2, gB (cNe e) e2⟩
    tups := fun b xs e => ub.tups b xs (ba.tups b xs e)
    frzs := fun b o xs e => ub.frzs b o xs (ba.frzs b o xs e)
    tbls := fun b ps e => by
      obtain ⟨m1, e1⟩ := ba.tbls b ps e
      obtain ⟨m2, e2⟩ := ub.tbls b _ e1
      exact ⟨m1 ++ m2, by rw [e2, Array.append_assoc]⟩ }
  have J : Inv X pins σ H' { t with heap := G } := I3.call' (s' := { t with heap := G }) (ch := fp) osx un hokG ag fun b hb =>
    let z := f3 b hb
    ⟨z.2.2.2.1, z.2.1, z.2.2.2.2.1, z.2.2.2.2.2⟩
  have upG : G.UpToSlots h2 := fun b o e hnf => by
    obtain ⟨e1, z, _⟩ := og e
    obtain ⟨sl, e2⟩ := up1 b o e1 hnf
    exact ⟨sl, k2 z e2⟩
  unfold PySem.passOn
  refine wpAny_bind (wpAny_field (k2 aC he) hd hv1 ?_)
  rw [if_neg (show ¬ ((Value.ref T == Value.none) = true) from by simp), hcf, hfr]
  have fin : ∀ {Q : Value → Shared → Prop}, wpAny (model X.prog X.w) X.A (setFlight (.ref a) (some X.env.locals)) (fun _ s4 => wpAny (model X.prog X.w) X.A (throw (.ref a) : Sem Value) Q X.xe s4) X.xe { t with heap := h2 } := fun {Q} =>
    HandSPX.setFlight_onZ held2 fun h4 held4 up4 => wpAny_throw (tk _ _ ⟨a, B', { t with heap := G }, pins, σ, H', cls, d, rfl, J, fun b o e hb => by
      obtain ⟨e1, z, y⟩ := og e
      rcases y with y | y
      · obtain ⟨o', e2⟩ := Option.isSome_iff_exists.mp y
        have e3 := st b o' e2
        rw [e1] at e3
        cases e3
        exact (b1 b (by simp [z])).trans e2
      · exact absurd y hb, upG.trans up4, .inr (.inr (by rw [hst]; exact held4)), na, rfl, ag, w⟩)
  first
    | exact wpAny_bind (wpAny_pure (wpAny_bind fin))
    | exact wpAny_bind fin
end
end L2

set_option maxHeartbeats 4000000
namespace L2
open PySem PySem.Spec PyProof.Rows
section
variable {X : Cx} {W : WX}
/-- what may leave the block, asked of its context -/
def BlkTakes (X : Cx) (W : WX) (σ : L2.St) (Y : Cx) : Prop := ∀ σ', PassesAt (L2.CX Y.prog Y.w) Y σ' (fun cls d H => W cls d σ H)
/-- the element, at the def's slots σ -/
def BlkE (X : Cx) (W : WX) (scope : Scope) (elt : Expr) (te : L2.St → TE) : Prop := ∀ (σ : L2.St) (s : Shared) (H : Hp) (C : Addr) (cl : List (Str × Addr)) (fp : List Addr) (xe : Value → Shared → Prop),
  BlkTakes X W σ ((X.blk s H scope (compEnvC scope cl C X.env) fp).wish xe) → PE ((X.blk s H scope (compEnvC scope cl C X.env) fp).wish xe) elt (te σ)
theorem lc_raise {pins : List (Addr × Obj)} {s : Shared} {σ : L2.St} {H : Hp} {Q : VK} {elt tg iter : Expr} {ifs : List Expr} {scope : Scope} {own : List (Str × Nat)} {pos pos2 : Pos} {wi : TI} {g : TG} {tt : TT} {te : L2.St → TE} {use : Option (Value → Sem Unit)} {Qf : Value → Shared → Prop}
    (hst : X.stack = X.env :: X.outer) (hfr : X.env.frame = some X.env.locals) (tk : Takes X W) (calm : X.calm = true) (hN : X.N.Nodup) (I : Inv X pins σ H s) (hi : PI X tg iter wi) (ok : BlkOk X.N X.env.scope scope own)
    (hg : ∀ s H C cl fp, PG (X.blk s H scope (compEnvC scope cl C X.env) fp) tg g) (ht : ∀ s H C cl fp, PTs (X.blk s H scope (compEnvC scope cl C X.env) fp) ifs tt) (he : BlkE X W scope elt te)
    (hfs : ∀ x, foldedSetIterable iter X.env x = pure x) (h : tLc wi g tt (te σ) (own.map (·.2)) σ H Q)
    (out : ∀ L C s' m H', Inv X pins σ H' s' → Q (.ref L) H' → s'.heap.Ns C m → FpOk X pins H' C → compPost (model X.prog X.w) X.A X.xe use Qf (.ref L) C (.ok .next) s') :
    wpAny (model X.prog X.w) X.A (comprehension (.ListComp elt [⟨tg, iter, ifs, 0⟩] scope pos) scope X.env pos2 (newList []) false (eval iter X.env) use) Qf X.xe s := by
  have clo : ∀ y ∈ scope.names, y.2 = .free → ∃ c, X.env.cells.lookup y.1 = some c := fun y hy e => (ok.free y hy e).elim (fun k => I.ok.has _ (.inl k)) fun k => I.ok.has _ (.inr k)
  refine comp_raises (use := use) rfl hfs (closure_ok clo) ok.kind (fun y hy e => by rw [ok.uniq y hy, e]) (thn (hi.run pins s σ H _ I h) fun xv t1 hx => thn hx fun itv t2 h2 => ?_)
  obtain ⟨it, fp, tn, J, G2, rfl, J2, T, n2, f2, q⟩ := h2
  refine wpAny_newObj_type (newEnv_comp ?_) (by show 0 ≤ sizeLine; decide)
  generalize hL : t2.heap.objs.size = L
  obtain ⟨V, ⟨m0, v0⟩, turn⟩ := q L (J2.hok.fresh (Nat.le_of_eq hL))
  generalize ht3 : ({ t2 with heap := t2.heap.push { cls := .type "list", data := .seq ([] : List Value).toArray } } : Shared) = t3
  have e3 : t3.heap = t2.heap.push { cls := .type "list", data := .seq ([] : List Value).toArray } := by rw [← ht3]
  have J3 : Inv X pins σ (upd G2 L (.lst [])) t3 := by
    rw [← ht3]
    refine J2.laid (t' := t2.toks) (fun b o e => Heap.get?_push_of_some _ e) (Nat.le_of_eq hL) ⟨Nat.zero_le _, [], 0, .nil, ?_⟩
    rw [← hL]
    exact Heap.get?_push_size _ rfl
  have small : ∀ b ∈ fp, b < t2.heap.objs.size := fun b hb => by
    obtain ⟨o, e, _⟩ := T.obj _ _ n2 b hb
    exact Heap.lt_size e
  have fp3 : ∀ b ∈ fp, FpOk X pins (upd G2 L (.lst [])) b ∧ b < t3.heap.objs.size := fun b hb => by
    have hlt := small b hb
    refine ⟨⟨?_, (f2 b hb).2⟩, by rw [e3, Heap.size_push]; exact Nat.lt_of_lt_of_le hlt (Nat.le_succ _)⟩
    rw [upd_ne (by rw [← hL]; exact Nat.ne_of_lt hlt)]
    exact (f2 b hb).1
  have n3 : tn 0 t3.heap := T.keep _ _ _ n2 fun b _ o e => by rw [e3]; exact Heap.get?_push_of_some _ e
  have J4 := block_start J3 ok hN fp3
  have zg := hg t3 (upd G2 L (.lst [])) t3.heap.objs.size (cellsFrom (t3.heap.objs.size + 1) scope.names (cloFrom X.env.cells scope.names [])) fp
  have zt := ht t3 (upd G2 L (.lst [])) t3.heap.objs.size (cellsFrom (t3.heap.objs.size + 1) scope.names (cloFrom X.env.cells scope.names [])) fp
  have ze := he σ t3 (upd G2 L (.lst [])) t3.heap.objs.size (cellsFrom (t3.heap.objs.size + 1) scope.names (cloFrom X.env.cells scope.names [])) fp
  show codeAny _ _ (.compStart (.ListComp elt [⟨tg, iter, ifs, 0⟩] scope pos) 0 (.ref it) (.ref L) (compEnvC scope (cellsFrom (t3.heap.objs.size + 1) scope.names (cloFrom X.env.cells scope.names [])) t3.heap.objs.size X.env)) (postX (model X.prog X.w) X.A X.xe use Qf (.ref L) (compEnvC scope (cellsFrom (t3.heap.objs.size + 1) scope.names (cloFrom X.env.cells scope.names [])) t3.heap.objs.size X.env)) { t3 with heap := pushCells (t3.heap.push { cls := .type "dict", data := .dict #[] }) scope.names }
  have gone : ∀ b ∈ fp, (upd G2 L (.lst [])) b = none := fun b hb => (fp3 b hb).1.1
  generalize hce : compEnvC scope (cellsFrom (t3.heap.objs.size + 1) scope.names (cloFrom X.env.cells scope.names [])) t3.heap.objs.size X.env = ce at J4 zg zt ze ⊢
  have cL : ce.locals = t3.heap.objs.size := by subst hce; rfl
  have cF : ce.frame = X.env.frame := by subst hce; rfl
  generalize hG3 : upd G2 L (.lst []) = G3 at J3 J4 zg zt ze v0 gone fp3
  generalize ht4 : ({ t3 with heap := pushCells (t3.heap.push { cls := .type "dict", data := .dict #[] }) scope.names } : Shared) = t4 at J4 ⊢
  have n4 : tn 0 t4.heap := T.keep _ _ _ n3 fun b _ o e => by rw [← ht4]; exact pushCells_keeps _ _ _ _ (Heap.get?_push_of_some _ e)
  have fpB : ∀ {σ' : L2.St} {H' : Hp} {s' : Shared}, Inv (X.blk t3 G3 scope ce fp) [] σ' H' s' → (∀ b ∈ fp, H' b = none) → ∀ b ∈ fp, FpOk (X.blk t3 G3 scope ce fp) [] H' b := fun {σ' H' s'} K hn b hb =>
    ⟨hn b hb, (K.ok.exf b hb).1, K.ok.exfs b hb, .inl hb, fun x c e => (K.ok.exf b hb).2 x c e, fun y hy => nomatch (show y ∈ ([] : List (Addr × Obj)) from hy)⟩
  have loop : codeAny (model X.prog X.w) X.A (.compLoop (.ListComp elt [⟨tg, iter, ifs, 0⟩] scope pos) 0 (.ref it) (.ref L) ce) (postX (model X.prog X.w) X.A X.xe use Qf (.ref L) ce) t4 := by
    refine compLoop_any (fun n s' => ∃ i H', Inv (X.blk t3 G3 scope ce fp) [] (wipe σ (own.map (·.2))) H' s' ∧ tn i s'.heap ∧ (∀ b ∈ fp, H' b = none) ∧ V i n H') ?_ m0 ⟨0, G3, J4, n4, gone, v0⟩
    rintro n t5 ⟨i, H5, K5, n5, z5, v5⟩
    rcases turn i n H5 v5 with ⟨stop, qq⟩ | ⟨go, Nx, hNx, step⟩
    · refine thnF (T.done (X.blk t3 G3 scope ce fp) rfl rfl rfl calm i [] t5 _ H5 (fun _ _ => False) K5 (fpB K5 z5) n5 stop) fun r t6 ⟨hr, K6⟩ => ?_
      subst hr
      have J7 : Inv X pins σ H5 t6 := J3.call' (ch := fp) K6.os K6.base K6.hok K6.bare fun b hb => ⟨(fp3 b hb).1.2.2.2.1, (fp3 b hb).1.2.1, (fp3 b hb).1.2.2.2.2.1, (fp3 b hb).1.2.2.2.2.2⟩
      have fC : H5 t3.heap.objs.size = none := by
        have z : H5 ce.locals = none := K6.free
        rwa [cL] at z
      obtain ⟨m, hm, _⟩ := K6.loc
      have hm : t6.heap.Ns ce.locals m := hm
      show compPost _ _ _ use Qf (.ref L) ce.locals (.ok .next) t6
      rw [cL] at hm ⊢
      exact out L t3.heap.objs.size t6 m H5 J7 qq hm (J3.fpOk (Nat.le_refl _) fC)
    · refine thnF (T.item (X.blk t3 G3 scope ce fp) rfl rfl rfl calm i [] t5 _ H5 (fun _ _ => False) K5 (fpB K5 z5) n5 go) fun r t6 ⟨u, hr, h6⟩ => ?_
      subst hr
      refine thnF h6 fun _ t7 ⟨x, H7, K7, r7, y7, n7, z7⟩ => ?_
      have K7p := K7.pinned (fpB K7 z7) (T.obj _ _ n7)
      refine thnF (zg.run _ t7 _ H7 x u _ K7p r7 (step x H7 y7)) fun _ t8 ⟨σ8, H8, K8, w8, q8⟩ => ?_
      refine thnF (zt.run _ t8 σ8 H8 _ K8 q8) fun b t9 ⟨H9, K9, q9⟩ => ?_
      have again : ∀ {s' : Shared} {H' : Hp}, Inv (X.blk t3 G3 scope ce fp) ([] ++ pinsAt fp t7.heap) σ8 H' s' → Nx H' → ∃ m, m < n ∧ ∃ i H', Inv (X.blk t3 G3 scope ce fp) [] (wipe σ (own.map (·.2))) H' s' ∧ tn i s'.heap ∧ (∀ b ∈ fp, H' b = none) ∧ V i m H' := fun {s' H'} K nx => by
        obtain ⟨m', hm, v'⟩ := hNx H' nx
        have pn' : ∀ b ∈ fp, ∀ o, t7.heap.get? b = some o → s'.heap.get? b = some o ∧ H' b = none := fun b hb o e =>
          let z := K.pin (b, o) (List.mem_append_right _ (List.mem_append_right _ (mem_pinsAt hb e)))
          ⟨z.1, z.2.1⟩
        have hlen : (wipe σ (own.map (·.2))).length = σ8.length := by rw [← w8, wipe_length]
        refine ⟨m', hm, i + 1, H', (K.unpinned (pins := [])).weak hlen (fun j v e => ?_), T.keep _ _ _ n7 fun b hb o e => (pn' b hb o e).1, fun b hb => ?_, v'⟩
        · rw [← w8] at e
          exact (wipe_some e).1
        · obtain ⟨o, e, _⟩ := T.obj _ _ n7 b hb
          exact (pn' b hb o e).2
      cases b with
      | false =>
        simp only [Bool.false_eq_true, if_false] at q9 ⊢
        exact again K9 q9
      | true =>
        simp only [if_true] at q9 ⊢
        have pz := ze (fun u t => ∃ pins' σ' Hs t0, Inv (X.blk t3 G3 scope ce fp) pins' σ' Hs t0 ∧ L2.CX X.prog X.w X.stack Hs t0 (fun cls d H => W cls d σ H) u t) (fun σ' p' H' s' e s'' I' c => ⟨p', σ', H', s', I'.unwish, c⟩)
        refine wpAny_mono (pz.run _ t9 σ8 H9 _ (K9.wish _) q9) (fun z t10 ⟨yv, H10, K10, r10, acc, hD, hz, nx⟩ => ?_) fun u t10 ⟨p', σ', Hs, t0, I', c⟩ => ?_
        · exact app_ok (X := X.blk t3 G3 scope ce fp) K10.unwish hD hz r10 fun t11 K11 => again K11 nx
        · exact block_air hst hfr tk J3 cF cL (fun b hb => (fp3 b hb).1) I' c
  exact codeAny_compStart_list loop (T.self X.A 0 _ _ _ n4 loop)
def tLcX (wi : TI) (g : TG) (tt : TT) (te : L2.St → TE) (vs : List Nat) : TE := fun σ H Q => tLc wi g tt (te σ) vs σ H Q
theorem ps_setRaise {i : Nat} {y : Str} {py : Pos} {elt tg iter : Expr} {ifs : List Expr} {scope : Scope} {own : List (Str × Nat)} {pos spos : Pos} {wi : TI} {g : TG} {tt : TT} {te : L2.St → TE} (hst : X.stack = X.env :: X.outer) (hfr : X.env.frame = some X.env.locals) (tk : Takes X W) (calm : X.calm = true) (hN : X.N.Nodup) (hy : X.N[i]? = some y) (hyl : X.env.scope.names.lookup y = some .local)
    (hsw : swapsWith (.ListComp elt [⟨tg, iter, ifs, 0⟩] scope pos) (some (.Name y py)) spos.line X.env = pure true) (hi : PI X tg iter wi) (ok : BlkOk X.N X.env.scope scope own)
    (hg : ∀ s H C cl fp, PG (X.blk s H scope (compEnvC scope cl C X.env) fp) tg g) (ht : ∀ s H C cl fp, PTs (X.blk s H scope (compEnvC scope cl C X.env) fp) ifs tt) (he : BlkE X W scope elt te) (hfs : ∀ x, foldedSetIterable iter X.env x = pure x := by intro _; rfl) :
    PS X (.Assign [.Name y py] (.ListComp elt [⟨tg, iter, ifs, 0⟩] scope pos) spos) (tAsg (tLcX wi g tt te (own.map (·.2))) (gName i)) := by
  refine ⟨fun pins s σ H E I h => ?_⟩
  rw [exec_Assign_Name_used _ _ _ _ hsw]
  refine wpAny_bind (wpAny_standAt (wpAny_bind ?_))
  have h : tLc wi g tt (te σ) (own.map (·.2)) σ H (fun x H1 => gName i x σ H1 E.nx) := h
  refine wpAny_bind (thn (lc_raise (Qf := fun _ s' => SP X pins E .next s') hst hfr tk calm hN I hi ok hg ht he hfs h fun L C s' m H' I' q hn f => ?_) fun _ s' hq => wpAny_pure (wpAny_pure hq))
  refine wpAny_assign_Name (store_ok2 (v := V.ref L) I' hN hy (.inl hyl) rfl (fun s2 I2 ⟨a, sb, ha⟩ => ?_) (.inr hyl))
  obtain ⟨f0, f1, f2, f3, f4, f5⟩ := f
  have hne : C ≠ a := ha.elim (fun z => by rw [z]; exact f1) fun z e => f4 y a z e.symm
  exact ⟨m, hn.sameBut sb hne, fun h3 sb3 => ⟨_, H', I2.turned (t' := s2.toks) (fun b o hb e => (sb3.2 b hb).trans e) f0 f1 f3 f4 f5, q⟩⟩
end
end L2

set_option maxHeartbeats 4000000
namespace DL
open PySem PySem.Spec PyProof.Rows L2
open Classical in
noncomputable def compX (S0 : Sto) (src : List Nat) (pair : Bool) (t : Tgt) (wσ : Sl) (c : M Bool) (e : M D) : List D → List D → Sto → R (List D)
  | [], acc, S => if Gd S0 src S then .ok acc S else .bad
  | d :: ds, acc, S => if Gd S0 src S then match t.st pair d with
      | some xs => match c (setAll wσ t.slots xs) S with
        | .ok b S1 => if b = true then match e (setAll wσ t.slots xs) S1 with
            | .ok x S2 => if acc.length < LIM then compX S0 src pair t wσ c e ds (acc ++ [x]) S2 else .bad
            | .exc k ns es S2 => .exc k ns es S2
            | .bad => .bad
          else compX S0 src pair t wσ c e ds acc S1
        | _ => .bad
      | none => .bad
    else .bad
noncomputable def mCompX (m : M Its) (t : Tgt) (vs : List Nat) (c : M Bool) (e : M D) : M (List D) := mB m fun it => fun σd S => compX S it.src it.pair t (wipeD σd vs) c e it.items [] S
/-- the list at p grows, or an exception leaves -/
def PostX (K : PySem.W.Frag) (G : Nat → Addr) (B O : List Addr) (p : Addr) (W : WX) (σ : L2.St) (σd : Sl) (H : Hp) (r : R (List D)) (Q : VK) : Prop := match r with
  | .ok ds S' => ∀ vs O' H', Rel ⟨K, G, p :: B, O'⟩ S' σd σ H' → H' p = some (.lst vs) → RDs ⟨K, G, p :: B, O'⟩ H' ds vs → Step O H O' H' → Q (.ref p) H'
  | .exc k ns ds S' => ∀ dd O' H', Rel ⟨K, G, B, O'⟩ S' σd σ H' → XOk ⟨K, G, B, O'⟩ H' ns ds dd → Step O H O' H' → W (.ref (G k)) dd σ H'
  | .bad => False
theorem XOk.unban {K : PySem.W.Frag} {G : Nat → Addr} {B O : List Addr} {p : Addr} {H : Hp} {ns : List Str} {ds : List D} {dd : Option Addr} (x : XOk ⟨K, G, p :: B, O⟩ H ns ds dd) : XOk ⟨K, G, B, O⟩ H ns ds dd :=
  x.imp id fun ⟨a, vs, e1, av, e2, l, r⟩ => ⟨a, vs, e1, ⟨av.1, fun z => av.2 (List.mem_cons_of_mem _ z)⟩, e2, l, RDs.mv (mv_unban (c := ⟨K, G, B, O⟩)) ds vs r⟩
section
variable {g : Gx} {W : WX} {X : Cx} {elt tg iter : Expr} {ifs : List Expr} {scope : Scope} {own : List (Str × Nat)} {pos : Pos}
theorem lcX_imp {mi : M Its} {t : Tgt} {vs : List Nat} {mc : M Bool} {me : M D} (hsub : ∀ i ∈ t.slots, i ∈ vs) (σ : L2.St) (H : Hp) (Q : VK) (h : rdN g W (mCompX mi t vs mc me) σ H Q) :
    tLcX (rdI g W mi) (t.g X.K) (rdT g W0 mc) (fun σ0 => rdE g (fun c d _ H => W c d σ0 H) me) vs σ H Q := by
  obtain ⟨B, O, S, σd, r, p⟩ := h
  have main : rdI g W mi σ H fun J H1 => ∃ it O1 S1, Rel ⟨g.K, g.G, B, O1⟩ S1 σd σ H1 ∧ ItOk ⟨g.K, g.G, B, O1⟩ S1 H1 it J ∧ Step O H O1 H1 ∧ PostN ⟨g.K, g.G, B, O1⟩ W σ σd H1 (compX S1 it.src it.pair t (wipeD σd vs) mc me it.items [] S1) Q := by
    refine ⟨B, O, S, σd, r, ?_⟩
    unfold mCompX mB at p
    revert p
    cases mi σd S with
    | ok it S' => exact fun p I O' H' h1 h2 h3 => ⟨it, O', S', h1, h2, h3, PostN.step (c := ⟨g.K, g.G, B, O⟩) h3 h1.toRelS p⟩
    | exc k ns ds S' => exact fun p dd O' H' h1 h2 h3 => p dd O' H' h1 h2 h3
    | bad => exact fun p => p.elim
  obtain ⟨B', O', S', σd', r', p'⟩ := main
  refine ⟨B', O', S', σd', r', ?_⟩
  revert p'
  cases mi σd' S' with
  | exc k ns ds S2 => exact fun p => p
  | bad => exact fun p => p
  | ok it0 S2 =>
    intro p' J O2 H2 a1 a2 a3
    obtain ⟨it, O1, S1, r1, iok, st1, pn⟩ := p' J O2 H2 a1 a2 a3
    intro D hD
    have av := r1.fresh hD
    have pp : PostX g.K g.G B O1 D W σ σd H2 (compX S1 it.src it.pair t (wipeD σd vs) mc me it.items [] S1) Q := by
      revert pn
      cases hq : compX S1 it.src it.pair t (wipeD σd vs) mc me it.items [] S1 with
      | ok ds S3 => exact fun pn us O' H' h1 h2 h3 h4 => pn D us O' H' hD h1 av.2 h2 h3 h4
      | exc k ns ds S3 => exact fun pn dd O' H' h1 h2 h3 => pn dd O' H' h1 h2 h3
      | bad => exact fun pn => pn.elim
    refine ⟨fun i k H => k = it.items.length - i ∧ i ≤ it.items.length ∧ ∃ O3 S3 acc accV, Rel ⟨g.K, g.G, D :: B, O3⟩ S3 σd σ H ∧ Mv ⟨g.K, g.G, B, O1⟩ ⟨g.K, g.G, D :: B, O3⟩ H2 H ∧ Step O1 H2 O3 H ∧ H D = some (.lst accV) ∧ RDs ⟨g.K, g.G, D :: B, O3⟩ H acc accV ∧ PostX g.K g.G B O1 D W σ σd H2 (compX S1 it.src it.pair t (wipeD σd vs) mc me (it.items.drop i) acc S3) Q,
      ⟨it.items.length, rfl, Nat.zero_le _, O1, S1, [], [], r1.ban hD, mv_ban hD, Step.new hD, upd_same, rfl, pp⟩, fun i k H3 hw => ?_⟩
    obtain ⟨rfl, hle, O3, S3, acc, accV, r3, mv3, st3, hD3, rd3, pp3⟩ := hw
    have hDB : D ∈ (⟨g.K, g.G, D :: B, O3⟩ : Ct).B := List.mem_cons_self ..
    by_cases hlt : i < it.items.length
    · rw [List.drop_eq_getElem_cons hlt] at pp3
      unfold compX at pp3
      split at pp3
      · next gd =>
        obtain ⟨hgo, hy⟩ := iok.go _ S3 H3 r3.toRelS mv3 gd i hlt
        refine .inr ⟨hgo, fun H => i + 1 ≤ it.items.length ∧ ∃ O3 S3 acc accV, Rel ⟨g.K, g.G, D :: B, O3⟩ S3 σd σ H ∧ Mv ⟨g.K, g.G, B, O1⟩ ⟨g.K, g.G, D :: B, O3⟩ H2 H ∧ Step O1 H2 O3 H ∧ H D = some (.lst accV) ∧ RDs ⟨g.K, g.G, D :: B, O3⟩ H acc accV ∧ PostX g.K g.G B O1 D W σ σd H2 (compX S1 it.src it.pair t (wipeD σd vs) mc me (it.items.drop (i + 1)) acc S3) Q,
          fun H' q => ⟨it.items.length - (i + 1), by omega, rfl, q.1, q.2⟩, fun x H' y => ?_⟩
        obtain ⟨d, ed, yd⟩ := hy x H' y
        have edd : d = it.items[i] := Option.some.inj (ed.symm.trans (List.getElem?_eq_getElem hlt))
        subst edd
        split at pp3
        · next xs ex =>
          obtain ⟨ws, h1, h2, h3, h4⟩ := yd_ok (K := X.K) (Q := fun σ2 H2 => L2.wipe σ2 vs = L2.wipe σ vs ∧ rdT g W0 mc σ2 H2 _) (Rel.wipe r3 vs) yd ex
          refine h4 (L2.wipe σ vs) ⟨wipe_set hsub, D :: B, O3, S3, _, Rel.setAll t.slots h2 h1, ?_⟩
          have r3' : Rel ⟨g.K, g.G, D :: B, O3⟩ S3 σd σ H' := Rel.step (c := ⟨g.K, g.G, D :: B, O3⟩) (O' := O3) r3 h3 h2.toRelS
          have carry : ∀ {O4 S4 H4 σd4 σ4}, Rel ⟨g.K, g.G, D :: B, O4⟩ S4 σd4 σ4 H4 → Step O3 H' O4 H4 → Rel ⟨g.K, g.G, D :: B, O4⟩ S4 σd σ H4 ∧ Mv ⟨g.K, g.G, B, O1⟩ ⟨g.K, g.G, D :: B, O4⟩ H2 H4 ∧ Step O1 H2 O4 H4 ∧ H4 D = some (.lst accV) ∧ RDs ⟨g.K, g.G, D :: B, O4⟩ H4 acc accV := fun {O4 S4 H4 σd4 σ4} q1 q2 => by
            have q3 : Step O3 H3 O4 H4 := Step.trans (show Step O3 H3 O3 H' from h3) q2
            have nD : D ∉ O3 := fun z => r3.nb D z hDB
            exact ⟨Rel.step (c := ⟨g.K, g.G, D :: B, O3⟩) r3' q2 q1.toRelS, mv3.trans (Step.mv (c := ⟨g.K, g.G, D :: B, O3⟩) q3), st3.trans q3, (q3.kp D _ nD hD3).1, RDs.step (c := ⟨g.K, g.G, D :: B, O3⟩) q3 acc accV rd3⟩
          revert pp3
          cases mc (setAll (wipeD σd vs) t.slots xs) S3 with
          | exc k ns ds S4 => exact fun pp3 => pp3.elim
          | bad => exact fun pp3 => pp3.elim
          | ok b S4 =>
            intro pp3 v O4 H4 q1 q2 q3
            have ev : b = v := q2
            subst ev
            simp only at pp3
            cases b with
            | false =>
              obtain ⟨c1, c2, c3, c4, c5⟩ := carry q1 q3
              exact ⟨hlt, O4, S4, acc, accV, c1, c2, c3, c4, c5, pp3⟩
            | true =>
              refine ⟨D :: B, O4, S4, _, q1, ?_⟩
              revert pp3
              simp only [if_true]
              cases me (setAll (wipeD σd vs) t.slots xs) S4 with
              | exc k ns ds S5 =>
                intro pp3 dd O5 H5 q4 xo q6
                obtain ⟨c1, c2, c3, c4, c5⟩ := carry q4 (q3.trans q6)
                exact pp3 dd O5 H5 (Rel.unban (c := ⟨g.K, g.G, B, O5⟩) c1) xo.unban c3
              | bad => exact fun pp3 => pp3.elim
              | ok z S5 =>
                intro pp3 u O5 H5 q4 q5 q6
                simp only at pp3
                split at pp3
                · next hl =>
                  obtain ⟨c1, c2, c3, c4, c5⟩ := carry q4 (q3.trans q6)
                  have hDB5 : D ∈ (⟨g.K, g.G, D :: B, O5⟩ : Ct).B := List.mem_cons_self ..
                  refine ⟨accV, c4, by rw [← c5.length]; exact lim_lt hl, hlt, O5, S5, acc ++ [z], accV ++ [u], c1.pwrite hDB5, c2.trans (mv_pwrite hDB5), c3.pwrite hD, upd_same, RDs.mv (mv_pwrite hDB5) _ _ (c5.append (RDs.one q5)), pp3⟩
                · exact pp3.elim
        · exact pp3.elim
      · exact pp3.elim
    · have ei : i = it.items.length := by omega
      subst ei
      rw [List.drop_length] at pp3
      unfold compX at pp3
      split at pp3
      · next gd => exact .inl ⟨iok.stop _ S3 H3 r3.toRelS mv3 gd, pp3 accV O3 H3 r3 hD3 rd3 st3⟩
      · exact pp3.elim
/-- y = [..], y a local name -/
theorem ss_setCompX {i : Nat} {y : Str} {py spos : Pos} {mi : M Its} {t : Tgt} {mc : M Bool} {me : M D} {f : M (List D) → M D} (hf : ∀ (m : M (List D)) σ H Q, rdE g W (f m) σ H Q → rdN g W m σ H Q) (hst : X.stack = X.env :: X.outer) (hfr : X.env.frame = some X.env.locals) (tk : Takes X W) (calm : X.calm = true) (hN : X.N.Nodup) (hy : X.N[i]? = some y) (hyl : X.env.scope.names.lookup y = some .local)
    (hsw : swapsWith (.ListComp elt [⟨tg, iter, ifs, 0⟩] scope pos) (some (.Name y py)) spos.line X.env = pure true)
    (hi : PI X tg iter (rdI g W mi)) (ok : BlkOk X.N X.env.scope scope own) (hg : Blk X scope fun Y => PG Y tg (t.g X.K)) (ht : Blk X scope fun Y => PTs Y ifs (rdT g W0 mc))
    (he : BlkE X W scope elt (fun σ0 => rdE g (fun c d _ H => W c d σ0 H) me)) (hsub : ∀ i ∈ t.slots, i ∈ own.map (·.2)) (hs : ∀ x, foldedSetIterable iter X.env x = pure x := by intro _; rfl) :
    PS X (.Assign [.Name y py] (.ListComp elt [⟨tg, iter, ifs, 0⟩] scope pos) spos) (rdS g W (mSet i (f (mCompX mi t (own.map (·.2)) mc me)))) :=
  PS.imp (ps_setRaise hst hfr tk calm hN hy hyl hsw hi ok hg ht he hs) fun J σ H ⟨B, O, S, σd, r, p⟩ => by
    refine lcX_imp hsub σ H _ (hf _ σ H _ (rdG_mono (rdS_then (rel := RD) r p) fun v H1 ⟨x, O1, S1, r1, rx, st1, p1⟩ => ?_))
    exact postS_nx p1 (r1.set i rx)
variable {x : Str} {p : Pos} {e : Expr} {es : List Expr} {n : M (List D)}
/-- a def called where its exceptions are asked for -/
theorem se_callB {k : Nat} {f : Addr} {fd : FuncData} {ps : List Str} {fn : List D → Sto → R D} (hx : ∀ σ, PassesAt (L2.CX X.prog X.w) X σ (WE W σ)) (F : FnOk X.prog X.w X.K X.mg X.base (L2.CX X.prog X.w) k f fd ps (spD g fn)) (hr : Room k X.A) (hg : Gl X x) (hm : X.mg x = some (.ref f))
    (hk : PySem.W.keepIn X.K (.ref f) = true) (hb : Binds X.K fd ps []) (ha : PA X (e :: es) (rdA g W n)) (hdb : (x == ("__debug__" : Str)) = false := by decide)
    (he : starEach (e :: es) X.env = (false, eval e X.env) :: starEach es X.env := by rfl) (hpl : (backTo pos (starEach es X.env)).any (·.1) = false := by rfl) : PE X (.Call (.Name x p) (e :: es) [] pos) (rdE g W (mApp fn n)) :=
  PE.imp (pe_callS (E := WE W) F hr hg hm hk hb hx ha hdb he hpl) fun σ H Q ⟨B, O, S, σd, rel, q⟩ => rdG_mono (rd_then (rel := RDs) rel q) fun v H1 ⟨ds, O1, S1, r1, rx, st1, p1⟩ =>
    ⟨B, O1, S1, ds, r1.toRelS, rx, postF_of r1 p1⟩
end
end DL

set_option maxHeartbeats 4000000
namespace L2
open PySem PySem.Spec PyProof.Rows HotX
/-- the heap behind «from x1» -/
def causeOf (h : Heap) (a x1 : Addr) : Heap := (h.update a (Obj.mapFields (·.setIfInBounds 3 (.ref x1)))).update a (Obj.mapFields (·.setIfInBounds 4 (.bool true)))
section
variable {h : Heap} {a x1 : Addr} {oe : Obj} {vs : Array Value}
abbrev causeO (o : Obj) (x1 : Addr) : Obj := (o.mapFields (·.setIfInBounds 3 (.ref x1))).mapFields (·.setIfInBounds 4 (.bool true))
abbrev causeF (vs : Array Value) (x1 : Addr) : Array Value := (vs.setIfInBounds 3 (.ref x1)).setIfInBounds 4 (.bool true)
theorem causeO_data (hd : oe.data = .fields vs) : (causeO oe x1).data = .fields (causeF vs x1) := Obj.data_mapFields (Obj.data_mapFields hd _) _
theorem causeOf_at (ha : h.get? a = some oe) (hd : oe.data = .fields vs) : (causeOf h a x1).get? a = some (causeO oe x1) := by
  have d3 := Obj.data_mapFields hd (·.setIfInBounds 3 (.ref x1))
  have a3 := Heap.get?_update_self (Obj.mapFields (·.setIfInBounds 3 (.ref x1))) ha (Obj.isFreed_of_fields d3)
  exact Heap.get?_update_self (Obj.mapFields (·.setIfInBounds 4 (.bool true))) a3 (Obj.isFreed_of_fields (causeO_data hd))
theorem causeOf_ne {b : Addr} (hne : a ≠ b) : (causeOf h a x1).get? b = h.get? b := (Heap.get?_update_other _ _ hne).trans (Heap.get?_update_other _ _ hne)
end
theorem raise_from {prog : Program} {w : World} {A : Around} {E : Value → Shared → Prop} {env : Env} {s : Shared} {x c : Sem Value} {Q : Flow → Shared → Prop} {x1 : Addr}
    (h : wpAny (model prog w) A x (fun v t => (∀ Q' : Value → Shared → Prop, Q' (.ref x1) t → wpAny (model prog w) A c Q' E t) ∧ ∃ a oe vs cls o1 vs1, v = .ref a ∧ t.heap.get? a = some oe ∧ oe.cls = cls ∧ oe.data = .fields vs ∧ vs[1]? = some .none ∧ 4 < vs.size ∧ x1 ≠ a ∧ HotAt A x1 t.heap ∧
      t.heap.get? x1 = some o1 ∧ o1.data = .fields vs1 ∧ PySem.W.Looks (model prog w) t.heap (isSubtype o1.cls (.type "BaseException")) true ∧
      PySem.W.Looks (model prog w) t.heap (isSubtype cls (.type "BaseException")) true ∧ PySem.W.Looks (model prog w) (causeOf t.heap a x1) (typeOf cls) (.type "type") ∧
      E (.ref a) { t with heap := (causeOf t.heap a x1).update a (Obj.mapFields (·.setIfInBounds 2 (.ref x1))) }) E s) :
    wpAny (model prog w) A (raiseStmt env (some x) (some c)) Q E s := by
  unfold raiseStmt
  dsimp only
  refine wpAny_bind (wpAny_mono h (fun v t ht => ?_) fun _ _ z => z)
  obtain ⟨hcs, a, oe, vs, cls, o1, vs1, rfl, ha, hcls, hd, h1, hi, hne, hot, g1, d1, LB, L1, L3, hE⟩ := ht
  have T0 : PySem.W.Looks (model prog w) t.heap (typeOf (.ref a)) cls := fun A Q E s k q => wpAny_typeOf_ref (k _ _ ha) (by rw [hcls]; exact q)
  have T1 : PySem.W.Looks (model prog w) t.heap (typeOf (.ref x1)) o1.cls := fun A Q E s k q => wpAny_typeOf_ref (k _ _ g1) q
  have I0 : PySem.W.Looks (model prog w) t.heap (isInstance (.ref a) (.type "BaseException")) true := T0.andThen L1
  have I1 : PySem.W.Looks (model prog w) t.heap (isInstance (.ref x1) (.type "BaseException")) true := T1.andThen LB
  have nty : ∀ {b : Addr} {ob : Obj} {us : Array Value} {t' : Shared} {Q' : Bool → Shared → Prop}, t'.heap.get? b = some ob → ob.data = .fields us → Q' false t' → wpAny (model prog w) A (isType (.ref b)) Q' E t' := by
    intro b ob us t' Q' e1 e2 hq
    simp only [isType, loadHead]
    refine wpAny_bind (wpAny_loadPart e1 ?_)
    rw [e2]
    exact wpAny_pure hq
  have exc : ∀ {b : Addr} {ob : Obj} {us : Array Value} {m : String} {Q' : Value → Shared → Prop}, t.heap.get? b = some ob → ob.data = .fields us → PySem.W.Looks (model prog w) t.heap (isInstance (.ref b) (.type "BaseException")) true → Q' (.ref b) t →
      wpAny (model prog w) A (excFromValue (.ref b) m) Q' E t := by
    intro b ob us m Q' e1 e2 li hq
    unfold excFromValue isExcClass
    refine wpAny_bind (wpAny_bind (nty e1 e2 ?_))
    simp only [Bool.false_eq_true, if_false]
    refine wpAny_pure ?_
    simp only [Bool.false_eq_true, if_false]
    refine wpAny_bind (li.here ?_)
    simp only [if_true]
    exact wpAny_pure hq
  have d3 := Obj.data_mapFields hd (·.setIfInBounds 3 (.ref x1))
  have a3 := Heap.get?_update_self (Obj.mapFields (·.setIfInBounds 3 (.ref x1))) ha (Obj.isFreed_of_fields d3)
  have a4 := causeOf_at (x1 := x1) ha hd
  have d4 := causeO_data (x1 := x1) hd
  have s3 : 3 < vs.size := by omega
  have s4 : 4 < (vs.setIfInBounds 3 (Value.ref x1)).size := by rw [set_size]; exact hi
  have s2 : 2 < (causeF vs x1).size := by rw [set_size, set_size]; omega
  have h14 : (causeF vs x1)[1]? = some Value.none := set_other (by decide) (set_other (by decide) h1)
  have c4 : (causeO oe x1).cls = cls := by rw [Obj.cls_mapFields, Obj.cls_mapFields]; exact hcls
  have T4 : PySem.W.Looks (model prog w) (causeOf t.heap a x1) (typeOf (.ref a)) cls := fun A Q E s k q => wpAny_typeOf_ref (k _ _ a4) (by rw [c4]; exact q)
  have hot4 : HotAt A x1 (causeOf t.heap a x1) := by
    obtain ⟨q1, o, us, q2, q3, q4⟩ := hot
    exact ⟨q1, o, us, by rw [causeOf_ne (Ne.symm hne)]; exact q2, q3, q4⟩
  have rest : wpAny (model prog w) A (do
      let b ← isType (.ref a)
      if b = true then do
        let e ← holding [.ref a] (raisedFor (.ref a) (.ref a))
        setFlight e none
        raiseNew e
      else do
        let e ← raisedInstance (.ref a)
        setFlight e none
        raiseNew e : Sem Flow) Q E { t with heap := causeOf t.heap a x1 } := by
    refine wpAny_bind (nty (t' := { t with heap := causeOf t.heap a x1 }) a4 d4 ?_)
    simp only [Bool.false_eq_true, if_false]
    unfold raisedInstance
    refine wpAny_bind (wpAny_bind (T4.here (wpAny_bind (L3.here ?_))))
    rw [if_pos (beq_self_eq_true _)]
    refine wpAny_pure ?_
    unfold setFlight
    refine wpAny_bind (wpAny_bind (wpAny_field (s := { t with heap := causeOf t.heap a x1 }) a4 d4 h14 ?_))
    rw [if_neg (by decide)]
    exact wpAny_pure (raiseNew_hot hot4 hne a4 d4 s2 hE)
  refine wpAny_bind (wpAny_holding (hcs _ (wpAny_bind (wpAny_pure ?_))))
  dsimp only
  refine wpAny_bind (wpAny_holding (exc ha hd I0 ?_))
  have nn : ¬ (Value.ref x1 == Value.none) = true := by simp
  rw [if_neg nn]
  first
  | refine wpAny_bind (wpAny_holding (exc g1 d1 I1 (wpAny_bind (wpAny_setField ha hd s3 (wpAny_bind (wpAny_setField a3 d3 s4 ?_))))))
  | refine wpAny_bind (wpAny_holding (exc g1 d1 I1 (wpAny_bind (wpAny_bind (wpAny_setField ha hd s3 (wpAny_bind (wpAny_setField a3 d3 s4 ?_)))))))
  | refine wpAny_bind (wpAny_bind (wpAny_holding (exc g1 d1 I1 (wpAny_bind (wpAny_setField ha hd s3 (wpAny_setField a3 d3 s4 ?_))))))
  first
  | exact rest
  | (dsimp only; exact rest)
  | (refine wpAny_pure ?_; exact rest)
  | (simp only [bind_pure_comp]; exact rest)
end L2

set_option maxHeartbeats 4000000
namespace L2
open PySem PySem.Spec PyProof.Rows HotX
/-- an expression that makes an exception whose record has its fields -/
def PMkS (X : Cx) (e : Expr) (t : L2.St → Hp → XK → Prop) : Prop :=
  ∀ (pins : List (Addr × Obj)) (s : Shared) (σ : L2.St) (H : Hp) (Q : XK), Inv X pins σ H s → t σ H Q → wpAny (model X.prog X.w) X.A (eval e X.env) (fun u s' => MkP X pins σ Q u s' ∧ L2H.Six u s') X.xe s
theorem PMkS.imp {X : Cx} {e : Expr} {t t' : L2.St → Hp → XK → Prop} (h : PMkS X e t) (i : ∀ σ H Q, t' σ H Q → t σ H Q) : PMkS X e t' := fun pins s σ H Q I q => h pins s σ H Q I (i σ H Q q)
section
variable {X : Cx}
/-- raise e from n, n being the exception p that is handled -/
theorem ps_raise_from {W : WX} {e : Expr} {t : L2.St → Hp → XK → Prop} {n : Str} {i : Nat} {cp pos : Pos} {p : Addr × Obj} (hp1 : L2H.Hot1 X.A p) (hp : p ∈ X.pn) (hbe : PySem.W.subIn X.K p.2.cls (.type "BaseException") = some true) (hi : X.N[i]? = some n) (hln : X.env.kindOf n = some .local) (hdb : (n == ("__debug__" : Str)) = false)
    (tk : Takes X W) (he : PMkS X e t) : PS X (.Raise (some e) (some (.Name n cp)) pos) (fun _ σ H => σ[i]? = some (some (.ref p.1)) ∧ t σ H fun cls d H' => W cls d σ H') := by
  refine ⟨fun pins s σ H D I h => ?_⟩
  obtain ⟨hs, h⟩ := h
  obtain ⟨hh, v1, e1, c1⟩ := hp1
  show wpAny _ _ (do standAt pos; raiseStmt X.env (some (do let v ← eval e X.env; standAt pos; pure v)) (some (do let v ← eval (.Name n cp) X.env; standAt pos; pure v))) _ _ _
  refine wpAny_bind (wpAny_standAt (raise_from (x1 := p.1) (wpAny_bind (wpAny_mono (he pins s σ H _ I h) (fun u s1 hu => wpAny_bind (wpAny_standAt (wpAny_pure ?_))) fun _ _ z => z))))
  obtain ⟨⟨a, oe, vs, sI, H', cls, d, rfl, J, k, hne, ha, hz, hd, h1, na, os, ag, r, q⟩, h5⟩ := hu
  have hi4 : 4 < vs.size := h5 a oe vs rfl ha hd
  have k4 : ∀ b u, sI.heap.get? b = some u → (causeOf s1.heap a p.1).get? b = some u := fun b u z => by
    have nab : a ≠ b := fun y => by
      rw [← y, hne] at z
      cases z
    rw [causeOf_ne nab]
    exact k b u z
  obtain ⟨r1, _⟩ := r (model X.prog X.w) s1.heap (J.kIn.keeps k)
  obtain ⟨_, r2⟩ := r (model X.prog X.w) (causeOf s1.heap a p.1) (J.kIn.keeps k4)
  have P1 := (J.pin p (List.mem_append_left _ hp)).1
  have nap : p.1 ≠ a := fun z => by
    rw [z, hne] at P1
    cases P1
  have a4 := causeOf_at (x1 := p.1) ha hd
  have d4 := causeO_data (x1 := p.1) hd
  have h12 : ((causeF vs p.1).setIfInBounds 2 (Value.ref p.1))[1]? = some Value.none := set_other (by decide) (set_other (by decide) (set_other (by decide) h1))
  obtain ⟨m, hn, lk⟩ := J.loc
  have vis : Vis X.env.scope n := .inl hln
  obtain ⟨u, ru, lu⟩ := lk i n _ hi hs vis
  have eu : u = Value.ref p.1 := ru
  subst eu
  have mn : m n = some (.ref p.1) := by
    rcases lu with ⟨_, z⟩ | ⟨z, _⟩
    · exact z
    · rw [hln] at z
      rcases z with z | z <;> cases z
  refine ⟨fun Q' q' => wpAny_bind (wpAny_Name (wpAny_loadName_local (env := X.env) J.ok.kind hln (hn.keeps k) mn (wpAny_bind (wpAny_standAt (wpAny_pure q')))) hdb), a, oe, vs, cls, p.2, v1, rfl, ha, hz.1, hd, h1, hi4, nap, ⟨hh, p.2, v1, k _ _ P1, e1, c1⟩, k _ _ P1, e1, PySem.W.looks_subIn (J.kIn.keeps k) hbe, r1, r2, ?_⟩
  refine tk _ _ (XE.new J (fun b u z => ?_) hne (Heap.get?_update_self _ a4 (Obj.isFreed_of_fields (Obj.data_mapFields d4 _))) ⟨by rw [Obj.cls_mapFields, Obj.cls_mapFields, Obj.cls_mapFields]; exact hz.1, by rw [HandSPX.dict_mapFields, HandSPX.dict_mapFields, HandSPX.dict_mapFields]; exact hz.2⟩ (Obj.data_mapFields d4 _) h12 na os ag q)
  have nab : a ≠ b := fun y => by
    rw [← y, hne] at z
    cases z
  show ((causeOf s1.heap a p.1).update a (Obj.mapFields (·.setIfInBounds 2 (.ref p.1)))).get? b = some u
  rw [Heap.get?_update_other _ _ nab]
  exact k4 b u z
/-- noted, held -/
theorem Sky.note {B : Heap} {M : Model} {A : Around} {s : Shared} {E₁ : Value → Shared → Prop} {env : Env} {outer : List Env} {L a : Addr} {Z : Obj → Prop} {Q : Unit → Shared → Prop} (hZ : HandSPX.Steady Z) (hfr : A.frames = some (env :: outer)) (hf : env.frame = some L) (x : Sky B (env :: outer) a Z L s.heap)
    (hQ : ∀ h', HandSPX.HeldZ B (env :: outer) a Z L h' → s.heap.UpToSlots h' → Q () { s with heap := h' }) : wpAny M A (noteFrame (.ref a) env) Q E₁ s := by
  rcases x with ⟨hB, hn, hl, oe, vs, he, hz, hd, h1⟩ | fl | hh
  · exact HandSPX.look_newZ hZ hfr hl hf he hB hn hd h1 hz hQ
  · exact HandSPX.looks_onZ hZ hfr hf fl hQ
  · exact HandSPX.againZ hf hh.2.2.2 (hQ s.heap hh (Heap.UpToSlots.refl _))
/-- the clause's name goes, in the state without the exception -/
theorem inv_gone {pins : List (Addr × Obj)} {σ : L2.St} {H : Hp} {s : Shared} {i : Nat} {n : Str} (I : Inv X pins σ H s) (hN : X.N.Nodup) (hi : X.N[i]? = some n) {m : Str → Option Value} {v : Option Value} {h' : Heap}
    (hlk : ∀ (i : Nat) (x : Str) (v : V), X.N[i]? = some x → σ[i]? = some (some v) → Vis X.env.scope x → ∃ u, RelV v u ∧ Look X.env s.heap m x u) (hn' : h'.Ns X.env.locals fun x => if x = n then v else m x) (sb : Heap.SameBut X.env.locals s.heap h') :
    Inv X pins (σ.set i none) H { s with heap := h' } := by
  have low : ∀ {b o}, X.s_0.heap.get? b = some o → b ≠ X.env.locals := fun {b o} e => Nat.ne_of_lt (Nat.lt_of_lt_of_le (Heap.lt_size e) I.ok.above)
  have go : ∀ {b o}, b ≠ X.env.locals → s.heap.get? b = some o → h'.get? b = some o := fun {b o} z e => (sb.2 b z).trans e
  have ba := I.base
  exact {
    ok := I.ok
    os := I.os
    bare := I.bare
    base := {
      keep := fun b o e n hb hx => go (low e) (ba.keep b o e n hb hx)
      slot := fun b o e n hb hx => (ba.slot b o e n hb hx).imp fun sl q => go (low e) q
      free := ba.free
      there := fun b o e hx => (ba.there b o e hx).imp fun o' q => go (low e) q
      tups := ba.tups
      frzs := ba.frzs
      tbls := ba.tbls }
    loc := by
      refine ⟨_, hn', fun j y v' e1 e2 e3 => ?_⟩
      by_cases hj : j = i
      · subst hj
        by_cases hlt : j < σ.length
        · rw [List.getElem?_set_self hlt] at e2
          cases e2
        · rw [List.getElem?_eq_none (by rw [List.length_set]; omega)] at e2
          cases e2
      · rw [List.getElem?_set_ne (fun z => hj z.symm)] at e2
        obtain ⟨u, ru, lu⟩ := hlk j y v' e1 e2 e3
        have ny : y ≠ n := fun z => hj (nodup_ix hN e1 (by rw [z]; exact hi))
        refine ⟨u, ru, ?_⟩
        rcases lu with ⟨k, e⟩ | ⟨k, c, e, z⟩
        · exact .inl ⟨k, by show (if y = n then v else m y) = _; rw [if_neg ny]; exact e⟩
        · exact .inr ⟨k, c, e, z.sameBut sb (I.cne y c e)⟩
    cell := fun y c e => (I.cell y c e).imp fun w z => z.sameBut sb (I.cne y c e)
    free := I.free
    freeC := I.freeC
    pin := fun p hp => by
      obtain ⟨e, n, ne, r⟩ := I.pin p hp
      exact ⟨go ne e, n, ne, r⟩
    hok := fun b ob e => (I.hok b ob e).stay (fun c w hc q => go (fun z => by
      rw [z] at hc
      have f : H X.env.locals = none := I.free
      rcases hc with hc | hc
      · rw [← hc, f] at e; cases e
      · rw [f] at hc; cases hc) q) (fun _ q => q) fun _ _ q => q
    len := by rw [List.length_set]; exact I.len }
end
end L2

set_option maxHeartbeats 4000000
namespace L2
open PySem PySem.Spec PyProof.Rows HotX
theorem PMkS.wish {X : Cx} {a : Addr} {pn : List (Addr × Obj)} {e : Expr} {t : L2.St → Hp → XK → Prop} (h : PMkS (X.suite a pn) e t) (E : Value → Shared → Prop) : PMkS ((X.suite a pn).wish E) e t := fun pins s σ H Q I q =>
  wpAny_mono (h pins s σ H Q I.unwish q) (fun u s' ⟨⟨a, oe, vs, sI, H', cls, d, e, J, r⟩, six⟩ => ⟨⟨a, oe, vs, sI, H', cls, d, e, J.wish E, r⟩, six⟩) fun _ _ z => z.elim
/-- what the statement wishes of an exception of its body -/
def wFrom (K : PySem.W.Frag) (c : Value) (i : Nat) (t : Addr → Value → Option Addr → L2.St → Hp → XK → Prop) (Wout : WX) : WX := fun cls d σ H =>
  PySem.W.exmOne K cls c = some true ∧ PySem.W.subIn K cls (.type "BaseException") = some true ∧ i < σ.length ∧ ∀ a, H a = none → t a cls d (σ.set i (some (.ref a))) H fun cls' d' H' => Wout cls' d' ((σ.set i (some (.ref a))).set i none) H'
section
variable {X : Cx} {x n : Str} {c : Value} {i : Nat} {e : Expr} {body : List Stmt} {np cp rp pos pos' : Pos} {tb : WX → TS} {Wout : WX} {t : Addr → Value → Option Addr → L2.St → Hp → XK → Prop}
/-- the exception that leaves the suite -/
theorem suite_leaves {pins : List (Addr × Obj)} {a : Addr} {oe : Obj} {Wq : WX} {Rr : Value → Shared → Prop} {E1 E3 : Value → Shared → Prop} {u : Value} {s6 : Shared} (hs : X.stack = X.env :: X.outer) (hf : X.env.frame = some X.env.locals) (hN : X.N.Nodup) (hi : X.N[i]? = some n) (hln : X.env.kindOf n = some .local) (ok : X.Ok)
    (tk : Takes X Wout) (hq : ∀ cls d σ H, Wq cls d σ H → Wout cls d (σ.set i none) H) (hR : ∀ u s, X.xe u s → Rr u s) (hx : XE (X.suite a ((a, oe) :: (X.pn ++ pins))) Wq u s6) :
    wpAny (model X.prog X.w) (X.A.mark (some (.ref a))) (noteFrame u X.env) (fun _ s7 => wpAny (model X.prog X.w) (X.A.mark (some (.ref a))) (do bindName X.env n .none; unbindBehindTheSuite X.env n pos')
      (fun _ s8 => wpAny (model X.prog X.w) (X.A.mark (some (.ref a))) (PySem.passOn "try.except-as" u X.env : Sem Flow) (fun _ _ => False) Rr s8) E3 s7) E1 s6 := by
  obtain ⟨a2, B, sI, pins2, σ2, H2, cls, d, rfl, I2, nb, up, sky, na, os, ag, w⟩ := hx
  have I : Inv X pins σ2 H2 sI := Inv.unsuite I2 ok
  have hfr : (X.A.mark (some (.ref a))).frames = some (X.env :: X.outer) := by
    have z : X.A.frames = some X.stack := ok.frames
    rw [hs] at z
    exact z
  have sky' : Sky B (X.env :: X.outer) a2 (Zc cls d) X.env.locals s6.heap := by rw [← hs]; exact sky
  have memL : X.env.locals ∈ frs X.stack := by rw [hs]; exact List.mem_filterMap.mpr ⟨X.env, List.mem_cons_self, hf⟩
  refine Sky.note Zc.steady hfr hf sky' fun h7 held7 up7 => ?_
  obtain ⟨m, ⟨oL, es, ep, hL, dL, rL⟩, lk⟩ := id I.loc
  have upS := up.trans up7
  obtain ⟨sl, hL7⟩ := upS _ _ hL (fun us z => by rw [dL] at z; cases z)
  have hn7 : h7.Ns X.env.locals m := ⟨_, es, ep, hL7, dL, rL⟩
  have kd : (X.env.scope.kind == .class || (X.env.scope.kind == .module && X.env.locals != X.env.globals)) = false := by rw [ok.kind]; rfl
  refine wpAny_nameGoes_keeps (s := { s6 with heap := h7 }) hln hn7 kd fun h8 v hn8 sb8 => ?_
  obtain ⟨oL8, es8, ep8, hL8, dL8, rL8⟩ := id hn8
  have sbG : Heap.SameBut X.env.locals sI.heap (sI.heap.update X.env.locals fun _ => oL8) := Heap.SameBut.update ..
  have hG : (sI.heap.update X.env.locals fun _ => oL8).get? X.env.locals = some oL8 := Heap.get?_update_self (fun _ => oL8) hL (Heap.get?_some_iff.mp hL8).2
  generalize (sI.heap.update X.env.locals fun _ => oL8) = G at sbG hG
  have J : Inv X pins (σ2.set i none) H2 { sI with heap := G } := inv_gone I hN hi lk ⟨oL8, es8, ep8, hG, dL8, rL8⟩ sbG
  have upG : G.UpToSlots h8 := fun b o e hnf => by
    by_cases z : b = X.env.locals
    · subst z
      rw [hG] at e
      cases e
      exact ⟨oL8.slots, hL8⟩
    · obtain ⟨sl2, e2⟩ := upS b o ((sbG.2 b z).symm.trans e) hnf
      exact ⟨sl2, (sb8.2 b z).trans e2⟩
  obtain ⟨q1, q2, q3, oe2, vs, T, oT, ts, he, hz, hd, hv1, hnT, hTe, hT, hdT, hv3⟩ := held7
  have nB : ∀ b ∈ frs (X.env :: X.outer), B.get? b = none := fun b hb => (q3.mem hb).1
  have BL : B.get? X.env.locals = none := nB _ (by rw [← hs]; exact memL)
  have aL : a2 ≠ X.env.locals := fun z => by
    rw [z, hL7] at he
    cases he
    have y : oL.data = .fields vs := hd
    rw [dL] at y
    cases y
  have TL : T ≠ X.env.locals := fun z => by
    rw [z, hL7] at hT
    cases hT
    have y : oL.data = .fields ts := hdT
    rw [dL] at y
    cases y
  have he8 : h8.get? a2 = some oe2 := (sb8.2 a2 aL).trans he
  have held8 : HandSPX.HeldZ B (X.env :: X.outer) a2 (Zc cls d) X.env.locals h8 := by
    refine ⟨fun b o e => (sb8.2 b fun z => ?_).trans (q1 b o e), q2, ?_, oe2, vs, T, oT, ts, he8, hz, hd, hv1, hnT, hTe, (sb8.2 T TL).trans hT, hdT, hv3⟩
    · rw [z, BL] at e
      cases e
    · have ff : G.FunFrames X.base (X.env :: X.outer) := by rw [← hs]; exact J.stack
      exact Heap.FunFrames.of_keeps (fun b o hb hnf => let ⟨_, e⟩ := upG b o hb hnf; ⟨_, e, rfl⟩) (funFrames_none ff nB)
  unfold PySem.passOn
  refine wpAny_bind (wpAny_field (s := { s6 with heap := h8, toks := _ }) he8 hd hv1 ?_)
  rw [if_neg (show ¬ ((Value.ref T == Value.none) = true) from by simp), hf]
  have fin : ∀ {Q : Flow → Shared → Prop} {tk' : Nat}, wpAny (model X.prog X.w) (X.A.mark (some (.ref a))) (setFlight (.ref a2) (some X.env.locals)) (fun _ s4 => wpAny (model X.prog X.w) (X.A.mark (some (.ref a))) (throw (.ref a2) : Sem Flow) Q Rr s4) Rr { s6 with heap := h8, toks := tk' } := fun {Q tk'} =>
    HandSPX.setFlight_onZ (s := { s6 with heap := h8, toks := tk' }) held8 fun h9 held9 up9 => wpAny_throw (hR _ _ (tk _ _ ⟨a2, B, { sI with heap := G }, pins, σ2.set i none, H2, cls, d, rfl, J, fun b o e hb => by
      have z : b ≠ X.env.locals := fun z => hb (by rw [z]; exact memL)
      exact nb b o ((sbG.2 b z).symm.trans e) hb, upG.trans up9, .inr (.inr (by rw [hs]; exact held9)), na, os, ag, hq _ _ _ _ w⟩))
  first
    | exact wpAny_bind (wpAny_pure (wpAny_bind fin))
    | exact wpAny_bind fin
theorem ps_try_from (hs : X.stack = X.env :: X.outer) (hf : X.env.frame = some X.env.locals) (hN : X.N.Nodup) (hi : X.N[i]? = some n) (hln : X.env.kindOf n = some .local) (hdb : (n == ("__debug__" : Str)) = false) (hc : Names X x c)
    (hpa : ∀ hd : Option Value, PassesOwnAt (model X.prog X.w) (X.A.mark hd) X.A X.env X.xe) (tk : Takes X Wout)
    (hb : ∀ (W : WX) (pn : List (Addr × Obj)) (xe : Value → Shared → Prop), L2N.Takes (X.tr pn xe) W → PassesOwn (model X.prog X.w) X.A X.env xe → PSs (X.tr pn xe) body (tb W))
    (hmk : ∀ (a : Addr) (oe : Obj) (cls : Value) (d : Option Addr) (pn : List (Addr × Obj)), L2N.Zn cls d oe → (∃ vs, oe.data = .fields vs) → PMkS (X.suite a ((a, oe) :: pn)) e (t a cls d)) :
    PS X (.Try body [.ExceptHandler (some (.Name x np)) (some n) [.Raise (some e) (some (.Name n cp)) rp] pos'] [] [] pos) (fun D σ H => tb (wFrom X.K c i t Wout) D σ H) := by
  refine ⟨fun pins s σ H D I h => ?_⟩
  have ok := I.ok
  have hfr : X.A.frames = some (X.env :: X.outer) := by rw [ok.frames, hs]
  have hloc : Loc X.env.scope n := .inl hln
  refine wpAny_Try_except ?_
  have runs := (hb (wFrom X.K c i t Wout) (X.pn ++ pins) (fun u t1 => wpAny (model X.prog X.w) X.A (noteFrame u X.env) (fun _ t2 => wpAny (model X.prog X.w) X.A (setFlight u none) (fun _ t3 =>
    wpAny (model X.prog X.w) X.A (handleBy u X.env [.ExceptHandler (some (.Name x np)) (some n) [.Raise (some e) (some (.Name n cp)) rp] pos']) (SP X pins D) X.xe t3) X.xe t2) X.xe t1) (fun u s' xx => ?_) PassesOwn.looking).run [] s σ H D (I.toTry _) h
  · refine wpAny_mono runs (fun f t1 hsp => ?_) (fun u t1 z => z)
    cases f with
    | ret u =>
      obtain ⟨v1, σ1, H1, J1, r1, z1⟩ := hsp
      exact ⟨v1, σ1, H1, J1.ofTry ok, r1, z1⟩
    | brk =>
      obtain ⟨σ1, H1, J1, z1⟩ := hsp
      exact ⟨σ1, H1, J1.ofTry ok, z1⟩
    | cont =>
      obtain ⟨σ1, H1, J1, z1⟩ := hsp
      exact ⟨σ1, H1, J1.ofTry ok, z1⟩
    | next =>
      obtain ⟨σ1, H1, J1, z1⟩ := hsp
      exact wpAny_execs_nil ⟨σ1, H1, J1.ofTry ok, z1⟩
  · obtain ⟨a, B, sI, pins', σ', H', cls, d, rfl, J', nb, up, sky, na, os, ag, hb1, hbe, hlt, hyes⟩ := xx
    have J : Inv X pins σ' H' sI := J'.ofTry ok
    have sky' : Sky B (X.env :: X.outer) a (L2N.Zn cls d) X.env.locals s'.heap := by rw [← hs]; exact sky
    show wpAny (model X.prog X.w) X.A (noteFrame (.ref a) X.env) _ _ _
    refine L2N.Sky.land L2N.Zn.steady hfr hf sky' fun h3 fl3 up3 => ?_
    have J3 : Inv X pins σ' H' { s' with heap := h3 } := J.landed nb fl3.1 (up.trans up3) os ag
    obtain ⟨oe3, vs3, he3, hz3, hd3⟩ := fl3.there
    have nfr : a ∉ frs (X.env :: X.outer) := fun hm => by
      obtain ⟨_, o', e', hnf⟩ := fl3.2.2.1.mem hm
      rw [he3] at e'
      cases e'
      exact hnf _ hd3
    have nL : a ≠ X.env.locals := fun z => nfr (List.mem_filterMap.mpr ⟨X.env, List.mem_cons_self, by rw [hf, z]⟩)
    have nF : a ∉ X.fs := fun hm => by
      obtain ⟨e1, he1, q⟩ := List.mem_filterMap.mp hm
      exact nfr (List.mem_filterMap.mpr ⟨e1, List.mem_cons_of_mem _ he1, q⟩)
    have S3 := J3.suite he3 hd3 na nL nF
    refine wpAny_handleBy_cons (codeAny_handlers_test ?_) (by intro q; cases q)
    have LT : PySem.W.Looks (model X.prog X.w) h3 (typeOf (.ref a)) cls := fun A Q E s k q => wpAny_typeOf_ref (k _ _ he3) (by rw [hz3.1]; exact q)
    have LM := PySem.W.exm_one (M := model X.prog X.w) (J3.kIn) LT hb1
    have test : ∀ {Q : Value → Shared → Prop} {E : Value → Shared → Prop}, Q c { s' with heap := h3 } → wpAny (model X.prog X.w) (X.A.mark (some (.ref a))) (eval (.Name x np) X.env) Q E { s' with heap := h3 } := fun {Q E} q => by
      obtain ⟨hg, hdbg, hm | ⟨hm, hv, hnn⟩⟩ := hc
      · exact ld_glob (X := X.suite a ((a, oe3) :: (X.pn ++ pins))) S3 hg hm q hdbg
      · exact ld_blt (X := X.suite a ((a, oe3) :: (X.pn ++ pins))) S3 hg hm hv q hnn hdbg
    refine test (LM.here ?_)
    refine codeAny_handlers_suite_as ?_
    refine HandSPX.lands_againZ fl3 fun h4 fl4 up4 => ?_
    have J4 : Inv X pins σ' H' { s' with heap := h4 } := J.landed nb fl4.1 ((up.trans up3).trans up4) os ag
    obtain ⟨oe4, vs4, he4, hz4, hd4⟩ := fl4.there
    have S4 := J4.suite he4 hd4 na nL nF
    refine store_ok (X := X.suite a ((a, oe4) :: (X.pn ++ pins))) (v := .ref a) S4 hN hi hloc rfl (fun s5 S5 => ?_) (.inr hln)
    have tkZ : Takes ((X.suite a ((a, oe4) :: (X.pn ++ pins))).wish fun u t => XE (X.suite a ((a, oe4) :: (X.pn ++ pins))) (fun cls' d' σ2 H2 => Wout cls' d' (σ2.set i none) H2) u t) (fun cls' d' σ2 H2 => Wout cls' d' (σ2.set i none) H2) :=
      fun u t ⟨a2, B2, sI2, p2, σ2, H2, cls2, d2, e2, I2, r2⟩ => ⟨a2, B2, sI2, p2, σ2, H2, cls2, d2, e2, I2.unwish, r2⟩
    have pr := ps_raise_from (X := (X.suite a ((a, oe4) :: (X.pn ++ pins))).wish fun u t => XE (X.suite a ((a, oe4) :: (X.pn ++ pins))) (fun cls' d' σ2 H2 => Wout cls' d' (σ2.set i none) H2) u t)
      (p := (a, oe4)) (cp := cp) (pos := rp) ⟨rfl, vs4, hd4, hz4.2.2 vs4 hd4⟩ List.mem_cons_self (by rw [hz4.1]; exact hbe) hi hln hdb tkZ ((hmk a oe4 cls d (X.pn ++ pins) hz4 ⟨_, hd4⟩).wish _)
    refine wpAny_mono ((pss_one pr).run [] s5 _ H' { nx := fun _ _ => False, rt := fun _ _ => False } (S5.wish _) ⟨?_, hyes a na⟩) (fun f s6 hsp => ?_) (fun u s6 hx => ?_)
    · exact List.getElem?_set_self hlt
    · exfalso
      cases f with
      | next => obtain ⟨_, _, _, z⟩ := hsp; exact z
      | brk => obtain ⟨_, _, _, z⟩ := hsp; exact z
      | cont => obtain ⟨_, _, _, z⟩ := hsp; exact z
      | ret u => obtain ⟨_, _, _, _, _, z⟩ := hsp; exact z
    · refine suite_leaves hs hf hN hi hln ok tk (fun _ _ _ _ z => z) ?_ hx
      exact fun u s z => hpa (some (.ref a)) u s z
end
end L2

set_option maxHeartbeats 4000000
namespace DN
open PySem PySem.Spec PyProof.Rows L2 DL
theorem fn_okD {P : Program} {w : World} {K : PySem.W.Frag} {mg : Str → Option Value} {base : Heap} {x qual : Str} {st : Stmt} {f : Addr} {fd : FuncData} {N ps : List Str} {k : Nat} {G : Nat → Addr} {m : MS} (F : Fun K x qual st f fd) (Sc : FnScope N ps (defScope st))
    (hbody : ∀ (cdv : Value) (A : Around) (outer : List Env) (s : Shared) (H : Hp) (E : XK), Room k (A.deeper (envOfC qual (defScope st) s.heap.objs.size f cdv)) →
      PSs (cxOf (L2N.CX P w) P w K mg base N qual (defScope st) f cdv A outer s H E) (defBody st) (rdS ⟨K, G⟩ (fun cls d _ H => E cls d H) m)) :
    FnOk P w K mg base (L2N.CX P w) (k + 1) f fd ps (spD ⟨K, G⟩ (mFun N.length ps.length m)) := by
  refine F.okXN Sc (fun vs H Q E h => ?_) (fun cdv A outer s H vs Q E hr h => ⟨_, hbody cdv A outer s H E hr, ?_⟩)
  · obtain ⟨B, O, S, ds, r, rd, p⟩ := h
    unfold mFun at p
    split at p
    · next e => rw [← rd.length]; exact e
    · exact p.elim
  · obtain ⟨B, O, S, ds, r, rd, p⟩ := h
    unfold mFun at p
    split at p
    · next e =>
      rw [← e] at p
      refine ⟨B, O, S, _, rel_start (N := N) r rd, ?_⟩
      revert p
      cases m (ds ++ List.replicate (N.length - ds.length) .dead) S with
      | rt d S' =>
        intro p v O' H' h1 h2 h3
        simp only [fin] at p
        split at p
        · next ok =>
          split at p
          · next d' q =>
            obtain ⟨a1, a2, a3⟩ := relS_take (c := ⟨K, G, B, O⟩) r h1 h3 ok
            have := fz_ok h1 4 d d' v q h2
            rw [show ((⟨K, G, B, O⟩ : Ct).at O').O.take S.length = O from a3] at this
            exact p v O H' a1 this a2
          · exact p.elim
        · exact p.elim
      | nx σ' S' =>
        intro p σ2 O' H' h1 h3
        simp only [fin] at p
        split at p
        · next ok =>
          obtain ⟨a1, a2, a3⟩ := relS_take (c := ⟨K, G, B, O⟩) r h1.toRelS h3 ok
          have e1 : fz S.length S' 4 .non = some .non := rfl
          rw [e1] at p
          exact p .non O H' a1 rfl a2
        · exact p.elim
      | exc k ns es σ' S' =>
        intro p dd σ2 O' H' h1 hx h3
        simp only [finX] at p
        split at p
        · next ok =>
          obtain ⟨a1, a2, a3⟩ := relS_take (c := ⟨K, G, B, O⟩) r h1.toRelS h3 ok.1
          have tk : Tk (⟨K, G, B, O'⟩ : Ct) ⟨K, G, B, O⟩ S.length := by
            have := tk_take (c := ⟨K, G, B, O'⟩) (n := S.length)
            rw [show (⟨K, G, B, O'⟩ : Ct).O.take S.length = O from a3] at this
            exact this
          refine p dd O H' a1 ?_ a2
          rcases hx with hx | ⟨a, vs, e1, av, e2, l, e3⟩
          · exact .inl hx
          · exact .inr ⟨a, vs, e1, tk.av a av, e2, l, RDs.tk tk es vs ok.2 e3⟩
        · exact p.elim
      | bk σ' S' => exact fun p => p.elim
      | ct σ' S' => exact fun p => p.elim
      | bad => exact fun p => p.elim
    · exact p.elim
section
variable {g : Gx} {W : WX} {X : Cx} {e a b : Expr} {es : List Expr} {pos p : Pos} {x : Str} {n : M (List D)}
theorem se_call {k : Nat} {f : Addr} {fd : FuncData} {ps : List Str} {fn : List D → Sto → R D} (tk : L2N.Takes X W) (F : FnOk X.prog X.w X.K X.mg X.base (L2N.CX X.prog X.w) k f fd ps (spD g fn)) (hr : Room k X.A) (hg : Gl X x) (hm : X.mg x = some (.ref f))
    (hk : PySem.W.keepIn X.K (.ref f) = true) (hb : Binds X.K fd ps []) (ha : PA X (e :: es) (rdA g W n)) (hdb : (x == ("__debug__" : Str)) = false := by decide)
    (he : starEach (e :: es) X.env = (false, eval e X.env) :: starEach es X.env := by rfl) (hpl : (backTo pos (starEach es X.env)).any (·.1) = false := by rfl) : PE X (.Call (.Name x p) (e :: es) [] pos) (rdE g W (mApp fn n)) :=
  PE.imp (pe_callS (E := WE W) F hr hg hm hk hb (fun σ => L2N.passAt tk σ) ha hdb he hpl) fun σ H Q ⟨B, O, S, σd, rel, q⟩ => rdG_mono (rd_then (rel := RDs) rel q) fun v H1 ⟨ds, O1, S1, r1, rx, st1, p1⟩ =>
    ⟨B, O1, S1, ds, r1.toRelS, rx, postF_of r1 p1⟩
end
section
variable {g : Gx} {W : WX} {X : Cx} {e a b c o : Expr} {es : List Expr} {pos p apos : Pos} {n : M (List D)} {x : Str}
theorem se_new {k j : Nat} {f : Addr} {fd : FuncData} {ps : List Str} {fn : List D → Sto → R D} (tk : L2N.Takes X W) (M : Mk X.K (g.G k) f) (F : FnOk X.prog X.w X.K X.mg X.base (L2N.CX X.prog X.w) j f fd ps (spD g fn)) (hr : Room (j + 1) X.A) (hg : Gl X x) (hm : X.mg x = some (.ref (g.G k)))
    (hb : Binds X.K fd ps []) (ha : PA X (e :: es) (rdA g W n)) (hdb : (x == ("__debug__" : Str)) = false := by decide)
    (he : starEach (e :: es) X.env = (false, eval e X.env) :: starEach es X.env := by rfl) (hpl : (backTo pos (starEach es X.env)).any (·.1) = false := by rfl) : PE X (.Call (.Name x p) (e :: es) [] pos) (rdE g W (mNew k fn n)) :=
  PE.imp (pe_makeS (E := WE W) M F hr hg hm hb (fun σ => L2N.passAt tk σ) ha hdb he hpl) fun σ H Q ⟨B, O, S, σd, rel, q⟩ => rdG_mono (rd_then (rel := RDs) rel q) fun vs H1 ⟨ds, O1, S1, r1, rx, st1, p1⟩ => by
    intro x dx hx hdx hne
    have hx' : upd H1 dx (.own x) x = none := by rw [upd_ne (fun z => hne z.symm)]; exact hx
    have ra := r1.new (o := .own x) hdx
    obtain ⟨r2, st2⟩ := RelS.alloc (c := ⟨g.K, g.G, B, O1⟩) ra.toRelS (u := .ins (g.G k) dx []) (o := .ins k [] []) hx' ⟨dx, [], upd_same, rfl, rfl⟩
    have st3 : Step O1 H1 (O1 ++ [x]) (upd (upd H1 dx (.own x)) x (.ins (g.G k) dx [])) := Step.trans (Step.new hdx) st2
    have rs : RDs ⟨g.K, g.G, B, O1 ++ [x]⟩ (upd (upd H1 dx (.own x)) x (.ins (g.G k) dx [])) (.ref S1.length :: ds) (.ref x :: vs) :=
      ⟨.ref x, vs, rfl, ⟨x, by
        show (O1 ++ [x])[S1.length]? = some x
        rw [← show O1.length = S1.length from r1.ol]
        simp, rfl⟩, RDs.step (c := ⟨g.K, g.G, B, O1⟩) st3 ds vs rx⟩
    refine ⟨B, O1 ++ [x], S1 ++ [.ins k [] []], .ref S1.length :: ds, r2, rs, ?_⟩
    revert p1
    cases fn (.ref S1.length :: ds) (S1 ++ [.ins k [] []]) with
    | ok d S' =>
      cases d with
      | non =>
        intro p1 v O' H' h1 h2 h3
        refine ⟨h2, ?_⟩
        have st4 := st3.trans h3
        refine p1 (.ref x) O' H' (r1.step st4 h1) ⟨x, ?_, rfl⟩ st4
        obtain ⟨t, ht⟩ := h3.pre
        show O'[S1.length]? = some x
        rw [show O' = (O1 ++ [x]) ++ t from ht, ← show O1.length = S1.length from r1.ol]
        simp
      | _ => exact fun p1 => p1.elim
    | exc k ns es S' => exact fun p1 dd O' H' h1 h2 h3 => p1 dd O' H' (r1.step (st3.trans h3) h1) h2 (st3.trans h3)
    | bad => exact fun p1 => p1.elim
end
section
variable {X : Cx} {C : Addr} {x : Str} {p pos : Pos} {e : Expr} {es : List Expr} {ta : TA} {ns : List Str}
theorem pmk_x {k : Nat} (T : XMk X.prog X.K X.mg C ns) (hl : ns.length ≤ 1000) (hr : Room (k + 1) X.A) (hm : X.mg x = some (.ref C)) (ha : PA X (e :: es) ta) (hg : Gl X x) (hdb : (x == ("__debug__" : Str)) = false)
    (he : starEach (e :: es) X.env = (false, eval e X.env) :: starEach es X.env := by rfl) (hpl : (backTo pos (starEach es X.env)).any (·.1) = false := by rfl) :
    L2N.PMk X (.Call (.Name x p) (e :: es) [] pos) (tMkX C ns ta) := by
  intro pins s σ H Q I h
  obtain ⟨fI, T, ini⟩ := T.ex
  refine wpAny_Call_Name_kw (ld_glob I hg hm ?_ hdb)
  refine PySem.W.callWith_K (h₀ := X.base) I.ok.mod.kin T.kC (thn (ha.run pos pins s σ H _ I h) fun us s1 hh => ?_) he hpl
  obtain ⟨vs, H1, I1, r1, hvl, q1⟩ := hh
  refine ⟨I1.kIn, ?_⟩
  show wpAny _ _ (call (.ref C) us) _ _ _
  have hlim := I1.nolimit
  have hul : us.length = ns.length := by rw [← r1.length]; exact hvl
  have hG : PySem.DLX.Gm s1.heap X.mg := ⟨I1.mod.glob.keeps I1.bk, by obtain ⟨mb, h1, h2⟩ := I1.mod.blt; exact ⟨mb, h1.keeps I1.bk, h2⟩⟩
  obtain ⟨hp, g, dr, tk, os⟩ := s1
  refine wpAny_call (PySem.DLX.xmade T (ini X.w us hul) I1.kIn hG hlim (by have := hr.dp; omega) (by rw [hul, sizeLine_eq]; omega) fun h' tk' e d M => ?_)
  show L2N.MkP X pins σ Q (.ref e) ⟨h', g, dr, tk', os⟩
  obtain ⟨oe, fv, hoe, hc, hd, hdat, h1, h2⟩ := M.obj
  have hns := M.ns
  obtain ⟨G', g1, g2⟩ := restrict h' fun b => decide (b ≠ e)
  have gk : ∀ b, b ≠ e → G'.get? b = h'.get? b := fun b hb => g1 b (decide_eq_true hb)
  have ge : G'.get? e = none := g2 e (by simp)
  have old : ∀ b o, hp.get? b = some o → G'.get? b = some o := fun b o q => (gk b (Nat.ne_of_lt (Nat.lt_of_lt_of_le (Heap.lt_size q) M.new))).trans (M.keep b o q)
  have ob : ObjOk X.prog X.w (upd H1 d (.xd (ns.zip vs))) G' d (.xd (ns.zip vs)) := ⟨_, hns.at (fun o q => (gk d M.dne).trans q), fun f => relO_zip r1⟩
  have J : Inv X pins σ (upd H1 d (.xd (ns.zip vs))) ⟨G', g, dr, tk', os⟩ := I1.laid (t' := tk') old M.dbig ob
  refine ⟨e, oe, fv, ⟨G', g, dr, tk', os⟩, _, .ref C, some d, rfl, J, fun b o q => ?_, ge, hoe, ⟨hc, hd, fun vs z => by rw [hdat] at z; cases z; exact h2⟩, hdat, h1, ?_, rfl, I1.bare, raises_own T.exC T.tyC, q1 d (I1.hok.fresh M.dbig)⟩
  · by_cases hb : b = e
    · have q' : G'.get? b = some o := q
      rw [hb, ge] at q'; cases q'
    · exact (gk b hb).symm.trans q
  · rw [upd_ne (Ne.symm M.dne)]
    exact I1.hok.fresh M.new
end
section
variable {g : Gx} {W : WX} {X : Cx} {x : Str} {p pos pos2 : Pos} {e : Expr} {es : List Expr} {m : M (List D)}
theorem ss_raise {k j : Nat} {ns : List Str} (hc : X.calm = true) (tk : L2N.Takes X W) (T : XMk X.prog X.K X.mg (g.G k) ns) (hl : ns.length ≤ 1000) (hr : Room (j + 1) X.A) (hm : X.mg x = some (.ref (g.G k))) (ha : PA X (e :: es) (rdA g W m)) (hg : Gl X x := by rfl) (hdb : (x == ("__debug__" : Str)) = false := by decide)
    (he : starEach (e :: es) X.env = (false, eval e X.env) :: starEach es X.env := by rfl) (hpl : (backTo pos (starEach es X.env)).any (·.1) = false := by rfl) :
    PS X (.Raise (some (.Call (.Name x p) (e :: es) [] pos)) none pos2) (rdS g W (mRaise k ns m)) :=
  PS.imp (L2N.ps_raise hc tk (pmk_x T hl hr hm ha hg hdb he hpl)) fun J σ H ⟨B, O, S, σd, r, q⟩ => rdG_mono (rdS_then (rel := RDs) r q) fun vs H1 ⟨ds, O1, S1, r1, rx, st1, p1⟩ => by
    split at p1
    · next hd =>
      refine ⟨by rw [← rx.length]; exact hd, fun d n => ?_⟩
      exact p1 (some d) σ O1 _ (r1.new n) (.inr ⟨d, vs, rfl, r1.fresh n, upd_same, by rw [← rx.length]; exact hd.symm, RDs.step (c := ⟨g.K, g.G, B, O1⟩) (O' := O1) (Step.new n) ds vs rx⟩) (Step.new n)
    · exact p1.elim
end
end DN

set_option maxHeartbeats 4000000
namespace DL
open PySem PySem.Spec PyProof.Rows L2
section
variable {X : Cx} {C : Addr} {x : Str} {p pos : Pos} {e : Expr} {es : List Expr} {ta : TA} {ns : List Str}
theorem pmk_xS {k : Nat} (T : XMk X.prog X.K X.mg C ns) (hl : ns.length ≤ 1000) (hr : L2H.RoomH (k + 1) X.A) (hm : X.mg x = some (.ref C)) (ha : PA X (e :: es) ta) (hg : Gl X x) (hdb : (x == ("__debug__" : Str)) = false)
    (he : starEach (e :: es) X.env = (false, eval e X.env) :: starEach es X.env := by rfl) (hpl : (backTo pos (starEach es X.env)).any (·.1) = false := by rfl) :
    PMkS X (.Call (.Name x p) (e :: es) [] pos) (tMkX C ns ta) := by
  intro pins s σ H Q I h
  obtain ⟨fI, T, ini⟩ := T.ex
  refine wpAny_Call_Name_kw (ld_glob I hg hm ?_ hdb)
  refine PySem.W.callWith_K (h₀ := X.base) I.ok.mod.kin T.kC (thn (ha.run pos pins s σ H _ I h) fun us s1 hh => ?_) he hpl
  obtain ⟨vs, H1, I1, r1, hvl, q1⟩ := hh
  refine ⟨I1.kIn, ?_⟩
  show wpAny _ _ (call (.ref C) us) _ _ _
  have hlim := I1.nolimit
  have hul : us.length = ns.length := by rw [← r1.length]; exact hvl
  have hG : PySem.DLX.Gm s1.heap X.mg := ⟨I1.mod.glob.keeps I1.bk, by obtain ⟨mb, h1, h2⟩ := I1.mod.blt; exact ⟨mb, h1.keeps I1.bk, h2⟩⟩
  obtain ⟨hp, g, dr, tk, os⟩ := s1
  refine wpAny_call (PySem.DLX.xmade T (ini X.w us hul) I1.kIn hG hlim (by have := hr.dp; omega) (by rw [hul, sizeLine_eq]; omega) fun h' tk' e d M => ?_)
  refine ⟨show MkP X pins σ Q (.ref e) ⟨h', g, dr, tk', os⟩ from ?_, fun a oe vs ea hg' hd' => ?_⟩
  · obtain ⟨oe, fv, hoe, hc, hd, hdat, h1, h2⟩ := M.obj
    have hns := M.ns
    obtain ⟨G', g1, g2⟩ := restrict h' fun b => decide (b ≠ e)
    have gk : ∀ b, b ≠ e → G'.get? b = h'.get? b := fun b hb => g1 b (decide_eq_true hb)
    have ge : G'.get? e = none := g2 e (by simp)
    have old : ∀ b o, hp.get? b = some o → G'.get? b = some o := fun b o q => (gk b (Nat.ne_of_lt (Nat.lt_of_lt_of_le (Heap.lt_size q) M.new))).trans (M.keep b o q)
    have ob : ObjOk X.prog X.w (upd H1 d (.xd (ns.zip vs))) G' d (.xd (ns.zip vs)) := ⟨_, hns.at (fun o q => (gk d M.dne).trans q), fun f => relO_zip r1⟩
    have J : Inv X pins σ (upd H1 d (.xd (ns.zip vs))) ⟨G', g, dr, tk', os⟩ := I1.laid (t' := tk') old M.dbig ob
    refine ⟨e, oe, fv, ⟨G', g, dr, tk', os⟩, _, .ref C, some d, rfl, J, fun b o q => ?_, ge, hoe, ⟨hc, hd⟩, hdat, h1, ?_, rfl, I1.bare, raises_own T.exC T.tyC, q1 d (I1.hok.fresh M.dbig)⟩
    · by_cases hb : b = e
      · have q' : G'.get? b = some o := q
        rw [hb, ge] at q'; cases q'
      · exact (gk b hb).symm.trans q
    · rw [upd_ne (Ne.symm M.dne)]
      exact I1.hok.fresh M.new
  · cases ea
    exact M.six oe vs hg' hd'
end
open Classical in
noncomputable def mTryF (hit i : Nat) (b : MS) (su : Addr → Option Addr → M (List D)) (k2 : Nat) (ns2 : List Str) : MS := fun σd S => match b σd S with
  | .exc k ns ds σ1 S1 => if k = hit ∧ i < σ1.length then
      if ∀ (a : Addr) (dd : Option Addr), su a dd (σ1.set i (.xc a dd ns ds)) S1 = su 0 none (σ1.set i (.xc 0 none ns ds)) S1 then
        match su 0 none (σ1.set i (.xc 0 none ns ds)) S1 with
        | .ok us S2 => if us.length = ns2.length then .exc k2 ns2 us (σ1.set i .dead) S2 else .bad
        | _ => .bad
      else .bad
    else .bad
  | r => r
theorem xmk_be {prog : Program} {K : PySem.W.Frag} {mg : Str → Option Value} {C : Addr} {ns : List Str} (T : XMk prog K mg C ns) : PySem.W.subIn K (.ref C) (.type "BaseException") = some true := by
  obtain ⟨_, T, _⟩ := T.ex
  exact T.exC
section
variable {g : Gx} {W : WX} {X : Cx} {x y n : Str} {np cp rp p pos pos' pos2 : Pos} {e : Expr} {es : List Expr} {body : List Stmt} {b : MS}
theorem ss_tryF {hit i j k2 : Nat} {ns2 : List Str} {C : Addr} {su : Addr → Option Addr → M (List D)} (hs : X.stack = X.env :: X.outer) (hf : X.env.frame = some X.env.locals) (hN : X.N.Nodup) (hi : X.N[i]? = some n) (hln : X.env.kindOf n = some .local) (hc : Names X x (.ref C))
    (hpa : ∀ hd : Option Value, PassesOwnAt (model X.prog X.w) (X.A.mark hd) X.A X.env X.xe) (tk : Takes X W) (hex : PySem.W.exmOne X.K (.ref (g.G hit)) (.ref C) = some true) (hbe : PySem.W.subIn X.K (.ref (g.G hit)) (.type "BaseException") = some true)
    (T2 : XMk X.prog X.K X.mg (g.G k2) ns2) (hl : ns2.length ≤ 1000) (hr : Room (j + 1) X.A) (hm : X.mg y = some (.ref (g.G k2)))
    (hb : ∀ (W' : WX) (pn : List (Addr × Obj)) (xe : Value → Shared → Prop), L2N.Takes (X.tr pn xe) W' → PassesOwn (model X.prog X.w) X.A X.env xe → PSs (X.tr pn xe) body (rdS g W' b))
    (hsu : ∀ (a : Addr) (oe : Obj) (d : Option Addr) (pn : List (Addr × Obj)), Zc (.ref (g.G hit)) d oe → (∃ vs, oe.data = .fields vs) → PA (X.suite a ((a, oe) :: pn)) (e :: es) (rdA g W0 (su a d)))
    (hg : Gl X y := by rfl) (hdy : (y == ("__debug__" : Str)) = false := by decide) (hdb : (n == ("__debug__" : Str)) = false := by decide)
    (he : starEach (e :: es) X.env = (false, eval e X.env) :: starEach es X.env := by rfl) (hpl : (backTo pos2 (starEach es X.env)).any (·.1) = false := by rfl) :
    PS X (.Try body [.ExceptHandler (some (.Name x np)) (some n) [.Raise (some (.Call (.Name y p) (e :: es) [] pos2)) (some (.Name n cp)) rp] pos'] [] [] pos) (rdS g W (mTryF hit i b su k2 ns2)) := by
  refine PS.imp (ps_try_from (tb := fun W' => rdS g W' b) (t := fun a cls d σ H Q => cls = .ref (g.G hit) ∧ tMkX (g.G k2) ns2 (rdA g W0 (su a d)) σ H Q) hs hf hN hi hln hdb hc hpa tk hb fun a oe cls d pn hz hfl => ?_) fun J σ H ⟨B, O, S, σd, r, q⟩ => ⟨B, O, S, σd, r, ?_⟩
  · intro pins s σ H Q I h
    obtain ⟨rfl, h⟩ := h
    exact pmk_xS (X := X.suite a ((a, oe) :: pn)) T2 hl ⟨hr.dp, hr.un⟩ hm (hsu a oe d pn hz.zc hfl) hg hdy he hpl pins s σ H Q I h
  · unfold mTryF at q
    revert q
    cases b σd S with
    | nx σ1 S1 => exact fun q => q
    | ct σ1 S1 => exact fun q => q
    | bk σ1 S1 => exact fun q => q
    | rt d S1 => exact fun q => q
    | bad => exact fun q => q
    | exc k ns ds σ1 S1 =>
      intro q dd σ' O' H' h1 h2 h3
      dsimp only at q
      split at q
      · next hk =>
        obtain ⟨rfl, hlt⟩ := hk
        split at q
        · next hall =>
          refine ⟨hex, hbe, by rw [← h1.len]; exact hlt, fun a na => ⟨rfl, ?_⟩⟩
          have r2 : Rel ⟨g.K, g.G, B, O'⟩ S1 (σ1.set i (.xc a dd ns ds)) (σ'.set i (some (.ref a))) H' := h1.set i (d := .xc a dd ns ds) (v := .ref a) ⟨rfl, h2⟩
          refine ⟨B, O', S1, _, r2, ?_⟩
          rw [hall a dd]
          revert q
          cases su 0 none (σ1.set i (.xc 0 none ns ds)) S1 with
          | bad => exact fun q => q.elim
          | exc k3 ns3 ds3 S3 => exact fun q => q.elim
          | ok us S2 =>
            intro q vs O2 H2 g1 g2 g3
            dsimp only at q
            split at q
            · next hlen =>
              have lv : us.length = vs.length := g2.length
              refine ⟨by rw [← lv]; exact hlen, fun d2 n2 => ?_⟩
              have r3 := Rel.kill (g1.new (o := .xd (ns2.zip vs)) n2) i
              rw [List.set_set] at r3
              exact q (some d2) _ O2 _ r3 (.inr ⟨d2, vs, rfl, g1.toRelS.fresh n2, upd_same, by rw [← lv]; exact hlen.symm, RDs.step (c := ⟨g.K, g.G, B, O2⟩) (O' := O2) (Step.new n2) us vs g2⟩) (Step.trans (Step.trans h3 g3) (Step.new n2))
            · exact q.elim
        · exact q.elim
      · exact q.elim
end
end DL

namespace DL
noncomputable def p_l_mix_b0 : MS := mSet 2 (mOp fMod (mApp fInt1 (mCons (mOp fAdd (mOp fAdd (mOp fMul (mVar 2) (mC (.int 48271))) (mOp fMod (mApp fInt1 (mCons (mVar 3) (mNil))) (mC (.int 2147483629)))) (mC (.int 1))) (mNil))) (mC (.int 2147483647)))
noncomputable def p_l_mix : MS := mSeq (mSet 2 (mVar 1))
    (mSeq (mFor (mSeqI (mVar 0)) (.nm 3) (p_l_mix_b0))
    (mRet (mLoc (mLst (mCons (mVar 2) (mCons (mLoc (mApp fList (mCons (mVar 0) (mNil)))) (mCons (mC (.int 0)) (mNil))))))))
noncomputable def f_l_mix : List D → Sto → R D := mFunK 4 2 p_l_mix
noncomputable def p_l_next : MS := mSeq (mSet 2 (mOp fIx (mOp fAdd (mOp fIx (mVar 0) (mC (.int 1))) (mFz (mLst (mCons (mC (.int 0)) (mNil))))) (mOp fMod (mApp fInt1 (mCons (mOp fIx (mVar 0) (mC (.int 2))) (mNil))) (mApp fMax (mCons (mC (.int 1)) (mCons (mApp fLen (mCons (mOp fIx (mVar 0) (mC (.int 1))) (mNil))) (mNil)))))))
    (mSeq (mIfS (mTest (mOp fGe (mVar 2) (mOp fPow (mC (.int 10)) (mC (.int 18))))) (mSeq (mSetIx (mOp fIx (mVar 0) (mC (.int 1))) (mOp fMod (mApp fInt1 (mCons (mOp fIx (mVar 0) (mC (.int 2))) (mNil))) (mApp fLen (mCons (mOp fIx (mVar 0) (mC (.int 1))) (mNil)))) (mOp fDiv (mVar 2) (mVar 1)))
    (mRet (mOp fMod (mApp fInt1 (mCons (mVar 2) (mNil))) (mVar 1)))) (mPass))
    (mSeq (mSetIx (mVar 0) (mC (.int 0)) (mOp fMod (mApp fInt1 (mCons (mOp fAdd (mOp fAdd (mOp fMul (mOp fIx (mVar 0) (mC (.int 0))) (mC (.int 48271))) (mOp fMul (mVar 2) (mC (.int 69621)))) (mC (.int 11))) (mNil))) (mC (.int 2147483647))))
    (mSeq (mSetIx (mVar 0) (mC (.int 2)) (mOp fAdd (mOp fIx (mVar 0) (mC (.int 2))) (mC (.int 1))))
    (mRet (mOp fMod (mApp fInt1 (mCons (mOp fDiv (mOp fIx (mVar 0) (mC (.int 0))) (mC (.int 7))) (mNil))) (mVar 1))))))
noncomputable def f_l_next : List D → Sto → R D := mFun 3 2 p_l_next
noncomputable def p_l_deal_b0 : MS := mSet 2 (mOp fAdd (mVar 2) (mFz (mOpN fMulL (mFz (mLst (mCons (mVar 3) (mNil)))) (mOp fIx (mVar 1) (mVar 3)))))
noncomputable def p_l_deal_b1 : MS := mSeq (mSet 8 (mApp f_l_next (mCons (mVar 0) (mCons (mApp fLen (mCons (mVar 2) (mNil))) (mNil)))))
    (mSeq (mDrop (mMeth fAppend (mVar 6) (mCons (mOp fIx (mVar 2) (mVar 8)) (mNil))))
    (mSet 2 (mOp fAdd (mSl (mVar 2) mNoPart (mPart (mVar 8))) (mSl (mVar 2) (mPart (mOp fAdd (mVar 8) (mC (.int 1)))) mNoPart))))
noncomputable def p_l_deal_b2 : MS := mSeq (mSet 6 (mLoc (mLst (mNil))))
    (mSeq (mFor (mRgI (mCons (mVar 5) (mNil))) (.nm 7) (p_l_deal_b1))
    (mDrop (mMeth fAppend (mVar 4) (mCons (mApp fTuple (mCons (mVar 6) (mNil))) (mNil)))))
noncomputable def p_l_deal : MS := mSeq (mSet 2 (mFz (mLst (mNil))))
    (mSeq (mFor (mRgI (mCons (mApp fLen (mCons (mVar 1) (mNil))) (mNil))) (.nm 3) (p_l_deal_b0))
    (mSeq (mSet 4 (mLoc (mLst (mNil))))
    (mSeq (mFor (mSeqI (mVar 1)) (.nm 5) (p_l_deal_b2))
    (mRet (mApp fTuple (mCons (mVar 4) (mNil)))))))
noncomputable def f_l_deal : List D → Sto → R D := mFun 9 2 p_l_deal
noncomputable def p_l_pick : MS := mRet (mOp fIx (mVar 1) (mApp f_l_next (mCons (mVar 0) (mCons (mApp fLen (mCons (mVar 1) (mNil))) (mNil)))))
noncomputable def f_l_pick : List D → Sto → R D := mFun 2 2 p_l_pick
noncomputable def p_l_firsts_c0 : M Bool := mTest (mOp (fIn true) (mVar 5) (mVar 3))
noncomputable def p_l_firsts_e0 : M D := mVar 5
noncomputable def p_l_firsts_b0 : MS := mSeq (mDrop (mMeth fAppend (mVar 3) (mCons (mOp fIx (mVar 2) (mApp f_l_next (mCons (mVar 0) (mCons (mApp fLen (mCons (mVar 2) (mNil))) (mNil))))) (mNil))))
    (mSet 2 (mFz (mComp (mSeqI (mVar 2)) (.nm 5) [5] (p_l_firsts_c0) (p_l_firsts_e0))))
noncomputable def p_l_firsts : MS := mSeq (mAsg (.tp [2, 3]) (mTup (mCons (mFz (mLstRg (mRg1 (mVar 1)))) (mCons (mLoc (mLst (mNil))) (mNil)))))
    (mSeq (mFor (mRgI (mCons (mApp fMin (mCons (mVar 1) (mCons (mApp f_l_pick (mCons (mVar 0) (mCons (mFz (mLst (mCons (mC (.int 1)) (mCons (mC (.int 1)) (mCons (mC (.int 1)) (mCons (mC (.int 2)) (mCons (mC (.int 3)) (mCons (mC (.int 8)) (mNil))))))))) (mNil)))) (mNil)))) (mNil))) (.nm 4) (p_l_firsts_b0))
    (mRet (mApp fTuple (mCons (mVar 3) (mNil)))))
noncomputable def f_l_firsts : List D → Sto → R D := mFun 6 2 p_l_firsts
noncomputable def p_is_integer : MS := mRet (mAnd (mIsi .int (mVar 0)) (mAnd (mNot (mIsi .bool (mVar 0))) (mChain fLe fLe (mVar 1) (mVar 0) (mVar 2))))
noncomputable def f_is_integer : List D → Sto → R D := mFun 3 3 p_is_integer
noncomputable def p_is_heap_e0 : M D := mApp f_is_integer (mCons (mVar 2) (mCons (mC (.int 0)) (mCons (mOp fSub (mVar 1) (mC (.int 1))) (mNil))))
noncomputable def p_is_heap : MS := mSeq (mIfS (mOrT (mNotT (mTest (mIsi .tuple (mVar 0)))) (mTest (mOp fGt (mApp fLen (mCons (mVar 0) (mNil))) (mC (.int 8))))) (mRet (mC (.bl false))) (mPass))
    (mRet (mApp fAll (mCons (mFz (mComp (mSeqI (mVar 0)) (.nm 2) [2] (fun _ S => .ok true S) (p_is_heap_e0))) (mNil))))
noncomputable def f_is_heap : List D → Sto → R D := mFun 3 2 p_is_heap
noncomputable def p_check_heaps_b0 : MS := mIfS (mNotT (mTest (mApp f_is_heap (mCons (mVar 2) (mCons (mApp fLen (mCons (mVar 0) (mNil))) (mNil)))))) (mRaise 3 ["index"] (mCons (mVar 1) (mNil))) (mPass)
noncomputable def p_check_heaps : MS := mSeq (mIfS (mOrT (mNotT (mTest (mIsi .tuple (mVar 0)))) (mNotT (mTest (mChain fLe fLe (mC (.int 1)) (mApp fLen (mCons (mVar 0) (mNil))) (mC (.int 8)))))) (mRaise 3 ["index"] (mCons (mC .non) (mNil))) (mPass))
    (mFor (mEnum (mCons (mVar 0) (mNil))) (.tp [1, 2]) (p_check_heaps_b0))
noncomputable def f_check_heaps : List D → Sto → R D := mFun 3 1 p_check_heaps
noncomputable def p_Pack_init_e0 : M D := mCount (mVar 4) (mVar 2)
noncomputable def p_Pack_init_b0 : MS := mIfS (mTest (mOp fNe (mApp fSum (mCons (mFz (mComp (mSeqI (mVar 1)) (.nm 4) [4] (fun _ S => .ok true S) (p_Pack_init_e0))) (mNil))) (mApp fLen (mCons (mVar 3) (mNil))))) (mRaise 4 ["heap"] (mCons (mVar 2) (mNil))) (mPass)
noncomputable def p_Pack_init : MS := mSeq (mDrop (mApp f_check_heaps (mCons (mVar 1) (mNil))))
    (mSeq (mFor (mEnum (mCons (mVar 1) (mNil))) (.tp [2, 3]) (p_Pack_init_b0))
    (mSetFld 0 "rows" (mVar 0) (mVar 1)))
noncomputable def f_Pack_init : List D → Sto → R D := mFun 5 2 p_Pack_init
noncomputable def p_l_walk_t0 : M Bool := mTest (mOp fNe (mOp fIx (mVar 2) (mVar 5)) (mTup (mNil)))
noncomputable def p_l_walk_b0 : MS := mSeq (mSet 6 (mOp fIx (mOp fIx (mVar 2) (mVar 5)) (mC (.int 0))))
    (mSeq (mDrop (mMeth fAppend (mVar 3) (mCons (mTup (mCons (mVar 5) (mCons (mVar 6) (mNil)))) (mNil))))
    (mSeq (mSetIx (mVar 2) (mVar 5) (mSl (mOp fIx (mVar 2) (mVar 5)) (mPart (mC (.int 1))) mNoPart))
    (mSet 5 (mVar 6))))
noncomputable def p_l_walk_b1 : MS := mSeq (mSet 5 (mVar 4))
    (mW (p_l_walk_t0) (p_l_walk_b0))
noncomputable def p_l_walk : MS := mSeq (mPar [2, 3] (mCons (mLoc (mApp fList (mCons (mVar 0) (mNil)))) (mCons (mLoc (mLst (mNil))) (mNil))))
    (mSeq (mFor (mSeqI (mVar 1)) (.nm 4) (p_l_walk_b1))
    (mRet (mTup (mCons (mVar 3) (mCons (mApp fTuple (mCons (mVar 2) (mNil))) (mNil))))))
noncomputable def f_l_walk : List D → Sto → R D := mFun 7 2 p_l_walk
noncomputable def p_l_alike (r : List D → Sto → R D) : MS := mSeq (mIfS (mTest (mIsi2 .tuple .list (mVar 1))) (mSeq (mIfS (mOrT (mNotT (mTest (mIsi2 .tuple .list (mVar 0)))) (mTest (mOp fNe (mIsi .list (mVar 0)) (mIsi .list (mVar 1))))) (mRet (mC (.bl false))) (mPass))
    (mSeq (mIfS (mTest (mOp fNe (mApp fLen (mCons (mVar 0) (mNil))) (mApp fLen (mCons (mVar 1) (mNil))))) (mRet (mC (.bl false))) (mPass))
    (mRet (mOp fEq (mFz (mComp (mRgI (mCons (mApp fLen (mCons (mVar 1) (mNil))) (mNil))) (.nm 2) [2] (mNotT (mTest (mApp r (mCons (mOp fIx (mVar 0) (mVar 2)) (mCons (mOp fIx (mVar 1) (mVar 2)) (mNil)))))) (mVar 2))) (mFz (mLst (mNil))))))) (mPass))
    (mSeq (mIfS (mOrT (mTest (mUn fIsN (mVar 1))) (mTest (mIsi .str (mVar 1)))) (mRet (mAnd (mOp fEq (mVar 0) (mVar 1)) (mOp fEq (mIsi .str (mVar 0)) (mIsi .str (mVar 1))))) (mPass))
    (mRet (mAnd (mIsi .int (mVar 0)) (mAnd (mOp fEq (mIsi .bool (mVar 0)) (mIsi .bool (mVar 1))) (mOp fEq (mVar 0) (mVar 1))))))
noncomputable def f_l_alike : Nat → List D → Sto → R D
  | 0 => fun _ _ => .bad
  | n + 1 => mFun 3 2 (p_l_alike (f_l_alike n))
noncomputable def p_l_sizes_b0 : MS := mSeq (mSet 7 (mApp fMin (mCons (mApp f_l_next (mCons (mVar 0) (mCons (mVar 3) (mNil)))) (mCons (mOp fSub (mVar 2) (mVar 5)) (mNil)))))
    (mSeq (mDrop (mMeth fAppend (mVar 4) (mCons (mVar 7) (mNil))))
    (mSet 5 (mOp fAdd (mVar 5) (mVar 7))))
noncomputable def p_l_sizes : MS := mSeq (mPar [3, 4, 5] (mCons (mApp f_l_pick (mCons (mVar 0) (mCons (mFz (mLst (mCons (mC (.int 2)) (mCons (mC (.int 4)) (mCons (mC (.int 9)) (mNil)))))) (mNil)))) (mCons (mLoc (mLst (mNil))) (mCons (mC (.int 0)) (mNil)))))
    (mSeq (mFor (mRgI (mCons (mVar 1) (mNil))) (.nm 6) (p_l_sizes_b0))
    (mRet (mApp fTuple (mCons (mVar 4) (mNil)))))
noncomputable def f_l_sizes : List D → Sto → R D := mFun 8 3 p_l_sizes
noncomputable def p_check_firsts_b0 : MS := mIfS (mOrT (mNotT (mTest (mApp f_is_integer (mCons (mVar 3) (mCons (mC (.int 0)) (mCons (mOp fSub (mVar 0) (mC (.int 1))) (mNil))))))) (mTest (mOp (fIn false) (mVar 3) (mSl (mVar 1) mNoPart (mPart (mVar 2)))))) (mRaise 5 [] mNil) (mPass)
noncomputable def p_check_firsts : MS := mSeq (mIfS (mOrT (mNotT (mTest (mIsi .tuple (mVar 1)))) (mNotT (mTest (mChain fLe fLe (mC (.int 1)) (mApp fLen (mCons (mVar 1) (mNil))) (mVar 0))))) (mRaise 5 [] mNil) (mPass))
    (mFor (mEnum (mCons (mVar 1) (mNil))) (.tp [2, 3]) (p_check_firsts_b0))
noncomputable def f_check_firsts : List D → Sto → R D := mFun 4 2 p_check_firsts
noncomputable def p_walked_t0 : M Bool := mTest (mOp fLt0 (mOp fIx (mVar 3) (mVar 5)) (mApp fLen (mCons (mOp fIx (mVar 0) (mVar 5)) (mNil))))
noncomputable def p_walked_b0 : MS := mSeq (mSet 6 (mOp fIx (mOp fIx (mVar 0) (mVar 5)) (mOp fIx (mVar 3) (mVar 5))))
    (mSeq (mAugIx (mVar 3) (mVar 5) (fInt fun i j => .int (i + j)) (mC (.int 1)))
    (mSeq (mDrop (mMeth fAppend (mVar 2) (mCons (mTup (mCons (mVar 5) (mCons (mVar 6) (mNil)))) (mNil))))
    (mSet 5 (mVar 6))))
noncomputable def p_walked_b1 : MS := mSeq (mSet 5 (mVar 4))
    (mW (p_walked_t0) (p_walked_b0))
noncomputable def p_walked : MS := mSeq (mPar [2, 3] (mCons (mLoc (mLst (mNil))) (mCons (mLoc (mOpN fMulL (mFz (mLst (mCons (mC (.int 0)) (mNil)))) (mApp fLen (mCons (mVar 0) (mNil))))) (mNil))))
    (mSeq (mFor (mSeqI (mVar 1)) (.nm 4) (p_walked_b1))
    (mRet (mTup (mCons (mVar 2) (mCons (mVar 3) (mNil))))))
noncomputable def f_walked : List D → Sto → R D := mFun 7 2 p_walked
noncomputable def p_goes_e0 : M D := mApp fLen (mCons (mVar 2) (mNil))
noncomputable def p_goes : MS := mSeq (mDrop (mApp f_check_firsts (mCons (mApp fLen (mCons (mFld 0 "rows" (mVar 0)) (mNil))) (mCons (mVar 1) (mNil)))))
    (mRet (mOp fEq (mOp fIx (mApp f_walked (mCons (mFld 0 "rows" (mVar 0)) (mCons (mVar 1) (mNil)))) (mC (.int 1))) (mFz (mComp (mSeqI (mFld 0 "rows" (mVar 0))) (.nm 2) [2] (fun _ S => .ok true S) (p_goes_e0)))))
noncomputable def f_goes : List D → Sto → R D := mFun 3 2 p_goes
noncomputable def p_walk : MS := mSeq (mDrop (mApp f_check_firsts (mCons (mApp fLen (mCons (mFld 0 "rows" (mVar 0)) (mNil))) (mCons (mVar 1) (mNil)))))
    (mRet (mOp fIx (mApp f_walked (mCons (mFld 0 "rows" (mVar 0)) (mCons (mVar 1) (mNil)))) (mC (.int 0))))
noncomputable def f_walk : List D → Sto → R D := mFun 2 2 p_walk
noncomputable def p_unturned_e0 : M D := mSl (mVar 3) (mPart (mVar 4)) mNoPart
noncomputable def p_unturned : MS := mSeq (mDrop (mApp f_check_firsts (mCons (mApp fLen (mCons (mFld 0 "rows" (mVar 0)) (mNil))) (mCons (mVar 1) (mNil)))))
    (mSeq (mSet 2 (mOp fIx (mApp f_walked (mCons (mFld 0 "rows" (mVar 0)) (mCons (mVar 1) (mNil)))) (mC (.int 1))))
    (mRet (mApp fTuple (mCons (mFz (mComp (mZip (mCons (mFld 0 "rows" (mVar 0)) (mCons (mVar 2) (mNil)))) (.tp [3, 4]) [3, 4] (fun _ S => .ok true S) (p_unturned_e0))) (mNil)))))
noncomputable def f_unturned : List D → Sto → R D := mFun 5 2 p_unturned
noncomputable def p_law_k02_b0 : MS := mSeq (mSet 3 (mOp fAdd (mC (.int 1)) (mApp f_l_next (mCons (mVar 1) (mCons (mC (.int 8)) (mNil))))))
    (mSeq (mPar [4, 5] (mCons (mApp f_l_deal (mCons (mVar 1) (mCons (mApp f_l_sizes (mCons (mVar 1) (mCons (mVar 3) (mCons (mC (.int 64)) (mNil))))) (mNil)))) (mCons (mApp f_l_firsts (mCons (mVar 1) (mCons (mVar 3) (mNil)))) (mNil))))
    (mSeq (mPar [6, 7] (mCons (mFr (mNew 0 f_Pack_init (mCons (mVar 4) (mNil)))) (mCons (mApp f_l_walk (mCons (mVar 4) (mCons (mVar 5) (mNil)))) (mNil))))
    (mSeq (mIfS (mOrT (mNotT (mTest (mApp (f_l_alike 8) (mCons (mApp f_walk (mCons (mVar 6) (mCons (mVar 5) (mNil)))) (mCons (mOp fIx (mVar 7) (mC (.int 0))) (mNil)))))) (mNotT (mTest (mApp (f_l_alike 8) (mCons (mApp f_unturned (mCons (mVar 6) (mCons (mVar 5) (mNil)))) (mCons (mOp fIx (mVar 7) (mC (.int 1))) (mNil))))))) (mRet (mC (.bl false))) (mPass))
    (mIfS (mNotT (mTest (mApp (f_l_alike 8) (mCons (mApp f_goes (mCons (mVar 6) (mCons (mVar 5) (mNil)))) (mCons (mOp fEq (mOp fIx (mVar 7) (mC (.int 1))) (mOp fMul (mTup (mCons (mTup (mNil)) (mNil))) (mVar 3))) (mNil)))))) (mRet (mC (.bl false))) (mPass)))))
noncomputable def p_law_k02 : MS := mSeq (mSet 1 (mApp f_l_mix (mCons (mVar 0) (mCons (mC (.int 2)) (mNil)))))
    (mSeq (mFor (mRgI (mCons (mC (.int 5)) (mNil))) (.nm 2) (p_law_k02_b0))
    (mRet (mC (.bl true))))
noncomputable def f_law_k02 : List D → Sto → R D := mFun 8 1 p_law_k02
noncomputable def p_l_changed : MS := mSeq (mPar [3, 4] (mCons (mApp f_l_next (mCons (mVar 0) (mCons (mApp fLen (mCons (mVar 1) (mNil))) (mNil)))) (mCons (mApp f_l_next (mCons (mVar 0) (mCons (mC (.int 7)) (mNil)))) (mNil))))
    (mSeq (mSet 5 (mFz (mTmN fSplit (mOp fIx (mVar 1) (mVar 3)) (mC (.str " ")))))
    (mSeq (mSet 6 (mApp f_l_next (mCons (mVar 0) (mCons (mOp fAdd (mApp fLen (mCons (mVar 5) (mNil))) (mC (.int 1))) (mNil)))))
    (mSeq (mIfS (mTest (mOp fLt0 (mVar 4) (mC (.int 3)))) (mSeq (mSet 7 (mTm fJoin (mC (.str " ")) (mOp fAdd (mOp fAdd (mSl (mVar 5) mNoPart (mPart (mVar 6))) (mFz (mLst (mCons (mApp f_l_pick (mCons (mVar 0) (mCons (mVar 2) (mNil)))) (mNil))))) (mSl (mVar 5) (mPart (mOp fAdd (mVar 6) (mApp fMin (mCons (mVar 4) (mCons (mC (.int 1)) (mNil)))))) mNoPart))))
    (mRet (mOp fAdd (mOp fAdd (mSl (mVar 1) mNoPart (mPart (mVar 3))) (mFz (mLst (mCons (mVar 7) (mNil))))) (mSl (mVar 1) (mPart (mOp fAdd (mVar 3) (mC (.int 1)))) mNoPart)))) (mPass))
    (mSeq (mIfS (mTest (mOp fEq (mVar 4) (mC (.int 3)))) (mRet (mOp fAdd (mOp fAdd (mSl (mVar 1) mNoPart (mPart (mVar 3))) (mFz (mLst (mCons (mTm fJoin (mC (.str " ")) (mSl (mVar 5) mNoPart (mPart (mVar 6)))) (mNil))))) (mSl (mVar 1) (mPart (mOp fAdd (mVar 3) (mC (.int 1)))) mNoPart))) (mPass))
    (mSeq (mIfS (mTest (mOp fEq (mVar 4) (mC (.int 4)))) (mRet (mOp fAdd (mOp fAdd (mSl (mVar 1) mNoPart (mPart (mOp fAdd (mVar 3) (mC (.int 1))))) (mFz (mLst (mCons (mApp f_l_pick (mCons (mVar 0) (mCons (mFz (mLst (mCons (mC (.str "")) (mCons (mC (.str "heap")) (mCons (mOp fIx (mVar 1) (mVar 3)) (mCons (mC (.str "heap 0")) (mNil))))))) (mNil)))) (mNil))))) (mSl (mVar 1) (mPart (mOp fAdd (mVar 3) (mC (.int 1)))) mNoPart))) (mPass))
    (mSeq (mIfS (mTest (mOp fEq (mVar 4) (mC (.int 5)))) (mRet (mOp fAdd (mOp fAdd (mSl (mVar 1) mNoPart (mPart (mVar 3))) (mFz (mLst (mCons (mOp fAdd (mOp fIx (mVar 1) (mVar 3)) (mOp fMulS (mC (.str " 0")) (mApp f_l_pick (mCons (mVar 0) (mCons (mFz (mLst (mCons (mC (.int 1)) (mCons (mC (.int 9)) (mNil))))) (mNil)))))) (mNil))))) (mSl (mVar 1) (mPart (mOp fAdd (mVar 3) (mC (.int 1)))) mNoPart))) (mPass))
    (mRet (mOp fAdd (mVar 1) (mFz (mOpN fMulL (mFz (mLst (mCons (mC (.str "heap")) (mNil)))) (mApp f_l_pick (mCons (mVar 0) (mCons (mFz (mLst (mCons (mC (.int 1)) (mCons (mC (.int 8)) (mNil))))) (mNil))))))))))))))
noncomputable def f_l_changed : List D → Sto → R D := mFun 8 3 p_l_changed
noncomputable def p_take_heap_e0 : M D := mApp fStr1 (mCons (mVar 4) (mNil))
noncomputable def p_take_heap_b0 : MS := mIfS (mOrT (mTest (mOp fGt (mVar 3) (mC (.int 8)))) (mTest (mOp (fIn true) (mOp fIx (mVar 0) (mVar 3)) (mFz (mComp (mRgI (mCons (mVar 1) (mNil))) (.nm 4) [4] (fun _ S => .ok true S) (p_take_heap_e0)))))) (mRaise 10 ["line", "word"] (mCons (mVar 2) (mCons (mOp fAdd (mVar 3) (mC (.int 1))) (mNil)))) (mPass)
noncomputable def p_take_heap_e1 : M D := mApp fInt1 (mCons (mVar 5) (mNil))
noncomputable def p_take_heap : MS := mSeq (mIfS (mTest (mOp fNe (mSl (mVar 0) mNoPart (mPart (mC (.int 1)))) (mFz (mLst (mCons (mC (.str "heap")) (mNil)))))) (mRaise 10 ["line", "word"] (mCons (mVar 2) (mCons (mC (.int 1)) (mNil)))) (mPass))
    (mSeq (mFor (mRgI2 (mCons (mC (.int 1)) (mCons (mApp fLen (mCons (mVar 0) (mNil))) (mNil)))) (.nm 3) (p_take_heap_b0))
    (mRet (mApp fTuple (mCons (mFz (mComp (mSeqI (mSl (mVar 0) (mPart (mC (.int 1))) mNoPart)) (.nm 5) [5] (fun _ S => .ok true S) (p_take_heap_e1))) (mNil)))))
noncomputable def f_take_heap : List D → Sto → R D := mFun 6 3 p_take_heap
noncomputable def p_read_c0 : M Bool := mTest (mOp fNe (mVar 6) (mC (.str "")))
noncomputable def p_read_e0 : M D := mVar 6
noncomputable def p_read_e1 : M D := mFz (mComp (mSeqI (mFz (mTmN fSplit (mVar 5) (mC (.str " "))))) (.nm 6) [6] (p_read_c0) (p_read_e0))
noncomputable def p_read_e2 : M D := mApp f_take_heap (mCons (mVar 8) (mCons (mVar 2) (mCons (mVar 7) (mNil))))
noncomputable def p_read_s0 (a : PySem.Addr) (d : Option PySem.Addr) : M (List D) := mCons (mOp fAdd (mXf a d "heap" (mVar 4)) (mC (.int 1))) (mCons (mOp fAdd (mApp fLen (mCons (mOp fIx (mVar 3) (mXf a d "heap" (mVar 4))) (mNil))) (mC (.int 2))) (mNil))
noncomputable def p_read : MS := mSeq (mSet 1 (mFz (mComp (mSeqI (mFz (mTmN fSplit (mVar 0) (mC (.str "\n"))))) (.nm 5) [5] (fun _ S => .ok true S) (p_read_e1))))
    (mSeq (mSet 2 (mApp fMin (mCons (mApp fLen (mCons (mVar 1) (mNil))) (mCons (mC (.int 8)) (mNil)))))
    (mSeq (mSet 3 (mFz (mCompX (mEnum2 (mCons (mSl (mVar 1) mNoPart (mPart (mC (.int 8)))) (mCons (mC (.int 1)) (mNil)))) (.tp [7, 8]) [7, 8] (fun _ S => .ok true S) (p_read_e2))))
    (mSeq (mIfS (mTest (mOp fGt (mApp fLen (mCons (mVar 1) (mNil))) (mC (.int 8)))) (mRaise 10 ["line", "word"] (mCons (mOp fAdd (mC (.int 8)) (mC (.int 1))) (mCons (mC (.int 1)) (mNil)))) (mPass))
    (mTryF 4 4 (mRet (mFr (mNew 0 f_Pack_init (mCons (mApp fTuple (mCons (mVar 3) (mNil))) (mNil))))) p_read_s0 10 ["line", "word"]))))
noncomputable def f_read : List D → Sto → R D := mFun 9 1 p_read
noncomputable def p_l_answer_s0 (a : PySem.Addr) (k : Nat) (d : Option PySem.Addr) : MS := mSet 1 (mIf (mTest (mXis a k d 2 (mVar 2))) (mTup (mCons (mXf a d "line" (mVar 2)) (mCons (mXf a d "word" (mVar 2)) (mNil)))) (mTup (mNil)))
noncomputable def p_l_answer : MS := mSeq (mSet 1 (mC .non))
    (mSeq (mTry (mDrop (mApp f_read (mCons (mVar 0) (mNil)))) [⟨hitL [10] [3, 4], 2, p_l_answer_s0⟩])
    (mRet (mVar 1)))
noncomputable def f_l_answer : List D → Sto → R D := mFun 3 1 p_l_answer
noncomputable def p_l_wrong_b0 : MS := mIfS (mOrT (mTest (mOp fGt (mVar 3) (mC (.int 8)))) (mTest (mOp (fIn true) (mOp fIx (mVar 1) (mVar 3)) (mSl (mFz (mLst (mCons (mC (.str "0")) (mCons (mC (.str "1")) (mCons (mC (.str "2")) (mCons (mC (.str "3")) (mCons (mC (.str "4")) (mCons (mC (.str "5")) (mCons (mC (.str "6")) (mCons (mC (.str "7")) (mNil))))))))))) mNoPart (mPart (mVar 2)))))) (mRet (mOp fAdd (mVar 3) (mC (.int 1)))) (mPass)
noncomputable def p_l_wrong : MS := mSeq (mIfS (mOrT (mTest (mOp fGt (mVar 0) (mC (.int 7)))) (mOrT (mTest (mOp fEq (mVar 1) (mFz (mLst (mNil))))) (mTest (mOp fNe (mOp fIx (mVar 1) (mC (.int 0))) (mC (.str "heap")))))) (mRet (mC (.int 1))) (mPass))
    (mSeq (mFor (mRgI2 (mCons (mC (.int 1)) (mCons (mApp fLen (mCons (mVar 1) (mNil))) (mNil)))) (.nm 3) (p_l_wrong_b0))
    (mRet (mC .non)))
noncomputable def f_l_wrong : List D → Sto → R D := mFun 4 3 p_l_wrong
noncomputable def p_l_due_c0 : M Bool := mTest (mOp fNe (mVar 5) (mC (.str "")))
noncomputable def p_l_due_e0 : M D := mVar 5
noncomputable def p_l_due_e1 : M D := mFz (mComp (mSeqI (mFz (mTmN fSplit (mVar 4) (mC (.str " "))))) (.nm 5) [5] (p_l_due_c0) (p_l_due_e0))
noncomputable def p_l_due_b0 : MS := mSeq (mSet 3 (mApp f_l_wrong (mCons (mVar 2) (mCons (mOp fIx (mVar 1) (mVar 2)) (mCons (mApp fLen (mCons (mVar 1) (mNil))) (mNil))))))
    (mIfS (mTest (mUn fNotN (mVar 3))) (mRet (mTup (mCons (mOp fAdd (mVar 2) (mC (.int 1))) (mCons (mVar 3) (mNil))))) (mPass))
noncomputable def p_l_due_c1 : M Bool := mTest (mOp fEq (mVar 5) (mApp fStr1 (mCons (mVar 2) (mNil))))
noncomputable def p_l_due_e2 : M D := mVar 5
noncomputable def p_l_due_e3 : M D := mApp fLen (mCons (mFz (mComp (mSeqI (mVar 6)) (.nm 5) [5] (p_l_due_c1) (p_l_due_e2))) (mNil))
noncomputable def p_l_due_b1 : MS := mIfS (mTest (mOp fNe (mApp fSum (mCons (mFz (mComp (mSeqI (mVar 1)) (.nm 6) [6] (fun _ S => .ok true S) (p_l_due_e3))) (mNil))) (mOp fSub (mApp fLen (mCons (mOp fIx (mVar 1) (mVar 2)) (mNil))) (mC (.int 1))))) (mRet (mTup (mCons (mOp fAdd (mVar 2) (mC (.int 1))) (mCons (mOp fAdd (mApp fLen (mCons (mOp fIx (mVar 1) (mVar 2)) (mNil))) (mC (.int 1))) (mNil))))) (mPass)
noncomputable def p_l_due : MS := mSeq (mSet 1 (mFz (mComp (mSeqI (mVar 0)) (.nm 4) [4] (fun _ S => .ok true S) (p_l_due_e1))))
    (mSeq (mFor (mRgI (mCons (mApp fLen (mCons (mVar 1) (mNil))) (mNil))) (.nm 2) (p_l_due_b0))
    (mSeq (mFor (mRgI (mCons (mApp fLen (mCons (mVar 1) (mNil))) (mNil))) (.nm 2) (p_l_due_b1))
    (mRet (mC .non))))
noncomputable def f_l_due : List D → Sto → R D := mFun 7 1 p_l_due
noncomputable def p_law_k11_e0 : M D := mApp fStr1 (mCons (mVar 10) (mNil))
noncomputable def p_law_k11_e1 : M D := mTm fJoin (mC (.str " ")) (mOp fAdd (mFz (mLst (mCons (mC (.str "heap")) (mNil)))) (mFz (mComp (mSeqI (mVar 9)) (.nm 10) [10] (fun _ S => .ok true S) (p_law_k11_e0))))
noncomputable def p_law_k11_b0 : MS := mSet 5 (mApp f_l_changed (mCons (mVar 1) (mCons (mVar 5) (mCons (mVar 2) (mNil)))))
noncomputable def p_law_k11_b1 : MS := mSeq (mSet 4 (mApp f_l_deal (mCons (mVar 1) (mCons (mApp f_l_sizes (mCons (mVar 1) (mCons (mOp fAdd (mC (.int 1)) (mApp f_l_next (mCons (mVar 1) (mCons (mC (.int 8)) (mNil))))) (mCons (mC (.int 64)) (mNil))))) (mNil)))))
    (mSeq (mSet 5 (mFz (mComp (mSeqI (mVar 4)) (.nm 9) [9] (fun _ S => .ok true S) (p_law_k11_e1))))
    (mSeq (mFor (mRgI (mCons (mApp f_l_pick (mCons (mVar 1) (mCons (mFz (mLst (mCons (mC (.int 0)) (mCons (mC (.int 1)) (mCons (mC (.int 1)) (mCons (mC (.int 2)) (mNil))))))) (mNil)))) (mNil))) (.nm 6) (p_law_k11_b0))
    (mIfS (mNotT (mTest (mApp (f_l_alike 8) (mCons (mApp f_l_answer (mCons (mTm fJoin (mC (.str "\n")) (mVar 5)) (mNil))) (mCons (mApp f_l_due (mCons (mVar 5) (mNil))) (mNil)))))) (mRet (mC (.bl false))) (mPass))))
noncomputable def p_law_k11_e2 : M D := mApp f_l_answer (mCons (mVar 11) (mNil))
noncomputable def p_law_k11 : MS := mSeq (mSet 1 (mApp f_l_mix (mCons (mVar 0) (mCons (mC (.int 11)) (mNil)))))
    (mSeq (mSet 2 (mFz (mLst (mCons (mC (.str "")) (mCons (mC (.str "0")) (mCons (mC (.str "1")) (mCons (mC (.str "2")) (mCons (mC (.str "7")) (mCons (mC (.str "8")) (mCons (mC (.str "00")) (mCons (mC (.str "-1")) (mCons (mC (.str "x")) (mCons (mC (.str "+1")) (mCons (mC (.str "1.0")) (mCons (mC (.str "heap")) (mCons (mC (.str "Heap")) (mCons (mC (.str "\t")) (mNil))))))))))))))))))
    (mSeq (mFor (mRgI (mCons (mC (.int 6)) (mNil))) (.nm 3) (p_law_k11_b1))
    (mSeq (mSet 7 (mFz (mLst (mCons (mC (.str "")) (mCons (mC (.str "heap")) (mCons (mC (.str "heap 0")) (mCons (mC (.str "heap 1")) (mCons (mC (.str "heap 0\nheap 0")) (mCons (mOp fMulS (mC (.str "heap\n")) (mC (.int 9))) (mCons (mC (.str "heap 0 0")) (mCons (mOp fAdd (mOp fMulS (mC (.str "heap\n")) (mC (.int 8))) (mC (.str "heap"))) (mNil))))))))))))
    (mSeq (mSet 8 (mFz (mLst (mCons (mTup (mCons (mC (.int 1)) (mCons (mC (.int 1)) (mNil)))) (mCons (mC .non) (mCons (mC .non) (mCons (mTup (mCons (mC (.int 1)) (mCons (mC (.int 2)) (mNil)))) (mCons (mTup (mCons (mC (.int 1)) (mCons (mC (.int 3)) (mNil)))) (mCons (mTup (mCons (mC (.int 9)) (mCons (mC (.int 1)) (mNil)))) (mCons (mC .non) (mCons (mTup (mCons (mC (.int 9)) (mCons (mC (.int 1)) (mNil)))) (mNil))))))))))))
    (mRet (mOp fEq (mFz (mComp (mSeqI (mVar 7)) (.nm 11) [11] (fun _ S => .ok true S) (p_law_k11_e2))) (mVar 8)))))))
noncomputable def f_law_k11 : List D → Sto → R D := mFun 12 1 p_law_k11
end DL

namespace DL
open PySem L2
/-- what is wished of a way out -/
structure Po where
  N : Sl → Sto → Prop := fun _ _ => False
  R : D → Sto → Prop := fun _ _ => False
  B : Sl → Sto → Prop := fun _ _ => False
  C : Sl → Sto → Prop := fun _ _ => False
  X : Nat → List Str → List D → Sto → Prop := fun _ _ _ _ => False
def Out (r : RS) (p : Po) : Prop := match r with
  | .nx σ S => p.N σ S
  | .rt d S => p.R d S
  | .bk σ S => p.B σ S
  | .ct σ S => p.C σ S
  | .exc k ns ds _ S => p.X k ns ds S
  | .bad => False
theorem Out.mono {r : RS} {p q : Po} (h : Out r p) (n : ∀ σ S, p.N σ S → q.N σ S) (rr : ∀ d S, p.R d S → q.R d S) (b : ∀ σ S, p.B σ S → q.B σ S) (c : ∀ σ S, p.C σ S → q.C σ S) (x : ∀ k ns ds S, p.X k ns ds S → q.X k ns ds S) : Out r q := by
  cases r with
  | nx σ S => exact n _ _ h
  | rt d S => exact rr _ _ h
  | bk σ S => exact b _ _ h
  | ct σ S => exact c _ _ h
  | exc k ns ds σ S => exact x _ _ _ _ h
  | bad => exact h
@[simp] theorem out_nx {σ : Sl} {S : Sto} {p : Po} : Out (.nx σ S) p = p.N σ S := rfl
@[simp] theorem out_rt {d : D} {S : Sto} {p : Po} : Out (.rt d S) p = p.R d S := rfl
@[simp] theorem out_bk {σ : Sl} {S : Sto} {p : Po} : Out (.bk σ S) p = p.B σ S := rfl
@[simp] theorem out_ct {σ : Sl} {S : Sto} {p : Po} : Out (.ct σ S) p = p.C σ S := rfl
@[simp] theorem out_exc {k : Nat} {ns : List Str} {ds : List D} {σ : Sl} {S : Sto} {p : Po} : Out (.exc k ns ds σ S) p = p.X k ns ds S := rfl
theorem out_seq {a b : MS} {σ : Sl} {S : Sto} {p : Po} (h : Out (a σ S) { p with N := fun σ S => Out (b σ S) p }) : Out (mSeq a b σ S) p := by
  unfold mSeq
  revert h
  cases a σ S <;> exact fun h => h
theorem seq_nx {a b : MS} {σ σ1 : Sl} {S S1 : Sto} (h : a σ S = .nx σ1 S1) : mSeq a b σ S = b σ1 S1 := by unfold mSeq; rw [h]
theorem out_then {b k : MS} {σ : Sl} {S : Sto} {p : Po} (h : Out (b σ S) { N := fun σ S => Out (k σ S) p, C := fun σ S => Out (k σ S) p, B := p.N, R := p.R, X := p.X }) : Out (mThen b k σ S) p := by
  unfold mThen
  revert h
  cases b σ S <;> exact fun h => h
theorem out_for {S0 : Sto} {src : List Nat} {pair : Bool} {t : Tgt} {b : MS} {p : Po} (P : Nat → Sl → Sto → Prop) {items : List D} (hs : ∀ k d σ S, items[k]? = some d → P k σ S → Gd S0 src S ∧ ∃ xs, t.st pair d = some xs ∧ ∀ F : Sl → Sto → Prop, (∀ σ S, P (k + 1) σ S → F σ S) → Out (b (setAll σ t.slots xs) S) { N := F, C := F, B := p.N, R := p.R, X := p.X })
    (he : ∀ σ S, P items.length σ S → Gd S0 src S ∧ p.N σ S) {σ : Sl} {S : Sto} (h0 : P 0 σ S) : Out (forL S0 src pair t b items σ S) p := by
  induction items generalizing P σ S with
  | nil =>
    obtain ⟨g, n⟩ := he σ S h0
    unfold forL
    rw [if_pos g]
    exact n
  | cons d ds ih =>
    obtain ⟨g, xs, e, o⟩ := hs 0 d σ S rfl h0
    unfold forL
    rw [if_pos g, e]
    refine out_then (Out.mono (o (P (0 + 1)) (fun _ _ h => h)) (fun σ S h => ?_) (fun _ _ h => h) (fun _ _ h => h) (fun σ S h => ?_) (fun _ _ _ _ h => h))
    · exact ih (fun k => P (k + 1)) (fun k d σ S e h => hs (k + 1) d σ S (by simpa using e) h) (fun σ S h => he σ S h) h
    · exact ih (fun k => P (k + 1)) (fun k d σ S e h => hs (k + 1) d σ S (by simpa using e) h) (fun σ S h => he σ S h) h
theorem mWhile_mono {t : M Bool} {b : MS} : ∀ (n : Nat) (σ : Sl) (S : Sto), mWhile t b n σ S ≠ .bad → mWhile t b (n + 1) σ S = mWhile t b n σ S
  | 0, σ, S, h => absurd rfl h
  | n + 1, σ, S, h => by
    have ih := mWhile_mono (t := t) (b := b) n
    show mBS t (fun c => if c = true then mThen b (mWhile t b (n + 1)) else mPass) σ S = mBS t (fun c => if c = true then mThen b (mWhile t b n) else mPass) σ S
    have h' : mBS t (fun c => if c = true then mThen b (mWhile t b n) else mPass) σ S ≠ .bad := h
    unfold mBS at h' ⊢
    cases q : t σ S with
    | exc k ns ds S1 => rfl
    | bad => rfl
    | ok c S1 =>
      rw [q] at h'
      cases c with
      | false => rfl
      | true =>
        simp only [if_true] at h' ⊢
        unfold mThen at h' ⊢
        cases z : b σ S1 with
        | nx σ2 S2 => rw [z] at h'; exact ih σ2 S2 h'
        | ct σ2 S2 => rw [z] at h'; exact ih σ2 S2 h'
        | _ => rfl
theorem mWhile_le {t : M Bool} {b : MS} {n m : Nat} {σ : Sl} {S : Sto} (h : mWhile t b n σ S ≠ .bad) (le : n ≤ m) : mWhile t b m σ S = mWhile t b n σ S := by
  induction m with
  | zero => rw [Nat.le_zero.mp le]
  | succ m ih =>
    by_cases e : n = m + 1
    · rw [e]
    · have := ih (by omega)
      rw [mWhile_mono m σ S (by rw [this]; exact h), this]
theorem mW_of {t : M Bool} {b : MS} {n : Nat} {σ : Sl} {S : Sto} (h : mWhile t b n σ S ≠ .bad) : mW t b σ S = mWhile t b n σ S := by
  have hx : ∃ n, mWhile t b n σ S ≠ .bad := ⟨n, h⟩
  unfold mW
  rw [dif_pos hx]
  have h2 := hx.choose_spec
  rcases Nat.le_total n hx.choose with le | le
  · exact mWhile_le h le
  · exact (mWhile_le h2 le).symm
theorem out_w {t : M Bool} {b : MS} {p : Po} (I : Nat → Sl → Sto → Prop) (step : ∀ n σ S, I n σ S → ∃ c S1, t σ S = .ok c S1 ∧ (c = true → ∀ F : Sl → Sto → Prop, (∀ m σ S, m < n → I m σ S → F σ S) → Out (b σ S1) { N := F, C := F, B := p.N, R := p.R, X := p.X }) ∧ (c = false → p.N σ S1))
    {n : Nat} {σ : Sl} {S : Sto} (h : I n σ S) : Out (mW t b σ S) p := by
  have main : ∀ n σ S, I n σ S → Out (mWhile t b (n + 1) σ S) p := by
    intro n
    induction n using Nat.strongRecOn with
    | ind n ih =>
      intro σ S h
      obtain ⟨c, S1, e, h1, h2⟩ := step n σ S h
      show Out (mBS t (fun c => if c = true then mThen b (mWhile t b n) else mPass) σ S) p
      unfold mBS
      rw [e]
      cases c with
      | false => exact h2 rfl
      | true =>
        have o := h1 rfl (fun σ S => ∃ m, m < n ∧ I m σ S) (fun m _ _ h1 h2 => ⟨m, h1, h2⟩)
        have go : ∀ m, m < n → ∀ σ S, I m σ S → Out (mWhile t b n σ S) p := fun m hm σ S hi => by
          have o2 := ih m hm σ S hi
          rw [mWhile_le (n := m + 1) (m := n) (fun z => by rw [z] at o2; exact o2) hm]
          exact o2
        exact out_then (Out.mono o (fun σ S ⟨m, hm, hi⟩ => go m hm σ S hi) (fun _ _ h => h) (fun _ _ h => h) (fun σ S ⟨m, hm, hi⟩ => go m hm σ S hi) (fun _ _ _ _ h => h))
  have o := main n σ S h
  rw [mW_of (n := n + 1) (fun z => by rw [z] at o; exact o)]
  exact o
theorem comp_pure {α : Type} {S : Sto} {src : List Nat} {pair : Bool} {t : Tgt} {wσ : Sl} {c : M Bool} {e : M D} (f : α → D) (cb : α → Bool) (v : α → D) : ∀ (xs : List α) (acc : List D),
    (∀ a ∈ xs, ∃ ys, t.st pair (f a) = some ys ∧ c (setAll wσ t.slots ys) S = .ok (cb a) S ∧ (cb a = true → e (setAll wσ t.slots ys) S = .ok (v a) S)) → acc.length + xs.length ≤ LIM → compL S src pair t wσ c e (xs.map f) acc S = .ok (acc ++ (xs.filter cb).map v) S
  | [], acc, _, _ => by
    show compL S src pair t wσ c e [] acc S = _
    unfold compL
    rw [if_pos (show Gd S src S from fun n _ => rfl)]
    simp
  | a :: xs, acc, h, hl => by
    obtain ⟨ys, e1, e2, e3⟩ := h a (List.mem_cons_self ..)
    have ih := fun acc' => comp_pure (src := src) f cb v xs acc' (fun a h' => h a (List.mem_cons_of_mem _ h'))
    show compL S src pair t wσ c e (f a :: xs.map f) acc S = _
    unfold compL
    rw [if_pos (show Gd S src S from fun n _ => rfl), e1]
    simp only [e2]
    rw [List.length_cons] at hl
    cases hc : cb a with
    | false =>
      simp only [Bool.false_eq_true, if_false]
      rw [ih acc (by omega), List.filter_cons_of_neg (by rw [hc]; exact Bool.false_ne_true)]
    | true =>
      simp only [if_true, e3 hc]
      rw [if_pos (by omega), ih (acc ++ [v a]) (by rw [List.length_append, List.length_singleton]; omega), List.filter_cons_of_pos hc]
      simp
theorem comp_all {α : Type} {S : Sto} {src : List Nat} {pair : Bool} {t : Tgt} {wσ : Sl} {e : M D} (f : α → D) (v : α → D) (xs : List α)
    (h : ∀ a ∈ xs, ∃ ys, t.st pair (f a) = some ys ∧ e (setAll wσ t.slots ys) S = .ok (v a) S) (hl : xs.length ≤ LIM) : compL S src pair t wσ (fun _ S => .ok true S) e (xs.map f) [] S = .ok (xs.map v) S := by
  have := comp_pure (S := S) (src := src) (pair := pair) (t := t) (wσ := wσ) (c := fun _ S => .ok true S) (e := e) f (fun _ => true) v xs [] (fun a ha => by
    obtain ⟨ys, e1, e2⟩ := h a ha
    exact ⟨ys, e1, rfl, fun _ => e2⟩) (by simpa using hl)
  rw [List.filter_eq_self.mpr (fun _ _ => rfl)] at this
  simpa using this
/-- with draws -/
theorem out_comp {S0 : Sto} {src : List Nat} {pair : Bool} {t : Tgt} {wσ : Sl} {c : M Bool} {e : M D} {Q : List D → Sto → Prop} (P : Nat → List D → Sto → Prop) {items : List D}
    (hs : ∀ k d acc S, items[k]? = some d → P k acc S → Gd S0 src S ∧ ∃ xs, t.st pair d = some xs ∧ ∃ b S1, c (setAll wσ t.slots xs) S = .ok b S1 ∧ (b = true → acc.length < LIM ∧ ∃ x S2, e (setAll wσ t.slots xs) S1 = .ok x S2 ∧ P (k + 1) (acc ++ [x]) S2) ∧ (b = false → P (k + 1) acc S1))
    (he : ∀ acc S, P items.length acc S → Gd S0 src S ∧ Q acc S) {acc : List D} {S : Sto} (h0 : P 0 acc S) : ∃ ds S', compL S0 src pair t wσ c e items acc S = .ok ds S' ∧ Q ds S' := by
  induction items generalizing P acc S with
  | nil =>
    obtain ⟨g, n⟩ := he acc S h0
    unfold compL
    rw [if_pos g]
    exact ⟨_, _, rfl, n⟩
  | cons d ds ih =>
    obtain ⟨g, xs, e1, b, S1, e2, h1, h2⟩ := hs 0 d acc S rfl h0
    unfold compL
    rw [if_pos g, e1]
    simp only [e2]
    cases b with
    | false =>
      simp only [Bool.false_eq_true, if_false]
      exact ih (fun k => P (k + 1)) (fun k d acc S e h => hs (k + 1) d acc S (by simpa using e) h) (fun acc S h => he acc S h) (h2 rfl)
    | true =>
      obtain ⟨l, x, S2, e3, h3⟩ := h1 rfl
      simp only [if_true, e3]
      rw [if_pos l]
      exact ih (fun k => P (k + 1)) (fun k d acc S e h => hs (k + 1) d acc S (by simpa using e) h) (fun acc S h => he acc S h) h3
/-- what a def hands back -/
def FinP (S : Sto) (Q : D → Sto → Prop) (d : D) (S' : Sto) : Prop := ∃ d' S2, fin S S' d = .ok d' S2 ∧ Q d' S2
theorem fun_out {slots n : Nat} {m : MS} {ds : List D} {S : Sto} {Q : D → Sto → Prop} (hl : ds.length = n)
    (h : ∀ F : D → Sto → Prop, (∀ d S', FinP S Q d S' → F d S') → Out (m (ds ++ List.replicate (slots - n) .dead) S) { N := fun _ S' => F .non S', R := F }) : ∃ d S2, mFun slots n m ds S = .ok d S2 ∧ Q d S2 := by
  have h := h (FinP S Q) fun _ _ h => h
  unfold mFun
  rw [if_pos hl]
  revert h
  cases m (ds ++ List.replicate (slots - n) .dead) S with
  | nx σ S' => exact fun h => h
  | rt d S' => exact fun h => h
  | _ => exact fun h => h.elim
theorem fun_eq {slots n : Nat} {m : MS} {ds : List D} {S : Sto} {v : D} (hl : ds.length = n)
    (h : ∀ F : D → Sto → Prop, (∀ d S', FinP S (fun d S2 => d = v ∧ S2 = S) d S' → F d S') → Out (m (ds ++ List.replicate (slots - n) .dead) S) { N := fun _ S' => F .non S', R := F }) : mFun slots n m ds S = .ok v S := by
  obtain ⟨d, S2, e, rfl, rfl⟩ := fun_out hl h
  exact e
theorem funK_out {slots n : Nat} {m : MS} {ds : List D} {S : Sto} {Q : D → Sto → Prop} (hl : ds.length = n)
    (h : ∀ F : D → Sto → Prop, (∀ d S', Q d S' → F d S') → Out (m (ds ++ List.replicate (slots - n) .dead) S) { N := fun _ S' => F .non S', R := F }) : ∃ d S2, mFunK slots n m ds S = .ok d S2 ∧ Q d S2 := by
  have h := h Q fun _ _ h => h
  unfold mFunK
  rw [if_pos hl]
  revert h
  cases m (ds ++ List.replicate (slots - n) .dead) S with
  | nx σ S' => exact fun h => ⟨_, _, rfl, h⟩
  | rt d S' => exact fun h => ⟨_, _, rfl, h⟩
  | _ => exact fun h => h.elim
theorem okSt_app (S T : Sto) : OkSt S (S ++ T) := ⟨by rw [List.length_append]; omega, fun k o hk e => .inl (by rw [List.getElem?_append_left hk] at e; exact e)⟩
theorem okSt_refl (S : Sto) : OkSt S S := ⟨Nat.le_refl _, fun k o hk e => .inl e⟩
theorem fz_cl {n : Nat} {S : Sto} {k : Nat} {d : D} (h : cl n d = true) : fz n S k d = some d := by
  cases k <;> (unfold fz; rw [if_pos h])
theorem fin_app {S T : Sto} {d d' : D} (h : fz S.length (S ++ T) 4 d = some d') : fin S (S ++ T) d = .ok d' S := by
  unfold fin
  rw [if_pos (okSt_app S T), h]
  simp
theorem fin_same {S T : Sto} {d : D} (h : cl S.length d = true) : fin S (S ++ T) d = .ok d S := fin_app (fz_cl h)
theorem fin_self {S : Sto} {d : D} (h : cl S.length d = true) : fin S S d = .ok d S := by
  have := fin_same (S := S) (T := []) h
  rwa [List.append_nil] at this
theorem finP_app {S T : Sto} {d d' : D} {Q : D → Sto → Prop} (h : fz S.length (S ++ T) 4 d = some d') (q : Q d' S) : FinP S Q d (S ++ T) := ⟨_, _, fin_app h, q⟩
theorem finP_same {S T : Sto} {d : D} {Q : D → Sto → Prop} (h : cl S.length d = true) (q : Q d S) : FinP S Q d (S ++ T) := ⟨_, _, fin_same h, q⟩
theorem finP_self {S : Sto} {d : D} {Q : D → Sto → Prop} (h : cl S.length d = true) (q : Q d S) : FinP S Q d S := ⟨_, _, fin_self h, q⟩
@[simp] theorem cl_int (n : Nat) (i : Int) : cl n (.int i) = true := rfl
@[simp] theorem cl_bl (n : Nat) (i : Bool) : cl n (.bl i) = true := rfl
@[simp] theorem cl_non (n : Nat) : cl n .non = true := rfl
@[simp] theorem cl_str (n : Nat) (s : Str) : cl n (.str s) = true := rfl
@[simp] theorem cl_tup (n : Nat) (ds : List D) : cl n (.tup ds) = cll n ds := by unfold cl; rfl
@[simp] theorem cl_lst (n : Nat) (ds : List D) : cl n (.lst ds) = cll n ds := by unfold cl; rfl
@[simp] theorem cl_ins (n k : Nat) (ns : List Str) (ds : List D) : cl n (.ins k ns ds) = cll n ds := by unfold cl; rfl
@[simp] theorem cl_xc (n : Nat) (a : Addr) (dd : Option Addr) (ns : List Str) (ds : List D) : cl n (.xc a dd ns ds) = cll n ds := by unfold cl; rfl
@[simp] theorem cl_dic (n : Nat) (ks : List Key) (ds : List D) : cl n (.dic ks ds) = cll n ds := by unfold cl; rfl
@[simp] theorem cl_ref (n m : Nat) : cl n (.ref m) = decide (m < n) := by unfold cl; rfl
@[simp] theorem cll_nil (n : Nat) : cll n [] = true := by unfold cll; rfl
@[simp] theorem cll_cons (n : Nat) (d : D) (ds : List D) : cll n (d :: ds) = (cl n d && cll n ds) := by rw [cll]
theorem cll_all (n : Nat) (ds : List D) : cll n ds = ds.all (cl n) := by
  induction ds with
  | nil => simp
  | cons d ds ih => simp [ih]
theorem cll_map {α : Type} (n : Nat) (f : α → D) (xs : List α) (h : ∀ a ∈ xs, cl n (f a) = true) : cll n (xs.map f) = true := by
  rw [cll_all, List.all_eq_true]
  intro d hd
  obtain ⟨a, ha, rfl⟩ := List.mem_map.mp hd
  exact h a ha
@[simp] theorem cll_append (n : Nat) (xs ys : List D) : cll n (xs ++ ys) = (cll n xs && cll n ys) := by simp [cll_all]
theorem fz_lst {n m k : Nat} {S : Sto} {ds : List D} (hm : n ≤ m) (e : S[m]? = some (.lst ds)) (h : cll n ds = true) : fz n S (k + 1) (.ref m) = some (.lst ds) := by
  unfold fz
  rw [if_neg (by simp; omega)]
  simp only [e]
  have : optAll (fz n S k) ds = some ds := by
    clear e
    induction ds with
    | nil => rfl
    | cons d ds ih =>
      rw [cll_cons, Bool.and_eq_true] at h
      unfold optAll
      rw [fz_cl h.1]
      simp only [ih h.2]
      rfl
  rw [this]
  rfl
theorem enumD_map {α : Type} (f : α → D) : ∀ (xs : List α) (k : Nat), enumD (k : Int) (xs.map f) = (xs.zipIdx k).map fun p => .tup [.int (p.2 : Nat), f p.1]
  | [], k => rfl
  | a :: xs, k => by
    have := enumD_map f xs (k + 1)
    show D.tup [.int (k : Int), f a] :: enumD ((k : Int) + 1) (xs.map f) = _
    rw [show ((k : Int) + 1) = ((k + 1 : Nat) : Int) by omega, this]
    rfl
theorem zipD_map {α β : Type} (f : α → D) (g : β → D) : ∀ (xs : List α) (ys : List β), zipD (xs.map f) (ys.map g) = (xs.zip ys).map fun p => .tup [f p.1, g p.2]
  | [], ys => by cases ys <;> rfl
  | a :: xs, [] => rfl
  | a :: xs, b :: ys => by
    show D.tup [f a, g b] :: zipD (xs.map f) (ys.map g) = _
    rw [zipD_map f g xs ys]
    rfl
theorem rgD_nat (n : Nat) : rgD 0 (n : Int) = (List.range n).map fun i : Nat => D.int (i : Int) := by
  unfold rgD
  rw [Int.sub_zero, Int.toNat_natCast]
  congr 1
  funext i
  rw [Int.zero_add]
theorem rgD_nat2 (m n : Nat) : rgD (m : Int) (n : Int) = (List.range' m (n - m)).map fun i => .int (i : Nat) := by
  unfold rgD
  rw [show ((n : Int) - (m : Int)).toNat = n - m by omega, List.range'_eq_map_range, List.map_map]
  congr 1
theorem okRg_nat {m n : Nat} (h : m ≤ 100000) (h2 : n ≤ 100000) : okRg ((m : Int), (n : Int)) = true := by
  unfold okRg
  simp only [Bool.and_eq_true, decide_eq_true_eq]
  omega
theorem okRg_0 {n : Nat} (h2 : n ≤ 100000) : okRg ((0 : Int), (n : Int)) = true := okRg_nat (m := 0) (by omega) h2
@[simp high] theorem sto_get0 {x : Ob} {S T : Sto} : (S ++ x :: T)[S.length]? = some x := by simp
@[simp high] theorem sto_get1 {x y : Ob} {S T : Sto} : (S ++ x :: y :: T)[S.length + 1]? = some y := by simp
@[simp high] theorem sto_get2 {x y z : Ob} {S T : Sto} : (S ++ x :: y :: z :: T)[S.length + 2]? = some z := by simp
@[simp high] theorem sto_set0 {x o : Ob} {S T : Sto} : (S ++ x :: T).set S.length o = S ++ o :: T := by simp
@[simp high] theorem sto_set1 {x y o : Ob} {S T : Sto} : (S ++ x :: y :: T).set (S.length + 1) o = S ++ x :: o :: T := by
  rw [List.set_append_right _ _ (by omega)]
  simp
@[simp high] theorem sto_set2 {x y z o : Ob} {S T : Sto} : (S ++ x :: y :: z :: T).set (S.length + 2) o = S ++ x :: y :: o :: T := by
  rw [List.set_append_right _ _ (by omega)]
  simp
theorem atI_nat' {α : Type} {xs : List α} {n : Nat} : atI xs (n : Int) = xs[n]? := by
  unfold atI ixN
  rw [if_pos (by omega)]
  by_cases h : n < xs.length
  · rw [if_pos (by omega)]
    simp
  · rw [if_neg (by omega), List.getElem?_eq_none (by omega)]
    rfl
end DL

namespace DL
open PySem L2
section
variable {α : Type} {σ : Sl} {S : Sto} {p : Po}
def rB {α β : Type} (r : R α) (f : α → M β) (σ : Sl) : R β := match r with
  | .ok x S1 => f x σ S1
  | .exc k ns ds S1 => .exc k ns ds S1
  | .bad => .bad
def rBS {α : Type} (r : R α) (f : α → MS) (σ : Sl) : RS := match r with
  | .ok x S1 => f x σ S1
  | .exc k ns ds S1 => .exc k ns ds σ S1
  | .bad => .bad
def rFz (r : R (List D)) : R D := match r with
  | .ok ds S1 => .ok (.lst ds) S1
  | .exc k ns ds S1 => .exc k ns ds S1
  | .bad => .bad
def rLoc (r : R (List D)) : R D := match r with
  | .ok ds S1 => .ok (.ref S1.length) (S1 ++ [.lst ds])
  | .exc k ns ds S1 => .exc k ns ds S1
  | .bad => .bad
noncomputable def rFr (S : Sto) (r : R D) : R D := match r with
  | .ok d S1 => fin S S1 d
  | .exc k ns ds S1 => finX S S1 k ns ds
  | .bad => .bad
def rNew (n : Nat) (r : R D) : R D := match r with
  | .ok d S' => (match d with | .non => .ok (.ref n) S' | _ => .bad)
  | .exc k ns es S' => .exc k ns es S'
  | .bad => .bad
def rPr (r : R D) : R D := match r with
  | .ok d S' => .ok d S'
  | _ => .bad
def oB {α β : Type} (o : Option α) (f : α → R β) : R β := match o with
  | some x => f x
  | none => .bad
def oBS {α : Type} (o : Option α) (f : α → RS) : RS := match o with
  | some x => f x
  | none => .bad
def flats (ds : List D) : Bool := ds.all flatD
def lO (o : Option Ob) : Option (List D) := match o with
  | some (.lst ds) => some ds
  | _ => none
def iO (o : Option Ob) : Option (Nat × List Str × List D) := match o with
  | some (.ins k ns ds) => some (k, ns, ds)
  | _ => none
def tO (o : Option Ob) : Option Ty := match o with
  | some (.lst _) => some .list
  | some (.dic _ _) => some .dict
  | _ => Option.none
/-- what follows -/
def Ka (b : MS) (p : Po) : Sl → Sto → Prop := fun σ S => Out (b σ S) p
@[simp] theorem ka_ap (b : MS) (p : Po) : Ka b p σ S = Out (b σ S) p := rfl
@[simp] theorem rB_ok {α β : Type} (x : α) (f : α → M β) : rB (.ok x S) f σ = f x σ S := rfl
@[simp] theorem rB_bad {α β : Type} (f : α → M β) : rB .bad f σ = .bad := rfl
@[simp] theorem rB_exc {α β : Type} (k : Nat) (ns : List Str) (ds : List D) (f : α → M β) : rB (.exc k ns ds S) f σ = .exc k ns ds S := rfl
@[simp] theorem rBS_ok {α : Type} (x : α) (f : α → MS) : rBS (.ok x S) f σ = f x σ S := rfl
@[simp] theorem rBS_bad {α : Type} (f : α → MS) : rBS .bad f σ = .bad := rfl
@[simp] theorem rBS_exc {α : Type} (k : Nat) (ns : List Str) (ds : List D) (f : α → MS) : rBS (.exc k ns ds S) f σ = .exc k ns ds σ S := rfl
@[simp] theorem rFz_ok (x : List D) : rFz (.ok x S) = .ok (.lst x) S := rfl
@[simp] theorem rLoc_ok (x : List D) : rLoc (.ok x S) = .ok (.ref S.length) (S ++ [.lst x]) := rfl
@[simp] theorem rFr_ok (S0 : Sto) (x : D) : rFr S0 (.ok x S) = fin S0 S x := rfl
@[simp] theorem rFr_exc (S0 : Sto) (k : Nat) (ns : List Str) (ds : List D) : rFr S0 (.exc k ns ds S) = finX S0 S k ns ds := rfl
@[simp] theorem rNew_ok (n : Nat) : rNew n (.ok .non S) = .ok (.ref n) S := rfl
@[simp] theorem rNew_exc (n k : Nat) (ns : List Str) (ds : List D) : rNew n (.exc k ns ds S) = .exc k ns ds S := rfl
@[simp] theorem rPr_ok (x : D) : rPr (.ok x S) = .ok x S := rfl
@[simp] theorem oB_some {α β : Type} (x : α) (f : α → R β) : oB (some x) f = f x := rfl
@[simp] theorem oB_none {α β : Type} (f : α → R β) : oB none f = .bad := rfl
@[simp] theorem oBS_some {α : Type} (x : α) (f : α → RS) : oBS (some x) f = f x := rfl
@[simp] theorem lO_lst (ds : List D) : lO (some (.lst ds)) = some ds := rfl
@[simp] theorem iO_ins (k : Nat) (ns : List Str) (ds : List D) : iO (some (.ins k ns ds)) = some (k, ns, ds) := rfl
@[simp] theorem lO_ins (k : Nat) (ns : List Str) (ds : List D) : lO (some (.ins k ns ds)) = none := rfl
@[simp] theorem tO_lst (ds : List D) : tO (some (.lst ds)) = some .list := rfl
@[simp] theorem tO_dic (ks : List Key) (ds : List D) : tO (some (.dic ks ds)) = some .dict := rfl
@[simp] theorem ev_B {α β : Type} (a : M α) (f : α → M β) : mB a f σ S = rB (a σ S) f σ := rfl
@[simp] theorem ev_BS {α : Type} (a : M α) (f : α → MS) : mBS a f σ S = rBS (a σ S) f σ := rfl
set_option smartUnfolding false
@[simp] theorem ev_var (i : Nat) : mVar i σ S = oB σ[i]? fun d => if live d then .ok d S else .bad := by rfl
@[simp] theorem ev_C (d : D) : mC d σ S = .ok d S := rfl
@[simp] theorem ev_op (f : D → D → Sto → R D) (a b : M D) : mOp f a b σ S = mB a (fun x => mB b fun y => fun _ S => f x y S) σ S := rfl
@[simp] theorem ev_opN (f : D → D → Sto → R (List D)) (a b : M D) : mOpN f a b σ S = mB a (fun x => mB b fun y => fun _ S => f x y S) σ S := rfl
@[simp] theorem ev_un (f : D → Sto → R D) (a : M D) : mUn f a σ S = mB a (fun x => fun _ S => f x S) σ S := rfl
@[simp] theorem ev_app {α : Type} (f : List D → Sto → R α) (m : M (List D)) : mApp f m σ S = mB m (fun ds => fun _ S => f ds S) σ S := rfl
@[simp] theorem ev_nil : mNil σ S = .ok [] S := rfl
@[simp] theorem ev_cons (a : M D) (r : M (List D)) : mCons a r σ S = mB a (fun x => mB r fun xs => fun _ S => .ok (x :: xs) S) σ S := rfl
@[simp] theorem ev_tup (m : M (List D)) : mTup m σ S = mB m (fun ds => fun _ S => if ds.length ≤ LIM then .ok (.tup ds) S else .bad) σ S := rfl
@[simp] theorem ev_lst (m : M (List D)) : mLst m σ S = mB m (fun ds => fun _ S => if ds.length ≤ LIM then .ok ds S else .bad) σ S := rfl
@[simp] theorem ev_fz (m : M (List D)) : mFz m σ S = rFz (m σ S) := rfl
@[simp] theorem ev_loc (m : M (List D)) : mLoc m σ S = rLoc (m σ S) := rfl
@[simp] theorem ev_test (m : M D) : mTest m σ S = mB m (fun d => fun _ S => match d with | .bl b => .ok b S | _ => .bad) σ S := rfl
@[simp] theorem ev_notT (m : M Bool) : mNotT m σ S = mB m (fun b => fun _ S => .ok (!b) S) σ S := rfl
@[simp] theorem ev_andT (a b : M Bool) : mAndT a b σ S = mB a (fun c => if c = true then b else fun _ S => .ok false S) σ S := rfl
@[simp] theorem ev_orT (a b : M Bool) : mOrT a b σ S = mB a (fun c => if c = true then fun _ S => .ok true S else b) σ S := rfl
@[simp] theorem ev_and (a b : M D) : mAnd a b σ S = mB (mTest a) (fun c => if c = true then b else fun _ S => .ok (.bl false) S) σ S := rfl
@[simp] theorem ev_or (a b : M D) : mOr a b σ S = mB (mTest a) (fun c => if c = true then fun _ S => .ok (.bl true) S else b) σ S := rfl
@[simp] theorem ev_not (a : M D) : mNot a σ S = mB (mTest a) (fun c => fun _ S => .ok (.bl (!c)) S) σ S := rfl
@[simp] theorem ev_if {α : Type} (t : M Bool) (a b : M α) : mIf t a b σ S = mB t (fun c => if c = true then a else b) σ S := rfl
@[simp] theorem ev_chain (f f' : D → D → Sto → R D) (a b c : M D) : mChain f f' a b c σ S = mB a (fun x => mB b fun y => mB (mTest fun _ S => f x y S) fun k => if k = true then mB c fun z => fun _ S => f' y z S else fun _ S => .ok (.bl false) S) σ S := rfl
@[simp] theorem ev_set (i : Nat) (m : M D) : mSet i m σ S = mBS m (fun d => fun σd S => .nx (σd.set i d) S) σ S := rfl
@[simp] theorem ev_par (is : List Nat) (m : M (List D)) : mPar is m σ S = mBS m (fun ds => fun σd S => if ds.length = is.length then .nx (setAll σd is ds) S else .bad) σ S := rfl
@[simp] theorem ev_asg (t : Tgt) (m : M D) : mAsg t m σ S = mBS m (fun d => fun σd S => oBS (t.ds d) fun ds => .nx (setAll σd t.slots ds) S) σ S := by rfl
@[simp] theorem ev_ret (m : M D) : mRet m σ S = mBS m (fun d => fun _ S => .rt d S) σ S := rfl
@[simp] theorem ev_drop (m : M D) : mDrop m σ S = mBS m (fun _ => mPass) σ S := rfl
@[simp] theorem ev_pass : mPass σ S = .nx σ S := rfl
@[simp] theorem ev_brk : mBrk σ S = .bk σ S := rfl
@[simp] theorem ev_cnt : mCnt σ S = .ct σ S := rfl
@[simp] theorem ev_ifS (t : M Bool) (a b : MS) : mIfS t a b σ S = mBS t (fun c => if c = true then a else b) σ S := rfl
@[simp] theorem ev_for (m : M Its) (t : Tgt) (b : MS) : mFor m t b σ S = mBS m (fun it => fun σd S => forL S it.src it.pair t b it.items σd S) σ S := rfl
@[simp] theorem ev_seqI (m : M D) : mSeqI m σ S = mB m (fun d => fun _ S => oB (itsOf S d) fun ds => .ok ⟨ds, srcOf d, false⟩ S) σ S := by rfl
@[simp] theorem ev_rgI (m : M (List D)) : mRgI m σ S = mB m (fun ds => fun _ S => match ds with | [.int n] => if okRg (0, n) then .ok ⟨rgD 0 n, [], false⟩ S else .bad | _ => .bad) σ S := rfl
@[simp] theorem ev_rgI2 (m : M (List D)) : mRgI2 m σ S = mB m (fun ds => fun _ S => match ds with | [.int i, .int n] => if okRg (i, n) then .ok ⟨rgD i n, [], false⟩ S else .bad | _ => .bad) σ S := rfl
@[simp] theorem ev_enum (m : M (List D)) : mEnum m σ S = mB m (fun ds => fun _ S => match ds with | [d] => oB (itsOf S d) fun xs => .ok ⟨enumD 0 xs, srcOf d, true⟩ S | _ => .bad) σ S := by rfl
@[simp] theorem ev_zip (m : M (List D)) : mZip m σ S = mB m (fun ds => fun _ S => match ds with | [d, e] => oB (itsOf S d) fun xs => oB (itsOf S e) fun ys => .ok ⟨zipD xs ys, srcOf d ++ srcOf e, true⟩ S | _ => .bad) σ S := by rfl
@[simp] theorem ev_comp (m : M Its) (t : Tgt) (vs : List Nat) (c : M Bool) (e : M D) : mComp m t vs c e σ S = mB m (fun it => fun σd S => compL S it.src it.pair t (wipeD σd vs) c e it.items [] S) σ S := rfl
@[simp] theorem ev_sl (m : M D) (l h : M (Option Int)) : mSl m l h σ S = mB m (fun x => mB l fun lo => mB h fun hi => fun _ S => fSl x lo hi S) σ S := rfl
@[simp] theorem ev_slL (m : M D) (l h : M (Option Int)) : mSlL m l h σ S = mB m (fun x => mB l fun lo => mB h fun hi => fun _ S => oB (lstOf S x) fun ds => .ok (cutD ds lo hi) S) σ S := by rfl
@[simp] theorem ev_noPart : mNoPart σ S = .ok none S := rfl
@[simp] theorem ev_part (m : M D) : mPart m σ S = mB m (fun d => fun _ S => match d with | .int i => .ok (some i) S | _ => .bad) σ S := rfl
@[simp] theorem ev_meth (f : D → List D → Sto → R D) (o : M D) (m : M (List D)) : mMeth f o m σ S = mB o (fun x => fun σd S => oB (lstOf S x) fun _ => mB m (fun ds => fun _ S' => f x ds S') σd S) σ S := by rfl
@[simp] theorem ev_count (o m : M D) : mCount o m σ S = mB o (fun x => fun σd S => oB (tupOf x) fun _ => mB m (fun y => fun _ S' => fCount x y S') σd S) σ S := by rfl
@[simp] theorem ev_setIx (o i v : M D) : mSetIx o i v σ S = mBS v (fun z => mBS o fun x => mBS i fun y => fSetIx x y z) σ S := rfl
@[simp] theorem ev_augIx (o i : M D) (f : D → D → Sto → R D) (m : M D) : mAugIx o i f m σ S = mBS o (fun x => mBS i fun y => mBS (fun _ S => fIxL x y S) fun old => mBS m fun z => mBS (fun _ S => f old z S) fun new => fSetIx x y new) σ S := rfl
@[simp] theorem ev_aug (i : Nat) (f : D → D → Sto → R D) (m : M D) : mAug i f m σ S = mBS (mVar i) (fun x => mBS m fun y => mBS (fun _ S => f x y S) fun z => fun σd S => .nx (σd.set i z) S) σ S := rfl
@[simp] theorem ev_isi (t : Ty) (m : M D) : mIsi t m σ S = mB m (fun d => fun _ S => oB (tyOf S d) fun a => .ok (.bl (isT a t)) S) σ S := by rfl
@[simp] theorem ev_isi2 (t u : Ty) (m : M D) : mIsi2 t u m σ S = mB m (fun d => fun _ S => oB (tyOf S d) fun a => .ok (.bl (isT a t || isT a u)) S) σ S := by rfl
@[simp] theorem ev_fld (k : Nat) (f : Str) (m : M D) : mFld k f m σ S = mB m (fun x => fun _ S => oB (insOf S x) fun q => if q.1 = k then oB (fldD f q.2.1 q.2.2) fun d => .ok d S else .bad) σ S := by rfl
@[simp] theorem ev_setFld (k : Nat) (f : Str) (mo mv : M D) : mSetFld k f mo mv σ S = mBS mv (fun y => mBS mo fun x => fun σd S => match x with | .ref n => oBS (iO S[n]?) fun q => if q.1 = k ∧ q.2.1.length < 100 then .nx σd (S.set n (.ins k (putN f q.2.1) (putX f y q.2.1 q.2.2))) else .bad | _ => .bad) σ S := by
  show mBS mv (fun y => mBS mo fun x => fun σd S => match x with
    | .ref n => match S[n]? with
      | some (.ins k' ns ds) => if k' = k ∧ ns.length < 100 then .nx σd (S.set n (.ins k (putN f ns) (putX f y ns ds))) else .bad
      | _ => .bad
    | _ => .bad) σ S = _
  congr 1
  funext y
  congr 1
  funext x σd S
  cases x with
  | ref n =>
    simp only
    cases S[n]? with
    | none => rfl
    | some o => cases o <;> rfl
  | _ => rfl
@[simp] theorem ev_new (k : Nat) (fn : List D → Sto → R D) (m : M (List D)) : mNew k fn m σ S = mB m (fun ds => fun _ S => rNew S.length (fn (.ref S.length :: ds) (S ++ [.ins k [] []]))) σ S := rfl
@[simp] theorem ev_fr (m : M D) : mFr m σ S = rFr S (m σ S) := rfl
@[simp] theorem ev_prop (k : Nat) (fn : List D → Sto → R D) (m : M D) : mProp k fn m σ S = mB m (fun x => fun _ S => oB (insOf S x) fun q => if q.1 = k then rPr (fn [x] S) else .bad) σ S := by rfl
@[simp] theorem ev_lstRg (m : M (Int × Int)) : mLstRg m σ S = mB m (fun r => fun _ S => if okRg r then .ok (rgD r.1 r.2) S else .bad) σ S := rfl
@[simp] theorem ev_tupRg (m : M (Int × Int)) : mTupRg m σ S = mB m (fun r => fun _ S => if okRg r then .ok (.tup (rgD r.1 r.2)) S else .bad) σ S := rfl
@[simp] theorem ev_rg1 (m : M D) : mRg1 m σ S = mB m (fun d => fun _ S => match d with | .int n => .ok ((0 : Int), n) S | _ => .bad) σ S := rfl
@[simp] theorem ev_rg2 (m n : M D) : mRg2 m n σ S = mB m (fun d => mB n fun e => fun _ S => match d, e with | .int i, .int j => .ok (i, j) S | _, _ => .bad) σ S := rfl
def rSeq (r : RS) (b : MS) : RS := match r with
  | .nx σ1 S1 => b σ1 S1
  | r => r
@[simp] theorem ev_seq (a b : MS) : mSeq a b σ S = rSeq (a σ S) b := rfl
@[simp] theorem rSeq_nx (b : MS) : rSeq (.nx σ S) b = b σ S := rfl
@[simp] theorem rSeq_rt (b : MS) (d : D) : rSeq (.rt d S) b = .rt d S := rfl
@[simp] theorem rSeq_bk (b : MS) : rSeq (.bk σ S) b = .bk σ S := rfl
@[simp] theorem rSeq_ct (b : MS) : rSeq (.ct σ S) b = .ct σ S := rfl
@[simp] theorem rSeq_exc (b : MS) (k : Nat) (ns : List Str) (ds : List D) : rSeq (.exc k ns ds σ S) b = .exc k ns ds σ S := rfl
@[simp] theorem out_rSeq (r : RS) (b : MS) : Out (rSeq r b) p = Out r { p with N := Ka b p } := by
  cases r <;> rfl
@[simp] theorem live_int (i : Int) : live (.int i) = true := rfl
@[simp] theorem live_bl (i : Bool) : live (.bl i) = true := rfl
@[simp] theorem live_non : live .non = true := rfl
@[simp] theorem live_str (s : Str) : live (.str s) = true := rfl
@[simp] theorem live_tup (s : List D) : live (.tup s) = true := rfl
@[simp] theorem live_lst (s : List D) : live (.lst s) = true := rfl
@[simp] theorem live_ref (s : Nat) : live (.ref s) = true := rfl
@[simp] theorem live_scr (s : List Int) : live (.scr s) = true := rfl
@[simp] theorem live_ins (k : Nat) (ns : List Str) (ds : List D) : live (.ins k ns ds) = true := rfl
@[simp] theorem live_dic (ns : List Key) (ds : List D) : live (.dic ns ds) = true := rfl
@[simp] theorem v_setAll0 (is : List Nat) : setAll σ is [] = σ := by cases is <;> rfl
@[simp] theorem v_setAll00 (ds : List D) : setAll σ [] ds = σ := rfl
@[simp] theorem v_setAll1 (i : Nat) (is : List Nat) (d : D) (ds : List D) : setAll σ (i :: is) (d :: ds) = setAll (σ.set i d) is ds := rfl
@[simp] theorem v_slots1 (i : Nat) : (Tgt.nm i).slots = [i] := rfl
@[simp] theorem v_slots2 (is : List Nat) : (Tgt.tp is).slots = is := rfl
@[simp] theorem v_ds1 (i : Nat) (d : D) : (Tgt.nm i).ds d = some [d] := rfl
@[simp] theorem v_ds2 (is : List Nat) (ds : List D) : (Tgt.tp is).ds (.tup ds) = if ds.length = is.length then some ds else none := rfl
@[simp] theorem v_st1 (i : Nat) (d : D) : (Tgt.nm i).st false d = some [d] := rfl
@[simp] theorem v_st2 (is : List Nat) (ds : List D) (b : Bool) : (Tgt.tp is).st b (.tup ds) = if ds.length = is.length then some ds else none := rfl
@[simp] theorem v_lst1 (ds : List D) : lstOf S (.lst ds) = some ds := by rfl
@[simp] theorem v_lst2 (n : Nat) : lstOf S (.ref n) = lO S[n]? := by rfl
@[simp] theorem v_lst3 (ds : List D) : lstOf S (.tup ds) = none := by rfl
@[simp] theorem v_tup1 (ds : List D) : tupOf (.tup ds) = some ds := rfl
@[simp] theorem v_tup2 (ds : List D) : tupOf (.lst ds) = none := rfl
@[simp] theorem v_tup3 (n : Nat) : tupOf (.ref n) = none := rfl
@[simp] theorem v_seq1 (ds : List D) : seqOf S (.tup ds) = some ds := rfl
@[simp] theorem v_seq2 (ds : List D) : seqOf S (.lst ds) = some ds := rfl
@[simp] theorem v_seq3 (n : Nat) : seqOf S (.ref n) = lO S[n]? := by rfl
@[simp] theorem v_its1 (ds : List D) : itsOf S (.tup ds) = some ds := rfl
@[simp] theorem v_its2 (ds : List D) : itsOf S (.lst ds) = some ds := rfl
@[simp] theorem v_its3 (n : Nat) : itsOf S (.ref n) = lO S[n]? := by rfl
@[simp] theorem v_its4 (ns : List Int) : itsOf S (.scr ns) = some (ns.map .int) := rfl
@[simp] theorem v_src1 (ds : List D) : srcOf (.tup ds) = [] := rfl
@[simp] theorem v_src2 (ds : List D) : srcOf (.lst ds) = [] := rfl
@[simp] theorem v_src3 (n : Nat) : srcOf (.ref n) = [n] := rfl
@[simp] theorem v_src4 (ns : List Int) : srcOf (.scr ns) = [] := rfl
@[simp] theorem gd_nil {S0 : Sto} : Gd S0 [] S = True := by simp [Gd]
@[simp] theorem gd_self {src : List Nat} : Gd S src S = True := by simp [Gd]
theorem gd_one {S0 : Sto} {n : Nat} : Gd S0 [n] S = (S[n]? = S0[n]?) := by simp [Gd]
@[simp] theorem v_add1 (i j : Int) : fAdd (.int i) (.int j) S = .ok (.int (i + j)) S := rfl
@[simp] theorem v_add2 (i j : List D) : fAdd (.tup i) (.tup j) S = if i.length + j.length ≤ LIM then .ok (.tup (i ++ j)) S else .bad := rfl
@[simp] theorem v_add3 (i j : List D) : fAdd (.lst i) (.lst j) S = if i.length + j.length ≤ LIM then .ok (.lst (i ++ j)) S else .bad := rfl
@[simp] theorem v_add4 (n : Nat) (y : D) : fAdd (.ref n) y S = oB (lstOf S (.ref n)) fun i => oB (lstOf S y) fun j => if i.length + j.length ≤ LIM then .ok (.lst (i ++ j)) S else .bad := by rfl
@[simp] theorem v_add5 (n : Nat) (i : List D) : fAdd (.lst i) (.ref n) S = oB (lstOf S (.ref n)) fun j => if i.length + j.length ≤ LIM then .ok (.lst (i ++ j)) S else .bad := by rfl
@[simp] theorem v_add6 (i j : Str) : fAdd (.str i) (.str j) S = if i.length + j.length ≤ LIM then .ok (.str (i ++ j)) S else .bad := rfl
@[simp] theorem v_sub (i j : Int) : fSub (.int i) (.int j) S = .ok (.int (i - j)) S := rfl
@[simp] theorem v_mod (i j : Int) : fMod (.int i) (.int j) S = if 0 < j then .ok (.int (i % j)) S else .bad := rfl
@[simp] theorem v_div (i j : Int) : fDiv (.int i) (.int j) S = if 0 < j ∧ j < 2 ^ 9000 then .ok (.int (i / j)) S else .bad := rfl
@[simp] theorem v_pow (i j : Int) : fPow (.int i) (.int j) S = if 0 ≤ j ∧ j ≤ 1000 ∧ 0 ≤ i ∧ i < 1000 then .ok (.int (i ^ j.toNat)) S else .bad := rfl
@[simp] theorem v_mul (i j : Int) : fMul (.int i) (.int j) S = if okMul i j then .ok (.int (i * j)) S else .bad := rfl
@[simp] theorem v_mulT (ds : List D) (k : Int) : fMul (.tup ds) (.int k) S = if -1000 ≤ k ∧ k ≤ 1000 ∧ ds.length ≤ 1000 then .ok (.tup (repD k ds)) S else .bad := rfl
@[simp] theorem v_mulL (x : D) (k : Int) : fMulL x (.int k) S = oB (lstOf S x) fun ds => if -1000 ≤ k ∧ k ≤ 1000 ∧ ds.length ≤ 100 then .ok (repD k ds) S else .bad := by rfl
@[simp] theorem v_addL (x y : D) : fAddL x y S = oB (lstOf S x) fun i => oB (lstOf S y) fun j => if i.length + j.length ≤ LIM then .ok (i ++ j) S else .bad := by rfl
@[simp] theorem v_neg (i : Int) : fNeg (.int i) S = .ok (.int (-i)) S := rfl
@[simp] theorem v_int (f : Int → Int → D) (i j : Int) : fInt f (.int i) (.int j) S = .ok (f i j) S := rfl
@[simp] theorem v_lt (i j : Int) : fLt0 (.int i) (.int j) S = .ok (.bl (decide (i < j))) S := rfl
@[simp] theorem v_le (i j : Int) : fLe (.int i) (.int j) S = .ok (.bl (decide (i ≤ j))) S := rfl
@[simp] theorem v_gt (i j : Int) : fGt (.int i) (.int j) S = .ok (.bl (decide (j < i))) S := rfl
@[simp] theorem v_ge (i j : Int) : fGe (.int i) (.int j) S = .ok (.bl (decide (j ≤ i))) S := rfl
@[simp] theorem v_isN (x : D) : fIsN x S = .ok (.bl (isNon x)) S := rfl
@[simp] theorem v_notN (x : D) : fNotN x S = .ok (.bl (!isNon x)) S := rfl
@[simp] theorem v_non1 : isNon .non = true := rfl
@[simp] theorem v_non2 (i : Int) : isNon (.int i) = false := rfl
@[simp] theorem v_non3 (i : List D) : isNon (.tup i) = false := rfl
@[simp] theorem v_non4 (i : List D) : isNon (.lst i) = false := rfl
@[simp] theorem v_non5 (i : Bool) : isNon (.bl i) = false := rfl
@[simp] theorem v_non6 (i : Str) : isNon (.str i) = false := rfl
@[simp] theorem v_non7 (k : Nat) (ns : List Str) (ds : List D) : isNon (.ins k ns ds) = false := rfl
@[simp] theorem v_non8 (i : Nat) : isNon (.ref i) = false := rfl
@[simp] theorem v_in (neg : Bool) (x y : D) : fIn neg x y S = oB (seqOf S y) fun ds => if flatD x && flats ds then .ok (.bl (if neg then !inD x ds else inD x ds)) S else .bad := by rfl
@[simp] theorem v_flat (i : Int) : flatD (.int i) = true := rfl
@[simp] theorem v_flat2 : flatD .non = true := rfl
@[simp] theorem v_flat3 (s : Str) : flatD (.str s) = true := rfl
@[simp] theorem v_flat4 (s : Bool) : flatD (.bl s) = true := rfl
@[simp] theorem v_ix (x : D) (i : Int) : fIx x (.int i) S = oB (seqOf S x) fun ds => oB (atI ds i) fun d => .ok d S := by rfl
@[simp] theorem v_ixL (x : D) (i : Int) : fIxL x (.int i) S = oB (lstOf S x) fun ds => oB (atI ds i) fun d => .ok d S := by rfl
@[simp] theorem v_sl1 (ds : List D) (lo hi : Option Int) : fSl (.tup ds) lo hi S = .ok (.tup (cutD ds lo hi)) S := rfl
@[simp] theorem v_sl2 (ds : List D) (lo hi : Option Int) : fSl (.lst ds) lo hi S = .ok (.lst (cutD ds lo hi)) S := rfl
@[simp] theorem v_len1 (xs : List D) : fLen [.tup xs] S = .ok (.int xs.length) S := rfl
@[simp] theorem v_len2 (xs : List D) : fLen [.lst xs] S = .ok (.int xs.length) S := rfl
@[simp] theorem v_len3 (n : Nat) : fLen [.ref n] S = oB (lO S[n]?) fun xs => .ok (.int xs.length) S := by
  rfl
@[simp] theorem v_len4 (x : Str) : fLen [.str x] S = if x.length ≤ LIM then .ok (.int x.length) S else .bad := rfl
@[simp] theorem v_sum (d : D) : fSum [d] S = oB (seqOf S d) fun xs => oB (intsOf xs) fun ns => .ok (.int ns.sum) S := by rfl
@[simp] theorem v_min2 (i j : Int) : fMin [.int i, .int j] S = .ok (.int (if j < i then j else i)) S := rfl
@[simp] theorem v_max2 (i j : Int) : fMax [.int i, .int j] S = .ok (.int (if j > i then j else i)) S := rfl
@[simp] theorem v_abs (i : Int) : fAbs [.int i] S = .ok (.int (if i < 0 then -i else i)) S := rfl
@[simp] theorem v_int1 (i : Int) : fInt1 [.int i] S = .ok (.int i) S := rfl
@[simp] theorem v_int2 (b : Bool) : fInt1 [.bl b] S = .ok (.int (if b then 1 else 0)) S := rfl
@[simp] theorem v_all (d : D) : fAll [d] S = oB (lstOf S d) fun xs => oB (blsOf xs) fun bs => .ok (.bl (bs.all id)) S := by rfl
@[simp] theorem v_any (d : D) : fAny [d] S = oB (lstOf S d) fun xs => oB (blsOf xs) fun bs => .ok (.bl (bs.any id)) S := by rfl
@[simp] theorem v_tuple (d : D) : fTuple [d] S = oB (seqOf S d) fun xs => .ok (.tup xs) S := by rfl
@[simp] theorem v_list1 (ds : List D) : fList [.tup ds] S = .ok ds S := rfl
@[simp] theorem v_list2 (ds : List D) : fList [.lst ds] S = .ok ds S := rfl
@[simp] theorem v_list3 (ns : List Int) : fList [.scr ns] S = .ok (ns.map .int) S := rfl
@[simp] theorem v_append (n : Nat) (d : D) : fAppend (.ref n) [d] S = oB (lO S[n]?) fun xs => if xs.length < LIM then .ok .non (S.set n (.lst (xs ++ [d]))) else .bad := by
  unfold fAppend
  simp only
  cases S[n]? with
  | none => rfl
  | some o => cases o <;> rfl
@[simp] theorem v_setIx (n : Nat) (k : Int) (v : D) : fSetIx (.ref n) (.int k) v σ S = oBS (lO S[n]?) fun xs => oBS (ixN xs.length k) fun j => .nx σ (S.set n (.lst (xs.set j v))) := by
  unfold fSetIx
  simp only
  cases S[n]? with
  | none => rfl
  | some o => cases o <;> rfl
@[simp] theorem v_ty1 : tyOf S .non = some .none := rfl
@[simp] theorem v_ty2 (b : Bool) : tyOf S (.bl b) = some .bool := rfl
@[simp] theorem v_ty3 (b : Int) : tyOf S (.int b) = some .int := rfl
@[simp] theorem v_ty4 (b : Str) : tyOf S (.str b) = some .str := rfl
@[simp] theorem v_ty5 (b : List D) : tyOf S (.tup b) = some .tuple := rfl
@[simp] theorem v_ty6 (b : List D) : tyOf S (.lst b) = some .list := rfl
@[simp] theorem v_ty7 (ks : List Key) (b : List D) : tyOf S (.dic ks b) = some .dict := rfl
@[simp] theorem v_ty8 (n : Nat) : tyOf S (.ref n) = tO S[n]? := by rfl
@[simp] theorem v_ins1 (k : Nat) (ns : List Str) (ds : List D) : insOf S (.ins k ns ds) = some (k, ns, ds) := rfl
@[simp] theorem v_ins2 (n : Nat) : insOf S (.ref n) = iO S[n]? := by rfl
@[simp] theorem v_isT (a t : Ty) : isT a t = (decide (a = t) || (decide (a = .bool) && decide (t = .int))) := rfl
end
@[simp] theorem lim_val : LIM = 100000 := rfl
@[simp] theorem atI_n {α : Type} (xs : List α) (n : Nat) : atI xs (n : Int) = xs[n]? := atI_nat'
@[simp] theorem atI_0 {α : Type} (xs : List α) : atI xs 0 = xs[0]? := atI_nat' (n := 0)
@[simp] theorem atI_1 {α : Type} (xs : List α) : atI xs 1 = xs[1]? := atI_nat' (n := 1)
@[simp] theorem atI_2 {α : Type} (xs : List α) : atI xs 2 = xs[2]? := atI_nat' (n := 2)
@[simp] theorem atI_3 {α : Type} (xs : List α) : atI xs 3 = xs[3]? := atI_nat' (n := 3)
@[simp] theorem atI_4 {α : Type} (xs : List α) : atI xs 4 = xs[4]? := atI_nat' (n := 4)
@[simp] theorem atI_5 {α : Type} (xs : List α) : atI xs 5 = xs[5]? := atI_nat' (n := 5)
theorem ixN_n {m n : Nat} (h : n < m) : ixN m (n : Int) = some n := by unfold ixN; rw [if_pos (by omega), if_pos (by omega)]; simp
@[simp] theorem ixN_0 (m : Nat) : ixN (m + 1) 0 = some 0 := ixN_n (n := 0) (by omega)
@[simp] theorem ixN_1 (m : Nat) : ixN (m + 2) 1 = some 1 := ixN_n (n := 1) (by omega)
@[simp] theorem ixN_2 (m : Nat) : ixN (m + 3) 2 = some 2 := ixN_n (n := 2) (by omega)
set_option smartUnfolding true
@[simp high] theorem v_minN (i j : Nat) (S : Sto) : fMin [.int (i : Int), .int (j : Int)] S = .ok (.int ((min i j : Nat) : Int)) S := by rw [v_min2]; congr 2; split <;> omega
@[simp high] theorem v_maxN (i j : Nat) (S : Sto) : fMax [.int (i : Int), .int (j : Int)] S = .ok (.int ((max i j : Nat) : Int)) S := by rw [v_max2]; congr 2; split <;> omega
theorem okMul_l {i j : Int} (h : i.natAbs < 2 ^ 64) : okMul i j = true := by unfold okMul; simp [h]
theorem okMul_r {i j : Int} (h : j.natAbs < 2 ^ 64) : okMul i j = true := by unfold okMul; simp [h]
theorem okMul_b {i j : Int} (h : i.natAbs < 2 ^ 20000) (h2 : j.natAbs < 2 ^ 20000) : okMul i j = true := by unfold okMul; rw [decide_eq_true h, decide_eq_true h2, Bool.and_true, Bool.or_true]
structure Hh where
  cells : List Int
  st : Int
  k : Nat
  le : cells.length ≤ 63
def hs (h : Hh) : Sto := [.lst (h.cells.map .int), .lst [.int h.st, .ref 0, .int h.k]]
@[simp] theorem hs_len (h : Hh) : (hs h).length = 2 := rfl
@[simp high] theorem hs_0 (h : Hh) (T : Sto) : (hs h ++ T)[0]? = some (.lst (h.cells.map .int)) := rfl
@[simp high] theorem hs_1 (h : Hh) (T : Sto) : (hs h ++ T)[1]? = some (.lst [.int h.st, .ref 0, .int h.k]) := rfl
theorem mix_ok (ns : List Int) (hn : ns.length ≤ 63) (seed : Int) : ∃ h, f_l_mix [.scr ns, .int seed] [] = .ok (.ref 1) (hs h) := by
  have := funK_out (slots := 4) (n := 2) (m := p_l_mix) (ds := [.scr ns, .int seed]) (S := []) (Q := fun d S => ∃ st, d = .ref 1 ∧ S = hs ⟨ns, st, 0, hn⟩) rfl (fun F hF => by
    simp [p_l_mix]
    refine out_for (fun _ σ S => ∃ st j, σ = [.scr ns, .int seed, .int st, j] ∧ S = []) (fun k d σ S e ⟨st, j, e1, e2⟩ => ?_) (fun σ S ⟨st, j, e1, e2⟩ => ?_) ⟨seed, .dead, rfl, rfl⟩
    · subst e1 e2
      obtain ⟨x, hx, rfl⟩ := List.mem_map.mp (List.mem_of_getElem? e)
      refine ⟨by simp, _, rfl, fun F hF => ?_⟩
      simp [p_l_mix_b0, okMul_r]
      exact hF _ _ ⟨_, _, rfl, rfl⟩
    · subst e1 e2
      simp
      exact hF _ _ ⟨st, rfl, rfl⟩)
  obtain ⟨d, S2, e, st, rfl, rfl⟩ := this
  exact ⟨_, e⟩
end DL

namespace DL
open PySem L2
theorem pow9000 : (2 : Int) ^ 64 ≤ 2 ^ 9000 := by
  have : (2 : Nat) ^ 64 ≤ 2 ^ 9000 := Nat.pow_le_pow_right (by decide) (by decide)
  exact_mod_cast this
theorem div_ok {j : Int} (h : 0 < j) (h2 : j < 2 ^ 64) : (0 < j ∧ j < 2 ^ 9000) = True := eq_true ⟨h, Int.lt_of_lt_of_le h2 pow9000⟩
theorem okSt_hs (h h' : Hh) (T L : Sto) : OkSt (hs h ++ T) (hs h' ++ (T ++ L)) := by
  refine ⟨by simp, fun k o hk e => ?_⟩
  match k, hk, e with
  | 0, _, e =>
    right
    have : o = .lst (h'.cells.map .int) := by simpa using e.symm
    subst this
    exact cll_map _ _ _ fun _ _ => rfl
  | 1, _, e =>
    right
    have : o = .lst [.int h'.st, .ref 0, .int h'.k] := by simpa using e.symm
    subst this
    simp [clO]
    omega
  | k + 2, hk, e =>
    left
    have hk' : k < T.length := by simpa [hs] using hk
    have e' : (T ++ L)[k]? = some o := by simpa [hs] using e
    rw [List.getElem?_append_left hk'] at e'
    simpa [hs] using e'
theorem fin_hs {h h' : Hh} {T L : Sto} {d d' : D} (e : fz (hs h ++ T).length (hs h' ++ (T ++ L)) 4 d = some d') : fin (hs h ++ T) (hs h' ++ (T ++ L)) d = .ok d' (hs h' ++ T) := by
  unfold fin
  rw [if_pos (okSt_hs h h' T L), e]
  simp only [R.ok.injEq, true_and]
  rw [← List.append_assoc]
  exact List.take_left' (by simp)
theorem fin_hs0 {h h' : Hh} {T : Sto} {d : D} (e : cl (hs h ++ T).length d = true) : fin (hs h ++ T) (hs h' ++ T) d = .ok d (hs h' ++ T) := by
  have := fin_hs (h := h) (h' := h') (T := T) (L := []) (d := d) (fz_cl e)
  rwa [List.append_nil] at this
theorem fin_hsL {h h' : Hh} {T L : Sto} {d : D} (e : cl (hs h ++ T).length d = true) : fin (hs h ++ T) (hs h' ++ (T ++ L)) d = .ok d (hs h' ++ T) := fin_hs (fz_cl e)
theorem finP_hs {h h' : Hh} {T L : Sto} {d d' : D} {Q : D → Sto → Prop} (e : fz (hs h ++ T).length (hs h' ++ (T ++ L)) 4 d = some d') (q : Q d' (hs h' ++ T)) : FinP (hs h ++ T) Q d (hs h' ++ (T ++ L)) := ⟨_, _, fin_hs e, q⟩
theorem finP_hs0 {h h' : Hh} {T : Sto} {d : D} {Q : D → Sto → Prop} (e : cl (hs h ++ T).length d = true) (q : Q d (hs h' ++ T)) : FinP (hs h ++ T) Q d (hs h' ++ T) := ⟨_, _, fin_hs0 e, q⟩
theorem finP_hsL {h h' : Hh} {T L : Sto} {d : D} {Q : D → Sto → Prop} (e : cl (hs h ++ T).length d = true) (q : Q d (hs h' ++ T)) : FinP (hs h ++ T) Q d (hs h' ++ (T ++ L)) := ⟨_, _, fin_hsL e, q⟩
@[simp high] theorem hs_set0 (h : Hh) (T : Sto) (i : Nat) (x : Int) : (hs h ++ T).set 0 (.lst ((h.cells.map D.int).set i (.int x))) = hs ⟨h.cells.set i x, h.st, h.k, by rw [List.length_set]; exact h.le⟩ ++ T := by
  simp [hs, List.map_set]
@[simp high] theorem hs_set1 (h : Hh) (T : Sto) (x : Int) (k : Nat) : (hs h ++ T).set 1 (.lst [.int x, .ref 0, .int (k : Int)]) = hs ⟨h.cells, x, k, h.le⟩ ++ T := rfl
@[simp high] theorem hs_set2 (h : Hh) (T : Sto) (x : Int) (k : Nat) : (hs h ++ T).set 1 (.lst [.int x, .ref 0, .int ((k : Int) + 1)]) = hs ⟨h.cells, x, k + 1, h.le⟩ ++ T := rfl
theorem next_ok (h : Hh) (T : Sto) (cap : Int) (hc : 0 < cap) (hc2 : cap < 2 ^ 64) : ∃ (r : Nat) (h' : Hh), f_l_next [.ref 1, .int cap] (hs h ++ T) = .ok (.int (r : Int)) (hs h' ++ T) ∧ (r : Int) < cap := by
  have := fun_out (slots := 3) (n := 2) (m := p_l_next) (ds := [.ref 1, .int cap]) (S := hs h ++ T) (Q := fun d S => ∃ (r : Nat) (h' : Hh), d = .int (r : Int) ∧ S = hs h' ++ T ∧ (r : Int) < cap) rfl (fun F hF => by
    have hle := h.le
    have hdv := div_ok hc hc2
    have h7 : ((0 : Int) < 7 ∧ (7 : Int) < 2 ^ 9000) = True := div_ok (by decide) (by decide)
    obtain ⟨i, hi, ei, hi2⟩ : ∃ i : Nat, i < h.cells.length + 1 ∧ ((h.k : Int) % (if 1 < ((h.cells.length : Nat) : Int) then ((h.cells.length : Nat) : Int) else 1)) = (i : Int) ∧ (0 < h.cells.length → i < h.cells.length ∧ (h.k : Int) % ((h.cells.length : Nat) : Int) = i) := by
      by_cases q : h.cells.length = 0
      · exact ⟨0, by omega, by rw [if_neg (by omega)]; omega, fun z => by omega⟩
      · by_cases q1 : h.cells.length = 1
        · refine ⟨0, by omega, by rw [if_neg (by omega)]; omega, fun z => ⟨by omega, by rw [q1]; omega⟩⟩
        · refine ⟨h.k % h.cells.length, Nat.lt_succ_of_lt (Nat.mod_lt _ (by omega)), by rw [if_pos (by omega)]; omega, fun z => ⟨Nat.mod_lt _ z, by omega⟩⟩
    have hm : (0 : Int) < (if 1 < ((h.cells.length : Nat) : Int) then ((h.cells.length : Nat) : Int) else 1) := by split <;> omega
    obtain ⟨c, hcell⟩ : ∃ c, (h.cells ++ [0])[i]? = some c := ⟨_, List.getElem?_eq_getElem (by simpa using hi)⟩
    have hcell' : (h.cells.map D.int ++ [D.int 0])[i]? = some (D.int c) := by
      have : h.cells.map D.int ++ [D.int 0] = (h.cells ++ [0]).map D.int := by simp
      rw [this, List.getElem?_map, hcell]
      rfl
    simp (disch := first | omega | simp) [p_l_next, if_pos, hm, ei, hcell']
    by_cases big : 1000000000000000000 ≤ c
    · have hpos : 0 < h.cells.length := by
        rcases Nat.eq_zero_or_pos h.cells.length with z | z
        · have z' : h.cells = [] := List.eq_nil_of_length_eq_zero z
          rw [z'] at hcell hi
          have : i = 0 := by simpa using hi
          subst this
          simp at hcell
          omega
        · exact z
      obtain ⟨hi3, hi4⟩ := hi2 hpos
      simp (disch := first | omega | simp) [big, if_pos, hi4, hdv, ixN_n hi3, hc]
      refine hF _ _ (finP_hs0 rfl ⟨(c % cap).toNat, _, ?_, rfl, ?_⟩)
      · rw [Int.toNat_of_nonneg (Int.emod_nonneg _ (by omega))]
      · rw [Int.toNat_of_nonneg (Int.emod_nonneg _ (by omega))]
        exact Int.emod_lt_of_pos _ hc
    · simp (disch := first | omega | simp) [big, if_pos, if_neg, hc, h7, okMul_r]
      refine hF _ _ (finP_hs0 rfl ⟨((h.st * 48271 + c * 69621 + 11) % 2147483647 / 7 % cap).toNat, _, ?_, rfl, ?_⟩)
      · rw [Int.toNat_of_nonneg (Int.emod_nonneg _ (by omega))]
      · rw [Int.toNat_of_nonneg (Int.emod_nonneg _ (by omega))]
        exact Int.emod_lt_of_pos _ hc)
  obtain ⟨d, S2, e, r, h', rfl, rfl, hr⟩ := this
  exact ⟨r, h', e, hr⟩


theorem cl_mono_aux (m n : Nat) (h : m ≤ n) : (∀ d : D, cl m d = true → cl n d = true) ∧ (∀ ds : List D, cll m ds = true → cll n ds = true) := by
  have main : ∀ k : Nat, (∀ d : D, sizeOf d ≤ k → cl m d = true → cl n d = true) ∧ (∀ ds : List D, sizeOf ds ≤ k → cll m ds = true → cll n ds = true) := by
    intro k
    induction k with
    | zero => exact ⟨fun d hk => by cases d <;> simp at hk, fun ds hk => by cases ds <;> simp at hk⟩
    | succ k ih =>
      refine ⟨fun d hk => ?_, fun ds hk => ?_⟩
      · cases d with
        | tup ds => simp at hk; intro z; rw [cl_tup] at z ⊢; exact ih.2 ds (by omega) z
        | lst ds => simp at hk; intro z; rw [cl_lst] at z ⊢; exact ih.2 ds (by omega) z
        | dic ks ds => simp at hk; intro z; rw [cl_dic] at z ⊢; exact ih.2 ds (by omega) z
        | ins c ns ds => simp at hk; intro z; rw [cl_ins] at z ⊢; exact ih.2 ds (by omega) z
        | xc a b c ds => simp at hk; intro z; rw [cl_xc] at z ⊢; exact ih.2 ds (by omega) z
        | ref r => simp; omega
        | _ => exact fun _ => rfl
      · cases ds with
        | nil => exact fun _ => rfl
        | cons d ds =>
          simp at hk
          intro z
          rw [cll_cons, Bool.and_eq_true] at z ⊢
          exact ⟨ih.1 d (by omega) z.1, ih.2 ds (by omega) z.2⟩
  exact ⟨fun d => (main (sizeOf d)).1 d (Nat.le_refl _), fun ds => (main (sizeOf ds)).2 ds (Nat.le_refl _)⟩
theorem cl_mono {m n : Nat} {d : D} (h : cl m d = true) (hl : m ≤ n) : cl n d = true := (cl_mono_aux m n hl).1 d h
theorem cl_0 {n : Nat} {d : D} (h : cl 0 d = true) : cl n d = true := cl_mono h (Nat.zero_le _)
section
variable {h : Hh} {T U : Sto} {x y z o : Ob}
@[simp high] theorem hsT_get0 : (hs h ++ (T ++ x :: U))[2 + T.length]? = some x := by rw [← List.append_assoc]; exact (show 2 + T.length = (hs h ++ T).length by simp) ▸ sto_get0
@[simp high] theorem hsT_get1 : (hs h ++ (T ++ x :: y :: U))[2 + (T.length + 1)]? = some y := by rw [← List.append_assoc]; exact (show 2 + (T.length + 1) = (hs h ++ T).length + 1 by simp; omega) ▸ sto_get1
@[simp high] theorem hsT_get2 : (hs h ++ (T ++ x :: y :: z :: U))[2 + (T.length + 2)]? = some z := by rw [← List.append_assoc]; exact (show 2 + (T.length + 2) = (hs h ++ T).length + 2 by simp; omega) ▸ sto_get2
@[simp high] theorem hsT_set0 : (hs h ++ (T ++ x :: U)).set (2 + T.length) o = hs h ++ (T ++ o :: U) := by rw [← List.append_assoc, ← List.append_assoc]; exact (show 2 + T.length = (hs h ++ T).length by simp) ▸ sto_set0
@[simp high] theorem hsT_set1 : (hs h ++ (T ++ x :: y :: U)).set (2 + (T.length + 1)) o = hs h ++ (T ++ x :: o :: U) := by rw [← List.append_assoc, ← List.append_assoc]; exact (show 2 + (T.length + 1) = (hs h ++ T).length + 1 by simp; omega) ▸ sto_set1
@[simp high] theorem hsT_set2 : (hs h ++ (T ++ x :: y :: z :: U)).set (2 + (T.length + 2)) o = hs h ++ (T ++ x :: y :: o :: U) := by rw [← List.append_assoc, ← List.append_assoc]; exact (show 2 + (T.length + 2) = (hs h ++ T).length + 2 by simp; omega) ▸ sto_set2
end
abbrev eN (n : Nat) : D := .int (n : Int)
abbrev eR (r : List Nat) : D := .tup (r.map eN)
abbrev eH (r : List (List Nat)) : D := .tup (r.map eR)
@[simp] theorem cll_eN (n : Nat) (r : List Nat) : cll n (r.map eN) = true := cll_map _ _ _ fun _ _ => rfl
@[simp] theorem cll_eR (n : Nat) (r : List (List Nat)) : cll n (r.map eR) = true := cll_map _ _ _ fun _ _ => by simp
/-- a draw of one of some things -/
theorem pick_ok (h : Hh) (T : Sto) (ds : List D) (h0 : ds ≠ []) (hl : ds.length < 1000) (hv : ∀ d ∈ ds, cl 0 d = true) : ∃ (d : D) (h' : Hh), f_l_pick [.ref 1, .lst ds] (hs h ++ T) = .ok d (hs h' ++ T) ∧ d ∈ ds := by
  have hp : 0 < ds.length := List.length_pos_iff.mpr h0
  obtain ⟨r, h', e, hr⟩ := next_ok h T (ds.length : Int) (by omega) (by omega)
  have hr' : r < ds.length := by omega
  have := fun_out (slots := 2) (n := 2) (m := p_l_pick) (ds := [.ref 1, .lst ds]) (S := hs h ++ T) (Q := fun d S => ∃ (h' : Hh), S = hs h' ++ T ∧ d ∈ ds) rfl (fun F hF => by
    simp [p_l_pick, e, hr']
    exact hF _ _ (finP_hs0 (cl_0 (hv _ (List.getElem_mem hr'))) ⟨_, rfl, List.getElem_mem hr'⟩))
  obtain ⟨d, S2, e, h', rfl, hr⟩ := this
  exact ⟨d, h', e, hr⟩
theorem sizes_ok (h : Hh) (T : Sto) (many most : Nat) (hm : many ≤ 8) : ∃ (zs : List Nat) (h' : Hh), f_l_sizes [.ref 1, eN many, eN most] (hs h ++ T) = .ok (eR zs) (hs h' ++ T) ∧ zs.length = many ∧ zs.sum ≤ most ∧ ∀ z ∈ zs, z ≤ 8 := by
  obtain ⟨c, h1, e1, hc⟩ := pick_ok h T [.int 2, .int 4, .int 9] (by simp) (by simp) (by simp)
  obtain ⟨cap, rfl, hc0, hc9⟩ : ∃ cap : Nat, c = .int (cap : Int) ∧ 0 < cap ∧ cap ≤ 9 := by
    simp at hc
    rcases hc with rfl | rfl | rfl
    · exact ⟨2, rfl, by omega, by omega⟩
    · exact ⟨4, rfl, by omega, by omega⟩
    · exact ⟨9, rfl, by omega, by omega⟩
  have := fun_out (slots := 8) (n := 3) (m := p_l_sizes) (ds := [.ref 1, eN many, eN most]) (S := hs h ++ T) (Q := fun d S => ∃ (zs : List Nat) (h' : Hh), d = eR zs ∧ S = hs h' ++ T ∧ zs.length = many ∧ zs.sum ≤ most ∧ ∀ z ∈ zs, z ≤ 8) rfl (fun F hF => by
    have hrg := okRg_0 (n := many) (by omega)
    simp [p_l_sizes, e1, hrg, rgD_nat]
    refine out_for (fun k σ S => ∃ (zs : List Nat) (h' : Hh) (j j' : D), σ = [.ref 1, eN many, eN most, .int (cap : Int), .ref (2 + T.length), eN zs.sum, j, j'] ∧ S = hs h' ++ (T ++ [.lst (zs.map eN)]) ∧ zs.length = k ∧ zs.sum ≤ most ∧ ∀ z ∈ zs, z ≤ 8) (fun k d σ S e q => ?_) (fun σ S q => ?_) ⟨[], h1, .dead, .dead, rfl, rfl, rfl, Nat.zero_le _, nofun⟩
    · obtain ⟨zs, h2, j, j', rfl, rfl, hk, hsum, hz⟩ := q
      obtain ⟨r, h3, e3, hr⟩ := next_ok h2 (T ++ [.lst (zs.map eN)]) (cap : Int) (by omega) (by omega)
      obtain ⟨i, hi, rfl⟩ := List.mem_map.mp (List.mem_of_getElem? e)
      have hkl : k < many := by
        have := (List.getElem?_eq_some_iff.mp e).1
        simpa using this
      have hlt : zs.length < 100000 := by omega
      have emin : (if (most : Int) - (zs.sum : Nat) < (r : Nat) then (most : Int) - (zs.sum : Nat) else (r : Nat)) = ((min r (most - zs.sum) : Nat) : Int) := by split <;> omega
      refine ⟨by simp, _, rfl, fun F hF => ?_⟩
      simp [p_l_sizes_b0, e3, hlt, emin]
      refine hF _ _ ⟨zs ++ [min r (most - zs.sum)], h3, eN i, eN (min r (most - zs.sum)), ?_, ?_, by simp [hk], by simp; omega, fun z hz' => ?_⟩
      · simp
      · simp
      · rcases List.mem_append.mp hz' with q | q
        · exact hz z q
        · have : z = min r (most - zs.sum) := by simpa using q
          omega
    · obtain ⟨zs, h2, j, j', rfl, rfl, hk, hsum, hz⟩ := q
      simp
      exact hF _ _ (finP_hsL (by simp) ⟨zs, h2, rfl, rfl, by simpa using hk, hsum, hz⟩))
  obtain ⟨d, S2, e, zs, h', rfl, rfl, hr⟩ := this
  exact ⟨zs, h', e, hr⟩
end DL

namespace DL
open PySem L2
mutual
def nb : D → Bool
  | .non => true
  | .int _ => true
  | .str _ => true
  | .tup ds => nbs ds
  | .lst ds => nbs ds
  | _ => false
def nbs : List D → Bool
  | [] => true
  | d :: ds => nb d && nbs ds
end
mutual
theorem eqD_iff : ∀ x y : D, nb x = true → nb y = true → (eqD x y = true ↔ x = y)
  | .non, y, _, hy => by cases y <;> simp [eqD, toPy, PyData.eqv, nb] at *
  | .int i, y, _, hy => by cases y <;> simp [eqD, toPy, PyData.eqv, nb] at *
  | .str i, y, _, hy => by cases y <;> simp [eqD, toPy, PyData.eqv, nb] at *
  | .tup xs, y, hx, hy => by
    cases y with
    | tup ys =>
      have := eqDs_iff xs ys (by simpa [nb] using hx) (by simpa [nb] using hy)
      simp [eqD, toPy, PyData.eqv]
      exact this
    | _ => simp [eqD, toPy, PyData.eqv, nb] at *
  | .lst xs, y, hx, hy => by
    cases y with
    | lst ys =>
      have := eqDs_iff xs ys (by simpa [nb] using hx) (by simpa [nb] using hy)
      simp [eqD, toPy, PyData.eqv]
      exact this
    | _ => simp [eqD, toPy, PyData.eqv, nb] at *
  | .dead, _, hx, _ => by simp [nb] at hx
  | .bl _, _, hx, _ => by simp [nb] at hx
  | .dic _ _, _, hx, _ => by simp [nb] at hx
  | .ins _ _ _, _, hx, _ => by simp [nb] at hx
  | .ref _, _, hx, _ => by simp [nb] at hx
  | .scr _, _, hx, _ => by simp [nb] at hx
  | .ty _, _, hx, _ => by simp [nb] at hx
  | .xc _ _ _ _, _, hx, _ => by simp [nb] at hx
theorem eqDs_iff : ∀ x y : List D, nbs x = true → nbs y = true → (PyData.eqvAll (toPys x) (toPys y) = true ↔ x = y)
  | [], [], _, _ => by simp [toPys, PyData.eqvAll]
  | [], _ :: _, _, _ => by simp [toPys, PyData.eqvAll]
  | _ :: _, [], _, _ => by simp [toPys, PyData.eqvAll]
  | x :: xs, y :: ys, hx, hy => by
    simp only [nbs, Bool.and_eq_true] at hx hy
    have h1 := eqD_iff x y hx.1 hy.1
    have h2 := eqDs_iff xs ys hx.2 hy.2
    unfold eqD at h1
    simp only [toPys, PyData.eqvAll, Bool.and_eq_true, h1, h2, List.cons.injEq]
end
theorem eqD_dec {x y : D} (hx : nb x = true) (hy : nb y = true) {p : Prop} [Decidable p] (h : x = y ↔ p) : eqD x y = decide p := by
  have := eqD_iff x y hx hy
  rw [Bool.eq_iff_iff, this, h]
  simp
@[simp] theorem nb_int (i : Int) : nb (.int i) = true := rfl
@[simp] theorem nb_non : nb .non = true := rfl
@[simp] theorem nb_str (s : Str) : nb (.str s) = true := rfl
@[simp] theorem nb_tup (ds : List D) : nb (.tup ds) = nbs ds := by rw [nb]
@[simp] theorem nb_lst (ds : List D) : nb (.lst ds) = nbs ds := by rw [nb]
@[simp] theorem nbs_nil : nbs [] = true := rfl
@[simp] theorem nbs_cons (d : D) (ds : List D) : nbs (d :: ds) = (nb d && nbs ds) := by rw [nbs]
theorem nbs_all (ds : List D) : nbs ds = ds.all nb := by
  induction ds with
  | nil => rfl
  | cons d ds ih => simp [ih]
theorem nbs_map {α : Type} (f : α → D) (xs : List α) (h : ∀ a ∈ xs, nb (f a) = true) : nbs (xs.map f) = true := by
  rw [nbs_all, List.all_eq_true]
  intro d hd
  obtain ⟨a, ha, rfl⟩ := List.mem_map.mp hd
  exact h a ha
@[simp] theorem nbs_eN (r : List Nat) : nbs (r.map eN) = true := nbs_map _ _ fun _ _ => rfl
@[simp] theorem nbs_eR (r : List (List Nat)) : nbs (r.map eR) = true := nbs_map _ _ fun _ _ => by simp
theorem eN_inj {a b : Nat} : eN a = eN b ↔ a = b := by rw [eN, eN, D.int.injEq]; omega
theorem eNs_inj {a b : List Nat} : a.map eN = b.map eN ↔ a = b := ⟨fun h => List.map_inj_right (fun _ _ e => eN_inj.mp e) |>.mp h, fun h => by rw [h]⟩
theorem eR_inj {a b : List Nat} : eR a = eR b ↔ a = b := by rw [eR, eR, D.tup.injEq]; exact eNs_inj
theorem eRs_inj {a b : List (List Nat)} : a.map eR = b.map eR ↔ a = b := ⟨fun h => List.map_inj_right (fun _ _ e => eR_inj.mp e) |>.mp h, fun h => by rw [h]⟩
theorem eH_inj {a b : List (List Nat)} : eH a = eH b ↔ a = b := by rw [eH, eH, D.tup.injEq]; exact eRs_inj
@[simp] theorem eqD_int (i j : Int) : eqD (.int i) (.int j) = decide (i = j) := eqD_dec rfl rfl (by simp)
@[simp] theorem eqD_bl (i j : Bool) : eqD (.bl i) (.bl j) = decide (i = j) := by cases i <;> cases j <;> rfl
@[simp] theorem eqD_eR (a b : List Nat) : eqD (eR a) (eR b) = decide (a = b) := eqD_dec (by simp) (by simp) eR_inj
@[simp] theorem eqD_eH (a b : List (List Nat)) : eqD (eH a) (eH b) = decide (a = b) := eqD_dec (by simp) (by simp) eH_inj
@[simp] theorem eqD_t00 : eqD (.tup []) (.tup []) = true := by simp [eqD, toPy, toPys, PyData.eqv, PyData.eqvAll]
@[simp] theorem eqD_t10 (x : D) (xs : List D) : eqD (.tup (x :: xs)) (.tup []) = false := by simp [eqD, toPy, toPys, PyData.eqv, PyData.eqvAll]
@[simp] theorem eqD_t01 (x : D) (xs : List D) : eqD (.tup []) (.tup (x :: xs)) = false := by simp [eqD, toPy, toPys, PyData.eqv, PyData.eqvAll]
@[simp] theorem eqD_l00 : eqD (.lst []) (.lst []) = true := by simp [eqD, toPy, toPys, PyData.eqv, PyData.eqvAll]
@[simp] theorem eqD_l10 (x : D) (xs : List D) : eqD (.lst (x :: xs)) (.lst []) = false := by simp [eqD, toPy, toPys, PyData.eqv, PyData.eqvAll]
@[simp] theorem eqD_l01 (x : D) (xs : List D) : eqD (.lst []) (.lst (x :: xs)) = false := by simp [eqD, toPy, toPys, PyData.eqv, PyData.eqvAll]
theorem inD_eN (a : Nat) (xs : List Nat) : inD (eN a) (xs.map eN) = decide (a ∈ xs) := by
  induction xs with
  | nil => rfl
  | cons x xs ih =>
    unfold inD at ih ⊢
    rw [List.map_cons, List.any_cons, ih, eqD_int, Bool.eq_iff_iff]
    simp only [Bool.or_eq_true, decide_eq_true_eq, List.mem_cons]
    exact or_congr (by omega) Iff.rfl
@[simp] theorem inD_int (a : Nat) (xs : List Nat) : inD (.int (a : Int)) (xs.map eN) = decide (a ∈ xs) := inD_eN a xs
@[simp] theorem flat_eN (xs : List Nat) : flats (xs.map eN) = true := by simp [flats, List.all_map]
@[simp] theorem flats_nil : flats [] = true := rfl
@[simp] theorem flats_cons (x : D) (xs : List D) : flats (x :: xs) = (flatD x && flats xs) := rfl
@[simp] theorem flats_app (xs ys : List D) : flats (xs ++ ys) = (flats xs && flats ys) := by simp [flats]
@[simp] theorem pln_int (n : Nat) (i : Int) : pln n (.int i) = true := by cases n <;> rfl
@[simp] theorem pln_bl (n : Nat) (i : Bool) : pln n (.bl i) = true := by cases n <;> rfl
@[simp] theorem pln_non (n : Nat) : pln n .non = true := by cases n <;> rfl
@[simp] theorem pln_tup (n : Nat) (ds : List D) : pln (n + 1) (.tup ds) = plns n ds := by rw [pln]
@[simp] theorem pln_lst (n : Nat) (ds : List D) : pln (n + 1) (.lst ds) = plns n ds := by rw [pln]
@[simp] theorem plns_nil (n : Nat) : plns n [] = true := by rw [plns]
@[simp] theorem plns_cons (n : Nat) (d : D) (ds : List D) : plns n (d :: ds) = (pln n d && plns n ds) := by rw [plns]
theorem plns_all (n : Nat) (ds : List D) : plns n ds = ds.all (pln n) := by
  induction ds with
  | nil => simp
  | cons d ds ih => simp [ih]
theorem plns_map {α : Type} (n : Nat) (f : α → D) (xs : List α) (h : ∀ a ∈ xs, pln n (f a) = true) : plns n (xs.map f) = true := by
  rw [plns_all, List.all_eq_true]
  intro d hd
  obtain ⟨a, ha, rfl⟩ := List.mem_map.mp hd
  exact h a ha
@[simp] theorem plns_eN (n : Nat) (r : List Nat) : plns n (r.map eN) = true := plns_map _ _ _ fun _ _ => by simp
@[simp] theorem plns_eR (n : Nat) (r : List (List Nat)) : plns (n + 1) (r.map eR) = true := plns_map _ _ _ fun _ _ => by simp
@[simp] theorem pln_eR (n : Nat) (r : List Nat) : pln (n + 1) (eR r) = true := by simp
@[simp] theorem pln_eH (n : Nat) (r : List (List Nat)) : pln (n + 2) (eH r) = true := by simp
@[simp] theorem view_int (S : Sto) (i : Int) : view S (.int i) = .int i := rfl
@[simp] theorem view_bl (S : Sto) (i : Bool) : view S (.bl i) = .bl i := rfl
@[simp] theorem view_non (S : Sto) : view S .non = .non := rfl
@[simp] theorem view_str (S : Sto) (s : Str) : view S (.str s) = .str s := rfl
@[simp] theorem view_tup (S : Sto) (ds : List D) : view S (.tup ds) = .tup ds := rfl
@[simp] theorem view_lst (S : Sto) (ds : List D) : view S (.lst ds) = .lst ds := rfl
theorem view_ref (S : Sto) (n : Nat) (ds : List D) (h : S[n]? = some (.lst ds)) : view S (.ref n) = .lst ds := by unfold view; simp only [h]
theorem v_eq (S : Sto) (x y : D) (h : pln 64 (view S x) = true) (h2 : pln 64 (view S y) = true) : fEq x y S = .ok (.bl (eqD (view S x) (view S y))) S := by unfold fEq; rw [h, h2]; rfl
theorem v_ne (S : Sto) (x y : D) (h : pln 64 (view S x) = true) (h2 : pln 64 (view S y) = true) : fNe x y S = .ok (.bl (!eqD (view S x) (view S y))) S := by unfold fNe; rw [h, h2]; rfl
@[simp] theorem v_eqI (S : Sto) (i j : Int) : fEq (.int i) (.int j) S = .ok (.bl (decide (i = j))) S := by rw [v_eq _ _ _ rfl rfl]; simp
@[simp] theorem v_neI (S : Sto) (i j : Int) : fNe (.int i) (.int j) S = .ok (.bl (!decide (i = j))) S := by rw [v_ne _ _ _ rfl rfl]; simp
@[simp] theorem v_eqB (S : Sto) (i j : Bool) : fEq (.bl i) (.bl j) S = .ok (.bl (decide (i = j))) S := by rw [v_eq _ _ _ rfl rfl]; simp
@[simp] theorem v_neB (S : Sto) (i j : Bool) : fNe (.bl i) (.bl j) S = .ok (.bl (!decide (i = j))) S := by rw [v_ne _ _ _ rfl rfl]; simp
theorem cut_to (ds : List D) (n : Nat) : cutD ds none (some (n : Int)) = ds.take n := by
  unfold cutD
  rw [HT.sIx_none, HT.sIx_nat]
  simp
theorem cut_from (ds : List D) (n : Nat) : cutD ds (some (n : Int)) none = ds.drop n := by
  unfold cutD
  rw [HT.sIx_none, HT.sIx_nat]
  by_cases h : n ≤ ds.length
  · rw [Nat.min_eq_left h, List.take_of_length_le (by simp)]
  · rw [Nat.min_eq_right (show ds.length ≤ n by omega), List.drop_of_length_le (Nat.le_refl _), List.drop_of_length_le (show ds.length ≤ n by omega)]
    simp
theorem cut_mid (ds : List D) (m n : Nat) : cutD ds (some (m : Int)) (some (n : Int)) = (ds.drop m).take (n - m) := by
  unfold cutD
  rw [HT.sIx_nat, HT.sIx_nat]
  by_cases h : m ≤ ds.length
  · rw [Nat.min_eq_left h, List.take_eq_take_iff, List.length_drop]
    omega
  · rw [Nat.min_eq_right (show ds.length ≤ m by omega), List.drop_of_length_le (Nat.le_refl _), List.drop_of_length_le (show ds.length ≤ m by omega)]
    simp
def deckFrom (i : Nat) : List Nat → List Nat
  | [] => []
  | z :: zs => List.replicate z i ++ deckFrom (i + 1) zs
abbrev deck (zs : List Nat) : List Nat := deckFrom 0 zs
theorem deck_snoc (zs : List Nat) (z : Nat) : ∀ i, deckFrom i (zs ++ [z]) = deckFrom i zs ++ List.replicate z (i + zs.length) := by
  induction zs with
  | nil => intro i; simp [deckFrom]
  | cons a zs ih => intro i; simp [deckFrom, ih, Nat.add_assoc, Nat.add_comm 1]
theorem deck_len (zs : List Nat) : ∀ i, (deckFrom i zs).length = zs.sum := by
  induction zs with
  | nil => intro i; rfl
  | cons a zs ih => intro i; simp [deckFrom, ih]
theorem deck_lt (zs : List Nat) : ∀ i c, c ∈ deckFrom i zs → i ≤ c ∧ c < i + zs.length := by
  induction zs with
  | nil => intro i c h; simp [deckFrom] at h
  | cons a zs ih =>
    intro i c h
    simp [deckFrom] at h
    rcases h with ⟨_, rfl⟩ | h
    · simp
    · have := ih (i + 1) c h
      simp
      omega
theorem deck_count (zs : List Nat) : ∀ i k, (deckFrom i zs).count (i + k) = zs[k]?.getD 0 := by
  induction zs with
  | nil => intro i k; simp [deckFrom]
  | cons a zs ih =>
    intro i k
    simp only [deckFrom, List.count_append]
    cases k with
    | zero =>
      have h0 : (deckFrom (i + 1) zs).count (i + 0) = 0 := List.count_eq_zero.mpr fun h => by have := (deck_lt zs (i + 1) _ h).1; omega
      rw [h0, Nat.add_zero, Nat.add_zero, List.count_replicate_self]
      rfl
    | succ k =>
      have := ih (i + 1) k
      rw [show i + 1 + k = i + (k + 1) by omega] at this
      rw [this, List.count_replicate, if_neg (by simp)]
      simp
theorem mem_sum {x : Nat} : ∀ {zs : List Nat}, x ∈ zs → x ≤ zs.sum
  | z :: zs, h => by
    rw [List.sum_cons]
    rcases List.mem_cons.mp h with rfl | h
    · omega
    · have := mem_sum h
      omega
theorem take_sum (zs : List Nat) (k : Nat) : (zs.take k).sum ≤ zs.sum := by
  have h : (zs.take k).sum + (zs.drop k).sum = zs.sum := by rw [← List.sum_append, List.take_append_drop]
  omega
theorem rep_eN (n i : Nat) : repD (n : Int) [eN i] = (List.replicate n i).map eN := by
  unfold repD
  rw [Int.toNat_natCast]
  induction n with
  | zero => rfl
  | succ n ih => rw [List.replicate_succ, List.flatten_cons, ih, List.replicate_succ]; rfl
section
variable {h : Hh} {T J U : Sto} {x y z o : Ob}
@[simp high] theorem hsJ_get : (hs h ++ (T ++ x :: (J ++ y :: U)))[2 + (T.length + (J.length + 1))]? = some y := by
  have e : hs h ++ (T ++ x :: (J ++ y :: U)) = (hs h ++ (T ++ x :: J)) ++ y :: U := by simp
  have l : 2 + (T.length + (J.length + 1)) = (hs h ++ (T ++ x :: J)).length := by simp
  rw [e, l]
  exact sto_get0
@[simp high] theorem hsJ_set : (hs h ++ (T ++ x :: (J ++ y :: U))).set (2 + (T.length + (J.length + 1))) o = hs h ++ (T ++ x :: (J ++ o :: U)) := by
  have e : hs h ++ (T ++ x :: (J ++ y :: U)) = (hs h ++ (T ++ x :: J)) ++ y :: U := by simp
  have l : 2 + (T.length + (J.length + 1)) = (hs h ++ (T ++ x :: J)).length := by simp
  rw [e, l, sto_set0]
  simp
end
theorem erase_perm {α : Type} : ∀ {xs : List α} {n : Nat} (h : n < xs.length), (xs[n] :: xs.eraseIdx n).Perm xs
  | x :: xs, 0, h => by simp
  | x :: xs, n + 1, h => by
    have ih := erase_perm (xs := xs) (n := n) (by simpa using h)
    simp only [List.getElem_cons_succ, List.eraseIdx_cons_succ]
    exact (List.Perm.swap _ _ _).trans (List.Perm.cons _ ih)
theorem deck_take {zs : List Nat} {k : Nat} (hk : k < zs.length) : deck (zs.take (k + 1)) = deck (zs.take k) ++ List.replicate zs[k] k := by
  rw [List.take_succ, List.getElem?_eq_getElem hk]
  show deckFrom 0 (zs.take k ++ [zs[k]]) = _
  rw [deck_snoc, Nat.zero_add, List.length_take, Nat.min_eq_left (Nat.le_of_lt hk)]
@[simp] theorem cut_to' (ds : List D) (n : Nat) : cutD ds none (some (n : Int)) = ds.take n := cut_to ds n
@[simp] theorem cut_from' (ds : List D) (n : Nat) : cutD ds (some (n : Int)) none = ds.drop n := cut_from ds n
@[simp] theorem cut_fromL (ds : List D) : cutD ds (some 1) none = ds.drop 1 := cut_from ds 1
@[simp] theorem cut_from1 (ds : List D) (n : Nat) : cutD ds (some ((n : Int) + 1)) none = ds.drop (n + 1) := cut_from ds (n + 1)
set_option maxHeartbeats 4000000 in
theorem deal_ok (h : Hh) (T : Sto) (zs : List Nat) (hz : zs.length ≤ 8) (hsum : zs.sum ≤ 64) : ∃ (hp : List (List Nat)) (h' : Hh), f_l_deal [.ref 1, eR zs] (hs h ++ T) = .ok (eH hp) (hs h' ++ T) ∧ hp.map List.length = zs ∧ hp.flatten.Perm (deck zs) := by
  have := fun_out (slots := 9) (n := 2) (m := p_l_deal) (ds := [.ref 1, eR zs]) (S := hs h ++ T) (Q := fun d S => ∃ (hp : List (List Nat)) (h' : Hh), d = eH hp ∧ S = hs h' ++ T ∧ hp.map List.length = zs ∧ hp.flatten.Perm (deck zs)) rfl (fun F hF => by
    have hrg := okRg_0 (n := zs.length) (by omega)
    simp [p_l_deal, hrg, rgD_nat]
    refine out_for (fun k σ S => ∃ j, σ = [.ref 1, eR zs, .lst ((deck (zs.take k)).map eN), j, .dead, .dead, .dead, .dead, .dead] ∧ S = hs h ++ T) (fun k d σ S e q => ?_) (fun σ S q => ?_) ⟨.dead, rfl, rfl⟩
    · obtain ⟨j, rfl, rfl⟩ := q
      have hk : k < zs.length := by
        have := (List.getElem?_eq_some_iff.mp e).1
        simpa using this
      have ed : d = eN k := by
        rw [List.getElem?_map, List.getElem?_range hk] at e
        simpa using e.symm
      subst ed
      refine ⟨by simp, _, rfl, fun F hF => ?_⟩
      have hzk : zs[k] ≤ 64 := Nat.le_trans (mem_sum (List.getElem_mem hk)) hsum
      have hdl : (deck (zs.take k)).length ≤ 64 := by
        rw [deck_len]
        exact Nat.le_trans (take_sum _ _) hsum
      have hb1 : (-1000 : Int) ≤ (zs[k] : Int) := by omega
      have hb2 : (zs[k] : Int) ≤ 1000 := by omega
      have hb3 : (deck (zs.take k)).length + zs[k] ≤ 100000 := by omega
      have hrep := rep_eN zs[k] k
      simp [p_l_deal_b0, hk]
      rw [if_pos hb2, hrep]
      simp
      rw [if_pos hb3]
      simp
      refine hF _ _ ⟨eN k, ?_, rfl⟩
      rw [deck_take hk, List.map_append]
      simp
    · obtain ⟨j, rfl, rfl⟩ := q
      simp
      have dl := deck_len zs 0
      refine out_for (fun k σ S => ∃ (hp : List (List Nat)) (cs : List Nat) (h' : Hh) (J : Sto) (j3 j5 j6 j7 j8 : D), σ = [.ref 1, eR zs, .lst (cs.map eN), j3, .ref (2 + T.length), j5, j6, j7, j8] ∧ S = hs h' ++ (T ++ .lst (hp.map eR) :: J) ∧ J.length = k ∧ hp.map List.length = zs.take k ∧ (hp.flatten ++ cs).Perm (deck zs)) (fun k d σ S e q => ?_) (fun σ S q => ?_) ⟨[], deck zs, h, [], j, .dead, .dead, .dead, .dead, by simp, rfl, rfl, rfl, List.Perm.refl _⟩
      · obtain ⟨hp, cs, h1, J, j3, j5, j6, j7, j8, rfl, rfl, hJ, hl, hpm⟩ := q
        have hk : k < zs.length := by
          have := (List.getElem?_eq_some_iff.mp e).1
          simpa using this
        have ed : d = eN zs[k] := by
          rw [List.getElem?_map, List.getElem?_eq_getElem hk] at e
          simpa using e.symm
        subst ed
        have hzk : zs[k] ≤ 64 := Nat.le_trans (mem_sum (List.getElem_mem hk)) hsum
        have hcs : cs.length + (zs.take k).sum = zs.sum := by
          have e1 := hpm.length_eq
          rw [List.length_append, List.length_flatten, hl, deck_len] at e1
          omega
        have hks : (zs.take k).sum + zs[k] ≤ zs.sum := by
          have := take_sum zs (k + 1)
          rw [List.take_succ, List.getElem?_eq_getElem hk, List.sum_append] at this
          simpa using this
        have hrk := okRg_0 (n := zs[k]) (by omega)
        refine ⟨by simp, _, rfl, fun F hF => ?_⟩
        simp [p_l_deal_b2, hrk, rgD_nat]
        refine out_for (fun i σ S => ∃ (row cs' : List Nat) (h' : Hh) (j7 j8 : D), σ = [.ref 1, eR zs, .lst (cs'.map eN), j3, .ref (2 + T.length), eN zs[k], .ref (2 + (T.length + (J.length + 1))), j7, j8] ∧ S = hs h' ++ (T ++ .lst (hp.map eR) :: (J ++ [.lst (row.map eN)])) ∧ row.length = i ∧ cs'.length + i = cs.length ∧ (row ++ cs').Perm cs) (fun i d σ S e q => ?_) (fun σ S q => ?_) ⟨[], cs, h1, j7, j8, rfl, rfl, rfl, rfl, List.Perm.refl _⟩
        · obtain ⟨row, cs', h2, j7, j8, rfl, rfl, hr, hc', hpm'⟩ := q
          have hi : i < zs[k] := by
            have := (List.getElem?_eq_some_iff.mp e).1
            simpa using this
          obtain ⟨r, h3, e3, hr3⟩ := next_ok h2 (T ++ .lst (hp.map eR) :: (J ++ [.lst (row.map eN)])) (cs'.length : Int) (by omega) (by omega)
          have hr4 : r < cs'.length := by omega
          have hx : row.length < 100000 := by omega
          obtain ⟨i', _, rfl⟩ := List.mem_map.mp (List.mem_of_getElem? e)
          refine ⟨by simp, _, rfl, fun F hF => ?_⟩
          have hlim : min r cs'.length + (cs'.length - (r + 1)) ≤ 100000 := by omega
          simp [p_l_deal_b1, e3, hr4, hx, hlim]
          refine hF _ _ ⟨row ++ [cs'[r]], cs'.eraseIdx r, h3, eN i', eN r, ?_, by simp, by simp [hr], by rw [List.length_eraseIdx, if_pos hr4]; omega, ?_⟩
          · rw [List.eraseIdx_eq_take_drop_succ, List.map_append, List.map_take, List.map_drop]
          · refine List.Perm.trans ?_ hpm'
            rw [List.append_assoc]
            exact List.Perm.append_left _ (erase_perm hr4)
        · obtain ⟨row, cs', h2, j7, j8, rfl, rfl, hr, hc', hpm'⟩ := q
          have hr' : row.length = zs[k] := by simpa using hr
          have hhp : hp.length = k := by
            have := congrArg List.length hl
            rw [List.length_map, List.length_take] at this
            omega
          have hlt : hp.length < 100000 := by omega
          simp [hlt]
          refine hF _ _ ⟨hp ++ [row], cs', h2, J ++ [.lst (row.map eN)], j3, eN zs[k], .ref (2 + (T.length + (J.length + 1))), j7, j8, by simp, by simp, by simp [hJ], ?_, ?_⟩
          · rw [List.map_append, hl, List.take_succ, List.getElem?_eq_getElem hk, List.map_singleton, hr']
            rfl
          · refine List.Perm.trans ?_ hpm
            rw [List.flatten_append, List.append_assoc]
            refine List.Perm.append_left _ ?_
            simpa using hpm'
      · obtain ⟨hp, cs, h1, J, j3, j5, j6, j7, j8, rfl, rfl, hJ, hl, hpm⟩ := q
        have hl' : hp.map List.length = zs := by rw [hl, List.length_map, List.take_length]
        have hcs : cs = [] := by
          have e1 := hpm.length_eq
          rw [List.length_append, List.length_flatten, hl', deck_len] at e1
          exact List.eq_nil_of_length_eq_zero (by omega)
        subst hcs
        rw [List.append_nil] at hpm
        simp
        exact hF _ _ (finP_hsL (by simp) ⟨hp, h1, rfl, rfl, hl', hpm⟩))
  obtain ⟨d, S2, e, hp, h', rfl, rfl, hr⟩ := this
  exact ⟨hp, h', e, hr⟩

structure FirstsOk (many : Nat) (fs : List Nat) : Prop where
  nd : fs.Nodup
  lt : ∀ f ∈ fs, f < many
  pos : fs ≠ []
theorem nodup_le : ∀ (n : Nat) (fs : List Nat), fs.Nodup → (∀ f ∈ fs, f < n) → fs.length ≤ n
  | 0, fs, _, h => by
    cases fs with
    | nil => simp
    | cons f fs => exact absurd (h f (List.mem_cons_self ..)) (by omega)
  | n + 1, fs, nd, h => by
    have ih := nodup_le n (fs.erase n) (nd.erase n) (fun f hf => by
      have h1 := h f (List.mem_of_mem_erase hf)
      have h2 : f ≠ n := fun z => by
        subst z
        exact (nd.not_mem_erase) hf
      omega)
    have := List.length_erase (a := n) (l := fs)
    split at this <;> omega
theorem FirstsOk.le {many : Nat} {fs : List Nat} (h : FirstsOk many fs) : fs.length ≤ many := nodup_le many fs h.nd h.lt
set_option maxHeartbeats 4000000 in
theorem firsts_ok (h : Hh) (T : Sto) (many : Nat) (hm : 1 ≤ many) (hm8 : many ≤ 8) : ∃ (fs : List Nat) (h' : Hh), f_l_firsts [.ref 1, eN many] (hs h ++ T) = .ok (eR fs) (hs h' ++ T) ∧ FirstsOk many fs := by
  have := fun_out (slots := 6) (n := 2) (m := p_l_firsts) (ds := [.ref 1, eN many]) (S := hs h ++ T) (Q := fun d S => ∃ (fs : List Nat) (h' : Hh), d = eR fs ∧ S = hs h' ++ T ∧ FirstsOk many fs) rfl (fun F hF => by
    have hrg := okRg_0 (n := many) (by omega)
    obtain ⟨c, h1, e1, hc⟩ := pick_ok h (T ++ [.lst []]) [.int 1, .int 1, .int 1, .int 2, .int 3, .int 8] (by simp) (by simp) (by simp)
    obtain ⟨n, rfl, hn⟩ : ∃ n : Nat, c = .int (n : Int) ∧ 1 ≤ n := by
      simp at hc
      rcases hc with rfl | rfl | rfl | rfl
      · exact ⟨1, rfl, by omega⟩
      · exact ⟨2, rfl, by omega⟩
      · exact ⟨3, rfl, by omega⟩
      · exact ⟨8, rfl, by omega⟩
    have hrg2 := okRg_0 (n := min many n) (by omega)
    simp [p_l_firsts, hrg, rgD_nat, e1, hrg2]
    refine out_for (fun k σ S => ∃ (fs left : List Nat) (h' : Hh) (j4 : D), σ = [.ref 1, eN many, .lst (left.map eN), .ref (2 + T.length), j4, .dead] ∧ S = hs h' ++ (T ++ [.lst (fs.map eN)]) ∧ fs.length = k ∧ fs.Nodup ∧ (∀ f ∈ fs, f < many) ∧ left = (List.range many).filter (fun x => !decide (x ∈ fs)) ∧ left.length + k = many) (fun k d σ S e q => ?_) (fun σ S q => ?_) ⟨[], List.range many, h1, .dead, rfl, rfl, rfl, List.nodup_nil, nofun, (List.filter_eq_self.mpr (by simp)).symm, by simp⟩
    · obtain ⟨fs, left, h2, j4, rfl, rfl, hk, hnd, hlt, hl, hll⟩ := q
      have hkn : k < min many n := by
        have := (List.getElem?_eq_some_iff.mp e).1
        simpa using this
      obtain ⟨r, h3, e3, hr3⟩ := next_ok h2 (T ++ [.lst (fs.map eN)]) (left.length : Int) (by omega) (by omega)
      have hr4 : r < left.length := by omega
      have hx : fs.length < 100000 := by omega
      obtain ⟨i', _, rfl⟩ := List.mem_map.mp (List.mem_of_getElem? e)
      obtain ⟨x, hx1⟩ : ∃ x, left[r]? = some x := ⟨_, List.getElem?_eq_getElem hr4⟩
      have hmem : x ∈ left := List.mem_of_getElem? hx1
      rw [hl, List.mem_filter] at hmem
      have hnew : x ∉ fs := by simpa using hmem.2
      have hxm : x < many := List.mem_range.mp hmem.1
      have hcomp := comp_pure (S := hs h3 ++ (T ++ [.lst ((fs ++ [x]).map eN)])) (src := []) (pair := false) (t := .nm 5) (wσ := [.ref 1, eN many, .lst (left.map eN), .ref (2 + T.length), eN i', .dead]) (c := p_l_firsts_c0) (e := p_l_firsts_e0) eN (fun a => !decide (a ∈ fs ++ [x])) eN left [] (fun a _ => by
        refine ⟨_, rfl, ?_, ?_⟩
        · have h1 := inD_eN a (fs ++ [x])
          simp only [List.map_append, List.map_singleton] at h1 ⊢
          simp [p_l_firsts_c0, h1]
        · simp [p_l_firsts_e0]) (by simp; omega)
      simp only [List.map_append, List.map_singleton] at hcomp
      have hl2 : left.filter (fun a => !decide (a ∈ fs ++ [x])) = (List.range many).filter (fun a => !decide (a ∈ fs ++ [x])) := by
        rw [hl, List.filter_filter]
        congr 1
        funext a
        by_cases q : a ∈ fs <;> simp [q]
      have hlen : (left.filter (fun a => !decide (a ∈ fs ++ [x]))).length + (k + 1) = many := by
        have nd2 : left.Nodup := by rw [hl]; exact List.Pairwise.filter _ List.nodup_range
        have e2 : left.filter (fun a => !decide (a ∈ fs ++ [x])) = left.erase x := by
          rw [nd2.erase_eq_filter]
          apply List.filter_congr
          intro a ha
          rw [hl, List.mem_filter] at ha
          have : a ∉ fs := by simpa using ha.2
          by_cases z : a = x <;> simp [this, z]
        rw [e2, List.length_erase_of_mem (List.mem_of_getElem? hx1)]
        omega
      refine ⟨by simp, _, rfl, fun F hF => ?_⟩
      simp [p_l_firsts_b0, e3, hx1, hx, wipeD, hcomp]
      exact hF _ _ ⟨fs ++ [x], _, h3, eN i', by simp, by simp, by simp [hk], by
        rw [List.nodup_append]
        exact ⟨hnd, by simp, fun a ha b hb => by simp at hb; subst hb; exact fun z => hnew (z ▸ ha)⟩, fun f hf => (List.mem_append.mp hf).elim (hlt f) fun z => by simp at z; omega, hl2, hlen⟩
    · obtain ⟨fs, left, h2, j4, rfl, rfl, hk, hnd, hlt, hl, hll⟩ := q
      simp
      refine hF _ _ (finP_hsL (by simp) ⟨fs, h2, rfl, rfl, hnd, hlt, fun z => ?_⟩)
      subst z
      simp at hk
      omega)
  obtain ⟨d, S2, e, fs, h', rfl, rfl, hr⟩ := this
  exact ⟨fs, h', e, hr⟩
end DL

namespace DL
open PySem L2
mutual
/-- data of bounded depth whose rows are not too long -/
def alk : Nat → D → Bool
  | _, .non => true
  | _, .bl _ => true
  | _, .int _ => true
  | _, .str x => PyData.canLay0 (.str x)
  | n, .tup ds => match n with | 0 => false | m + 1 => decide (ds.length ≤ 100000) && alks m ds
  | n, .lst ds => match n with | 0 => false | m + 1 => decide (ds.length ≤ 100000) && alks m ds
  | _, _ => false
def alks : Nat → List D → Bool
  | _, [] => true
  | n, d :: ds => alk n d && alks n ds
end
@[simp] theorem alk_int (n : Nat) (i : Int) : alk n (.int i) = true := by cases n <;> rfl
@[simp] theorem alk_bl (n : Nat) (i : Bool) : alk n (.bl i) = true := by cases n <;> rfl
@[simp] theorem alk_non (n : Nat) : alk n .non = true := by cases n <;> rfl
@[simp] theorem alk_str (n : Nat) (x : Str) : alk n (.str x) = PyData.canLay0 (.str x) := by cases n <;> rfl
@[simp] theorem alk_tup (n : Nat) (ds : List D) : alk (n + 1) (.tup ds) = (decide (ds.length ≤ 100000) && alks n ds) := by rw [alk]
@[simp] theorem alk_lst (n : Nat) (ds : List D) : alk (n + 1) (.lst ds) = (decide (ds.length ≤ 100000) && alks n ds) := by rw [alk]
@[simp] theorem alks_nil (n : Nat) : alks n [] = true := by rw [alks]
@[simp] theorem alks_cons (n : Nat) (d : D) (ds : List D) : alks n (d :: ds) = (alk n d && alks n ds) := by rw [alks]
theorem alks_all (n : Nat) (ds : List D) : alks n ds = ds.all (alk n) := by
  induction ds with
  | nil => simp
  | cons d ds ih => simp [ih]
theorem alks_map {α : Type} (n : Nat) (f : α → D) (xs : List α) (h : ∀ a ∈ xs, alk n (f a) = true) : alks n (xs.map f) = true := by
  rw [alks_all, List.all_eq_true]
  intro d hd
  obtain ⟨a, ha, rfl⟩ := List.mem_map.mp hd
  exact h a ha
@[simp] theorem alks_eN (n : Nat) (r : List Nat) : alks n (r.map eN) = true := alks_map _ _ _ fun _ _ => by simp
theorem alk_eR (n : Nat) (r : List Nat) (h : r.length ≤ 100000) : alk (n + 1) (eR r) = true := by simp [h]
theorem alk_eH (n : Nat) (r : List (List Nat)) (h : r.length ≤ 100000) (h2 : ∀ x ∈ r, x.length ≤ 100000) : alk (n + 2) (eH r) = true := by
  simp [h]
  exact alks_map _ _ _ fun x hx => alk_eR _ _ (h2 x hx)
@[simp] theorem dec_list : (Ty.tuple = Ty.list) = False := by simp
theorem str_eq (x : Str) : eqD (.str x) (.str x) = true := (eqD_iff _ _ rfl rfl).mpr rfl
set_option maxHeartbeats 1000000 in
theorem alike_ok : ∀ (n : Nat) (d : D) (S : Sto), alk n d = true → f_l_alike (n + 1) [d, d] S = .ok (.bl true) S := by
  intro n
  induction n with
  | zero =>
    intro d S h
    refine fun_eq rfl fun F hF => ?_
    cases d with
    | int i => simp [p_l_alike]; exact hF _ _ (finP_self rfl ⟨rfl, rfl⟩)
    | bl i => simp [p_l_alike]; exact hF _ _ (finP_self rfl ⟨rfl, rfl⟩)
    | non => simp [p_l_alike, v_eq, eqD, toPy, PyData.eqv]; exact hF _ _ (finP_self rfl ⟨rfl, rfl⟩)
    | str x =>
      have hx : PyData.canLay0 (.str x) = true := by simpa using h
      have hp : pln 64 (.str x) = true := hx
      simp [p_l_alike, v_eq, hp, str_eq]
      exact hF _ _ (finP_self rfl ⟨rfl, rfl⟩)
    | _ => simp [alk] at h
  | succ n ih =>
    intro d S h
    have seqs : ∀ ds : List D, ds.length ≤ 100000 → alks n ds = true → ∀ x : D, seqOf S x = some ds → ∀ wσ : Sl, compL S [] false (.nm 2) (wipeD [x, x, .dead] [2]) (mNotT (mTest (mApp (f_l_alike (n + 1)) (mCons (mOp fIx (mVar 0) (mVar 2)) (mCons (mOp fIx (mVar 1) (mVar 2)) mNil))))) (mVar 2) ((List.range ds.length).map eN) [] S = .ok [] S := by
      intro ds hl ha x hx wσ
      have hlv : live x = true := by cases x <;> first | rfl | (simp [seqOf, tupOf, lstOf] at hx)
      have := comp_pure (S := S) (src := []) (pair := false) (t := .nm 2) (wσ := wipeD [x, x, .dead] [2]) (c := mNotT (mTest (mApp (f_l_alike (n + 1)) (mCons (mOp fIx (mVar 0) (mVar 2)) (mCons (mOp fIx (mVar 1) (mVar 2)) mNil))))) (e := mVar 2) eN (fun _ => false) eN (List.range ds.length) [] (fun a ha' => by
        have hlt : a < ds.length := List.mem_range.mp ha'
        refine ⟨_, rfl, ?_, nofun⟩
        have hda : alk n ds[a] = true := by
          rw [alks_all, List.all_eq_true] at ha
          exact ha _ (List.getElem_mem hlt)
        have := ih ds[a] S hda
        simp [wipeD, hlv, hx, hlt, this]) (by simpa using hl)
      rw [List.filter_eq_nil_iff.mpr (by simp)] at this
      simpa using this
    refine fun_eq rfl fun F hF => ?_
    cases d with
    | int i => simp [p_l_alike]; exact hF _ _ (finP_self rfl ⟨rfl, rfl⟩)
    | bl i => simp [p_l_alike]; exact hF _ _ (finP_self rfl ⟨rfl, rfl⟩)
    | non => simp [p_l_alike, v_eq, eqD, toPy, PyData.eqv]; exact hF _ _ (finP_self rfl ⟨rfl, rfl⟩)
    | str x =>
      have hx : PyData.canLay0 (.str x) = true := by simpa using h
      have hp : pln 64 (.str x) = true := hx
      simp [p_l_alike, v_eq, hp, str_eq]
      exact hF _ _ (finP_self rfl ⟨rfl, rfl⟩)
    | tup ds =>
      have h' : ds.length ≤ 100000 ∧ alks n ds = true := by simpa using h
      have := seqs ds h'.1 h'.2 (.tup ds) rfl []
      have hrg := okRg_0 h'.1
      simp [p_l_alike, hrg, rgD_nat, this, v_eq]
      exact hF _ _ (finP_self rfl ⟨rfl, rfl⟩)
    | lst ds =>
      have h' : ds.length ≤ 100000 ∧ alks n ds = true := by simpa using h
      have := seqs ds h'.1 h'.2 (.lst ds) rfl []
      have hrg := okRg_0 h'.1
      simp [p_l_alike, hrg, rgD_nat, this, v_eq]
      exact hF _ _ (finP_self rfl ⟨rfl, rfl⟩)
    | _ => simp [alk] at h

theorem isint_ok (S : Sto) (i lo hi : Int) : f_is_integer [.int i, .int lo, .int hi] S = .ok (.bl (decide (lo ≤ i) && decide (i ≤ hi))) S := by
  refine fun_eq rfl fun F hF => ?_
  by_cases h : lo ≤ i
  · simp [p_is_integer, h]
    exact hF _ _ (finP_self rfl ⟨by simp [h], rfl⟩)
  · simp [p_is_integer, h]
    exact hF _ _ (finP_self rfl ⟨by simp [h], rfl⟩)
/-- what a pack is -/
structure PackOk (hp : List (List Nat)) : Prop where
  pos : 1 ≤ hp.length
  le : hp.length ≤ 8
  sz : ∀ r ∈ hp, r.length ≤ 8
  lt : ∀ r ∈ hp, ∀ c ∈ r, c < hp.length
  cnt : ∀ (i : Nat) (hi : i < hp.length), hp.flatten.count i = hp[i].length
theorem packOk_of {hp : List (List Nat)} {zs : List Nat} (h1 : 1 ≤ zs.length) (h8 : zs.length ≤ 8) (hz : ∀ z ∈ zs, z ≤ 8) (hl : hp.map List.length = zs) (hp' : hp.flatten.Perm (deck zs)) : PackOk hp := by
  have hlen : hp.length = zs.length := by rw [← hl, List.length_map]
  refine ⟨by omega, by omega, fun r hr => ?_, fun r hr c hc => ?_, fun i hi => ?_⟩
  · exact hz _ (by rw [← hl]; exact List.mem_map_of_mem hr)
  · have : c ∈ deck zs := hp'.mem_iff.mp (List.mem_flatten.mpr ⟨r, hr, hc⟩)
    have := (deck_lt zs 0 c this).2
    omega
  · have := deck_count zs 0 i
    rw [Nat.zero_add] at this
    rw [hp'.count_eq, this]
    subst hl
    simp [hi]
theorem isheap_ok (S : Sto) (r : List Nat) (many : Nat) (hr : r.length ≤ 8) (hm : 1 ≤ many) (hc : ∀ c ∈ r, c < many) : f_is_heap [eR r, .int (many : Int)] S = .ok (.bl true) S := by
  refine fun_eq rfl fun F hF => ?_
  have hcomp := comp_all (S := S) (src := []) (pair := false) (t := .nm 2) (wσ := [eR r, .int (many : Int), .dead]) (e := p_is_heap_e0) eN (fun _ => D.bl true) r (fun a ha => by
    have h1 := hc a ha
    have h2 : (a : Int) ≤ (many : Int) - 1 := by omega
    exact ⟨_, rfl, by simp [p_is_heap_e0, isint_ok, h2]⟩) (by simp; omega)
  have h8 : ¬ (8 : Int) < (r.length : Int) := by omega
  have hb : blsOf (r.map fun _ => D.bl true) = some (r.map fun _ => true) := by
    have := blsOf_map (r.map fun _ => true)
    rwa [List.map_map] at this
  simp [p_is_heap, h8, wipeD, hcomp, hb]
  exact hF _ _ (finP_self rfl ⟨by simp, rfl⟩)
theorem checkheaps_ok (S : Sto) (hp : List (List Nat)) (h : PackOk hp) : f_check_heaps [eH hp] S = .ok .non S := by
  refine fun_eq rfl fun F hF => ?_
  have h1 := h.pos
  have h8 := h.le
  have e0 : enumD 0 (hp.map eR) = (hp.zipIdx 0).map fun p => D.tup [.int (p.2 : Nat), eR p.1] := enumD_map eR hp 0
  have i1 : (1 : Int) ≤ (hp.length : Int) := by omega
  have i8 : (hp.length : Int) ≤ 8 := by omega
  simp [p_check_heaps, i1, i8, e0]
  refine out_for (fun k σ S' => ∃ j j', σ = [eH hp, j, j'] ∧ S' = S) (fun k d σ S' e q => ?_) (fun σ S' q => ?_) ⟨_, _, rfl, rfl⟩
  · obtain ⟨j, j', rfl, rfl⟩ := q
    obtain ⟨p, hp', rfl⟩ := List.mem_map.mp (List.mem_of_getElem? e)
    have hm : p.1 ∈ hp := by
      have := List.mem_zipIdx hp'
      simp at this
      rw [this.2]
      exact List.getElem_mem _
    have := isheap_ok S' p.1 hp.length (h.sz _ hm) h1 (h.lt _ hm)
    refine ⟨by simp, _, rfl, fun F hF => ?_⟩
    simp [p_check_heaps_b0, this]
    exact hF _ _ ⟨_, _, rfl, rfl⟩
  · obtain ⟨j, j', rfl, rfl⟩ := q
    simp
    exact hF _ _ (finP_self rfl ⟨rfl, rfl⟩)
@[simp] theorem v_countR (S : Sto) (r : List Nat) (i : Nat) : fCount (eR r) (.int (i : Int)) S = .ok (.int (r.count i : Nat)) S := by
  have hf : (r.map eN).all flatD = true := by simp [List.all_map]
  show (if flatD (.int (i : Int)) && (r.map eN).all flatD then R.ok (D.int (((r.map eN).countP fun z => eqD z (.int (i : Int)) : Nat) : Int)) S else .bad) = _
  rw [hf, show (flatD (.int (i : Int)) && true) = true from rfl, if_pos rfl, List.countP_map, List.count]
  congr 3
  apply List.countP_congr
  intro a _
  simp [Function.comp]
  omega
theorem intsOf_eN (xs : List Nat) : intsOf (xs.map eN) = some (xs.map fun x : Nat => (x : Int)) := by
  have := intsOf_map (xs.map fun x : Nat => (x : Int))
  rwa [List.map_map] at this
theorem sum_eN (xs : List Nat) : (xs.map fun x : Nat => (x : Int)).sum = (xs.sum : Int) := by
  induction xs with
  | nil => rfl
  | cons x xs ih => rw [List.map_cons, List.sum_cons, ih, List.sum_cons]; omega
theorem count_flatten (hp : List (List Nat)) (i : Nat) : (hp.map fun r => r.count i).sum = hp.flatten.count i := by
  induction hp with
  | nil => rfl
  | cons r hp ih => simp [ih, List.count_append]
def insPack (hp : List (List Nat)) : D := .ins 0 ["rows"] [eH hp]
theorem packinit_ok (S : Sto) (hp : List (List Nat)) (h : PackOk hp) : f_Pack_init [.ref S.length, eH hp] (S ++ [.ins 0 [] []]) = .ok .non (S ++ [.ins 0 ["rows"] [eH hp]]) := by
  have := fun_out (slots := 5) (n := 2) (m := p_Pack_init) (ds := [.ref S.length, eH hp]) (S := S ++ [.ins 0 [] []]) (Q := fun d S' => d = .non ∧ S' = S ++ [.ins 0 ["rows"] [eH hp]]) rfl (fun F hF => by
    have h1 := h.pos
    have h8 := h.le
    have e0 : enumD 0 (hp.map eR) = (hp.zipIdx 0).map fun p => D.tup [.int (p.2 : Nat), eR p.1] := enumD_map eR hp 0
    simp [p_Pack_init, checkheaps_ok _ hp h, e0]
    refine out_for (fun k σ S' => ∃ j j', σ = [.ref S.length, eH hp, j, j', .dead] ∧ S' = S ++ [.ins 0 [] []]) (fun k d σ S' e q => ?_) (fun σ S' q => ?_) ⟨_, _, rfl, rfl⟩
    · obtain ⟨j, j', rfl, rfl⟩ := q
      obtain ⟨p, hp', rfl⟩ := List.mem_map.mp (List.mem_of_getElem? e)
      have hm := List.mem_zipIdx hp'
      simp at hm
      have hcomp := comp_all (S := S ++ [.ins 0 [] []]) (src := []) (pair := false) (t := .nm 4) (wσ := [.ref S.length, eH hp, .int (p.2 : Int), eR p.1, .dead]) (e := p_Pack_init_e0) eR (fun r => eN (r.count p.2)) hp (fun r _ => ⟨_, rfl, by simp [p_Pack_init_e0]⟩) (by simp; omega)
      have hs1 : intsOf (hp.map fun r => eN (r.count p.2)) = some ((hp.map fun r => r.count p.2).map fun x : Nat => (x : Int)) := by
        have := intsOf_eN (hp.map fun r => r.count p.2)
        rwa [List.map_map] at this
      have hs2 : (((hp.map fun r => r.count p.2).map fun x : Nat => (x : Int)).sum) = (p.1.length : Int) := by
        rw [sum_eN, count_flatten, h.cnt p.2 hm.1, ← hm.2]
      refine ⟨by simp, _, rfl, fun F hF => ?_⟩
      simp only [List.map_map] at hs1 hs2
      simp [p_Pack_init_b0, wipeD, hcomp, hs1, hs2]
      exact hF _ _ ⟨_, _, rfl, rfl⟩
    · obtain ⟨j, j', rfl, rfl⟩ := q
      simp
      refine hF _ _ ⟨.non, S ++ [.ins 0 ["rows"] [eH hp]], ?_, rfl, rfl⟩
      simp [putN, putX]
      unfold fin
      rw [if_pos]
      · rw [fz_cl rfl]
        simp only [R.ok.injEq, true_and]
        exact List.take_of_length_le (by simp)
      · refine ⟨by simp, fun k o hk e => ?_⟩
        by_cases q : k < S.length
        · left
          rw [List.getElem?_append_left q] at e ⊢
          exact e
        · right
          have : k = S.length := by simp at hk; omega
          subst this
          simp at e
          subst e
          simp [clO])
  obtain ⟨d, S2, e, rfl, rfl⟩ := this
  exact e

@[simp] theorem optAll_nil {α β : Type} (f : α → Option β) : optAll f [] = some [] := rfl
@[simp] theorem optAll_cons {α β : Type} (f : α → Option β) (x : α) (xs : List α) : optAll f (x :: xs) = match f x with | some y => (optAll f xs).map (y :: ·) | none => none := rfl
theorem pack_ok (S : Sto) (σ : Sl) (m : M (List D)) (hp : List (List Nat)) (h : PackOk hp) (hm : m σ S = .ok [eH hp] S) : mFr (mNew 0 f_Pack_init m) σ S = .ok (insPack hp) S := by
  simp [hm, packinit_ok S hp h]
  refine fin_app ?_
  have h1 : ¬ (cl S.length (.ref S.length) = true) := by simp
  have h2 : fz S.length (S ++ [.ins 0 ["rows"] [eH hp]]) 3 (eH hp) = some (eH hp) := fz_cl (by simp)
  unfold fz
  rw [if_neg h1]
  simp only [sto_get0, optAll_cons, h2]
  rfl
theorem checkfirsts_ok (S : Sto) (many : Nat) (fs : List Nat) (h : FirstsOk many fs) : f_check_firsts [.int (many : Int), eR fs] S = .ok .non S := by
  refine fun_eq rfl fun F hF => ?_
  have h1 : 1 ≤ fs.length := List.length_pos_iff.mpr h.pos
  have h8 := h.le
  have e0 : enumD 0 (fs.map eN) = (fs.zipIdx 0).map fun p => D.tup [.int (p.2 : Nat), eN p.1] := enumD_map eN fs 0
  have i1 : (1 : Int) ≤ (fs.length : Int) := by omega
  have i8 : (fs.length : Int) ≤ (many : Int) := by omega
  simp [p_check_firsts, i1, h8, e0]
  refine out_for (fun k σ S' => ∃ j j', σ = [.int (many : Int), eR fs, j, j'] ∧ S' = S) (fun k d σ S' e q => ?_) (fun σ S' q => ?_) ⟨_, _, rfl, rfl⟩
  · obtain ⟨j, j', rfl, rfl⟩ := q
    obtain ⟨p, hp', rfl⟩ := List.mem_map.mp (List.mem_of_getElem? e)
    have hm := List.mem_zipIdx hp'
    simp at hm
    have hlt : p.1 < many := by rw [hm.2]; exact h.lt _ (List.getElem_mem _)
    have hi := isint_ok S' (p.1 : Int) 0 ((many : Int) - 1)
    have hle : (p.1 : Int) ≤ (many : Int) - 1 := by omega
    have hnot : p.1 ∉ fs.take p.2 := by
      intro z
      obtain ⟨i, hi, e⟩ := List.getElem_of_mem z
      rw [List.getElem_take] at e
      have hi' : i < p.2 := by simp at hi; omega
      have := (List.getElem_inj h.nd (h₀ := by omega) (h₁ := hm.1)).mp (e.trans hm.2)
      omega
    have hin := inD_eN p.1 (fs.take p.2)
    rw [List.map_take] at hin
    refine ⟨by simp, _, rfl, fun F hF => ?_⟩
    have hfl : flats ((fs.map eN).take p.2) = true := by rw [← List.map_take]; exact flat_eN _
    simp [p_check_firsts_b0, hi, hle, hin, hnot, hfl]
    exact hF _ _ ⟨_, _, rfl, rfl⟩
  · obtain ⟨j, j', rfl, rfl⟩ := q
    simp
    exact hF _ _ (finP_self rfl ⟨rfl, rfl⟩)
end DL

namespace DL
open PySem L2
theorem mW_stop {t : M Bool} {b : MS} {σ : Sl} {S S1 : Sto} (h : t σ S = .ok false S1) : mW t b σ S = .nx σ S1 := by
  have : mWhile t b 1 σ S = .nx σ S1 := by
    show mBS t (fun c => if c = true then mThen b (mWhile t b 0) else mPass) σ S = _
    unfold mBS
    rw [h]
    rfl
  rw [mW_of (n := 1) (by rw [this]; exact nofun), this]
theorem mW_step {t : M Bool} {b : MS} {σ σ2 : Sl} {S S1 S2 : Sto} (h : t σ S = .ok true S1) (h2 : b σ S1 = .nx σ2 S2) : mW t b σ S = mW t b σ2 S2 := by
  have st : ∀ n, mWhile t b (n + 1) σ S = mWhile t b n σ2 S2 := fun n => by
    show mBS t (fun c => if c = true then mThen b (mWhile t b n) else mPass) σ S = _
    unfold mBS
    rw [h]
    show mThen b (mWhile t b n) σ S1 = _
    unfold mThen
    rw [h2]
  by_cases q : ∃ n, mWhile t b n σ2 S2 ≠ .bad
  · obtain ⟨n, hn⟩ := q
    rw [mW_of hn, mW_of (n := n + 1) (by rw [st]; exact hn), st]
  · have q2 : ¬ ∃ n, mWhile t b n σ S ≠ .bad := fun ⟨n, hn⟩ => by
      cases n with
      | zero => exact hn rfl
      | succ n => rw [st] at hn; exact q ⟨n, hn⟩
    unfold mW
    rw [dif_neg q, dif_neg q2]
inductive Go : List (List Nat) → Nat → List (Nat × Nat) → List (List Nat) → Prop
  | stop {l : List (List Nat)} {h : Nat} : l[h]? = some [] → Go l h [] l
  | step {l : List (List Nat)} {h c : Nat} {r : List Nat} {f : List (Nat × Nat)} {l' : List (List Nat)} : l[h]? = some (c :: r) → Go (l.set h r) c f l' → Go l h ((h, c) :: f) l'
inductive Wk : List (List Nat) → List Nat → List (Nat × Nat) → List (List Nat) → Prop
  | nil {l : List (List Nat)} : Wk l [] [] l
  | cons {l : List (List Nat)} {a : Nat} {fs : List Nat} {f : List (Nat × Nat)} {l1 : List (List Nat)} {g : List (Nat × Nat)} {l2 : List (List Nat)} : Go l a f l1 → Wk l1 fs g l2 → Wk l (a :: fs) (f ++ g) l2
/-- cards lead to heaps that are there -/
def Bd (m : Nat) (l : List (List Nat)) : Prop := l.length = m ∧ ∀ r ∈ l, ∀ c ∈ r, c < m
theorem Bd.set {m : Nat} {l : List (List Nat)} {h c : Nat} {r : List Nat} (b : Bd m l) (e : l[h]? = some (c :: r)) : Bd m (l.set h r) ∧ c < m := by
  have hm := List.mem_of_getElem? e
  refine ⟨⟨by rw [List.length_set]; exact b.1, fun x hx y hy => ?_⟩, b.2 _ hm c (List.mem_cons_self ..)⟩
  rcases List.mem_or_eq_of_mem_set hx with q | q
  · exact b.2 x q y hy
  · exact b.2 _ hm y (List.mem_cons_of_mem _ (q ▸ hy))
theorem flat_set : ∀ {l : List (List Nat)} {h c : Nat} {r : List Nat}, l[h]? = some (c :: r) → l.flatten.length = (l.set h r).flatten.length + 1
  | x :: l, 0, c, r, e => by
    simp at e
    subst e
    simp
  | x :: l, h + 1, c, r, e => by
    have := flat_set (l := l) (h := h) (c := c) (r := r) (by simpa using e)
    simp at this ⊢
    omega
theorem Go.len {l l' : List (List Nat)} {h : Nat} {f : List (Nat × Nat)} (g : Go l h f l') : f.length + l'.flatten.length = l.flatten.length := by
  induction g with
  | stop e => simp
  | step e g ih => rw [flat_set e, List.length_cons]; omega
theorem Go.bd {m : Nat} {l l' : List (List Nat)} {h : Nat} {f : List (Nat × Nat)} (g : Go l h f l') (b : Bd m l) : Bd m l' := by
  induction g with
  | stop e => exact b
  | step e g ih => exact ih (b.set e).1
theorem go_ex (m : Nat) : ∀ (n : Nat) (l : List (List Nat)) (h : Nat), l.flatten.length = n → Bd m l → h < m → ∃ f l', Go l h f l' := by
  intro n
  induction n with
  | zero =>
    intro l h hn b hh
    have hl : h < l.length := by rw [b.1]; exact hh
    refine ⟨[], l, .stop ?_⟩
    rw [List.getElem?_eq_getElem hl]
    cases q : l[h] with
    | nil => rfl
    | cons c r =>
      have := flat_set (l := l) (h := h) (c := c) (r := r) (by rw [List.getElem?_eq_getElem hl, q])
      omega
  | succ n ih =>
    intro l h hn b hh
    have hl : h < l.length := by rw [b.1]; exact hh
    cases q : l[h] with
    | nil => exact ⟨[], l, .stop (by rw [List.getElem?_eq_getElem hl, q])⟩
    | cons c r =>
      have e : l[h]? = some (c :: r) := by rw [List.getElem?_eq_getElem hl, q]
      obtain ⟨b2, hc⟩ := b.set e
      obtain ⟨f, l', g⟩ := ih (l.set h r) c (by have := flat_set e; omega) b2 hc
      exact ⟨_, l', .step e g⟩
theorem wk_ex (m : Nat) : ∀ (fs : List Nat) (l : List (List Nat)), Bd m l → (∀ f ∈ fs, f < m) → ∃ g l', Wk l fs g l'
  | [], l, _, _ => ⟨[], l, .nil⟩
  | a :: fs, l, b, h => by
    obtain ⟨f, l1, g⟩ := go_ex m _ l a rfl b (h a (List.mem_cons_self ..))
    obtain ⟨f2, l2, w⟩ := wk_ex m fs l1 (g.bd b) (fun x hx => h x (List.mem_cons_of_mem _ hx))
    exact ⟨_, l2, .cons g w⟩
theorem Wk.len {l l' : List (List Nat)} {fs : List Nat} {g : List (Nat × Nat)} (w : Wk l fs g l') : g.length + l'.flatten.length = l.flatten.length := by
  induction w with
  | nil => simp
  | cons g w ih => have := g.len; rw [List.length_append]; omega
theorem Wk.bd {m : Nat} {l l' : List (List Nat)} {fs : List Nat} {g : List (Nat × Nat)} (w : Wk l fs g l') (b : Bd m l) : Bd m l' := by
  induction w with
  | nil => exact b
  | cons g w ih => exact ih (g.bd b)
theorem PackOk.bd {hp : List (List Nat)} (h : PackOk hp) : Bd hp.length hp := ⟨rfl, h.lt⟩
theorem PackOk.most {hp : List (List Nat)} (h : PackOk hp) : hp.flatten.length ≤ 64 := by
  rw [List.length_flatten]
  have : ∀ (l : List (List Nat)), (∀ r ∈ l, r.length ≤ 8) → (l.map List.length).sum ≤ 8 * l.length := by
    intro l
    induction l with
    | nil => simp
    | cons r l ih =>
      intro q
      have h1 := q r (List.mem_cons_self ..)
      have h2 := ih fun x hx => q x (List.mem_cons_of_mem _ hx)
      simp
      omega
  have := this hp h.sz
  have := h.le
  omega
abbrev eP (p : Nat × Nat) : D := .tup [eN p.1, eN p.2]
@[simp] theorem cll_eP (n : Nat) (r : List (Nat × Nat)) : cll n (r.map eP) = true := cll_map _ _ _ fun _ _ => rfl
@[simp] theorem eqD_nilR (r : List Nat) : eqD (.tup (r.map eN)) (.tup []) = decide (r = []) := eqD_eR r []
theorem lwalk_w (S : Sto) (x0 x1 x4 : D) {l l' : List (List Nat)} {h : Nat} {f : List (Nat × Nat)} (g : Go l h f l') : ∀ (found : List (Nat × Nat)) (j : D), found.length + f.length < 100000 →
    ∃ h' j', mW p_l_walk_t0 p_l_walk_b0 [x0, x1, .ref S.length, .ref (S.length + 1), x4, eN h, j] (S ++ [.lst (l.map eR), .lst (found.map eP)]) = .nx [x0, x1, .ref S.length, .ref (S.length + 1), x4, h', j'] (S ++ [.lst (l'.map eR), .lst ((found ++ f).map eP)]) := by
  induction g with
  | stop e =>
    intro found j _
    refine ⟨_, _, (mW_stop ?_).trans (by rw [List.append_nil])⟩
    simp [p_l_walk_t0, e, v_ne]
  | step e g ih =>
    rename_i l h c r f l'
    intro found j hl
    have hlt : found.length < 100000 := by simp at hl; omega
    have hh : h < l.length := (List.getElem?_eq_some_iff.mp e).1
    obtain ⟨h', j', ih⟩ := ih (found ++ [(h, c)]) (eN c) (by simp at hl ⊢; omega)
    refine ⟨h', j', (mW_step (σ2 := [x0, x1, .ref S.length, .ref (S.length + 1), x4, eN c, eN c]) (S2 := S ++ [.lst ((l.set h r).map eR), .lst ((found ++ [(h, c)]).map eP)]) (S1 := S ++ [.lst (l.map eR), .lst (found.map eP)]) ?_ ?_).trans (by rw [ih]; simp)⟩
    · simp [p_l_walk_t0, e, v_ne]
    · have := ixN_n hh
      simp [p_l_walk_b0, e, hlt, this]

theorem lwalk_f (S0 S : Sto) (x0 x1 : D) {l l' : List (List Nat)} {fs : List Nat} {g : List (Nat × Nat)} (w : Wk l fs g l') : ∀ (found : List (Nat × Nat)) (j4 j5 j6 : D), found.length + g.length < 100000 →
    ∃ j4' j5' j6', forL S0 [] false (.nm 4) p_l_walk_b1 (fs.map eN) [x0, x1, .ref S.length, .ref (S.length + 1), j4, j5, j6] (S ++ [.lst (l.map eR), .lst (found.map eP)]) = .nx [x0, x1, .ref S.length, .ref (S.length + 1), j4', j5', j6'] (S ++ [.lst (l'.map eR), .lst ((found ++ g).map eP)]) := by
  induction w with
  | nil =>
    intro found j4 j5 j6 _
    refine ⟨j4, j5, j6, ?_⟩
    simp [forL]
  | cons g w ih =>
    rename_i l a fs f l1 g' l2
    intro found j4 j5 j6 hl
    rw [List.length_append] at hl
    obtain ⟨h', j', e⟩ := lwalk_w S x0 x1 (eN a) g found j6 (by omega)
    obtain ⟨j4', j5', j6', ih⟩ := ih (found ++ f) (eN a) h' j' (by rw [List.length_append]; omega)
    refine ⟨j4', j5', j6', ?_⟩
    rw [List.append_assoc] at ih
    have hb : p_l_walk_b1 [x0, x1, .ref S.length, .ref (S.length + 1), eN a, j5, j6] (S ++ [.lst (l.map eR), .lst (found.map eP)]) = .nx [x0, x1, .ref S.length, .ref (S.length + 1), eN a, h', j'] (S ++ [.lst (l1.map eR), .lst ((found ++ f).map eP)]) := by
      simp [p_l_walk_b1, e]
    rw [List.map_cons]
    unfold forL
    rw [if_pos (by simp)]
    simp only [v_st1, v_slots1, v_setAll1, v_setAll0]
    unfold mThen
    rw [show List.set [x0, x1, .ref S.length, .ref (S.length + 1), j4, j5, j6] 4 (eN a) = [x0, x1, .ref S.length, .ref (S.length + 1), eN a, j5, j6] from rfl, hb]
    exact ih
theorem lwalk_ok (S : Sto) {l l' : List (List Nat)} {fs : List Nat} {g : List (Nat × Nat)} (w : Wk l fs g l') (hl : g.length < 100000) : f_l_walk [eH l, eR fs] S = .ok (.tup [.lst (g.map eP), eH l']) S := by
  refine fun_eq rfl fun F hF => ?_
  obtain ⟨j4, j5, j6, e⟩ := lwalk_f (S ++ [.lst (l.map eR), .lst []]) S (eH l) (eR fs) w [] .dead .dead .dead (by simpa using hl)
  simp only [List.map_nil, List.nil_append] at e
  simp [p_l_walk, e]
  refine hF _ _ (finP_app (d' := .tup [.lst (g.map eP), eH l']) ?_ ⟨rfl, rfl⟩)
  have h1 : fz S.length (S ++ [.lst (l'.map eR), .lst (g.map eP)]) 3 (.ref (S.length + 1)) = some (.lst (g.map eP)) := fz_lst (by omega) (by simp) (by simp)
  have h2 : fz S.length (S ++ [.lst (l'.map eR), .lst (g.map eP)]) 3 (eH l') = some (eH l') := fz_cl (by simp)
  unfold fz
  rw [if_neg (by simp)]
  simp only [optAll_cons, optAll_nil, h1, h2]
  rfl
def leftOf (hp : List (List Nat)) (t : List Nat) : List (List Nat) := List.zipWith (fun r n => r.drop n) hp t
theorem leftOf_get {hp : List (List Nat)} {t : List Nat} {h n : Nat} {r : List Nat} (e : hp[h]? = some r) (e2 : t[h]? = some n) : (leftOf hp t)[h]? = some (r.drop n) := by
  unfold leftOf
  rw [List.getElem?_zipWith, e, e2]
theorem leftOf_set {hp : List (List Nat)} : ∀ {t : List Nat} {h n : Nat} {r : List Nat}, hp[h]? = some r → t[h]? = some n → (leftOf hp t).set h (r.drop (n + 1)) = leftOf hp (t.set h (n + 1)) := by
  intro t h n r e e2
  apply List.ext_getElem?
  intro i
  unfold leftOf
  by_cases hi : h = i
  · subst hi
    have h1 : h < hp.length := (List.getElem?_eq_some_iff.mp e).1
    have h2 : h < t.length := (List.getElem?_eq_some_iff.mp e2).1
    rw [List.getElem?_set_self (by rw [List.length_zipWith]; omega), List.getElem?_zipWith, e, List.getElem?_set_self h2]
  · rw [List.getElem?_set_ne hi, List.getElem?_zipWith, List.getElem?_zipWith, List.getElem?_set_ne hi]
structure Cnt (hp : List (List Nat)) (t : List Nat) : Prop where
  len : t.length = hp.length
  le : ∀ (i n : Nat) (r : List Nat), t[i]? = some n → hp[i]? = some r → n ≤ r.length
theorem walked_w (S : Sto) (hp : List (List Nat)) (hb : Bd hp.length hp) (x1 x4 : D) {l l' : List (List Nat)} {h : Nat} {f : List (Nat × Nat)} (g : Go l h f l') : ∀ (t : List Nat) (found : List (Nat × Nat)) (j : D), l = leftOf hp t → Cnt hp t → found.length + f.length < 100000 →
    ∃ t' h' j', l' = leftOf hp t' ∧ Cnt hp t' ∧ mW p_walked_t0 p_walked_b0 [eH hp, x1, .ref S.length, .ref (S.length + 1), x4, eN h, j] (S ++ [.lst (found.map eP), .lst (t.map eN)]) = .nx [eH hp, x1, .ref S.length, .ref (S.length + 1), x4, h', j'] (S ++ [.lst ((found ++ f).map eP), .lst (t'.map eN)]) := by
  induction g with
  | stop e =>
    rename_i l h
    intro t found j hl hc _
    subst hl
    have hh : h < (leftOf hp t).length := (List.getElem?_eq_some_iff.mp e).1
    unfold leftOf at hh
    rw [List.length_zipWith] at hh
    obtain ⟨r, er⟩ : ∃ r, hp[h]? = some r := ⟨_, List.getElem?_eq_getElem (by omega)⟩
    obtain ⟨n, en⟩ : ∃ n, t[h]? = some n := ⟨_, List.getElem?_eq_getElem (by omega)⟩
    rw [leftOf_get er en] at e
    have hd : r.length ≤ n := by
      have := congrArg List.length (Option.some.inj e)
      rw [List.length_drop] at this
      simp at this
      omega
    refine ⟨t, _, _, rfl, hc, (mW_stop ?_).trans (by rw [List.append_nil])⟩
    have hnn : ¬ n < r.length := by omega
    simp [p_walked_t0, er, en, hnn]
  | step e g ih =>
    rename_i l h c r' f l'
    intro t found j hl hc hlen
    subst hl
    have hh : h < (leftOf hp t).length := (List.getElem?_eq_some_iff.mp e).1
    unfold leftOf at hh
    rw [List.length_zipWith] at hh
    obtain ⟨r, er⟩ : ∃ r, hp[h]? = some r := ⟨_, List.getElem?_eq_getElem (by omega)⟩
    obtain ⟨n, en⟩ : ∃ n, t[h]? = some n := ⟨_, List.getElem?_eq_getElem (by omega)⟩
    rw [leftOf_get er en] at e
    have hdr : r.drop n = c :: r' := Option.some.inj e
    have hn : n < r.length := by
      have := congrArg List.length hdr
      rw [List.length_drop] at this
      simp at this
      omega
    have hcn : r[n]? = some c := by
      have : (r.drop n)[0]? = some c := by rw [hdr]; rfl
      rwa [List.getElem?_drop, Nat.add_zero] at this
    have hr' : r' = r.drop (n + 1) := by
      have : (r.drop n).drop 1 = r' := by rw [hdr]; rfl
      rw [List.drop_drop] at this
      exact this.symm
    subst hr'
    have hlt : found.length < 100000 := by simp at hlen; omega
    have hc2 : Cnt hp (t.set h (n + 1)) := ⟨by rw [List.length_set]; exact hc.len, fun i m s e1 e2 => by
      by_cases hi : h = i
      · subst hi
        rw [List.getElem?_set_self (by omega)] at e1
        cases Option.some.inj e1
        rw [er] at e2
        cases Option.some.inj e2
        omega
      · rw [List.getElem?_set_ne hi] at e1
        exact hc.le i m s e1 e2⟩
    obtain ⟨t', h', j', e1, e2, ih⟩ := ih (t.set h (n + 1)) (found ++ [(h, c)]) (eN c) (leftOf_set er en) hc2 (by simp at hlen ⊢; omega)
    refine ⟨t', h', j', e1, e2, (mW_step (σ2 := [eH hp, x1, .ref S.length, .ref (S.length + 1), x4, eN c, eN c]) (S2 := S ++ [.lst ((found ++ [(h, c)]).map eP), .lst ((t.set h (n + 1)).map eN)]) (S1 := S ++ [.lst (found.map eP), .lst (t.map eN)]) ?_ ?_).trans (by rw [ih]; simp)⟩
    · simp [p_walked_t0, er, en, hn]
    · have hx : ixN t.length (h : Int) = some h := ixN_n (by omega)
      simp [p_walked_b0, er, en, hcn, hlt, hx]
      rfl
theorem walked_f (S0 S : Sto) (hp : List (List Nat)) (hb : Bd hp.length hp) (x1 : D) {l l' : List (List Nat)} {fs : List Nat} {g : List (Nat × Nat)} (w : Wk l fs g l') : ∀ (t : List Nat) (found : List (Nat × Nat)) (j4 j5 j6 : D), l = leftOf hp t → Cnt hp t → found.length + g.length < 100000 →
    ∃ t' j4' j5' j6', l' = leftOf hp t' ∧ Cnt hp t' ∧ forL S0 [] false (.nm 4) p_walked_b1 (fs.map eN) [eH hp, x1, .ref S.length, .ref (S.length + 1), j4, j5, j6] (S ++ [.lst (found.map eP), .lst (t.map eN)]) = .nx [eH hp, x1, .ref S.length, .ref (S.length + 1), j4', j5', j6'] (S ++ [.lst ((found ++ g).map eP), .lst (t'.map eN)]) := by
  induction w with
  | nil =>
    intro t found j4 j5 j6 hl hc _
    refine ⟨t, j4, j5, j6, hl, hc, ?_⟩
    simp [forL]
  | cons g w ih =>
    rename_i l a fs f l1 g' l2
    intro t found j4 j5 j6 hl hc hlen
    rw [List.length_append] at hlen
    obtain ⟨t1, h', j', e1, c1, e⟩ := walked_w S hp hb x1 (eN a) g t found j6 hl hc (by omega)
    obtain ⟨t2, j4', j5', j6', e2, c2, ih⟩ := ih t1 (found ++ f) (eN a) h' j' e1 c1 (by rw [List.length_append]; omega)
    refine ⟨t2, j4', j5', j6', e2, c2, ?_⟩
    rw [List.append_assoc] at ih
    have hb : p_walked_b1 [eH hp, x1, .ref S.length, .ref (S.length + 1), eN a, j5, j6] (S ++ [.lst (found.map eP), .lst (t.map eN)]) = .nx [eH hp, x1, .ref S.length, .ref (S.length + 1), eN a, h', j'] (S ++ [.lst ((found ++ f).map eP), .lst (t1.map eN)]) := by
      simp [p_walked_b1, e]
    rw [List.map_cons]
    unfold forL
    rw [if_pos (by simp)]
    simp only [v_st1, v_slots1, v_setAll1, v_setAll0]
    unfold mThen
    rw [show List.set [eH hp, x1, .ref S.length, .ref (S.length + 1), j4, j5, j6] 4 (eN a) = [eH hp, x1, .ref S.length, .ref (S.length + 1), eN a, j5, j6] from rfl, hb]
    exact ih
theorem leftOf_zero (hp : List (List Nat)) : leftOf hp (List.replicate hp.length 0) = hp := by
  unfold leftOf
  induction hp with
  | nil => rfl
  | cons r hp ih => rw [List.length_cons, List.replicate_succ, List.zipWith_cons_cons, ih]; rfl
theorem cnt_zero (hp : List (List Nat)) : Cnt hp (List.replicate hp.length 0) := ⟨by simp, fun i n r e _ => by
  have := List.mem_of_getElem? e
  rw [List.eq_of_mem_replicate this]
  omega⟩
theorem walked_ok (S : Sto) {hp l' : List (List Nat)} {fs : List Nat} {g : List (Nat × Nat)} (h : PackOk hp) (w : Wk hp fs g l') : ∃ t, l' = leftOf hp t ∧ Cnt hp t ∧ f_walked [eH hp, eR fs] S = .ok (.tup [.lst (g.map eP), .lst (t.map eN)]) S := by
  have hg : g.length < 100000 := by have := w.len; have := h.most; omega
  obtain ⟨t, j4, j5, j6, e1, c1, e⟩ := walked_f (S ++ [.lst [], .lst (List.replicate hp.length (eN 0))]) S hp h.bd (eR fs) w (List.replicate hp.length 0) [] .dead .dead .dead (leftOf_zero hp).symm (cnt_zero hp) (by simpa using hg)
  refine ⟨t, e1, c1, fun_eq rfl fun F hF => ?_⟩
  have hm := h.le
  have i1 : (hp.length : Int) ≤ 1000 := by omega
  have i2 : (-1000 : Int) ≤ (hp.length : Int) := by omega
  have hrep : repD (hp.length : Int) [.int 0] = List.replicate hp.length (eN 0) := by
    have := rep_eN hp.length 0
    rw [List.map_replicate] at this
    exact this
  simp only [List.map_nil, List.nil_append, List.map_replicate] at e
  simp [p_walked, i1, i2, hrep, e]
  refine hF _ _ (finP_app (d' := .tup [.lst (g.map eP), .lst (t.map eN)]) ?_ ⟨rfl, rfl⟩)
  have h1 : fz S.length (S ++ [.lst (g.map eP), .lst (t.map eN)]) 3 (.ref S.length) = some (.lst (g.map eP)) := fz_lst (by omega) (by simp) (by simp)
  have h2 : fz S.length (S ++ [.lst (g.map eP), .lst (t.map eN)]) 3 (.ref (S.length + 1)) = some (.lst (t.map eN)) := fz_lst (by omega) (by simp) (by simp)
  unfold fz
  rw [if_neg (by simp)]
  simp only [optAll_cons, optAll_nil, h1, h2]
  rfl
@[simp] theorem fld_rows (hp : List (List Nat)) : fldD "rows" ["rows"] [eH hp] = some (eH hp) := rfl
@[simp] theorem ins_pack (S : Sto) (hp : List (List Nat)) : insOf S (insPack hp) = some (0, [("rows" : Str)], [eH hp]) := rfl
@[simp] theorem live_pack (hp : List (List Nat)) : live (insPack hp) = true := rfl
@[simp] theorem cl_pack (n : Nat) (hp : List (List Nat)) : cl n (insPack hp) = true := by simp [insPack]
theorem zip_left : ∀ (hp : List (List Nat)) (t : List Nat), (hp.zip t).map (fun p => eR (p.1.drop p.2)) = (leftOf hp t).map eR
  | [], t => by simp [leftOf]
  | _ :: _, [] => by simp [leftOf]
  | r :: hp, n :: t => by
    have := zip_left hp t
    unfold leftOf at this ⊢
    rw [List.zip_cons_cons, List.map_cons, this, List.zipWith_cons_cons, List.map_cons]
theorem left_nil : ∀ (hp : List (List Nat)) (t : List Nat), Cnt hp t → (t = hp.map List.length ↔ leftOf hp t = List.replicate hp.length [])
  | [], [], _ => by simp [leftOf]
  | [], _ :: _, c => by have := c.len; simp at this
  | _ :: _, [], c => by have := c.len; simp at this
  | r :: hp, n :: t, c => by
    have ih := left_nil hp t ⟨by have := c.len; simpa using this, fun i n r e1 e2 => c.le (i + 1) n r (by simpa using e1) (by simpa using e2)⟩
    have hn := c.le 0 n r rfl rfl
    unfold leftOf at ih ⊢
    rw [List.map_cons, List.zipWith_cons_cons, List.length_cons, List.replicate_succ, List.cons.injEq, List.cons.injEq, ih, List.drop_eq_nil_iff]
    exact and_congr (by omega) Iff.rfl
theorem walk_ok (S : Sto) {hp l' : List (List Nat)} {fs : List Nat} {g : List (Nat × Nat)} (h : PackOk hp) (hf : FirstsOk hp.length fs) (w : Wk hp fs g l') : f_walk [insPack hp, eR fs] S = .ok (.lst (g.map eP)) S := by
  obtain ⟨t, _, _, e⟩ := walked_ok S h w
  refine fun_eq rfl fun F hF => ?_
  simp [p_walk, checkfirsts_ok S _ _ hf, e]
  exact hF _ _ (finP_self (by simp) ⟨rfl, rfl⟩)
theorem unturned_ok (S : Sto) {hp l' : List (List Nat)} {fs : List Nat} {g : List (Nat × Nat)} (h : PackOk hp) (hf : FirstsOk hp.length fs) (w : Wk hp fs g l') : f_unturned [insPack hp, eR fs] S = .ok (eH l') S := by
  obtain ⟨t, hl, hc, e⟩ := walked_ok S h w
  have hm := h.le
  refine fun_eq rfl fun F hF => ?_
  have hcomp := comp_all (S := S) (src := []) (pair := true) (t := .tp [3, 4]) (wσ := [insPack hp, eR fs, .lst (t.map eN), .dead, .dead]) (e := p_unturned_e0) (fun p : List Nat × Nat => .tup [eR p.1, eN p.2]) (fun p => eR (p.1.drop p.2)) (hp.zip t) (fun p _ => ⟨_, rfl, by simp [p_unturned_e0]⟩) (by simp; omega)
  have hz : (hp.zip t).map (fun p => eR (p.1.drop p.2)) = l'.map eR := by
    rw [hl]; exact zip_left hp t
  simp [p_unturned, checkfirsts_ok S _ _ hf, e, zipD_map, wipeD, hcomp]
  rw [hz]
  exact hF _ _ (finP_self (by simp) ⟨rfl, rfl⟩)
theorem goes_ok (S : Sto) {hp l' : List (List Nat)} {fs : List Nat} {g : List (Nat × Nat)} (h : PackOk hp) (hf : FirstsOk hp.length fs) (w : Wk hp fs g l') : f_goes [insPack hp, eR fs] S = .ok (.bl (decide (l' = List.replicate hp.length []))) S := by
  obtain ⟨t, hl, hc, e⟩ := walked_ok S h w
  have hm := h.le
  refine fun_eq rfl fun F hF => ?_
  have hcomp := comp_all (S := S) (src := []) (pair := false) (t := .nm 2) (wσ := [insPack hp, eR fs, .dead]) (e := p_goes_e0) eR (fun p => eN p.length) hp (fun p _ => ⟨_, rfl, by simp [p_goes_e0]⟩) (by simp; omega)
  have hc2 : eqD (.lst (t.map eN)) (.lst (hp.map fun p => eN p.length)) = decide (l' = List.replicate hp.length []) := by
    refine eqD_dec (by simp) (by rw [nb_lst]; exact nbs_map _ _ fun _ _ => rfl) ?_
    rw [hl, ← left_nil hp t hc, D.lst.injEq, show (hp.map fun p => eN p.length) = (hp.map List.length).map eN by rw [List.map_map]; rfl]
    exact eNs_inj
  have hp1 : plns 63 (hp.map fun p => eN p.length) = true := plns_map _ _ _ fun _ _ => by simp
  simp [p_goes, checkfirsts_ok S _ _ hf, e, wipeD, hcomp, v_eq, hp1, hc2]
  exact hF _ _ (finP_self (by simp) ⟨rfl, rfl⟩)
end DL

namespace DL
open PySem L2
section
variable {σ : Sl} {S : Sto}
def tmB {α : Type} (x : D) (f : Str → D → Sto → R α) (me : M D) : M α := match x with
  | .str a => mB me fun y => fun _ S => f a y S
  | _ => fun _ _ => .bad
@[simp] theorem ev_tm (f : Str → D → Sto → R D) (mo me : M D) : mTm f mo me σ S = mB mo (fun x => tmB x f me) σ S := rfl
@[simp] theorem ev_tmN (f : Str → D → Sto → R (List D)) (mo me : M D) : mTmN f mo me σ S = mB mo (fun x => tmB x f me) σ S := rfl
@[simp] theorem tmB_str {α : Type} (a : Str) (f : Str → D → Sto → R α) (me : M D) : tmB (.str a) f me = mB me fun y => fun _ S => f a y S := rfl
end
theorem strsOf_map (ys : List Str) : strsOf (ys.map D.str) = some ys := by
  induction ys with
  | nil => rfl
  | cons y ys ih => simp [strsOf, ih]
theorem v_join (S : Sto) (a : Str) (ys : List Str) (y : D) (hy : seqOf S y = some (ys.map D.str)) (hl : (ys.map (·.length)).sum + ys.length * a.length ≤ 16777216) : fJoin a y S = .ok (.str (Txt.join a ys)) S := by
  unfold fJoin
  rw [hy]
  have e := strsOf_map ys
  simp only [e]
  exact if_pos hl
theorem join_eq (a : Str) (ys : List Str) : Txt.join a ys = Str.join a ys := StrLaws.glued_eq_join ..
/-- signs that can stand in a text -/
def okS (x : Str) : Prop := ∀ c ∈ x.cps.toList, c < 1114112
theorem okS_app {a b : Str} (ha : okS a) (hb : okS b) : okS (a ++ b) := fun c hc => by
  have e : (a ++ b).cps.toList = a.cps.toList ++ b.cps.toList := by show (a.cps ++ b.cps).toList = _; simp
  rw [e] at hc
  rcases List.mem_append.mp hc with z | z
  · exact ha c z
  · exact hb c z
theorem okS_join {a : Str} (ha : okS a) : ∀ ys : List Str, (∀ y ∈ ys, okS y) → okS (Str.join a ys)
  | [], _ => fun c hc => by simp [Str.join, Str.empty] at hc
  | [x], h => h x List.mem_cons_self
  | x :: y :: r, h => okS_app (okS_app (h x List.mem_cons_self) ha) (okS_join ha (y :: r) fun z hz => h z (List.mem_cons_of_mem _ hz))
theorem okS_pln {x : Str} (h : okS x) (n : Nat) : alk n (.str x) = true := by
  have : PyData.canLay0 (.str x) = true := by
    show PyData.strOk x = true
    unfold PyData.strOk
    rw [Array.all_eq_true']
    intro c hc
    simpa using h c (by simpa using hc)
  cases n <;> exact this
theorem len_app (a b : Str) : (a ++ b).length = a.length + b.length := by
  show (a.cps ++ b.cps).size = _
  rw [Array.size_append]; rfl
theorem len_join (a : Str) : ∀ ys : List Str, (Str.join a ys).length ≤ (ys.map (·.length)).sum + ys.length * a.length
  | [] => by show 0 ≤ _; omega
  | [x] => by simp [Str.join]
  | x :: y :: r => by
    have ih := len_join a (y :: r)
    show (x ++ a ++ Str.join a (y :: r)).length ≤ _
    rw [len_app, len_app]
    simp only [List.map_cons, List.sum_cons, List.length_cons] at ih ⊢
    have e : (r.length + 1 + 1) * a.length = (r.length + 1) * a.length + a.length := by rw [Nat.succ_mul]
    rw [e]
    omega
/-- a card as a word -/
def cd (c : Nat) : Str := Str.ofString (toString (c : Int))
theorem cd_ok {c : Nat} (h : c < 8) : okS (cd c) ∧ (cd c).length = 1 := by
  have : ∀ c, c < 8 → (cd c).cps.toList.all (fun x => decide (x < 1114112)) = true ∧ (cd c).length = 1 := by decide +kernel
  obtain ⟨h1, h2⟩ := this c h
  exact ⟨fun x hx => by simpa using List.all_eq_true.mp h1 x hx, h2⟩
/-- a heap as a line -/
def lnS (r : List Nat) : Str := Str.join " " ("heap" :: r.map cd)
def wrS (hp : List (List Nat)) : Str := Str.join "\n" (hp.map lnS)
theorem sum_ones : ∀ r : List Nat, (∀ c ∈ r, c < 8) → ((r.map cd).map (·.length)).sum = r.length
  | [], _ => rfl
  | c :: r, h => by
    have := sum_ones r fun x hx => h x (List.mem_cons_of_mem _ hx)
    simp only [List.map_cons, List.sum_cons, List.length_cons, (cd_ok (h c List.mem_cons_self)).2, this]
    omega
theorem heap_len : (Str.ofString "heap").length = 4 ∧ (Str.ofString " ").length = 1 ∧ (Str.ofString "\n").length = 1 := by decide +kernel
theorem okS_lit {x : Str} (h : x.cps.toList.all (fun c => decide (c < 1114112)) = true) : okS x := fun c hc => by simpa using List.all_eq_true.mp h c hc
theorem ln_ok {r : List Nat} (h : ∀ c ∈ r, c < 8) (hl : r.length ≤ 8) : okS (lnS r) ∧ (lnS r).length ≤ 30 := by
  obtain ⟨a1, a2, a3⟩ := heap_len
  refine ⟨okS_join (okS_lit (by decide +kernel)) _ fun y hy => ?_, ?_⟩
  · rcases List.mem_cons.mp hy with rfl | hy
    · exact okS_lit (by decide +kernel)
    · obtain ⟨c, hc, rfl⟩ := List.mem_map.mp hy
      exact (cd_ok (h c hc)).1
  · have := len_join " " ("heap" :: r.map cd)
    have s := sum_ones r h
    simp only [List.map_cons, List.sum_cons, List.length_cons, List.length_map, s, a1, a2] at this
    unfold lnS
    omega
theorem wr_ok {hp : List (List Nat)} (h : ∀ r ∈ hp, r.length ≤ 8 ∧ ∀ c ∈ r, c < 8) : okS (wrS hp) := okS_join (okS_lit (by decide +kernel)) _ fun y hy => by
  obtain ⟨r, hr, rfl⟩ := List.mem_map.mp hy
  exact (ln_ok (h r hr).2 (h r hr).1).1
theorem sum_lns : ∀ hp : List (List Nat), (∀ r ∈ hp, r.length ≤ 8 ∧ ∀ c ∈ r, c < 8) → ((hp.map lnS).map (·.length)).sum ≤ 30 * hp.length
  | [], _ => by simp
  | r :: hp, h => by
    have := sum_lns hp fun x hx => h x (List.mem_cons_of_mem _ hx)
    have h1 := (ln_ok (h r List.mem_cons_self).2 (h r List.mem_cons_self).1).2
    simp only [List.map_cons, List.sum_cons, List.length_cons]
    omega
end DL

namespace DL
open PySem L2
/-- the parts between the signs c -/
def spl (c : Nat) : List Nat → List (List Nat)
  | [] => [[]]
  | x :: r => if x = c then [] :: spl c r else match spl c r with
    | [] => [[x]]
    | p :: ps => (x :: p) :: ps
theorem spl_ne (c : Nat) : ∀ l, spl c l ≠ []
  | [] => by simp [spl]
  | x :: r => by
    unfold spl
    split
    · simp
    · split <;> simp
theorem spl_cut (c : Nat) (r : List Nat) : ∀ l, spl c (l ++ c :: r) = spl c l ++ spl c r
  | [] => by simp [spl]
  | x :: l => by
    have ih := spl_cut c r l
    rw [List.cons_append]
    by_cases h : x = c
    · simp [spl, h, ih]
    · simp only [spl, if_neg h]
      rw [ih]
      cases e : spl c l with
      | nil => exact absurd e (spl_ne c l)
      | cons p ps => simp
theorem spl_free {c : Nat} : ∀ {l : List Nat}, c ∉ l → spl c l = [l]
  | [], _ => rfl
  | x :: r, h => by
    have h1 : x ≠ c := fun e => h (by rw [e]; exact List.mem_cons_self)
    have h2 : c ∉ r := fun e => h (List.mem_cons_of_mem _ e)
    simp only [spl, if_neg h1]
    rw [spl_free h2]
/-- put together with c between -/
def jn (s : List Nat) : List (List Nat) → List Nat
  | [] => []
  | [x] => x
  | x :: y :: r => x ++ s ++ jn s (y :: r)
theorem spl_jn {c : Nat} : ∀ (ws : List (List Nat)), ws ≠ [] → (∀ w ∈ ws, c ∉ w) → spl c (jn [c] ws) = ws
  | [], h, _ => absurd rfl h
  | [x], _, h => spl_free (h x List.mem_cons_self)
  | x :: y :: r, _, h => by
    have ih := spl_jn (y :: r) (by simp) fun w hw => h w (List.mem_cons_of_mem _ hw)
    show spl c (x ++ [c] ++ jn [c] (y :: r)) = _
    rw [List.append_assoc, show [c] ++ jn [c] (y :: r) = c :: jn [c] (y :: r) from rfl, spl_cut, ih, spl_free (h x List.mem_cons_self)]
    rfl
def wds (c : Nat) (l : List Nat) : List (List Nat) := (spl c l).filter fun w => !w.isEmpty
theorem wds_cut (c : Nat) (l r : List Nat) : wds c (l ++ c :: r) = wds c l ++ wds c r := by
  unfold wds
  rw [spl_cut, List.filter_append]
theorem wds_nil (c : Nat) : wds c [] = [] := rfl
theorem wds_word {c : Nat} {w : List Nat} (h : c ∉ w) (hn : w ≠ []) : wds c w = [w] := by
  unfold wds
  rw [spl_free h]
  cases w with
  | nil => exact absurd rfl hn
  | cons a b => rfl
theorem wds_pre (c : Nat) (r : List Nat) : ∀ n, wds c (List.replicate n c ++ r) = wds c r
  | 0 => rfl
  | n + 1 => by
    rw [List.replicate_succ, List.cons_append]
    have := wds_cut c [] (List.replicate n c ++ r)
    rw [List.nil_append] at this
    rw [this, wds_nil, List.nil_append, wds_pre c r n]
theorem wds_post (c : Nat) (l : List Nat) : ∀ n, wds c (l ++ List.replicate n c) = wds c l
  | 0 => by simp
  | n + 1 => by
    rw [List.replicate_succ, wds_cut]
    have := wds_pre c [] n
    rw [List.append_nil] at this
    rw [this, wds_nil, List.append_nil]
theorem wds_jn {c n : Nat} : ∀ (ws : List (List Nat)), (∀ w ∈ ws, c ∉ w ∧ w ≠ []) → wds c (jn (List.replicate (n + 1) c) ws) = ws
  | [], _ => rfl
  | [x], h => wds_word (h x List.mem_cons_self).1 (h x List.mem_cons_self).2
  | x :: y :: r, h => by
    have ih := wds_jn (n := n) (y :: r) fun w hw => h w (List.mem_cons_of_mem _ hw)
    show wds c (x ++ List.replicate (n + 1) c ++ jn (List.replicate (n + 1) c) (y :: r)) = _
    rw [List.append_assoc, List.replicate_succ, List.cons_append, wds_cut, wds_pre, ← List.replicate_succ, ih, wds_word (h x List.mem_cons_self).1 (h x List.mem_cons_self).2]
    rfl
theorem join_l (s : Str) : ∀ ws : List Str, (Str.join s ws).cps.toList = jn s.cps.toList (ws.map fun w => w.cps.toList)
  | [] => rfl
  | [x] => rfl
  | x :: y :: r => by
    have ih := join_l s (y :: r)
    show (x ++ s ++ Str.join s (y :: r)).cps.toList = _
    have e : ∀ a b : Str, (a ++ b).cps.toList = a.cps.toList ++ b.cps.toList := fun a b => by show (a.cps ++ b.cps).toList = _; simp
    rw [e, e, ih]
    rfl
theorem split_ne (x y : Str) : Txt.split x y ≠ [] := by
  unfold Txt.split
  split
  · simp
  · split
    · simp
    · intro e
      have := length_partsBetween x (Builtin.Str.occurrences x y 0 x.length (x.length + 1)) y.length
      rw [e] at this
      simp at this
theorem split_l (x : Str) (c : Nat) : (Txt.split x ⟨#[c]⟩).map (fun w => w.cps.toList) = spl c x.cps.toList := by
  have h1 := StrLaws.join_split x ⟨#[c]⟩
  have h2 := join_l ⟨#[c]⟩ (Txt.split x ⟨#[c]⟩)
  rw [h1] at h2
  rw [h2]
  refine (spl_jn _ (by simpa using split_ne x ⟨#[c]⟩) fun w hw => ?_).symm
  obtain ⟨p, hp, rfl⟩ := List.mem_map.mp hw
  exact StrLaws.split_free x c p hp
theorem str_ext {a b : Str} (h : a.cps.toList = b.cps.toList) : a = b := by
  cases a; cases b
  congr 1
  exact Array.toList_inj.mp h
/-- lines come back -/
theorem split_join (c : Nat) (ws : List Str) (hn : ws ≠ []) (h : ∀ w ∈ ws, c ∉ w.cps.toList) : Txt.split (Str.join ⟨#[c]⟩ ws) ⟨#[c]⟩ = ws := by
  have h1 := split_l (Str.join ⟨#[c]⟩ ws) c
  rw [join_l, spl_jn _ (by simpa using hn) fun w hw => by
    obtain ⟨p, hp, rfl⟩ := List.mem_map.mp hw
    exact h p hp] at h1
  have inj : ∀ (a b : List Str), a.map (fun w => w.cps.toList) = b.map (fun w => w.cps.toList) → a = b := fun a => by
    induction a with
    | nil => intro b e; cases b with
      | nil => rfl
      | cons _ _ => simp at e
    | cons x a ih => intro b e; cases b with
      | nil => simp at e
      | cons y b =>
        simp only [List.map_cons, List.cons.injEq] at e
        rw [str_ext e.1, ih b e.2]
  exact inj _ _ h1
theorem replace_l (x z : Str) (c : Nat) : (Txt.replace x ⟨#[c]⟩ z).cps.toList = jn z.cps.toList (spl c x.cps.toList) := by
  rw [StrLaws.replace_one, join_l, split_l]
theorem mul_l : ∀ n : Nat, n < 4 → (Txt.mul " " (n : Int)).cps.toList = List.replicate n 32 := by decide +kernel
end DL

namespace DL
open PySem L2
theorem alk_eP (n : Nat) (g : List (Nat × Nat)) (h : g.length ≤ 100000) : alk (n + 2) (.lst (g.map eP)) = true := by
  simp [h]
  exact alks_map _ _ _ fun p _ => by simp
theorem drawn_pack (h : Hh) : ∃ (r : Nat) (h1 : Hh), f_l_next [.ref 1, .int 8] (hs h) = .ok (.int (r : Int)) (hs h1) ∧ r < 8 := by
  obtain ⟨r, h1, e, hr⟩ := next_ok h [] 8 (by omega) (by omega)
  simp only [List.append_nil] at e
  exact ⟨r, h1, e, by omega⟩
theorem drawn_sizes (h : Hh) (many most : Nat) (hm : many ≤ 8) : ∃ (zs : List Nat) (h1 : Hh), f_l_sizes [.ref 1, .int (many : Int), .int (most : Int)] (hs h) = .ok (eR zs) (hs h1) ∧ zs.length = many ∧ zs.sum ≤ most ∧ ∀ z ∈ zs, z ≤ 8 := by
  obtain ⟨zs, h1, e, hr⟩ := sizes_ok h [] many most hm
  simp only [List.append_nil] at e
  exact ⟨zs, h1, e, hr⟩
theorem drawn_deal (h : Hh) (zs : List Nat) (h1 : 1 ≤ zs.length) (hz : zs.length ≤ 8) (hsum : zs.sum ≤ 64) (hz8 : ∀ z ∈ zs, z ≤ 8) : ∃ (hp : List (List Nat)) (h1 : Hh), f_l_deal [.ref 1, eR zs] (hs h) = .ok (eH hp) (hs h1) ∧ hp.length = zs.length ∧ PackOk hp := by
  obtain ⟨hp, h2, e, hl, hpm⟩ := deal_ok h [] zs hz hsum
  simp only [List.append_nil] at e
  exact ⟨hp, h2, e, by rw [← hl, List.length_map], packOk_of h1 hz hz8 hl hpm⟩
theorem drawn_firsts (h : Hh) (many : Nat) (hm : 1 ≤ many) (hm8 : many ≤ 8) : ∃ (fs : List Nat) (h1 : Hh), f_l_firsts [.ref 1, .int (many : Int)] (hs h) = .ok (eR fs) (hs h1) ∧ FirstsOk many fs := by
  obtain ⟨fs, h1, e, hr⟩ := firsts_ok h [] many hm hm8
  simp only [List.append_nil] at e
  exact ⟨fs, h1, e, hr⟩
theorem rep_nil (n : Nat) : repD (n : Int) [.tup []] = (List.replicate n ([] : List Nat)).map eR := by
  unfold repD
  rw [Int.toNat_natCast]
  induction n with
  | zero => rfl
  | succ n ih => rw [List.replicate_succ, List.flatten_cons, ih, List.replicate_succ]; rfl
theorem packinit_n {S : Sto} {n : Nat} {hp : List (List Nat)} (h : PackOk hp) (hn : n = S.length) : f_Pack_init [.ref n, eH hp] (S ++ [.ins 0 [] []]) = .ok .non (S ++ [.ins 0 ["rows"] [eH hp]]) := by
  subst hn
  exact packinit_ok S hp h
theorem packfin_n {S : Sto} {n : Nat} {hp : List (List Nat)} (hn : n = S.length) : fin S (S ++ [.ins 0 ["rows"] [eH hp]]) (.ref n) = .ok (insPack hp) S := by
  subst hn
  refine fin_app ?_
  have h1 : ¬ (cl S.length (.ref S.length) = true) := by simp
  have h2 : fz S.length (S ++ [.ins 0 ["rows"] [eH hp]]) 3 (eH hp) = some (eH hp) := fz_cl (by simp)
  unfold fz
  rw [if_neg h1]
  simp only [sto_get0, optAll_cons, h2]
  rfl
end DL

namespace DL
open PySem L2
section
variable {σ : Sl} {S : Sto}
@[simp] theorem ev_Q_rt (m : M D) : mQ (mRet m) σ S = match mRet m σ S with
  | .exc _ _ _ _ _ => .bad
  | r => r := rfl
end
def wd (r : List Nat) : List D := .str "heap" :: (r.map cd).map D.str
theorem cd_int {c : Nat} (h : c < 8) : PySem.intText? (cd c) = some (c : Int) := by
  have : ∀ c, c < 8 → PySem.intText? (cd c) = some (c : Int) := by decide +kernel
  exact this c h
theorem cd_fInt (S : Sto) {c : Nat} (h : c < 8) : fInt1 [.str (cd c)] S = .ok (.int (c : Int)) S := by
  have e := cd_int h
  have l := (cd_ok h).2
  unfold fInt1
  simp only [e]
  rw [if_pos (by omega)]
theorem cd_fStr (S : Sto) {c : Nat} (h : c < 8) : fStr1 [.int (c : Int)] S = .ok (.str (cd c)) S := by
  unfold fStr1
  simp only
  rw [if_pos (by omega)]
  rfl
theorem heap_ne (S : Sto) : fNe (.lst [.str "heap"]) (.lst [.str "heap"]) S = .ok (.bl false) S := by
  have hp : pln 64 (.lst [.str "heap"]) = true := by decide +kernel
  rw [v_ne S (.lst [.str "heap"]) (.lst [.str "heap"]) hp hp]
  have : eqD (.lst [.str "heap"]) (.lst [.str "heap"]) = true := (eqD_iff _ _ rfl rfl).mpr rfl
  show R.ok (D.bl (!eqD (.lst [.str "heap"]) (.lst [.str "heap"]))) S = _
  rw [this]
  rfl
theorem cd_in {c m : Nat} (h : c < m) : inD (.str (cd c)) (((List.range m).map cd).map D.str) = true := by
  unfold inD
  rw [List.any_eq_true]
  refine ⟨.str (cd c), List.mem_map.mpr ⟨cd c, List.mem_map.mpr ⟨c, List.mem_range.mpr h, rfl⟩, rfl⟩, (eqD_iff _ _ rfl rfl).mpr rfl⟩
theorem takeheap_ok (S : Sto) {m : Nat} {r : List Nat} (l : Int) (hm : m ≤ 8) (hr : r.length ≤ 8) (hc : ∀ c ∈ r, c < m) : f_take_heap [.lst (wd r), .int (m : Int), .int l] S = .ok (eR r) S := fun_eq rfl fun F hF => by
  have h1 : ∀ (σ0 : Sl) (a b c d : D), compL S [] false (.nm 4) [a, b, c, d, .dead, .dead] (fun _ S => .ok true S) p_take_heap_e0 ((List.range m).map eN) [] S = .ok (((List.range m).map cd).map D.str) S := fun _ a b c d => by
    have := comp_all (S := S) (src := []) (pair := false) (t := .nm 4) (wσ := [a, b, c, d, .dead, .dead]) (e := p_take_heap_e0) eN (fun c => D.str (cd c)) (List.range m) (fun c hc => ⟨_, rfl, by
      have := List.mem_range.mp hc
      have e1 := cd_fStr S (c := c) (by omega)
      simp [p_take_heap_e0, e1]⟩) (by simp; omega)
    rw [this, List.map_map]
    rfl
  have h2 : ∀ (a b c d : D), compL S [] false (.nm 5) [a, b, c, d, .dead, .dead] (fun _ S => .ok true S) p_take_heap_e1 ((r.map cd).map D.str) [] S = .ok (r.map eN) S := fun a b c d => by
    have := comp_all (S := S) (src := []) (pair := false) (t := .nm 5) (wσ := [a, b, c, d, .dead, .dead]) (e := p_take_heap_e1) (fun c => D.str (cd c)) eN r (fun c hc' => ⟨_, rfl, by
      have := hc c hc'
      have e1 := cd_fInt S (c := c) (by omega)
      simp [p_take_heap_e1, e1]⟩) (by simp; omega)
    rw [← this, List.map_map]
    rfl
  have e0 : rgD 1 ((r.length : Int) + 1) = (List.range' 1 r.length).map eN := by
    have := rgD_nat2 1 (r.length + 1)
    simpa using this
  have e1 : okRg (1, (r.length : Int) + 1) = true := by
    have := okRg_nat (m := 1) (n := r.length + 1) (by omega) (by omega)
    simpa using this
  have e2 : rgD 0 (m : Int) = (List.range m).map eN := rgD_nat m
  have e3 : okRg (0, (m : Int)) = true := by
    have := okRg_nat (m := 0) (n := m) (by omega) (by omega)
    simpa using this
  have ct := cut_to (wd r) 1
  have cf := cut_from (wd r) 1
  have ct' : cutD (wd r) none (some 1) = [.str "heap"] := ct
  have cf' : cutD (wd r) (some 1) none = (r.map cd).map D.str := cf
  have hn := heap_ne S
  have hlen : (wd r).length = r.length + 1 := by unfold wd; simp
  obtain ⟨WD, hWD⟩ : ∃ WD, WD = wd r := ⟨_, rfl⟩
  rw [← hWD] at ct' cf' hlen ⊢
  obtain ⟨CL, hCL⟩ : ∃ CL, CL = (r.map cd).map D.str := ⟨_, rfl⟩
  rw [← hCL] at cf' h2
  simp [p_take_heap, ct', hn, hlen, e0, e1]
  refine out_for (fun k σ S' => ∃ j, σ = [.lst WD, .int (m : Int), .int l, j, .dead, .dead] ∧ S' = S) (fun k d σ S' e q => ?_) (fun σ S' q => ?_) ⟨_, rfl, rfl⟩
  · obtain ⟨j, rfl, rfl⟩ := q
    rw [List.getElem?_map] at e
    obtain ⟨z, hz, rfl⟩ := Option.map_eq_some_iff.mp e
    obtain ⟨hk, hz2⟩ := List.getElem?_eq_some_iff.mp hz
    simp at hk hz2
    have hz3 : z = k + 1 := by omega
    subst hz3
    refine ⟨by simp, _, rfl, fun F2 hF2 => ?_⟩
    have hg : WD[k + 1]? = some (.str (cd r[k])) := by
      rw [hWD]
      unfold wd
      rw [List.getElem?_cons_succ, List.getElem?_map, List.getElem?_map, List.getElem?_eq_getElem hk]
      rfl
    have hin := cd_in (hc _ (List.getElem_mem hk))
    have hfl : flats (((List.range m).map cd).map D.str) = true := by
      unfold flats
      rw [List.all_eq_true]
      intro x hx
      obtain ⟨y, _, rfl⟩ := List.mem_map.mp hx
      rfl
    have ha : atI WD ((k : Int) + 1) = some (.str (cd r[k])) := by
      rw [show ((k : Int) + 1) = ((k + 1 : Nat) : Int) by omega, atI_nat', hg]
    have h1' := h1 [] (.lst WD) (.int (m : Int)) (.int l) (eN (k + 1))
    have h8 : ¬ (8 : Int) < (k : Int) + 1 := by omega
    generalize ((List.range m).map cd).map D.str = IN at *
    simp [p_take_heap_b0, h8, ha, e2, e3, wipeD, h1', hin, hfl]
    exact hF2 _ _ ⟨_, rfl, rfl⟩
  · obtain ⟨j, rfl, rfl⟩ := q
    refine ⟨by simp, ?_⟩
    simp [cf', wipeD, h2]
    exact hF _ _ (finP_self (by simp) ⟨rfl, rfl⟩)
end DL

namespace DL
open PySem L2
abbrev cps (w : Str) : List Nat := w.cps.toList
theorem inj_cps : ∀ (a b : List Str), a.map cps = b.map cps → a = b
  | [], [], _ => rfl
  | [], _ :: _, e => by simp at e
  | _ :: _, [], e => by simp at e
  | x :: a, y :: b, e => by
    simp only [List.map_cons, List.cons.injEq] at e
    rw [str_ext e.1, inj_cps a b e.2]
theorem sp_cps : (Str.ofString " ") = ⟨#[32]⟩ := by decide +kernel
theorem nl_cps : (Str.ofString "\n") = ⟨#[10]⟩ := by decide +kernel
theorem words_str (l : Str) (ws : List Str) (h : wds 32 (cps l) = ws.map cps) : (Txt.split l " ").filter (fun w => !(cps w).isEmpty) = ws := by
  refine inj_cps _ _ ?_
  rw [← h]
  unfold wds
  rw [← split_l l 32, sp_cps]
  rw [List.filter_map]
  rfl
theorem jn_mem {s : List Nat} {c : Nat} : ∀ (ws : List (List Nat)) (w : List Nat), w ∈ ws → c ∈ w → c ∈ jn s ws
  | [], _, h, _ => by simp at h
  | [x], w, h, hc => by rw [List.mem_singleton.mp h] at hc; exact hc
  | x :: y :: r, w, h, hc => by
    show c ∈ x ++ s ++ jn s (y :: r)
    rcases List.mem_cons.mp h with rfl | h
    · simp [hc]
    · have := jn_mem (s := s) (y :: r) w h hc
      simp [this]
theorem split_sub (l : Str) (k : Nat) : ∀ w ∈ Txt.split l ⟨#[k]⟩, ∀ c ∈ cps w, c ∈ cps l := fun w hw c hc => by
  have h1 := StrLaws.join_split l ⟨#[k]⟩
  have h2 := join_l ⟨#[k]⟩ (Txt.split l ⟨#[k]⟩)
  rw [h1] at h2
  rw [show cps l = _ from h2]
  exact jn_mem _ _ (List.mem_map.mpr ⟨w, hw, rfl⟩) hc
theorem ne_empty (S : Sto) (w : Str) (h : okS w) : fNe (.str w) (.str "") S = .ok (.bl (!(cps w).isEmpty)) S := by
  have hp : pln 64 (.str w) = true := okS_pln h 64
  have hq : pln 64 (.str "") = true := by decide +kernel
  rw [v_ne S (.str w) (.str "") hp hq]
  show R.ok (D.bl (!eqD (.str w) (.str ""))) S = _
  have : eqD (.str w) (.str "") = (cps w).isEmpty := by
    cases e : (cps w).isEmpty with
    | true =>
      refine (eqD_iff _ _ rfl rfl).mpr ?_
      have : w = "" := str_ext ((List.isEmpty_iff.mp e : cps w = []).trans rfl)
      rw [this]
    | false =>
      rw [Bool.eq_false_iff]
      intro z
      have := (eqD_iff _ _ rfl rfl).mp z
      injection this with this
      rw [this] at e
      cases e
  rw [this]
theorem spl_len (c : Nat) : ∀ l, (spl c l).length ≤ l.length + 1
  | [] => Nat.le_refl _
  | x :: r => by
    have ih := spl_len c r
    unfold spl
    split
    · simp only [List.length_cons]; omega
    · split
      · simp only [List.length_cons, List.length_nil]; omega
      · next p ps e =>
        rw [e] at ih
        simp only [List.length_cons] at ih ⊢
        omega
theorem split_len (l : Str) (k : Nat) : (Txt.split l ⟨#[k]⟩).length ≤ l.length + 1 := by
  have h1 := congrArg List.length (split_l l k)
  rw [List.length_map] at h1
  have h2 := spl_len k l.cps.toList
  have h3 : l.cps.toList.length = l.length := by show l.cps.toList.length = l.cps.size; simp
  omega
/-- the words of a line -/
theorem words_ok (S : Sto) (l : Str) (ws : List Str) (hw : wds 32 (cps l) = ws.map cps) (ho : okS l) (hl : l.length ≤ 1000) (a b c d e g h i j : D) : compL S [] false (.nm 6) [a, b, c, d, e, g, .dead, h, i] p_read_c0 p_read_e0 ((Txt.split l " ").map D.str) [] S = .ok (ws.map D.str) S := by
  have hn : (Txt.split l " ").length ≤ 1001 := by
    have h1 := split_len l 32
    rw [← sp_cps] at h1
    omega
  have := comp_pure (S := S) (src := []) (pair := false) (t := .nm 6) (wσ := [a, b, c, d, e, g, .dead, h, i]) (c := p_read_c0) (e := p_read_e0) D.str (fun w => !(cps w).isEmpty) D.str (Txt.split l " ") [] (fun w hw' => by
    have hok : okS w := fun k hk => ho k (split_sub l 32 w (by rw [← sp_cps]; exact hw') k hk)
    have hne := ne_empty S w hok
    exact ⟨_, rfl, by simp [p_read_c0, hne], fun _ => by simp [p_read_e0]⟩) (Nat.le_trans (by simpa using hn) (by decide))
  rw [this, words_str l ws hw]
  rfl
end DL

namespace DL
open PySem L2
section
variable {σ : Sl} {S : Sto} {p : Po}
noncomputable def rTry (r : RS) (cl : List Cla) : RS := match r with
  | .exc k ns ds σ S => hnd cl k ns ds σ S
  | r => r
@[simp] theorem ev_try (b : MS) (cl : List Cla) : mTry b cl σ S = rTry (b σ S) cl := rfl
@[simp] theorem rTry_nx (cl : List Cla) : rTry (.nx σ S) cl = .nx σ S := rfl
@[simp] theorem rTry_rt (cl : List Cla) (d : D) : rTry (.rt d S) cl = .rt d S := rfl
@[simp] theorem rTry_exc (cl : List Cla) (k : Nat) (ns : List Str) (ds : List D) : rTry (.exc k ns ds σ S) cl = hnd cl k ns ds σ S := rfl
@[simp] theorem ev_raise (k : Nat) (ns : List Str) (m : M (List D)) : mRaise k ns m σ S = mBS m (fun ds => fun σd S => if ds.length = ns.length then .exc k ns ds σd S else .bad) σ S := rfl
theorem hnd_hit {c : Cla} {cl : List Cla} {k : Nat} {ns : List Str} {ds : List D} {r : RS} (h : c.hit k = some true) (e : ∀ (a : Addr) (dd : Option Addr), kill c.i (c.su a k dd (σ.set c.i (.xc a dd ns ds)) S) = r) : hnd (c :: cl) k ns ds σ S = r := by
  unfold hnd
  rw [h]
  simp only
  rw [if_pos (fun a dd => by rw [e a dd, e 0 none])]
  exact e 0 none
theorem hnd_miss {c : Cla} {cl : List Cla} {k : Nat} {ns : List Str} {ds : List D} (h : c.hit k = some false) : hnd (c :: cl) k ns ds σ S = hnd cl k ns ds σ S := by
  conv => lhs; unfold hnd
  rw [h]
@[simp] theorem rFz_exc (k : Nat) (ns : List Str) (ds : List D) : rFz (.exc k ns ds S) = .exc k ns ds S := rfl
@[simp] theorem rLoc_exc (k : Nat) (ns : List Str) (ds : List D) : rLoc (.exc k ns ds S) = .exc k ns ds S := rfl
@[simp] theorem kill_nx (i : Nat) : kill i (.nx σ S) = .nx (σ.set i .dead) S := rfl
@[simp] theorem kill_rt (i : Nat) (d : D) : kill i (.rt d S) = .rt d S := rfl
@[simp] theorem live_xc (a : Addr) (dd : Option Addr) (ns : List Str) (ds : List D) : live (.xc a dd ns ds) = true := rfl
set_option smartUnfolding false in
@[simp] theorem ev_xf (a : Addr) (d : Option Addr) (f : Str) (m : M D) : mXf a d f m σ S = mB m (fun x => fun _ S => match x with
  | .xc a' d' ns ds => if a' = a ∧ d' = d then oB (fldD f ns ds) fun y => .ok y S else .bad
  | _ => .bad) σ S := by rfl
@[simp] theorem ev_xis (a : Addr) (k : Nat) (d : Option Addr) (c : Nat) (m : M D) : mXis a k d c m σ S = mB m (fun x => fun _ S => match x with
  | .xc a' d' _ _ => if a' = a ∧ d' = d then .ok (.bl (isx k c)) S else .bad
  | _ => .bad) σ S := rfl
end
theorem fun_exc {slots n : Nat} {m : MS} {ds : List D} {S : Sto} {k : Nat} {ns : List Str} {es : List D} (hl : ds.length = n) (hc : cll S.length es = true)
    (h : ∀ F : Nat → List Str → List D → Sto → Prop, (∀ T, F k ns es (S ++ T)) → Out (m (ds ++ List.replicate (slots - n) .dead) S) { X := F }) : mFun slots n m ds S = .exc k ns es S := by
  have h := h (fun k' ns' es' S' => k' = k ∧ ns' = ns ∧ es' = es ∧ ∃ T, S' = S ++ T) fun T => ⟨rfl, rfl, rfl, T, rfl⟩
  unfold mFun
  rw [if_pos hl]
  revert h
  cases m (ds ++ List.replicate (slots - n) .dead) S with
  | exc k' ns' es' σ' S' =>
    rintro ⟨rfl, rfl, rfl, T, rfl⟩
    show finX S (S ++ T) k' ns' es' = _
    unfold finX
    rw [if_pos ⟨okSt_app S T, hc⟩]
    simp
  | _ => exact fun h => h.elim
/-- values of a known type -/
def tyD : D → Bool
  | .non => true
  | .bl _ => true
  | .int _ => true
  | .str _ => true
  | .tup _ => true
  | .lst _ => true
  | .dic _ _ => true
  | _ => false
def tyT : D → Ty
  | .bl _ => .bool
  | .int _ => .int
  | .str _ => .str
  | .tup _ => .tuple
  | .lst _ => .list
  | .dic _ _ => .dict
  | _ => .none
theorem tyOf_D {d : D} (h : tyD d = true) (S : Sto) : tyOf S d = some (tyT d) := by
  cases d <;> first | rfl | cases h
theorem live_D {d : D} (h : tyD d = true) : live d = true := by
  cases d <;> first | rfl | cases h
/-- an integer in a range -/
def isI (d : D) (lo hi : Int) : Bool := match d with
  | .int i => decide (lo ≤ i) && decide (i ≤ hi)
  | _ => false
theorem isint_D (S : Sto) {d : D} (h : tyD d = true) (lo hi : Int) : f_is_integer [d, .int lo, .int hi] S = .ok (.bl (isI d lo hi)) S := by
  cases d with
  | int i => exact isint_ok S i lo hi
  | bl b => exact fun_eq rfl fun F hF => by simp [p_is_integer]; exact hF _ _ (finP_self rfl ⟨rfl, rfl⟩)
  | non => exact fun_eq rfl fun F hF => by simp [p_is_integer]; exact hF _ _ (finP_self rfl ⟨rfl, rfl⟩)
  | str _ => exact fun_eq rfl fun F hF => by simp [p_is_integer]; exact hF _ _ (finP_self rfl ⟨rfl, rfl⟩)
  | tup _ => exact fun_eq rfl fun F hF => by simp [p_is_integer]; exact hF _ _ (finP_self rfl ⟨rfl, rfl⟩)
  | lst _ => exact fun_eq rfl fun F hF => by simp [p_is_integer]; exact hF _ _ (finP_self rfl ⟨rfl, rfl⟩)
  | dic _ _ => exact fun_eq rfl fun F hF => by simp [p_is_integer]; exact hF _ _ (finP_self rfl ⟨rfl, rfl⟩)
  | _ => cases h
theorem isI_nat {d : D} {n : Nat} (h : isI d 0 ((n : Int) - 1) = true) : ∃ c, c < n ∧ d = eN c := by
  cases d with
  | int i =>
    unfold isI at h
    simp at h
    exact ⟨i.toNat, by omega, by show D.int i = D.int (i.toNat : Int); congr 1; omega⟩
  | _ => cases h
end DL

namespace DL
open PySem L2
/-- a thing and, if it is a row, its things have known types -/
def tyH (d : D) : Bool := tyD d && match d with
  | .tup cs => cs.all tyD
  | _ => true
def hpB (n : Nat) (d : D) : Bool := match d with
  | .tup cs => decide (cs.length ≤ 8) && cs.all fun c => isI c 0 ((n : Int) - 1)
  | _ => false
theorem isheap_D (S : Sto) {d : D} (h : tyH d = true) (n : Nat) : f_is_heap [d, .int (n : Int)] S = .ok (.bl (hpB n d)) S := by
  cases d with
  | tup cs =>
    have hc : ∀ c ∈ cs, tyD c = true := by
      unfold tyH at h
      simp [tyD] at h
      exact h
    refine fun_eq rfl fun F hF => ?_
    by_cases h8 : cs.length ≤ 8
    · have hcomp := comp_all (S := S) (src := []) (pair := false) (t := .nm 2) (wσ := [.tup cs, .int (n : Int), .dead]) (e := p_is_heap_e0) (fun c : D => c) (fun c => D.bl (isI c 0 ((n : Int) - 1))) cs (fun c hcm => by
        have h1 := isint_D S (hc c hcm) 0 ((n : Int) - 1)
        exact ⟨_, rfl, by simp [p_is_heap_e0, h1, live_D (hc c hcm)]⟩) (by simp; omega)
      have h8' : ¬ (8 : Int) < (cs.length : Int) := by omega
      have hb : blsOf (cs.map fun c => D.bl (isI c 0 ((n : Int) - 1))) = some (cs.map fun c => isI c 0 ((n : Int) - 1)) := by
        have := blsOf_map (cs.map fun c => isI c 0 ((n : Int) - 1))
        rwa [List.map_map] at this
      rw [List.map_id'] at hcomp
      simp [p_is_heap, h8', wipeD, hcomp, hb]
      refine hF _ _ (finP_self rfl ⟨?_, rfl⟩)
      simp [hpB, h8]
    · have h8' : (8 : Int) < (cs.length : Int) := by omega
      simp [p_is_heap, h8']
      refine hF _ _ (finP_self rfl ⟨?_, rfl⟩)
      simp [hpB, h8]
  | int i => exact fun_eq rfl fun F hF => by simp [p_is_heap]; exact hF _ _ (finP_self rfl ⟨rfl, rfl⟩)
  | bl b => exact fun_eq rfl fun F hF => by simp [p_is_heap]; exact hF _ _ (finP_self rfl ⟨rfl, rfl⟩)
  | non => exact fun_eq rfl fun F hF => by simp [p_is_heap]; exact hF _ _ (finP_self rfl ⟨rfl, rfl⟩)
  | str _ => exact fun_eq rfl fun F hF => by simp [p_is_heap]; exact hF _ _ (finP_self rfl ⟨rfl, rfl⟩)
  | lst _ => exact fun_eq rfl fun F hF => by simp [p_is_heap]; exact hF _ _ (finP_self rfl ⟨rfl, rfl⟩)
  | dic _ _ => exact fun_eq rfl fun F hF => by simp [p_is_heap]; exact hF _ _ (finP_self rfl ⟨rfl, rfl⟩)
  | _ => unfold tyH at h; simp [tyD] at h
/-- no row of one to eight things -/
def bad0 (d : D) : Bool := match d with
  | .tup ds => !(decide (1 ≤ ds.length) && decide (ds.length ≤ 8))
  | _ => true
theorem checkheaps_none (S : Sto) {d : D} (h : tyD d = true) (hb : bad0 d = true) : f_check_heaps [d] S = .exc 3 ["index"] [.non] S := fun_exc rfl rfl fun F hF => by
  have hF0 := hF []
  rw [List.append_nil] at hF0
  cases d with
  | tup ds =>
    unfold bad0 at hb
    simp at hb
    by_cases h1 : (1 : Int) ≤ (ds.length : Int)
    · have h8 : ¬ (ds.length : Int) ≤ 8 := by
        rcases hb with rfl | hb
        · simp at h1
        · omega
      simp [p_check_heaps, h1, h8]
      exact hF0
    · simp [p_check_heaps, h1]
      exact hF0
  | int i => simp [p_check_heaps]; exact hF0
  | bl i => simp [p_check_heaps]; exact hF0
  | non => simp [p_check_heaps]; exact hF0
  | str i => simp [p_check_heaps]; exact hF0
  | lst i => simp [p_check_heaps]; exact hF0
  | dic _ _ => simp [p_check_heaps]; exact hF0
  | _ => cases h
theorem enumD_id (ds : List D) : enumD 0 ds = (ds.zipIdx 0).map fun p => D.tup [.int (p.2 : Nat), p.1] := by
  have := enumD_map (fun x : D => x) ds 0
  simpa using this
theorem checkheaps_at (S : Sto) (ds : List D) (k : Nat) (hk : k < ds.length) (h8 : ds.length ≤ 8) (ht : ∀ d ∈ ds, tyH d = true) (hg : ∀ j (hj : j < k), hpB ds.length ds[j] = true) (hb : hpB ds.length ds[k] = false) : f_check_heaps [.tup ds] S = .exc 3 ["index"] [eN k] S := fun_exc rfl rfl fun F hF => by
  have hF0 := hF []
  rw [List.append_nil] at hF0
  have i1 : (1 : Int) ≤ (ds.length : Int) := by omega
  have i8 : (ds.length : Int) ≤ 8 := by omega
  simp [p_check_heaps, i1, i8, enumD_id]
  refine out_for (fun j σ S' => j ≤ k ∧ ∃ a b, σ = [.tup ds, a, b] ∧ S' = S) (fun j x σ S' e q => ?_) (fun σ S' q => ?_) ⟨Nat.zero_le _, _, _, rfl, rfl⟩
  · obtain ⟨hj, a, b, rfl, rfl⟩ := q
    rw [List.getElem?_map, List.getElem?_zipIdx] at e
    obtain ⟨p, hp, rfl⟩ := Option.map_eq_some_iff.mp e
    obtain ⟨y, hy, rfl⟩ := Option.map_eq_some_iff.mp hp
    obtain ⟨hjl, rfl⟩ := List.getElem?_eq_some_iff.mp hy
    have hty := ht _ (List.getElem_mem hjl)
    have hlv : live ds[j] = true := live_D (by unfold tyH at hty; rw [Bool.and_eq_true] at hty; exact hty.1)
    have hi := isheap_D S' hty ds.length
    refine ⟨by simp, _, rfl, fun F2 hF2 => ?_⟩
    rcases Nat.lt_or_eq_of_le hj with hlt | rfl
    · rw [hg j hlt] at hi
      simp [p_check_heaps_b0, hi, hlv]
      exact hF2 _ _ ⟨hlt, _, _, rfl, rfl⟩
    · rw [hb] at hi
      simp [p_check_heaps_b0, hi, hlv]
      exact hF0
  · obtain ⟨hj, _⟩ := q
    rw [List.length_map, List.length_zipIdx] at hj
    omega
theorem tyH_ty {d : D} (h : tyH d = true) : tyD d = true := by
  unfold tyH at h
  rw [Bool.and_eq_true] at h
  exact h.1
/-- heaps, fitting or not -/
structure HeapsOk (hp : List (List Nat)) : Prop where
  pos : 1 ≤ hp.length
  le : hp.length ≤ 8
  sz : ∀ r ∈ hp, r.length ≤ 8
  lt : ∀ r ∈ hp, ∀ c ∈ r, c < hp.length
theorem row_nat {n : Nat} : ∀ {cs : List D}, (cs.all fun c => isI c 0 ((n : Int) - 1)) = true → ∃ r : List Nat, cs = r.map eN ∧ ∀ c ∈ r, c < n
  | [], _ => ⟨[], rfl, nofun⟩
  | c :: cs, h => by
    simp only [List.all_cons, Bool.and_eq_true] at h
    obtain ⟨x, hx, rfl⟩ := isI_nat h.1
    obtain ⟨r, rfl, hr⟩ := row_nat h.2
    refine ⟨x :: r, rfl, fun c hc => ?_⟩
    rcases List.mem_cons.mp hc with rfl | hc
    · exact hx
    · exact hr c hc
theorem rows_nat {n : Nat} : ∀ {ds : List D}, (∀ d ∈ ds, hpB n d = true) → ∃ hp : List (List Nat), ds = hp.map eR ∧ ∀ r ∈ hp, r.length ≤ 8 ∧ ∀ c ∈ r, c < n
  | [], _ => ⟨[], rfl, nofun⟩
  | d :: ds, h => by
    obtain ⟨hp, rfl, hh⟩ := rows_nat (n := n) (ds := ds) fun d hd => h d (List.mem_cons_of_mem _ hd)
    have h0 := h d List.mem_cons_self
    cases d with
    | tup cs =>
      unfold hpB at h0
      simp only [Bool.and_eq_true, decide_eq_true_eq] at h0
      obtain ⟨r, rfl, hr⟩ := row_nat h0.2
      refine ⟨r :: hp, rfl, fun x hx => ?_⟩
      rcases List.mem_cons.mp hx with rfl | hx
      · exact ⟨by simpa using h0.1, hr⟩
      · exact hh x hx
    | _ => cases h0
theorem checkheaps_any (S : Sto) (hp : List (List Nat)) (h : HeapsOk hp) : f_check_heaps [eH hp] S = .ok .non S := by
  refine fun_eq rfl fun F hF => ?_
  have h1 := h.pos
  have h8 := h.le
  have e0 : enumD 0 (hp.map eR) = (hp.zipIdx 0).map fun p => D.tup [.int (p.2 : Nat), eR p.1] := enumD_map eR hp 0
  have i1 : (1 : Int) ≤ (hp.length : Int) := by omega
  have i8 : (hp.length : Int) ≤ 8 := by omega
  simp [p_check_heaps, i1, i8, e0]
  refine out_for (fun k σ S' => ∃ j j', σ = [eH hp, j, j'] ∧ S' = S) (fun k d σ S' e q => ?_) (fun σ S' q => ?_) ⟨_, _, rfl, rfl⟩
  · obtain ⟨j, j', rfl, rfl⟩ := q
    obtain ⟨p, hp', rfl⟩ := List.mem_map.mp (List.mem_of_getElem? e)
    have hm : p.1 ∈ hp := by
      have := List.mem_zipIdx hp'
      simp at this
      rw [this.2]
      exact List.getElem_mem _
    have := isheap_ok S' p.1 hp.length (h.sz _ hm) h1 (h.lt _ hm)
    refine ⟨by simp, _, rfl, fun F hF => ?_⟩
    simp [p_check_heaps_b0, this]
    exact hF _ _ ⟨_, _, rfl, rfl⟩
  · obtain ⟨j, j', rfl, rfl⟩ := q
    simp
    exact hF _ _ (finP_self rfl ⟨rfl, rfl⟩)
theorem packinit_bad (S : Sto) (m : Nat) {d i : D} (hd : tyD d = true) (hi : cll S.length [i] = true) (h : f_check_heaps [d] S = .exc 3 ["index"] [i] S) : f_Pack_init [.ref m, d] S = .exc 3 ["index"] [i] S := fun_exc rfl hi fun F hF => by
  have hF0 := hF []
  rw [List.append_nil] at hF0
  simp [p_Pack_init, h, live_D hd]
  exact hF0
theorem packinit_unfit (S : Sto) (m : Nat) (hp : List (List Nat)) (h : HeapsOk hp) (k : Nat) (hk : k < hp.length) (hg : ∀ j (hj : j < k), hp.flatten.count j = hp[j].length) (hb : hp.flatten.count k ≠ hp[k].length) : f_Pack_init [.ref m, eH hp] S = .exc 4 ["heap"] [eN k] S := fun_exc rfl rfl fun F hF => by
  have hF0 := hF []
  rw [List.append_nil] at hF0
  have h1 := h.pos
  have h8 := h.le
  have e0 : enumD 0 (hp.map eR) = (hp.zipIdx 0).map fun p => D.tup [.int (p.2 : Nat), eR p.1] := enumD_map eR hp 0
  simp [p_Pack_init, checkheaps_any _ hp h, e0]
  refine out_for (fun k' σ S' => k' ≤ k ∧ ∃ j j', σ = [.ref m, eH hp, j, j', .dead] ∧ S' = S) (fun j x σ S' e q => ?_) (fun σ S' q => ?_) ⟨Nat.zero_le _, _, _, rfl, rfl⟩
  · obtain ⟨hj, a, b, rfl, rfl⟩ := q
    rw [List.getElem?_map, List.getElem?_zipIdx] at e
    obtain ⟨p, hp', rfl⟩ := Option.map_eq_some_iff.mp e
    obtain ⟨y, hy, rfl⟩ := Option.map_eq_some_iff.mp hp'
    obtain ⟨hjl, rfl⟩ := List.getElem?_eq_some_iff.mp hy
    simp only [Nat.zero_add] at *
    have hcomp := comp_all (S := S') (src := []) (pair := false) (t := .nm 4) (wσ := [.ref m, eH hp, .int (j : Int), eR hp[j], .dead]) (e := p_Pack_init_e0) eR (fun r => eN (r.count j)) hp (fun r _ => ⟨_, rfl, by simp [p_Pack_init_e0]⟩) (by simp; omega)
    have hs1 : intsOf (hp.map fun r => eN (r.count j)) = some ((hp.map fun r => r.count j).map fun x : Nat => (x : Int)) := by
      have := intsOf_eN (hp.map fun r => r.count j)
      rwa [List.map_map] at this
    have hs2 : (((hp.map fun r => r.count j).map fun x : Nat => (x : Int)).sum) = (hp.flatten.count j : Int) := by
      rw [sum_eN, count_flatten]
    refine ⟨by simp, _, rfl, fun F hF => ?_⟩
    simp only [List.map_map] at hs1 hs2
    rcases Nat.lt_or_eq_of_le hj with hlt | rfl
    · rw [hg j hlt] at hs2
      simp [p_Pack_init_b0, wipeD, hcomp, hs1, hs2]
      exact hF _ _ ⟨hlt, _, _, rfl, rfl⟩
    · have hne : ¬ ((hp.flatten.count j : Nat) : Int) = (hp[j].length : Int) := by omega
      simp [p_Pack_init_b0, wipeD, hcomp, hs1, hs2, hne]
      exact hF0
  · obtain ⟨hj, _⟩ := q
    rw [List.length_map, List.length_zipIdx] at hj
    omega
end DL

namespace DL
open PySem L2
@[simp high] theorem hs_at (h : Hh) (x : Ob) (T U : Sto) : (hs h ++ (T ++ x :: U))[2 + T.length]? = some x := by
  rw [List.getElem?_append_right (by simp), List.getElem?_append_right (by simp)]
  simp
@[simp high] theorem hs_at1 (h : Hh) (x y : Ob) (T U : Sto) : (hs h ++ (T ++ x :: y :: U))[2 + T.length + 1]? = some y := by
  rw [List.getElem?_append_right (by simp; omega), List.getElem?_append_right (by rw [hs_len]; omega)]
  simp [show 2 + T.length + 1 - 2 - T.length = 1 by omega]
@[simp high] theorem hs_put (h : Hh) (x o : Ob) (T U : Sto) : (hs h ++ (T ++ x :: U)).set (2 + T.length) o = hs h ++ (T ++ o :: U) := by
  rw [List.set_append_right _ _ (by simp), List.set_append_right _ _ (by simp)]
  simp
@[simp high] theorem hs_put1 (h : Hh) (x y o : Ob) (T U : Sto) : (hs h ++ (T ++ x :: y :: U)).set (2 + T.length + 1) o = hs h ++ (T ++ x :: o :: U) := by
  rw [List.set_append_right _ _ (by simp; omega), List.set_append_right _ _ (by rw [hs_len]; omega)]
  simp [show 2 + T.length + 1 - 2 - T.length = 1 by omega]
theorem dr_next (h : Hh) (T : Sto) (m : Nat) (hm : 0 < m) (hm2 : m < 100000) : ∃ (r : Nat) (h1 : Hh), f_l_next [.ref 1, .int (m : Int)] (hs h ++ T) = .ok (.int (r : Int)) (hs h1 ++ T) ∧ r < m := by
  obtain ⟨r, h1, e, hr⟩ := next_ok h T (m : Int) (by omega) (by omega)
  exact ⟨r, h1, e, by omega⟩
theorem dr_sizes (h : Hh) (T : Sto) (many most : Nat) (hm : many ≤ 8) : ∃ (zs : List Nat) (h1 : Hh), f_l_sizes [.ref 1, .int (many : Int), .int (most : Int)] (hs h ++ T) = .ok (eR zs) (hs h1 ++ T) ∧ zs.length = many ∧ zs.sum ≤ most ∧ ∀ z ∈ zs, z ≤ 8 := sizes_ok h T many most hm
theorem dr_firsts (h : Hh) (T : Sto) (many : Nat) (hm : 1 ≤ many) (hm8 : many ≤ 8) : ∃ (fs : List Nat) (h1 : Hh), f_l_firsts [.ref 1, .int (many : Int)] (hs h ++ T) = .ok (eR fs) (hs h1 ++ T) ∧ FirstsOk many fs := firsts_ok h T many hm hm8
end DL

namespace DL
open PySem L2
/-- the words of a line -/
def wl (l : Str) : List Str := (Txt.split l " ").filter fun w => !(cps w).isEmpty
def cds (m : Nat) : List Str := (List.range m).map cd
/-- the first wrong word, from the place a on -/
def fb (m : Nat) : Nat → List Str → Option Nat
  | _, [] => none
  | a, w :: r => if 8 < a ∨ w ∉ cds m then some (a + 1) else fb m (a + 1) r
def tk (m : Nat) (ws : List Str) : Option Nat := if ws.take 1 = [("heap" : Str)] then fb m 1 (ws.drop 1) else some 1
def fe (m : Nat) : Nat → List (List Str) → Option (Nat × Nat)
  | _, [] => none
  | k, ws :: r => match tk m ws with
    | some x => some (k + 1, x)
    | none => fe m (k + 1) r
def uf (all : List (List Str)) : Nat → List (List Str) → Option (Nat × Nat)
  | _, [] => none
  | k, ws :: r => if (all.map fun w => w.count (cd k)).sum = ws.length - 1 then uf all (k + 1) r else some (k + 1, ws.length + 1)
def ans (wss : List (List Str)) : Option (Nat × Nat) := match fe (min wss.length 8) 0 (wss.take 8) with
  | some p => some p
  | none => if 8 < wss.length then some (9, 1) else uf wss 0 wss
def eA : Option (Nat × Nat) → D
  | none => .non
  | some (a, b) => .tup [eN a, eN b]
theorem fb_some {m x : Nat} : ∀ {ws : List Str} {a : Nat}, fb m a ws = some x → ∃ j, ∃ h : j < ws.length, x = a + j + 1 ∧ (8 < a + j ∨ ws[j] ∉ cds m) ∧ ∀ i (hi : i < j), ¬ (8 < a + i ∨ ws[i] ∉ cds m)
  | [], _, h => by cases h
  | w :: r, a, h => by
    unfold fb at h
    split at h
    · next c =>
      cases h
      exact ⟨0, by simp, rfl, c, fun i hi => by omega⟩
    · next c =>
      obtain ⟨j, hj, e, h1, h2⟩ := fb_some h
      refine ⟨j + 1, by simp; omega, by omega, by
        have : a + 1 + j = a + (j + 1) := by omega
        rw [this] at h1
        simpa using h1, fun i hi => ?_⟩
      cases i with
      | zero => exact c
      | succ i =>
        have := h2 i (by omega)
        have e2 : a + 1 + i = a + (i + 1) := by omega
        rw [e2] at this
        simpa using this
theorem fb_none {m : Nat} : ∀ {ws : List Str} {a : Nat}, fb m a ws = none → (∀ w ∈ ws, w ∈ cds m) ∧ (ws = [] ∨ a + ws.length ≤ 9)
  | [], _, _ => ⟨nofun, .inl rfl⟩
  | w :: r, a, h => by
    unfold fb at h
    split at h
    · cases h
    · next c =>
      rw [not_or, Classical.not_not] at c
      obtain ⟨h1, h2⟩ := fb_none h
      refine ⟨fun x hx => ?_, .inr ?_⟩
      · rcases List.mem_cons.mp hx with rfl | hx
        · exact c.2
        · exact h1 x hx
      · rcases h2 with rfl | h2
        · simp; omega
        · simp only [List.length_cons]; omega
theorem cds_all {m : Nat} : ∀ {ws : List Str}, (∀ w ∈ ws, w ∈ cds m) → ∃ r : List Nat, ws = r.map cd ∧ ∀ c ∈ r, c < m
  | [], _ => ⟨[], rfl, nofun⟩
  | w :: ws, h => by
    obtain ⟨r, rfl, hr⟩ := cds_all (ws := ws) fun x hx => h x (List.mem_cons_of_mem _ hx)
    obtain ⟨c, hc, rfl⟩ := List.mem_map.mp (h w List.mem_cons_self)
    refine ⟨c :: r, rfl, fun x hx => ?_⟩
    rcases List.mem_cons.mp hx with rfl | hx
    · exact List.mem_range.mp hc
    · exact hr x hx
/-- a line that can stand -/
theorem tk_none {m : Nat} {ws : List Str} (h : tk m ws = none) : ∃ r : List Nat, ws = ("heap" : Str) :: r.map cd ∧ r.length ≤ 8 ∧ ∀ c ∈ r, c < m := by
  unfold tk at h
  split at h
  · next e =>
    obtain ⟨h1, h2⟩ := fb_none h
    cases ws with
    | nil => cases e
    | cons w ws =>
      simp only [List.take_succ_cons, List.take_zero, List.cons.injEq, and_true] at e
      subst e
      simp only [List.drop_succ_cons, List.drop_zero] at h1 h2
      obtain ⟨r, rfl, hr⟩ := cds_all h1
      refine ⟨r, rfl, ?_, hr⟩
      rcases h2 with h2 | h2
      · simp at h2
        simp [h2]
      · simp at h2
        omega
  · cases h
theorem fe_some {m : Nat} {p : Nat × Nat} : ∀ {wss : List (List Str)} {k : Nat}, fe m k wss = some p → ∃ j, ∃ h : j < wss.length, p.1 = k + j + 1 ∧ tk m wss[j] = some p.2 ∧ ∀ i (hi : i < j), tk m wss[i] = none
  | [], _, h => by cases h
  | ws :: r, k, h => by
    unfold fe at h
    split at h
    · next x e =>
      cases h
      exact ⟨0, by simp, rfl, e, fun i hi => by omega⟩
    · next e =>
      obtain ⟨j, hj, e1, h1, h2⟩ := fe_some h
      refine ⟨j + 1, by simp; omega, by omega, by simpa using h1, fun i hi => ?_⟩
      cases i with
      | zero => exact e
      | succ i => simpa using h2 i (by omega)
theorem fe_none {m : Nat} : ∀ {wss : List (List Str)} {k : Nat}, fe m k wss = none → ∀ ws ∈ wss, tk m ws = none
  | [], _, _ => nofun
  | w :: r, k, h => by
    unfold fe at h
    split at h
    · cases h
    · next e =>
      intro x hx
      rcases List.mem_cons.mp hx with rfl | hx
      · exact e
      · exact fe_none h x hx
theorem uf_some {all : List (List Str)} {p : Nat × Nat} : ∀ {wss : List (List Str)} {k : Nat}, uf all k wss = some p → ∃ j, ∃ h : j < wss.length, p = (k + j + 1, wss[j].length + 1) ∧ (all.map fun w => w.count (cd (k + j))).sum ≠ wss[j].length - 1 ∧ ∀ i (hi : i < j), (all.map fun w => w.count (cd (k + i))).sum = wss[i].length - 1
  | [], _, h => by cases h
  | ws :: r, k, h => by
    unfold uf at h
    split at h
    · next e =>
      obtain ⟨j, hj, e1, h1, h2⟩ := uf_some h
      have s : ∀ i, k + 1 + i = k + (i + 1) := fun i => by omega
      refine ⟨j + 1, by simp; omega, by rw [e1, s]; rfl, by rw [← s]; simpa using h1, fun i hi => ?_⟩
      cases i with
      | zero => exact e
      | succ i =>
        have := h2 i (by omega)
        rw [s] at this
        simpa using this
    · next e =>
      cases h
      exact ⟨0, by simp, rfl, e, fun i hi => by omega⟩
theorem uf_none {all : List (List Str)} : ∀ {wss : List (List Str)} {k : Nat}, uf all k wss = none → ∀ i (hi : i < wss.length), (all.map fun w => w.count (cd (k + i))).sum = wss[i].length - 1
  | [], _, _, i, hi => by simp at hi
  | ws :: r, k, h, i, hi => by
    unfold uf at h
    split at h
    · next e =>
      cases i with
      | zero => exact e
      | succ i =>
        have := uf_none h i (by simpa using hi)
        have s : k + 1 + i = k + (i + 1) := by omega
        rw [s] at this
        simpa using this
    · cases h
theorem cd_inj {a b : Nat} (ha : a < 8) (hb : b < 8) (h : cd a = cd b) : a = b := by
  have : ∀ a, a < 8 → ∀ b, b < 8 → cd a = cd b → a = b := by decide +kernel
  exact this a ha b hb h
theorem cd_heap {a : Nat} (ha : a < 8) : cd a ≠ "heap" := by
  have : ∀ a, a < 8 → cd a ≠ "heap" := by decide +kernel
  exact this a ha
theorem count_cds {k : Nat} (hk : k < 8) : ∀ {r : List Nat}, (∀ c ∈ r, c < 8) → (r.map cd).count (cd k) = r.count k
  | [], _ => rfl
  | c :: r, h => by
    have ih := count_cds hk (r := r) fun x hx => h x (List.mem_cons_of_mem _ hx)
    rw [List.map_cons, List.count_cons, List.count_cons, ih]
    have hc := h c List.mem_cons_self
    by_cases e : c = k
    · subst e; simp
    · have : cd c ≠ cd k := fun z => e (cd_inj hc hk z)
      simp [e, this]
theorem count_line {k : Nat} (hk : k < 8) {r : List Nat} (h : ∀ c ∈ r, c < 8) : (("heap" : Str) :: r.map cd).count (cd k) = r.count k := by
  rw [List.count_cons, count_cds hk h]
  have := (cd_heap hk).symm
  simp [this]
theorem count_lines {k : Nat} (hk : k < 8) : ∀ {hp : List (List Nat)}, (∀ r ∈ hp, ∀ c ∈ r, c < 8) → ((hp.map fun r => ("heap" : Str) :: r.map cd).map fun w => w.count (cd k)).sum = hp.flatten.count k
  | [], _ => rfl
  | r :: hp, h => by
    have ih := count_lines hk (hp := hp) fun x hx => h x (List.mem_cons_of_mem _ hx)
    rw [List.map_cons, List.map_cons, List.sum_cons, ih, count_line hk (h r List.mem_cons_self), List.flatten_cons, List.count_append]
/-- lines that can stand, as heaps -/
theorem lines_heaps {m : Nat} : ∀ {wss : List (List Str)}, (∀ ws ∈ wss, tk m ws = none) → ∃ hp : List (List Nat), wss = hp.map (fun r => ("heap" : Str) :: r.map cd) ∧ ∀ r ∈ hp, r.length ≤ 8 ∧ ∀ c ∈ r, c < m
  | [], _ => ⟨[], rfl, nofun⟩
  | ws :: wss, h => by
    obtain ⟨hp, rfl, hh⟩ := lines_heaps (wss := wss) fun x hx => h x (List.mem_cons_of_mem _ hx)
    obtain ⟨r, rfl, h1, h2⟩ := tk_none (h ws List.mem_cons_self)
    refine ⟨r :: hp, rfl, fun x hx => ?_⟩
    rcases List.mem_cons.mp hx with rfl | hx
    · exact ⟨h1, h2⟩
    · exact hh x hx
/-- what the answer says -/
inductive AnsOk (wss : List (List Str)) : Option (Nat × Nat) → Prop
  | bad (j x : Nat) (h : j < wss.length) (h8 : j < 8) (e : tk (min wss.length 8) wss[j] = some x) (g : ∀ i (hi : i < j), tk (min wss.length 8) wss[i] = none) : AnsOk wss (some (j + 1, x))
  | many (h : 8 < wss.length) (g : ∀ i (hi : i < 8), tk 8 wss[i] = none) : AnsOk wss (some (9, 1))
  | unfit (hp : List (List Nat)) (e : wss = hp.map fun r => ("heap" : Str) :: r.map cd) (h8 : hp.length ≤ 8) (ok : ∀ r ∈ hp, r.length ≤ 8 ∧ ∀ c ∈ r, c < hp.length) (k : Nat) (hk : k < hp.length) (g : ∀ j (hj : j < k), hp.flatten.count j = hp[j].length) (b : hp.flatten.count k ≠ hp[k].length) : AnsOk wss (some (k + 1, hp[k].length + 2))
  | fits (hp : List (List Nat)) (e : wss = hp.map fun r => ("heap" : Str) :: r.map cd) (h8 : hp.length ≤ 8) (ok : ∀ r ∈ hp, r.length ≤ 8 ∧ ∀ c ∈ r, c < hp.length) (g : ∀ j (hj : j < hp.length), hp.flatten.count j = hp[j].length) : AnsOk wss none
theorem ans_ok (wss : List (List Str)) : AnsOk wss (ans wss) := by
  unfold ans
  split
  · next p e =>
    obtain ⟨j, hj, e1, e2, e3⟩ := fe_some e
    have hj' : j < wss.length ∧ j < 8 := by simpa [Nat.lt_min, and_comm] using hj
    have ep : p = (j + 1, p.2) := by
      obtain ⟨a, b⟩ := p
      simp at e1
      rw [e1]
    rw [ep]
    refine .bad j p.2 hj'.1 hj'.2 (by simpa using e2) fun i hi => by simpa using e3 i hi
  · next e =>
    have al := fe_none e
    split
    · next h8 =>
      refine .many h8 fun i hi => ?_
      have hlt : i < (wss.take 8).length := by rw [List.length_take]; omega
      have := al (wss.take 8)[i] (List.getElem_mem hlt)
      rw [show min wss.length 8 = 8 by omega] at this
      simpa using this
    · next h8 =>
      rw [show min wss.length 8 = wss.length by omega, List.take_of_length_le (by omega)] at al
      obtain ⟨hp, e0, hh⟩ := lines_heaps al
      have hl : wss.length = hp.length := by rw [e0, List.length_map]
      rw [hl] at hh
      have hc8 : ∀ r ∈ hp, ∀ c ∈ r, c < 8 := fun r hr c hc => by have := (hh r hr).2 c hc; omega
      have cnt : ∀ k, k < hp.length → (wss.map fun w => w.count (cd k)).sum = hp.flatten.count k := fun k hk => by
        rw [e0]
        exact count_lines (by omega) hc8
      have ln : ∀ k (hk : k < hp.length) (hk' : k < wss.length), wss[k].length = hp[k].length + 1 := fun k hk hk' => by
        subst e0
        simp
      cases q : uf wss 0 wss with
      | none =>
        have un := uf_none q
        refine .fits hp e0 (by omega) hh fun j hj => ?_
        have := un j (by omega)
        rw [Nat.zero_add, cnt j hj, ln j hj (by omega)] at this
        omega
      | some p =>
        obtain ⟨j, hj, e1, e2, e3⟩ := uf_some q
        have hj' : j < hp.length := by omega
        rw [Nat.zero_add, cnt j hj', ln j hj' hj] at e2
        rw [e1, Nat.zero_add, ln j hj' hj]
        refine .unfit hp e0 (by omega) hh j hj' (fun i hi => ?_) (by omega)
        have := e3 i hi
        rw [Nat.zero_add, cnt i (by omega), ln i (by omega) (by omega)] at this
        omega
end DL

namespace DL
open PySem L2
theorem inj_str : ∀ (a b : List Str), a.map D.str = b.map D.str → a = b := fun a b h => List.map_inj_right (fun x y e => by injection e) |>.mp h
theorem nbs_strs (ws : List Str) : nbs (ws.map D.str) = true := nbs_map _ _ fun _ _ => rfl
theorem pln_strs (n : Nat) (ws : List Str) (h : ∀ w ∈ ws, okS w) (hl : ws.length ≤ 100000) : pln (n + 1) (.lst (ws.map D.str)) = true := by
  have : plns n (ws.map D.str) = true := plns_map _ _ _ fun w hw => okS_pln (h w hw) n
  simp [this, hl]
/-- the first word is no heap -/
theorem ne_heap (S : Sto) (ws : List Str) (h : ∀ w ∈ ws, okS w) : fNe (.lst ((ws.take 1).map D.str)) (.lst [.str "heap"]) S = .ok (.bl (!decide (ws.take 1 = [("heap" : Str)]))) S := by
  have hp : pln 64 (.lst ((ws.take 1).map D.str)) = true := pln_strs 63 _ (fun w hw => h w (List.mem_of_mem_take hw)) (by simp; omega)
  have hq : pln 64 (.lst [.str "heap"]) = true := by decide +kernel
  rw [v_ne S (.lst ((ws.take 1).map D.str)) (.lst [.str "heap"]) hp hq]
  have : eqD (.lst ((ws.take 1).map D.str)) (.lst [.str "heap"]) = decide (ws.take 1 = [("heap" : Str)]) := by
    refine eqD_dec (by show nbs _ = true; exact nbs_strs _) rfl ?_
    constructor
    · intro e
      injection e with e
      exact inj_str _ [("heap" : Str)] e
    · intro e
      rw [e]
      rfl
  show R.ok (D.bl (!eqD (.lst ((ws.take 1).map D.str)) (.lst [.str "heap"]))) S = _
  rw [this]
theorem in_cds (w : Str) (m : Nat) : inD (.str w) ((cds m).map D.str) = decide (w ∈ cds m) := by
  unfold inD
  rw [Bool.eq_iff_iff, List.any_eq_true, decide_eq_true_iff]
  constructor
  · rintro ⟨x, hx, e⟩
    obtain ⟨y, hy, rfl⟩ := List.mem_map.mp hx
    have := (eqD_iff _ _ rfl rfl).mp e
    injection this with this
    first
      | (rw [this]; exact hy)
      | (rw [← this]; exact hy)
  · intro h
    exact ⟨.str w, List.mem_map.mpr ⟨w, h, rfl⟩, (eqD_iff _ _ rfl rfl).mpr rfl⟩
theorem flats_strs (ws : List Str) : flats (ws.map D.str) = true := by
  unfold flats
  rw [List.all_eq_true]
  intro x hx
  obtain ⟨y, _, rfl⟩ := List.mem_map.mp hx
  rfl
/-- a line that cannot stand -/
theorem takeheap_bad (S : Sto) {m x : Nat} {ws : List Str} (l : Int) (hm : m ≤ 8) (hw : ∀ w ∈ ws, okS w) (hl : ws.length ≤ 20000) (h : tk m ws = some x) : f_take_heap [.lst (ws.map D.str), .int (m : Int), .int l] S = .exc 10 ["line", "word"] [.int l, eN x] S := fun_exc rfl (by simp) fun F hF => by
  have hF0 := hF []
  rw [List.append_nil] at hF0
  have ct : cutD (ws.map D.str) none (some 1) = (ws.take 1).map D.str := by
    have := cut_to (ws.map D.str) 1
    rw [← List.map_take] at this
    exact this
  have hn := ne_heap S ws hw
  obtain ⟨T1, hT1⟩ : ∃ T1, T1 = (ws.take 1).map D.str := ⟨_, rfl⟩
  rw [← hT1] at ct hn
  obtain ⟨WD, hWD⟩ : ∃ WD, WD = ws.map D.str := ⟨_, rfl⟩
  have hlen : WD.length = ws.length := by rw [hWD, List.length_map]
  rw [← hWD] at ct ⊢
  unfold tk at h
  by_cases c0 : ws.take 1 = [("heap" : Str)]
  · rw [if_pos c0] at h
    rw [decide_eq_true c0] at hn
    obtain ⟨j, hj, ex, hbad, hgood⟩ := fb_some h
    simp only [List.length_drop] at hj
    have e0 : rgD 1 (ws.length : Int) = (List.range' 1 (ws.length - 1)).map eN := rgD_nat2 1 ws.length
    have e1 : okRg (1, (ws.length : Int)) = true := okRg_nat (m := 1) (n := ws.length) (by omega) (by omega)
    have e2 : rgD 0 (m : Int) = (List.range m).map eN := rgD_nat m
    have e3 : okRg (0, (m : Int)) = true := by
      have := okRg_nat (m := 0) (n := m) (by omega) (by omega)
      simpa using this
    have h1 : ∀ (S' : Sto) (a b c d : D), compL S' [] false (.nm 4) [a, b, c, d, .dead, .dead] (fun _ S => .ok true S) p_take_heap_e0 ((List.range m).map eN) [] S' = .ok ((cds m).map D.str) S' := fun S' a b c d => by
      have := comp_all (S := S') (src := []) (pair := false) (t := .nm 4) (wσ := [a, b, c, d, .dead, .dead]) (e := p_take_heap_e0) eN (fun c => D.str (cd c)) (List.range m) (fun c hc => ⟨_, rfl, by
        have := List.mem_range.mp hc
        have e1 := cd_fStr S' (c := c) (by omega)
        simp [p_take_heap_e0, e1]⟩) (by simp; omega)
      rw [this]
      unfold cds
      rw [List.map_map]
      rfl
    simp [p_take_heap, ct, hn, hlen, e0, e1]
    refine out_for (fun k σ S' => k ≤ j ∧ ∃ jj, σ = [.lst WD, .int (m : Int), .int l, jj, .dead, .dead] ∧ S' = S) (fun k d σ S' e q => ?_) (fun σ S' q => ?_) ⟨Nat.zero_le _, _, rfl, rfl⟩
    · obtain ⟨hk, jj, rfl, rfl⟩ := q
      rw [List.getElem?_map] at e
      obtain ⟨z, hz, rfl⟩ := Option.map_eq_some_iff.mp e
      obtain ⟨hk1, hz2⟩ := List.getElem?_eq_some_iff.mp hz
      simp at hk1 hz2
      have hz3 : z = k + 1 := by omega
      subst hz3
      refine ⟨by simp, _, rfl, fun F2 hF2 => ?_⟩
      have hkl : k < (ws.drop 1).length := by simp; omega
      have hg : WD[k + 1]? = some (.str (ws.drop 1)[k]) := by
        rw [hWD, List.getElem?_map, List.getElem?_eq_getElem (by omega)]
        simp
      obtain ⟨w, hwk⟩ : ∃ w, w = (ws.drop 1)[k] := ⟨_, rfl⟩
      rw [← hwk] at hg
      have ha : atI WD ((k : Int) + 1) = some (.str w) := by
        rw [show ((k : Int) + 1) = ((k + 1 : Nat) : Int) by omega, atI_nat', hg]
      have h1' := h1 S' (.lst WD) (.int (m : Int)) (.int l) (eN (k + 1))
      have hin := in_cds w m
      have hfl := flats_strs (cds m)
      obtain ⟨IN, hIN⟩ : ∃ IN, IN = (cds m).map D.str := ⟨_, rfl⟩
      rw [← hIN] at h1' hin hfl
      rcases Nat.lt_or_eq_of_le hk with hlt | rfl
      · have good := hgood k hlt
        rw [← hwk, not_or, Classical.not_not] at good
        have h8 : ¬ (8 : Int) < (k : Int) + 1 := by omega
        rw [decide_eq_true good.2] at hin
        simp [p_take_heap_b0, h8, ha, e2, e3, wipeD, h1', hin, hfl]
        exact hF2 _ _ ⟨hlt, _, rfl, rfl⟩
      · rw [← hwk] at hbad
        have ex' : eN x = .int ((k : Int) + 1 + 1) := by rw [ex]; show D.int _ = _; congr 1; omega
        rw [ex'] at hF0
        by_cases h8 : 8 < k + 1
        · have h8' : (8 : Int) < (k : Int) + 1 := by omega
          simp [p_take_heap_b0, h8']
          exact hF0
        · have h8' : ¬ (8 : Int) < (k : Int) + 1 := by omega
          have nin : w ∉ cds m := hbad.resolve_left (by omega)
          rw [decide_eq_false nin] at hin
          simp [p_take_heap_b0, h8', ha, e2, e3, wipeD, h1', hin, hfl]
          exact hF0
    · obtain ⟨hk, _⟩ := q
      rw [List.length_map, List.length_range'] at hk
      omega
  · rw [if_neg c0] at h
    rw [decide_eq_false c0] at hn
    have hx : x = 1 := by injection h with h; exact h.symm
    subst hx
    simp [p_take_heap, ct, hn]
    exact hF0
/-- a line that can stand -/
theorem takeheap_any (S : Sto) {m : Nat} {r : List Nat} (l : Int) (hm : m ≤ 8) (hr : r.length ≤ 8) (hc : ∀ c ∈ r, c < m) : f_take_heap [.lst ((("heap" : Str) :: r.map cd).map D.str), .int (m : Int), .int l] S = .ok (eR r) S := takeheap_ok S l hm hr hc
end DL

namespace DL
open PySem L2
section
variable {σ : Sl} {S : Sto}
@[simp] theorem ev_compX (m : M Its) (t : Tgt) (vs : List Nat) (c : M Bool) (e : M D) : mCompX m t vs c e σ S = mB m (fun it => fun σd S => compX S it.src it.pair t (wipeD σd vs) c e it.items [] S) σ S := rfl
set_option smartUnfolding false in
@[simp] theorem ev_enum2x (m : M (List D)) : mEnum2 m σ S = mB m (fun ds => fun _ S => match ds with | [d, .int k] => if 0 ≤ k ∧ k ≤ 1000 then oB (itsOf S d) fun xs => .ok ⟨enumD k xs, srcOf d, true⟩ S else .bad | _ => .bad) σ S := by rfl
open Classical in
noncomputable def rTryF (hit i : Nat) (su : Addr → Option Addr → M (List D)) (k2 : Nat) (ns2 : List Str) (r : RS) : RS := match r with
  | .exc k ns ds σ1 S1 => if k = hit ∧ i < σ1.length then
      if ∀ (a : Addr) (dd : Option Addr), su a dd (σ1.set i (.xc a dd ns ds)) S1 = su 0 none (σ1.set i (.xc 0 none ns ds)) S1 then
        match su 0 none (σ1.set i (.xc 0 none ns ds)) S1 with
        | .ok us S2 => if us.length = ns2.length then .exc k2 ns2 us (σ1.set i .dead) S2 else .bad
        | _ => .bad
      else .bad
    else .bad
  | r => r
@[simp] theorem ev_tryF (hit i : Nat) (b : MS) (su : Addr → Option Addr → M (List D)) (k2 : Nat) (ns2 : List Str) : mTryF hit i b su k2 ns2 σ S = rTryF hit i su k2 ns2 (b σ S) := rfl
@[simp] theorem rTryF_rt (hit i : Nat) (su : Addr → Option Addr → M (List D)) (k2 : Nat) (ns2 : List Str) (d : D) : rTryF hit i su k2 ns2 (.rt d S) = .rt d S := rfl
theorem rTryF_hit {hit i k2 : Nat} {su : Addr → Option Addr → M (List D)} {ns ns2 : List Str} {ds us : List D} {S2 : Sto} (hi : i < σ.length) (e : ∀ (a : Addr) (dd : Option Addr), su a dd (σ.set i (.xc a dd ns ds)) S = .ok us S2) (hl : us.length = ns2.length) : rTryF hit i su k2 ns2 (.exc hit ns ds σ S) = .exc k2 ns2 us (σ.set i .dead) S2 := by
  unfold rTryF
  dsimp only
  rw [if_pos ⟨rfl, hi⟩, if_pos (fun a dd => by rw [e a dd, e 0 none]), e 0 none]
  dsimp only
  rw [if_pos hl]
theorem finX_app {T : Sto} {k : Nat} {ns : List Str} {es : List D} (h : cll S.length es = true) : finX S (S ++ T) k ns es = .exc k ns es S := by
  unfold finX
  rw [if_pos ⟨okSt_app S T, h⟩]
  simp
end
theorem jn_len {s : List Nat} : ∀ (ws : List (List Nat)) (w : List Nat), w ∈ ws → w.length ≤ (jn s ws).length
  | [], _, h => by simp at h
  | [x], w, h => by rw [List.mem_singleton.mp h]; exact Nat.le_refl _
  | x :: y :: r, w, h => by
    show w.length ≤ (x ++ s ++ jn s (y :: r)).length
    rw [List.length_append, List.length_append]
    rcases List.mem_cons.mp h with rfl | h
    · omega
    · have := jn_len (s := s) (y :: r) w h
      omega
theorem split_le (l : Str) (k : Nat) : ∀ w ∈ Txt.split l ⟨#[k]⟩, w.length ≤ l.length := fun w hw => by
  have h1 := StrLaws.join_split l ⟨#[k]⟩
  have h2 := join_l ⟨#[k]⟩ (Txt.split l ⟨#[k]⟩)
  rw [h1] at h2
  have h3 := jn_len (s := (⟨#[k]⟩ : Str).cps.toList) ((Txt.split l ⟨#[k]⟩).map fun w => w.cps.toList) w.cps.toList (List.mem_map.mpr ⟨w, hw, rfl⟩)
  rw [← h2] at h3
  have e : ∀ x : Str, x.cps.toList.length = x.length := fun x => by show x.cps.toList.length = x.cps.size; simp
  rw [e, e] at h3
  exact h3
theorem wl_ok {l : Str} (h : okS l) : ∀ w ∈ wl l, okS w := fun w hw k hk => h k (split_sub l 32 w (by rw [← sp_cps]; exact (List.mem_filter.mp hw).1) k hk)
theorem wl_len (l : Str) : (wl l).length ≤ l.length + 1 := by
  have h1 : (wl l).length ≤ (Txt.split l " ").length := List.length_filter_le _ _
  have h2 := split_len l 32
  rw [← sp_cps] at h2
  omega
theorem v_split' (S : Sto) (a b : Str) (hb : (b.length == 0) = false) (ha : a.length + 2 ≤ 100000) : fSplit a (.str b) S = .ok ((Txt.split a b).map D.str) S := if_pos ⟨hb, ha⟩
/-- the words of a line, as read finds them -/
theorem read_words (S : Sto) (l : Str) (ho : okS l) (hl : l.length ≤ 20000) (a b c d e : D) (f g' : D) : p_read_e1 [a, b, c, d, e, .str l, .dead, f, g'] S = .ok (.lst ((wl l).map D.str)) S := by
  have h1 := v_split' S l " " (by decide +kernel) (by omega)
  have hn : (Txt.split l " ").length ≤ 20001 := by
    have h1 := split_len l 32
    rw [← sp_cps] at h1
    omega
  have h2 := comp_pure (S := S) (src := []) (pair := false) (t := .nm 6) (wσ := [a, b, c, d, e, .str l, .dead, f, g']) (c := p_read_c0) (e := p_read_e0) D.str (fun w => !(cps w).isEmpty) D.str (Txt.split l " ") [] (fun w hw' => by
    have hok : okS w := fun k hk => ho k (split_sub l 32 w (by rw [← sp_cps]; exact hw') k hk)
    have hne := ne_empty S w hok
    exact ⟨_, rfl, by simp [p_read_c0, hne], fun _ => by simp [p_read_e0]⟩) (Nat.le_trans (by simpa using hn) (by decide))
  rw [List.nil_append] at h2
  have h3 : (Txt.split l " ").filter (fun w => !(cps w).isEmpty) = wl l := rfl
  rw [h3] at h2
  simp [p_read_e1, h1, wipeD, h2]
section
variable {S : Sto} {src : List Nat} {pair : Bool} {t : Tgt} {wσ : Sl} {e : M D} {d x : D} {ds ys acc : List D}
theorem compX_step (st : t.st pair d = some ys) (he : e (setAll wσ t.slots ys) S = .ok x S) (hl : acc.length < 100000) : compX S src pair t wσ (fun _ S => .ok true S) e (d :: ds) acc S = compX S src pair t wσ (fun _ S => .ok true S) e ds (acc ++ [x]) S := by
  conv => lhs; unfold compX
  rw [if_pos (show Gd S src S from fun n _ => rfl), st]
  dsimp only
  rw [if_pos rfl, he]
  exact if_pos hl
theorem compX_stop {k : Nat} {ns : List Str} {es : List D} (st : t.st pair d = some ys) (he : e (setAll wσ t.slots ys) S = .exc k ns es S) : compX S src pair t wσ (fun _ S => .ok true S) e (d :: ds) acc S = .exc k ns es S := by
  unfold compX
  rw [if_pos (show Gd S src S from fun n _ => rfl), st]
  dsimp only
  rw [if_pos rfl, he]
end
section
variable {S : Sto} {t LN r3 r4 r5 r6 : D} {m : Nat}
theorem rows_bad (hm : m ≤ 8) : ∀ (L : List (List Str)) (k j x : Nat) (acc : List D) (h : j < L.length), (∀ ws ∈ L, (∀ w ∈ ws, okS w) ∧ ws.length ≤ 20000) → acc.length + L.length ≤ 100 → tk m L[j] = some x → (∀ i (hi : i < j), tk m L[i] = none) →
    compX S [] true (.tp [7, 8]) [t, LN, .int (m : Int), r3, r4, r5, r6, .dead, .dead] (fun _ S => .ok true S) p_read_e2 (enumD ((k + 1 : Nat) : Int) (L.map fun ws => .lst (ws.map D.str))) acc S = .exc 10 ["line", "word"] [eN (k + j + 1), eN x] S
  | [], _, _, _, _, h, _, _, _, _ => by simp at h
  | ws :: L, k, j, x, acc, h, ok, hl, e, g => by
    have e1 : (((k + 1 : Nat) : Int) + 1) = ((k + 1 + 1 : Nat) : Int) := by omega
    show compX S [] true (.tp [7, 8]) _ _ p_read_e2 (.tup [.int ((k + 1 : Nat) : Int), .lst (ws.map D.str)] :: enumD (((k + 1 : Nat) : Int) + 1) (L.map fun ws => .lst (ws.map D.str))) acc S = _
    rw [e1]
    obtain ⟨o1, o2⟩ := ok ws List.mem_cons_self
    cases j with
    | zero =>
      have tb := takeheap_bad S ((k + 1 : Nat) : Int) hm o1 o2 e
      refine compX_stop (ys := [.int ((k + 1 : Nat) : Int), .lst (ws.map D.str)]) rfl ?_
      show _ = R.exc 10 ["line", "word"] [.int ((k + 1 : Nat) : Int), eN x] S
      generalize ws.map D.str = WD at *
      generalize ((k + 1 : Nat) : Int) = K at *
      simp [p_read_e2, tb]
    | succ j =>
      have g0 : tk m ws = none := g 0 (by omega)
      obtain ⟨r, rfl, hr8, hrm⟩ := tk_none g0
      have ta := takeheap_any S ((k + 1 : Nat) : Int) hm hr8 hrm
      have ih := rows_bad hm L (k + 1) j x (acc ++ [eR r]) (by simpa using h) (fun ws h => ok ws (List.mem_cons_of_mem _ h)) (by rw [List.length_append]; simp only [List.length_cons, List.length_nil] at hl ⊢; omega) (by simpa using e) (fun i hi => by simpa using g (i + 1) (by omega))
      have hacc : acc.length < 100000 := by simp only [List.length_cons] at hl; omega
      have e2 : k + 1 + j + 1 = k + (j + 1) + 1 := by omega
      rw [e2] at ih
      refine (compX_step (x := eR r) (ys := [.int ((k + 1 : Nat) : Int), .lst ((("heap" : Str) :: r.map cd).map D.str)]) rfl ?_ hacc).trans ih
      generalize (("heap" : Str) :: r.map cd).map D.str = WD at *
      generalize ((k + 1 : Nat) : Int) = K at *
      simp [p_read_e2, ta]
theorem rows_good (hm : m ≤ 8) : ∀ (hp : List (List Nat)) (k : Nat) (acc : List D), (∀ r ∈ hp, r.length ≤ 8 ∧ ∀ c ∈ r, c < m) → acc.length + hp.length ≤ 100 →
    compX S [] true (.tp [7, 8]) [t, LN, .int (m : Int), r3, r4, r5, r6, .dead, .dead] (fun _ S => .ok true S) p_read_e2 (enumD ((k + 1 : Nat) : Int) (hp.map fun r => .lst ((("heap" : Str) :: r.map cd).map D.str))) acc S = .ok (acc ++ hp.map eR) S
  | [], k, acc, _, _ => by
    show compX S [] true (.tp [7, 8]) _ _ p_read_e2 [] acc S = _
    unfold compX
    simp
  | r :: hp, k, acc, ok, hl => by
    have e1 : (((k + 1 : Nat) : Int) + 1) = ((k + 1 + 1 : Nat) : Int) := by omega
    show compX S [] true (.tp [7, 8]) _ _ p_read_e2 (.tup [.int ((k + 1 : Nat) : Int), .lst ((("heap" : Str) :: r.map cd).map D.str)] :: enumD (((k + 1 : Nat) : Int) + 1) (hp.map fun r => .lst ((("heap" : Str) :: r.map cd).map D.str))) acc S = _
    rw [e1]
    obtain ⟨hr8, hrm⟩ := ok r List.mem_cons_self
    have ta := takeheap_any S ((k + 1 : Nat) : Int) hm hr8 hrm
    have ih := rows_good hm hp (k + 1) (acc ++ [eR r]) (fun r h => ok r (List.mem_cons_of_mem _ h)) (by rw [List.length_append]; simp only [List.length_cons, List.length_nil] at hl ⊢; omega)
    have e3 : acc ++ [eR r] ++ hp.map eR = acc ++ (r :: hp).map eR := by simp
    rw [e3] at ih
    have hacc : acc.length < 100000 := by simp only [List.length_cons] at hl; omega
    refine (compX_step (x := eR r) (ys := [.int ((k + 1 : Nat) : Int), .lst ((("heap" : Str) :: r.map cd).map D.str)]) rfl ?_ hacc).trans ih
    generalize (("heap" : Str) :: r.map cd).map D.str = WD at *
    generalize ((k + 1 : Nat) : Int) = K at *
    simp [p_read_e2, ta]
end
end DL

namespace DL
open PySem L2
def wss (T : Str) : List (List Str) := (Txt.split T "\n").map wl
theorem wss_ne (T : Str) : 1 ≤ (wss T).length := by
  unfold wss
  rw [List.length_map]
  have := split_ne T "\n"
  exact Nat.pos_of_ne_zero fun z => this (List.eq_nil_of_length_eq_zero z)
theorem wss_ok {T : Str} (hT : okS T) (hl : T.length ≤ 19000) : ∀ ws ∈ wss T, (∀ w ∈ ws, okS w) ∧ ws.length ≤ 20000 := fun ws h => by
  obtain ⟨l, hl2, rfl⟩ := List.mem_map.mp h
  rw [nl_cps] at hl2
  have h1 := split_le T 10 l hl2
  have h2 := wl_len l
  exact ⟨wl_ok fun k hk => hT k (split_sub T 10 l hl2 k hk), by omega⟩
abbrev lnsD (W : List (List Str)) : List D := W.map fun ws => .lst (ws.map D.str)
theorem read_any (S : Sto) (T : Str) (hT : okS T) (hl : T.length ≤ 19000) : (∃ p, ans (wss T) = some p ∧ f_read [.str T] S = .exc 10 ["line", "word"] [eN p.1, eN p.2] S) ∨ (ans (wss T) = none ∧ ∃ hp, f_read [.str T] S = .ok (insPack hp) S) := by
  have hs : fSplit T (.str "\n") S = .ok ((Txt.split T "\n").map D.str) S := v_split' S T "\n" (by decide +kernel) (by omega)
  have hn := split_len T 10
  rw [← nl_cps] at hn
  have c1 := comp_all (S := S) (src := []) (pair := false) (t := .nm 5) (wσ := [.str T, .dead, .dead, .dead, .dead, .dead, .dead, .dead, .dead]) (e := p_read_e1) D.str (fun l => .lst ((wl l).map D.str)) (Txt.split T "\n") (fun l hl2 => ⟨_, rfl, by
    rw [nl_cps] at hl2
    have h1 := split_le T 10 l hl2
    exact read_words S l (fun k hk => hT k (split_sub T 10 l hl2 k hk)) (by omega) _ _ _ _ _ _ _⟩) (Nat.le_trans (show _ ≤ 19001 by omega) (by decide))
  have c1' : (Txt.split T "\n").map (fun l => D.lst ((wl l).map D.str)) = lnsD (wss T) := by unfold wss lnsD; rw [List.map_map]; rfl
  rw [c1'] at c1
  have hn1 := wss_ne T
  have hw := wss_ok hT hl
  have hLn : (lnsD (wss T)).length = (wss T).length := List.length_map _
  have hn2 : (wss T).length ≤ 19001 := by unfold wss; rw [List.length_map]; omega
  have ct : cutD (lnsD (wss T)) none (some 8) = lnsD ((wss T).take 8) := by
    have := cut_to (lnsD (wss T)) 8
    rw [← List.map_take] at this
    exact this
  have A := ans_ok (wss T)
  obtain ⟨W, hW⟩ : ∃ W, W = wss T := ⟨_, rfl⟩
  rw [← hW] at c1 hn1 hn2 hw hLn ct A ⊢
  obtain ⟨SP, hSP⟩ : ∃ SP, SP = (Txt.split T "\n").map D.str := ⟨_, rfl⟩
  rw [← hSP] at hs c1
  clear hn c1'
  have hmn : fMin [.int (W.length : Int), .int 8] S = .ok (.int ((min W.length 8 : Nat) : Int)) S := by
    rw [v_min2]
    congr 2
    split <;> omega
  have hm8 : min W.length 8 ≤ 8 := by omega
  obtain ⟨LN, hLN⟩ : ∃ LN, LN = lnsD W := ⟨_, rfl⟩
  rw [← hLN] at c1 hLn ct
  have k0 : ((0 + 1 : Nat) : Int) = 1 := rfl
  have hbound : ∀ ws ∈ W.take 8, (∀ w ∈ ws, okS w) ∧ ws.length ≤ 20000 := fun ws h => hw ws (List.mem_of_mem_take h)
  have h8l : (W.take 8).length ≤ 8 := by rw [List.length_take]; omega
  generalize ans W = ao at A ⊢
  cases A with
  | bad j x h h8 e g =>
    left
    refine ⟨_, rfl, fun_exc rfl (by simp) fun F hF => ?_⟩
    have hF0 := hF []
    rw [List.append_nil] at hF0
    have hj : j < (W.take 8).length := by rw [List.length_take]; omega
    have cx := rows_bad (S := S) (t := .str T) (LN := .lst LN) (r3 := .dead) (r4 := .dead) (r5 := .dead) (r6 := .dead) hm8 (W.take 8) 0 j x [] hj hbound (by simp; omega) (by simpa using e) (fun i hi => by simpa using g i hi)
    rw [k0, Nat.zero_add] at cx
    obtain ⟨LT, hLT⟩ : ∃ LT, LT = lnsD (W.take 8) := ⟨_, rfl⟩
    rw [← hLT] at ct
    have cx2 : (W.take 8).map (fun ws => D.lst (ws.map D.str)) = LT := hLT.symm
    rw [cx2] at cx
    generalize ((min W.length 8 : Nat) : Int) = M at *
    simp [p_read, hs, wipeD, c1, hLn, ct, hmn, cx]
    exact hF0
  | many h g =>
    left
    refine ⟨_, rfl, fun_exc rfl (by simp) fun F hF => ?_⟩
    have hF0 := hF []
    rw [List.append_nil] at hF0
    obtain ⟨hp, e0, hh⟩ := lines_heaps (m := min W.length 8) (wss := W.take 8) (fun ws hws => by
      obtain ⟨i, hi, rfl⟩ := List.mem_iff_getElem.mp hws
      rw [show min W.length 8 = 8 by omega]
      simpa using g i (by omega))
    have hpl : hp.length ≤ 8 := by have := congrArg List.length e0; rw [List.length_map] at this; omega
    have cx := rows_good (S := S) (t := .str T) (LN := .lst LN) (r3 := .dead) (r4 := .dead) (r5 := .dead) (r6 := .dead) hm8 hp 0 [] hh (by simp; omega)
    rw [k0, List.nil_append] at cx
    have ct' : cutD LN none (some 8) = hp.map fun r => D.lst ((("heap" : Str) :: r.map cd).map D.str) := by rw [ct, e0]; unfold lnsD; rw [List.map_map]; rfl
    obtain ⟨LH, hLH⟩ : ∃ LH, LH = hp.map fun r => D.lst ((("heap" : Str) :: r.map cd).map D.str) := ⟨_, rfl⟩
    rw [← hLH] at cx ct'
    have h8' : (8 : Int) < (W.length : Int) := by omega
    generalize ((min W.length 8 : Nat) : Int) = M at *
    simp [p_read, hs, wipeD, c1, hLn, ct', hmn, cx, h8']
    exact hF0
  | unfit hp e0 h8 hh k hk g b =>
    left
    have hl0 : W.length = hp.length := by rw [e0, List.length_map]
    refine ⟨_, rfl, fun_exc rfl (by simp) fun F hF => ?_⟩
    have hF0 := hF []
    rw [List.append_nil] at hF0
    have hmin : min W.length 8 = hp.length := by omega
    have cx := rows_good (S := S) (t := .str T) (LN := .lst LN) (r3 := .dead) (r4 := .dead) (r5 := .dead) (r6 := .dead) (m := hp.length) h8 hp 0 [] hh (by simp; omega)
    rw [k0, List.nil_append] at cx
    have ct' : cutD LN none (some 8) = hp.map fun r => D.lst ((("heap" : Str) :: r.map cd).map D.str) := by rw [ct, List.take_of_length_le (by omega), e0]; unfold lnsD; rw [List.map_map]; rfl
    obtain ⟨LH, hLH⟩ : ∃ LH, LH = hp.map fun r => D.lst ((("heap" : Str) :: r.map cd).map D.str) := ⟨_, rfl⟩
    rw [← hLH] at cx ct'
    rw [hmin] at hmn
    have h8' : ¬ (8 : Int) < (W.length : Int) := by omega
    have hok : HeapsOk hp := ⟨by omega, h8, fun r hr => (hh r hr).1, fun r hr => (hh r hr).2⟩
    have pu := packinit_unfit (S ++ [.ins 0 [] []]) S.length hp hok k hk g b
    have fx := finX_app (S := S) (T := [Ob.ins 0 [] []]) (k := 4) (ns := ["heap"]) (es := [eN k]) (by simp)
    have su : ∀ (a : Addr) (dd : Option Addr), p_read_s0 a dd ([.str T, .lst LN, .int (hp.length : Int), .lst (hp.map eR), .dead, .dead, .dead, .dead, .dead].set 4 (.xc a dd ["heap"] [eN k])) S = .ok [.int ((k : Int) + 1), .int ((hp[k].length : Int) + 2)] S := fun a dd => by
      simp [p_read_s0, fldD, hk]
    have tf := rTryF_hit (σ := [.str T, .lst LN, .int (hp.length : Int), .lst (hp.map eR), .dead, .dead, .dead, .dead, .dead]) (S := S) (hit := 4) (k2 := 10) (ns2 := ["line", "word"]) (i := 4) (by simp) su rfl
    have eHH : eH hp = .tup (hp.map eR) := rfl
    obtain ⟨HR, hHR⟩ : ∃ HR, HR = hp.map eR := ⟨_, rfl⟩
    rw [← hHR] at cx tf eHH
    rw [eHH] at pu
    simp [p_read, hs, wipeD, c1, hLn, ct', hmn, cx, h8', pu, fx, tf]
    exact hF0
  | fits hp e0 h8 hh g =>
    right
    have hl0 : W.length = hp.length := by rw [e0, List.length_map]
    refine ⟨rfl, hp, fun_eq rfl fun F hF => ?_⟩
    have hmin : min W.length 8 = hp.length := by omega
    have cx := rows_good (S := S) (t := .str T) (LN := .lst LN) (r3 := .dead) (r4 := .dead) (r5 := .dead) (r6 := .dead) (m := hp.length) h8 hp 0 [] hh (by simp; omega)
    rw [k0, List.nil_append] at cx
    have ct' : cutD LN none (some 8) = hp.map fun r => D.lst ((("heap" : Str) :: r.map cd).map D.str) := by rw [ct, List.take_of_length_le (by omega), e0]; unfold lnsD; rw [List.map_map]; rfl
    obtain ⟨LH, hLH⟩ : ∃ LH, LH = hp.map fun r => D.lst ((("heap" : Str) :: r.map cd).map D.str) := ⟨_, rfl⟩
    rw [← hLH] at cx ct'
    rw [hmin] at hmn
    have h8' : ¬ (8 : Int) < (W.length : Int) := by omega
    have p : PackOk hp := ⟨by omega, h8, fun r hr => (hh r hr).1, fun r hr => (hh r hr).2, g⟩
    have hpi := packinit_n (S := S) (n := S.length) p rfl
    have hpf := packfin_n (S := S) (n := S.length) (hp := hp) rfl
    have eHH : eH hp = .tup (hp.map eR) := rfl
    obtain ⟨HR, hHR⟩ : ∃ HR, HR = hp.map eR := ⟨_, rfl⟩
    rw [← hHR] at cx eHH
    rw [eHH] at hpi hpf
    simp [p_read, hs, wipeD, c1, hLn, ct', hmn, cx, h8', hpi, hpf]
    exact hF _ _ (finP_self (by simp [insPack]) ⟨rfl, rfl⟩)
/-- the law's answer -/
theorem answer_any (S : Sto) (T : Str) (hT : okS T) (hl : T.length ≤ 19000) : f_l_answer [.str T] S = .ok (eA (ans (wss T))) S := by
  rcases read_any S T hT hl with ⟨⟨a, b⟩, e, r⟩ | ⟨e, hp, r⟩
  · rw [e]
    refine fun_eq rfl fun F hF => ?_
    have nlw : ¬ ((Str.ofString "line") = Str.ofString "word") := by decide +kernel
    have hh := hnd_hit (σ := [.str T, .non, .dead]) (S := S) (c := ⟨hitL [10] [3, 4], 2, p_l_answer_s0⟩) (cl := []) (k := 10) (ns := ["line", "word"]) (ds := [eN a, eN b]) (r := .nx [.str T, .tup [eN a, eN b], .dead] S) rfl (fun ad dd => by
      simp [p_l_answer_s0, isx, fldD, nlw])
    simp [p_l_answer, r, hh]
    exact hF _ _ (finP_self (by simp) ⟨rfl, rfl⟩)
  · rw [e]
    refine fun_eq rfl fun F hF => ?_
    simp [p_l_answer, r]
    exact hF _ _ (finP_self rfl ⟨rfl, rfl⟩)
end DL

namespace DL
open PySem L2
theorem eq_nil (S : Sto) (ws : List Str) (h : ∀ w ∈ ws, okS w) (hl : ws.length ≤ 100000) : fEq (.lst (ws.map D.str)) (.lst []) S = .ok (.bl (decide (ws = []))) S := by
  have hp : pln 64 (.lst (ws.map D.str)) = true := pln_strs 63 _ h hl
  have hq : pln 64 (.lst []) = true := by decide +kernel
  rw [v_eq S (.lst (ws.map D.str)) (.lst []) hp hq]
  have : eqD (.lst (ws.map D.str)) (.lst []) = decide (ws = []) := by
    refine eqD_dec (by show nbs _ = true; exact nbs_strs _) rfl ?_
    constructor
    · intro e
      injection e with e
      exact inj_str _ [] e
    · intro e
      rw [e]
      rfl
  show R.ok (D.bl (eqD (.lst (ws.map D.str)) (.lst []))) S = _
  rw [this]
theorem eqD_str (a b : Str) : eqD (.str a) (.str b) = decide (a = b) := eqD_dec rfl rfl (by
  constructor
  · intro e
    injection e
  · intro e
    rw [e])
theorem ne_str (S : Sto) (a b : Str) (ha : okS a) (hb : okS b) : fNe (.str a) (.str b) S = .ok (.bl (!decide (a = b))) S := by
  rw [v_ne S (.str a) (.str b) (okS_pln ha 64) (okS_pln hb 64)]
  show R.ok (D.bl (!eqD (.str a) (.str b))) S = _
  rw [eqD_str]
theorem eq_str (S : Sto) (a b : Str) (ha : okS a) (hb : okS b) : fEq (.str a) (.str b) S = .ok (.bl (decide (a = b))) S := by
  rw [v_eq S (.str a) (.str b) (okS_pln ha 64) (okS_pln hb 64)]
  show R.ok (D.bl (eqD (.str a) (.str b))) S = _
  rw [eqD_str]
theorem okS_heap : okS "heap" := okS_lit (by decide +kernel)
theorem cds8 : (cds 8).map D.str = [.str "0", .str "1", .str "2", .str "3", .str "4", .str "5", .str "6", .str "7"] := by
  have : cds 8 = [("0" : Str), "1", "2", "3", "4", "5", "6", "7"] := by decide +kernel
  rw [this]
  rfl
theorem cds_cut (n : Nat) : cutD [.str "0", .str "1", .str "2", .str "3", .str "4", .str "5", .str "6", .str "7"] none (some (n : Int)) = (cds (min n 8)).map D.str := by
  rw [← cds8, cut_to, ← List.map_take]
  unfold cds
  rw [← List.map_take, List.take_range]
/-- the first wrong word of line k of n -/
def wr (k n : Nat) (ws : List Str) : Option Nat := if 7 < k then some 1 else tk (min n 8) ws
def eO : Option Nat → D
  | none => .non
  | some x => eN x
theorem wrong_ok (S : Sto) (k n : Nat) (ws : List Str) (hw : ∀ w ∈ ws, okS w) (hl : ws.length ≤ 20000) : f_l_wrong [.int (k : Int), .lst (ws.map D.str), .int (n : Int)] S = .ok (eO (wr k n ws)) S := fun_eq rfl fun F hF => by
  have hnil := eq_nil S ws hw (by omega)
  have hlen : (ws.map D.str).length = ws.length := List.length_map _
  by_cases h7 : 7 < k
  · have h7' : (7 : Int) < (k : Int) := by omega
    have e : wr k n ws = some 1 := if_pos h7
    rw [e] at hF
    simp [p_l_wrong, h7']
    exact hF _ _ (finP_self rfl ⟨rfl, rfl⟩)
  · have h7' : ¬ (7 : Int) < (k : Int) := by omega
    have e : wr k n ws = tk (min n 8) ws := if_neg h7
    rw [e] at hF
    cases ws with
    | nil =>
      have e2 : tk (min n 8) [] = some 1 := rfl
      rw [e2] at hF
      have : fEq (.lst []) (.lst []) S = .ok (.bl true) S := hnil
      simp [p_l_wrong, h7', this]
      exact hF _ _ (finP_self rfl ⟨rfl, rfl⟩)
    | cons w0 ws =>
      rw [decide_eq_false (by simp)] at hnil
      have h0 := ne_str S w0 "heap" (hw w0 List.mem_cons_self) okS_heap
      have hw0 : ((w0 :: ws).map D.str)[0]? = some (.str w0) := rfl
      by_cases c0 : w0 = "heap"
      · rw [decide_eq_true c0] at h0
        have e2 : tk (min n 8) (w0 :: ws) = fb (min n 8) 1 ws := by
          unfold tk
          rw [if_pos (by simp [c0])]
          rfl
        rw [e2] at hF
        have hcut := cds_cut n
        obtain ⟨IN, hIN⟩ : ∃ IN, IN = (cds (min n 8)).map D.str := ⟨_, rfl⟩
        have hfl := flats_strs (cds (min n 8))
        have hin := fun w => in_cds w (min n 8)
        rw [← hIN] at hcut hfl hin
        have hg : ∀ j (hj : j < ws.length), ((w0 :: ws).map D.str)[j + 1]? = some (.str ws[j]) := fun j hj => by simp [hj]
        obtain ⟨WD, hWD⟩ : ∃ WD, WD = (w0 :: ws).map D.str := ⟨_, rfl⟩
        rw [← hWD] at hnil hw0 hlen hg ⊢
        have hlen' : WD.length = ws.length + 1 := hlen
        have hw00 : ∀ h : 0 < WD.length, WD[0] = .str w0 := fun h => by
          rw [List.getElem?_eq_getElem h] at hw0
          exact Option.some.inj hw0
        have e0 : rgD 1 ((ws.length : Int) + 1) = (List.range' 1 ws.length).map eN := by
          have := rgD_nat2 1 (ws.length + 1)
          simpa using this
        have hl' : ws.length ≤ 20000 := by simp only [List.length_cons] at hl; omega
        have e1 : okRg (1, (ws.length : Int) + 1) = true := by
          have := okRg_nat (m := 1) (n := ws.length + 1) (by omega) (by omega)
          simpa using this
        have body : ∀ (k' : Nat) (S' : Sto) (jj : D) (po : Po) (hk : k' < ws.length), S' = S → (¬ (8 < 1 + k' ∨ ws[k'] ∉ cds (min n 8)) → po.N [.int (k : Int), .lst WD, .int (n : Int), eN (k' + 1)] S) → ((8 < 1 + k' ∨ ws[k'] ∉ cds (min n 8)) → po.R (.int ((k' : Int) + 1 + 1)) S) →
            Out (p_l_wrong_b0 [.int (k : Int), .lst WD, .int (n : Int), eN (k' + 1)] S') po := fun k' S' jj po hk es good bad => by
          subst es
          have ha : atI WD ((k' : Int) + 1) = some (.str ws[k']) := by
            rw [show ((k' : Int) + 1) = ((k' + 1 : Nat) : Int) by omega, atI_nat', hg k' hk]
          have hi := hin ws[k']
          by_cases h8 : 8 < 1 + k'
          · have h8' : (8 : Int) < (k' : Int) + 1 := by omega
            simp [p_l_wrong_b0, h8']
            exact bad (.inl h8)
          · have h8' : ¬ (8 : Int) < (k' : Int) + 1 := by omega
            by_cases hm : ws[k'] ∈ cds (min n 8)
            · rw [decide_eq_true hm] at hi
              simp [p_l_wrong_b0, h8', ha, hcut, hfl, hi]
              exact good (fun z => z.elim h8 fun y => y hm)
            · rw [decide_eq_false hm] at hi
              simp [p_l_wrong_b0, h8', ha, hcut, hfl, hi]
              exact bad (.inr hm)
        cases q : fb (min n 8) 1 ws with
        | none =>
          rw [q] at hF
          have gall : ∀ i (hi : i < ws.length), ¬ (8 < 1 + i ∨ ws[i] ∉ cds (min n 8)) := fun i hi => by
            obtain ⟨h1, h2⟩ := fb_none q
            rw [not_or, Classical.not_not]
            refine ⟨?_, h1 _ (List.getElem_mem hi)⟩
            rcases h2 with h2 | h2
            · subst h2; simp at hi
            · omega
          simp [p_l_wrong, h7', hnil, hw0, hw00, h0, hlen', e0, e1]
          refine out_for (fun k' σ S' => ∃ jj, σ = [.int (k : Int), .lst WD, .int (n : Int), jj] ∧ S' = S) (fun k' d σ S' e q => ?_) (fun σ S' q => ?_) ⟨_, rfl, rfl⟩
          · obtain ⟨jj, rfl, rfl⟩ := q
            rw [List.getElem?_map] at e
            obtain ⟨z, hz, rfl⟩ := Option.map_eq_some_iff.mp e
            obtain ⟨hk1, hz2⟩ := List.getElem?_eq_some_iff.mp hz
            simp at hk1 hz2
            have hz3 : z = k' + 1 := by omega
            subst hz3
            refine ⟨by simp, _, rfl, fun F2 hF2 => ?_⟩
            exact body k' _ jj _ hk1 rfl (fun _ => hF2 _ _ ⟨_, rfl, rfl⟩) (fun b => absurd b (gall k' hk1))
          · obtain ⟨jj, rfl, rfl⟩ := q
            refine ⟨by simp, ?_⟩
            simp
            exact hF _ _ (finP_self rfl ⟨rfl, rfl⟩)
        | some x =>
          rw [q] at hF
          obtain ⟨j, hj, ex, hbad, hgood⟩ := fb_some q
          simp [p_l_wrong, h7', hnil, hw0, hw00, h0, hlen', e0, e1]
          refine out_for (fun k' σ S' => k' ≤ j ∧ ∃ jj, σ = [.int (k : Int), .lst WD, .int (n : Int), jj] ∧ S' = S) (fun k' d σ S' e q => ?_) (fun σ S' q => ?_) ⟨Nat.zero_le _, _, rfl, rfl⟩
          · obtain ⟨hk, jj, rfl, rfl⟩ := q
            rw [List.getElem?_map] at e
            obtain ⟨z, hz, rfl⟩ := Option.map_eq_some_iff.mp e
            obtain ⟨hk1, hz2⟩ := List.getElem?_eq_some_iff.mp hz
            simp at hk1 hz2
            have hz3 : z = k' + 1 := by omega
            subst hz3
            refine ⟨by simp, _, rfl, fun F2 hF2 => ?_⟩
            refine body k' _ jj _ hk1 rfl (fun g => hF2 _ _ ⟨?_, _, rfl, rfl⟩) (fun b => ?_)
            · rcases Nat.lt_or_eq_of_le hk with h | h
              · exact h
              · subst h
                exact absurd hbad g
            · rcases Nat.lt_or_eq_of_le hk with h | h
              · exact absurd b (hgood k' h)
              · subst h
                refine hF _ _ (finP_self rfl ⟨?_, rfl⟩)
                exact congrArg D.int (show (k' : Int) + 1 + 1 = (x : Int) by omega)
          · obtain ⟨hk, _⟩ := q
            rw [List.length_map, List.length_range'] at hk
            omega
      · rw [decide_eq_false c0] at h0
        have e2 : tk (min n 8) (w0 :: ws) = some 1 := by
          unfold tk
          rw [if_neg (by simp [c0])]
        rw [e2] at hF
        obtain ⟨WD, hWD⟩ : ∃ WD, WD = (w0 :: ws).map D.str := ⟨_, rfl⟩
        rw [← hWD] at hnil hw0 ⊢
        simp [p_l_wrong, h7', hnil, hw0, h0]
        exact hF _ _ (finP_self rfl ⟨rfl, rfl⟩)
end DL

namespace DL
open PySem L2
theorem due_words (S : Sto) (l : Str) (ho : okS l) (hl : l.length ≤ 20000) (a b c d : D) (f : D) : p_l_due_e1 [a, b, c, d, .str l, .dead, f] S = .ok (.lst ((wl l).map D.str)) S := by
  have h1 := v_split' S l " " (by decide +kernel) (by omega)
  have hn : (Txt.split l " ").length ≤ 20001 := by
    have h1 := split_len l 32
    rw [← sp_cps] at h1
    omega
  have h2 := comp_pure (S := S) (src := []) (pair := false) (t := .nm 5) (wσ := [a, b, c, d, .str l, .dead, f]) (c := p_l_due_c0) (e := p_l_due_e0) D.str (fun w => !(cps w).isEmpty) D.str (Txt.split l " ") [] (fun w hw' => by
    have hok : okS w := fun k hk => ho k (split_sub l 32 w (by rw [← sp_cps]; exact hw') k hk)
    have hne := ne_empty S w hok
    exact ⟨_, rfl, by simp [p_l_due_c0, hne], fun _ => by simp [p_l_due_e0]⟩) (Nat.le_trans (by simpa using hn) (by decide))
  rw [List.nil_append] at h2
  have h3 : (Txt.split l " ").filter (fun w => !(cps w).isEmpty) = wl l := rfl
  rw [h3] at h2
  simp [p_l_due_e1, h1, wipeD, h2]
theorem due_count (S : Sto) (k : Nat) (hk : k < 8) (ws : List Str) (hw : ∀ w ∈ ws, okS w) (hl : ws.length ≤ 20000) (a b c e : D) : p_l_due_e3 [a, b, .int (k : Int), c, e, .dead, .lst (ws.map D.str)] S = .ok (eN (ws.count (cd k))) S := by
  have h2 := comp_pure (S := S) (src := []) (pair := false) (t := .nm 5) (wσ := [a, b, .int (k : Int), c, e, .dead, .lst (ws.map D.str)]) (c := p_l_due_c1) (e := p_l_due_e2) D.str (fun w => decide (w = cd k)) D.str ws [] (fun w hw' => by
    have e1 := cd_fStr S hk
    have e2 := eq_str S w (cd k) (hw w hw') (cd_ok hk).1
    exact ⟨_, rfl, by simp [p_l_due_c1, e1, e2], fun _ => by simp [p_l_due_e2]⟩) (Nat.le_trans (by simpa using hl) (by decide))
  rw [List.nil_append] at h2
  have h3 : (ws.filter fun w => decide (w = cd k)).length = ws.count (cd k) := by
    rw [List.count_eq_length_filter]
    rfl
  obtain ⟨WD, hWD⟩ : ∃ WD, WD = ws.map D.str := ⟨_, rfl⟩
  rw [← hWD] at h2 ⊢
  simp [p_l_due_e3, wipeD, h2, h3]
theorem fb_good {m : Nat} : ∀ {r : List Nat} {a : Nat}, (∀ c ∈ r, c < m) → a + r.length ≤ 9 → fb m a (r.map cd) = none
  | [], _, _, _ => rfl
  | c :: r, a, h, hl => by
    simp only [List.length_cons] at hl
    have ih := fb_good (m := m) (r := r) (a := a + 1) (fun x hx => h x (List.mem_cons_of_mem _ hx)) (by omega)
    show (if 8 < a ∨ cd c ∉ cds m then some (a + 1) else fb m (a + 1) (r.map cd)) = none
    have hc : cd c ∈ cds m := List.mem_map.mpr ⟨c, List.mem_range.mpr (h c List.mem_cons_self), rfl⟩
    rw [if_neg (fun z => z.elim (fun y => by omega) fun y => y hc)]
    exact ih
theorem tk_good {m : Nat} {r : List Nat} (h : ∀ c ∈ r, c < m) (hl : r.length ≤ 8) : tk m (("heap" : Str) :: r.map cd) = none := by
  unfold tk
  rw [if_pos (by simp)]
  exact fb_good h (by omega)
theorem due_ok (S : Sto) (ls : List Str) (ok : ∀ l ∈ ls, okS l ∧ l.length ≤ 19000) (hn : ls.length ≤ 1000) : f_l_due [.lst (ls.map D.str)] S = .ok (eA (ans (ls.map wl))) S := fun_eq rfl fun F hF => by
  have c1 := comp_all (S := S) (src := []) (pair := false) (t := .nm 4) (wσ := [.lst (ls.map D.str), .dead, .dead, .dead, .dead, .dead, .dead]) (e := p_l_due_e1) D.str (fun l => .lst ((wl l).map D.str)) ls (fun l hl => ⟨_, rfl, due_words S l (ok l hl).1 (by have := (ok l hl).2; omega) _ _ _ _ _⟩) (Nat.le_trans hn (by decide))
  have c1' : ls.map (fun l => D.lst ((wl l).map D.str)) = lnsD (ls.map wl) := by unfold lnsD; rw [List.map_map]; rfl
  rw [c1'] at c1
  have hw : ∀ ws ∈ ls.map wl, (∀ w ∈ ws, okS w) ∧ ws.length ≤ 20000 := fun ws h => by
    obtain ⟨l, hl, rfl⟩ := List.mem_map.mp h
    have h2 := wl_len l
    have h3 := (ok l hl).2
    exact ⟨wl_ok (ok l hl).1, by omega⟩
  have hWl : (ls.map wl).length ≤ 1000 := by rw [List.length_map]; exact hn
  have A := ans_ok (ls.map wl)
  obtain ⟨W, hW⟩ : ∃ W, W = ls.map wl := ⟨_, rfl⟩
  rw [← hW] at c1 hw hWl A hF
  obtain ⟨LS, hLS⟩ : ∃ LS, LS = ls.map D.str := ⟨_, rfl⟩
  rw [← hLS] at c1 ⊢
  have hLn : (lnsD W).length = W.length := List.length_map _
  have hg : ∀ k (hk : k < W.length), (lnsD W)[k]? = some (.lst (W[k].map D.str)) := fun k hk => by
    show (W.map _)[k]? = _
    rw [List.getElem?_map, List.getElem?_eq_getElem hk]
    rfl
  have hcnt : ∀ (S' : Sto) (k : Nat) (c : D), k < 8 → compL S' [] false (.nm 6) [.lst LS, .lst (lnsD W), .int (k : Int), c, .dead, .dead, .dead] (fun _ S => .ok true S) p_l_due_e3 (lnsD W) [] S' = .ok ((W.map fun ws => ws.count (cd k)).map eN) S' := fun S' k c hk => by
    have := comp_all (S := S') (src := []) (pair := false) (t := .nm 6) (wσ := [.lst LS, .lst (lnsD W), .int (k : Int), c, .dead, .dead, .dead]) (e := p_l_due_e3) (fun ws : List Str => D.lst (ws.map D.str)) (fun ws : List Str => eN (ws.count (cd k))) W (fun ws h => ⟨[.lst (ws.map D.str)], rfl, due_count S' k hk ws (hw ws h).1 (hw ws h).2 (.lst LS) (.lst (lnsD W)) c .dead⟩) (Nat.le_trans hWl (by decide))
    rw [this, List.map_map]
    rfl
  obtain ⟨LN, hLN⟩ : ∃ LN, LN = lnsD W := ⟨_, rfl⟩
  rw [← hLN] at c1 hLn hg hcnt
  have e0 : rgD 0 (W.length : Int) = (List.range W.length).map eN := rgD_nat W.length
  have e1 : okRg (0, (W.length : Int)) = true := okRg_0 (by omega)
  have b1 : ∀ (k : Nat) (S' : Sto) (jj : D) (po : Po) (hk : k < W.length), S' = S → (wr k W.length W[k] = none → po.N [.lst LS, .lst LN, eN k, .non, .dead, .dead, .dead] S) → (∀ x, wr k W.length W[k] = some x → po.R (.tup [.int ((k : Int) + 1), eN x]) S) →
      Out (p_l_due_b0 [.lst LS, .lst LN, eN k, jj, .dead, .dead, .dead] S') po := fun k S' jj po hk es good bad => by
    subst es
    have wk := wrong_ok S' k W.length W[k] (hw _ (List.getElem_mem hk)).1 (hw _ (List.getElem_mem hk)).2
    have gk := hg k hk
    generalize W[k].map D.str = WD at wk gk
    cases q : wr k W.length W[k] with
    | none =>
      rw [q] at wk
      have wk' : f_l_wrong [.int (k : Int), .lst WD, .int (W.length : Int)] S' = .ok .non S' := wk
      have gk' : ∀ h : k < LN.length, LN[k] = .lst WD := fun h => by
        rw [List.getElem?_eq_getElem h] at gk
        exact Option.some.inj gk
      have hk' : k < LN.length := by omega
      simp [p_l_due_b0, gk, gk', hk', hLn, wk']
      exact good q
    | some x =>
      rw [q] at wk
      have wk' : f_l_wrong [.int (k : Int), .lst WD, .int (W.length : Int)] S' = .ok (eN x) S' := wk
      have gk' : ∀ h : k < LN.length, LN[k] = .lst WD := fun h => by
        rw [List.getElem?_eq_getElem h] at gk
        exact Option.some.inj gk
      have hk' : k < LN.length := by omega
      simp [p_l_due_b0, gk, gk', hk', hLn, wk']
      exact bad x q
  -- the first loop stops
  have stop : ∀ J x, (hJ : J < W.length) → wr J W.length W[J] = some x → (∀ i (hi : i < J), wr i W.length W[i] = none) → F (.tup [.int ((J : Int) + 1), eN x]) S → Out (p_l_due ([.lst LS] ++ List.replicate (7 - 1) .dead) S) { N := fun _ S' => F .non S', R := F } := fun J x hJ e g hf => by
    simp [p_l_due, wipeD, c1, hLn, e0, e1]
    refine out_for (fun k σ S' => k ≤ J ∧ ∃ j2 j3, σ = [.lst LS, .lst LN, j2, j3, .dead, .dead, .dead] ∧ S' = S) (fun k d σ S' e' q => ?_) (fun σ S' q => ?_) ⟨Nat.zero_le _, _, _, rfl, rfl⟩
    · obtain ⟨hk, j2, j3, rfl, rfl⟩ := q
      rw [List.getElem?_map] at e'
      obtain ⟨z, hz, rfl⟩ := Option.map_eq_some_iff.mp e'
      obtain ⟨hk1, hz2⟩ := List.getElem?_eq_some_iff.mp hz
      simp at hk1 hz2
      subst hz2
      refine ⟨by simp, _, rfl, fun F2 hF2 => ?_⟩
      refine b1 _ _ j3 _ hk1 rfl (fun gk => hF2 _ _ ⟨?_, _, _, rfl, rfl⟩) (fun y ey => ?_)
      · rcases Nat.lt_or_eq_of_le hk with h | h
        · exact h
        · subst h
          rw [e] at gk
          cases gk
      · rcases Nat.lt_or_eq_of_le hk with h | h
        · rw [g _ h] at ey
          cases ey
        · subst h
          rw [e] at ey
          cases ey
          exact hf
    · obtain ⟨hk, _⟩ := q
      rw [List.length_map, List.length_range] at hk
      omega
  -- the first loop runs through
  have thru : (∀ i (hi : i < W.length), wr i W.length W[i] = none) → (∀ (j3 : D), (∀ G : Prop, (G → G)) → ∀ j2 : D, Out (mSeq (mFor (mRgI (mCons (mApp fLen (mCons (mVar 1) (mNil))) (mNil))) (.nm 2) (p_l_due_b1)) (mRet (mC .non)) [.lst LS, .lst LN, j2, j3, .dead, .dead, .dead] S) { N := fun _ S' => F .non S', R := F }) → Out (p_l_due ([.lst LS] ++ List.replicate (7 - 1) .dead) S) { N := fun _ S' => F .non S', R := F } := fun g rest => by
    simp only [p_l_due]
    simp [wipeD, c1, hLn, e0, e1]
    refine out_for (fun k σ S' => ∃ j2 j3, σ = [.lst LS, .lst LN, j2, j3, .dead, .dead, .dead] ∧ S' = S) (fun k d σ S' e' q => ?_) (fun σ S' q => ?_) ⟨_, _, rfl, rfl⟩
    · obtain ⟨j2, j3, rfl, rfl⟩ := q
      rw [List.getElem?_map] at e'
      obtain ⟨z, hz, rfl⟩ := Option.map_eq_some_iff.mp e'
      obtain ⟨hk1, hz2⟩ := List.getElem?_eq_some_iff.mp hz
      simp at hk1 hz2
      subst hz2
      refine ⟨by simp, _, rfl, fun F2 hF2 => ?_⟩
      exact b1 _ _ j3 _ hk1 rfl (fun gk => hF2 _ _ ⟨_, _, rfl, rfl⟩) (fun y ey => by rw [g _ hk1] at ey; cases ey)
    · obtain ⟨j2, j3, rfl, rfl⟩ := q
      exact ⟨by simp, rest j3 (fun _ z => z) j2⟩
  have b2 : ∀ (k : Nat) (S' : Sto) (j3 : D) (po : Po) (hk : k < W.length), k < 8 → S' = S → ((W.map fun ws => ws.count (cd k)).sum = W[k].length - 1 → 1 ≤ W[k].length → po.N [.lst LS, .lst LN, eN k, j3, .dead, .dead, .dead] S) → ((W.map fun ws => ws.count (cd k)).sum ≠ W[k].length - 1 → 1 ≤ W[k].length → po.R (.tup [.int ((k : Int) + 1), .int ((W[k].length : Int) + 1)]) S) → 1 ≤ W[k].length →
      Out (p_l_due_b1 [.lst LS, .lst LN, eN k, j3, .dead, .dead, .dead] S') po := fun k S' j3 po hk hk8 es good bad hpos => by
    subst es
    have hc := hcnt S' k j3 hk8
    have gk := hg k hk
    have hs1 := intsOf_eN (W.map fun ws => ws.count (cd k))
    have hs2 := sum_eN (W.map fun ws => ws.count (cd k))
    obtain ⟨CT, hCT⟩ : ∃ CT, CT = W.map fun ws => ws.count (cd k) := ⟨_, rfl⟩
    rw [← hCT] at hc hs1 hs2 good bad
    have hwl : (W[k].map D.str).length = W[k].length := List.length_map _
    generalize W[k].map D.str = WD at gk hwl
    have gk' : ∀ h : k < LN.length, LN[k] = .lst WD := fun h => by
      rw [List.getElem?_eq_getElem h] at gk
      exact Option.some.inj gk
    have hk' : k < LN.length := by omega
    obtain ⟨CD, hCD⟩ : ∃ CD, CD = CT.map eN := ⟨_, rfl⟩
    rw [← hCD] at hc hs1
    obtain ⟨CI, hCI⟩ : ∃ CI : List Int, CI = CT.map fun x : Nat => (x : Int) := ⟨_, rfl⟩
    rw [← hCI] at hs1 hs2
    by_cases c : CT.sum = W[k].length - 1
    · have c' : (CT.sum : Int) = (W[k].length : Int) - 1 := by omega
      simp [p_l_due_b1, wipeD, hc, hs1, hs2, gk, gk', hk', hwl, c']
      exact good c hpos
    · have c' : ¬ (CT.sum : Int) = (W[k].length : Int) - 1 := by omega
      simp [p_l_due_b1, wipeD, hc, hs1, hs2, gk, gk', hk', hwl, c']
      exact bad c hpos
  have wl7 : ∀ i, i < 8 → ∀ ws, wr i W.length ws = tk (min W.length 8) ws := fun i hi ws => if_neg (by omega)
  -- the heaps' counts
  have heaps : ∀ hp : List (List Nat), W = hp.map (fun r => ("heap" : Str) :: r.map cd) → hp.length ≤ 8 → (∀ r ∈ hp, r.length ≤ 8 ∧ ∀ c ∈ r, c < hp.length) → W.length = hp.length ∧ (∀ i (hi : i < W.length), wr i W.length W[i] = none) ∧ (∀ i (hi : i < W.length) (hi' : i < hp.length), W[i].length = hp[i].length + 1) ∧ ∀ i, i < 8 → (W.map fun ws => ws.count (cd i)).sum = hp.flatten.count i := fun hp e0 h8 hh => by
    have hl0 : W.length = hp.length := by rw [e0, List.length_map]
    have gi : ∀ i (hi : i < W.length) (hi' : i < hp.length), W[i] = ("heap" : Str) :: hp[i].map cd := fun i hi hi' => by
      subst e0
      simp
    refine ⟨hl0, fun i hi => ?_, fun i hi hi' => ?_, fun i hi => ?_⟩
    · have hi' : i < hp.length := by omega
      rw [wl7 i (by omega), gi i hi hi', show min W.length 8 = hp.length by omega]
      have := hh hp[i] (List.getElem_mem hi')
      exact tk_good this.2 this.1
    · rw [gi i hi hi']
      simp
    · rw [e0]
      exact count_lines hi fun r hr c hc => by have := (hh r hr).2 c hc; omega
  generalize ans W = ao at A hF
  cases A with
  | bad j x h h8 e g =>
    refine stop j x h (by rw [wl7 j h8]; exact e) (fun i hi => by rw [wl7 i (by omega)]; exact g i hi) (hF _ _ (finP_self (by simp) ⟨?_, rfl⟩))
    exact congrArg (fun z => D.tup [D.int z, eN x]) (show (j : Int) + 1 = ((j + 1 : Nat) : Int) by omega)
  | many h g =>
    refine stop 8 1 h (if_pos (by omega)) (fun i hi => by rw [wl7 i hi, show min W.length 8 = 8 by omega]; exact g i hi) (hF _ _ (finP_self (by simp) ⟨rfl, rfl⟩))
  | unfit hp e9 h8 hh k hk g b =>
    obtain ⟨hl0, gn, gl, gc⟩ := heaps hp e9 h8 hh
    refine thru gn fun j3 _ j2 => ?_
    simp [hLn, e0, e1]
    refine out_for (fun k' σ S' => k' ≤ k ∧ ∃ j2, σ = [.lst LS, .lst LN, j2, j3, .dead, .dead, .dead] ∧ S' = S) (fun k' d σ S' e' q => ?_) (fun σ S' q => ?_) ⟨Nat.zero_le _, _, rfl, rfl⟩
    · obtain ⟨hk2, j2, rfl, rfl⟩ := q
      rw [List.getElem?_map] at e'
      obtain ⟨z, hz, rfl⟩ := Option.map_eq_some_iff.mp e'
      obtain ⟨hk1, hz2⟩ := List.getElem?_eq_some_iff.mp hz
      simp at hk1 hz2
      subst hz2
      refine ⟨by simp, _, rfl, fun F2 hF2 => ?_⟩
      have hlk := gl k' hk1 (by omega)
      have hck := gc k' (by omega)
      refine b2 k' _ j3 _ hk1 (by omega) rfl (fun gk _ => hF2 _ _ ⟨?_, _, rfl, rfl⟩) (fun bk _ => ?_) (by omega)
      · rcases Nat.lt_or_eq_of_le hk2 with h | h
        · exact h
        · subst h
          rw [hck, hlk] at gk
          exact absurd gk b
      · rcases Nat.lt_or_eq_of_le hk2 with h | h
        · rw [hck, hlk] at bk
          exact absurd (g k' h) bk
        · subst h
          refine hF _ _ (finP_self (by simp) ⟨?_, rfl⟩)
          rw [hlk]
          have q1 : (k' : Int) + 1 = ((k' + 1 : Nat) : Int) := by omega
          have q2 : ((hp[k'].length + 1 : Nat) : Int) + 1 = ((hp[k'].length + 2 : Nat) : Int) := by omega
          rw [q1, q2]
          rfl
    · obtain ⟨hk2, _⟩ := q
      rw [List.length_map, List.length_range] at hk2
      omega
  | fits hp e9 h8 hh g =>
    obtain ⟨hl0, gn, gl, gc⟩ := heaps hp e9 h8 hh
    refine thru gn fun j3 _ j2 => ?_
    simp [hLn, e0, e1]
    refine out_for (fun k' σ S' => ∃ j2, σ = [.lst LS, .lst LN, j2, j3, .dead, .dead, .dead] ∧ S' = S) (fun k' d σ S' e' q => ?_) (fun σ S' q => ?_) ⟨_, rfl, rfl⟩
    · obtain ⟨j2, rfl, rfl⟩ := q
      rw [List.getElem?_map] at e'
      obtain ⟨z, hz, rfl⟩ := Option.map_eq_some_iff.mp e'
      obtain ⟨hk1, hz2⟩ := List.getElem?_eq_some_iff.mp hz
      simp at hk1 hz2
      subst hz2
      refine ⟨by simp, _, rfl, fun F2 hF2 => ?_⟩
      have hlk := gl k' hk1 (by omega)
      have hck := gc k' (by omega)
      refine b2 k' _ j3 _ hk1 (by omega) rfl (fun gk _ => hF2 _ _ ⟨_, rfl, rfl⟩) (fun bk _ => ?_) (by omega)
      rw [hck, hlk] at bk
      exact absurd (g k' (by omega)) bk
    · obtain ⟨j2, rfl, rfl⟩ := q
      refine ⟨by simp, ?_⟩
      simp
      exact hF _ _ (finP_self rfl ⟨rfl, rfl⟩)
end DL

namespace DL
open PySem L2
/-- a line of bounded length without a newline -/
structure LnOk (b : Nat) (l : Str) : Prop where
  ok : okS l
  len : l.length ≤ b
  no : 10 ∉ cps l
theorem LnOk.mono {a b : Nat} {l : Str} (h : LnOk a l) (q : a ≤ b) : LnOk b l := ⟨h.ok, Nat.le_trans h.len q, h.no⟩
theorem cps_app (x y : Str) : cps (x ++ y) = cps x ++ cps y := by show (x.cps ++ y.cps).toList = _; simp
theorem join_no {a : Str} (ha : 10 ∉ cps a) : ∀ ys : List Str, (∀ y ∈ ys, 10 ∉ cps y) → 10 ∉ cps (Str.join a ys)
  | [], _ => by simp [Str.join, Str.empty, cps]
  | [x], h => h x List.mem_cons_self
  | x :: y :: r, h => by
    have ih := join_no ha (y :: r) fun w hw => h w (List.mem_cons_of_mem _ hw)
    show 10 ∉ cps (x ++ a ++ Str.join a (y :: r))
    rw [cps_app, cps_app]
    simp [h x List.mem_cons_self, ha, ih]
theorem len_joins (a : Str) : ∀ ys : List Str, ys ≠ [] → (Str.join a ys).length + a.length = (ys.map (·.length)).sum + ys.length * a.length
  | [], h => absurd rfl h
  | [x], _ => by simp [Str.join]
  | x :: y :: r, _ => by
    have ih := len_joins a (y :: r) (by simp)
    show (x ++ a ++ Str.join a (y :: r)).length + a.length = _
    rw [len_app, len_app]
    simp only [List.map_cons, List.sum_cons, List.length_cons] at ih ⊢
    have e : (r.length + 1 + 1) * a.length = (r.length + 1) * a.length + a.length := by rw [Nat.succ_mul]
    rw [e]
    omega
theorem split_sum (l : Str) : ((Txt.split l " ").map (·.length)).sum + (Txt.split l " ").length = l.length + 1 := by
  have h1 := len_joins " " (Txt.split l " ") (split_ne l " ")
  have h2 : Str.join " " (Txt.split l " ") = l := by
    rw [sp_cps]
    exact StrLaws.join_split l ⟨#[32]⟩
  rw [h2, heap_len.2.1] at h1
  omega
theorem take_sums (ps : List Str) (k : Nat) : ((ps.take k).map (·.length)).sum ≤ (ps.map (·.length)).sum := by
  have := take_sum (ps.map (·.length)) k
  rwa [← List.map_take] at this
theorem cut_sums : ∀ (ps : List Str) (k q : Nat), ((ps.take k).map (·.length)).sum + ((ps.drop (k + q)).map (·.length)).sum ≤ (ps.map (·.length)).sum
  | [], k, q => by simp
  | p :: ps, 0, 0 => by simp
  | p :: ps, 0, q + 1 => by
    have ih := cut_sums ps 0 q
    simp only [List.take_zero, List.map_nil, List.sum_nil, Nat.zero_add, List.drop_succ_cons, List.map_cons, List.sum_cons] at ih ⊢
    omega
  | p :: ps, k + 1, q => by
    have ih := cut_sums ps k q
    rw [show k + 1 + q = (k + q) + 1 by omega]
    simp only [List.take_succ_cons, List.drop_succ_cons, List.map_cons, List.sum_cons] at ih ⊢
    omega
theorem parts_ok {b : Nat} {l : Str} (h : LnOk b l) : ∀ p ∈ Txt.split l " ", okS p ∧ 10 ∉ cps p := fun p hp => by
  rw [sp_cps] at hp
  have := split_sub l 32 p hp
  exact ⟨fun c hc => h.ok c (this c hc), fun z => h.no (this 10 z)⟩
theorem sp_no : 10 ∉ cps " " := by decide +kernel
/-- a word put in, perhaps in the place of another -/
theorem put_ok {b : Nat} {l w : Str} (h : LnOk b l) (hw : LnOk 4 w) (k q : Nat) : LnOk (b + 20) (Str.join " " ((Txt.split l " ").take k ++ w :: (Txt.split l " ").drop (k + q))) := by
  have po := parts_ok h
  have hm : ∀ p ∈ (Txt.split l " ").take k ++ w :: (Txt.split l " ").drop (k + q), okS p ∧ 10 ∉ cps p := fun p hp => by
    rcases List.mem_append.mp hp with z | z
    · exact po p (List.mem_of_mem_take z)
    · rcases List.mem_cons.mp z with rfl | z
      · exact ⟨hw.ok, hw.no⟩
      · exact po p (List.mem_of_mem_drop z)
  refine ⟨okS_join (okS_lit (by decide +kernel)) _ fun p hp => (hm p hp).1, ?_, join_no sp_no _ fun p hp => (hm p hp).2⟩
  have h1 := len_joins " " ((Txt.split l " ").take k ++ w :: (Txt.split l " ").drop (k + q)) (by simp)
  have h2 := split_sum l
  have h3 := cut_sums (Txt.split l " ") k q
  have h4 : ((Txt.split l " ").take k).length + ((Txt.split l " ").drop (k + q)).length ≤ (Txt.split l " ").length := by
    rw [List.length_take, List.length_drop]
    omega
  simp only [List.map_append, List.map_cons, List.sum_append, List.sum_cons, List.length_append, List.length_cons, heap_len.2.1, Nat.mul_one] at h1
  have h5 := h.len
  have h6 := hw.len
  omega
theorem cutoff_ok {b : Nat} {l : Str} (h : LnOk b l) (k : Nat) : LnOk (b + 20) (Str.join " " ((Txt.split l " ").take k)) := by
  have po := parts_ok h
  refine ⟨okS_join (okS_lit (by decide +kernel)) _ fun p hp => (po p (List.mem_of_mem_take hp)).1, ?_, join_no sp_no _ fun p hp => (po p (List.mem_of_mem_take hp)).2⟩
  have h1 := len_join " " ((Txt.split l " ").take k)
  have h2 := split_sum l
  have h3 := take_sums (Txt.split l " ") k
  have h4 : ((Txt.split l " ").take k).length ≤ (Txt.split l " ").length := by rw [List.length_take]; omega
  rw [heap_len.2.1] at h1
  have h5 := h.len
  omega
theorem mul0_ok : ∀ n : Nat, n < 10 → (cps (Txt.mul " 0" (n : Int))).all (fun c => decide (c < 1114112) && decide (c ≠ 10)) = true ∧ (Txt.mul " 0" (n : Int)).length = 2 * n := by decide +kernel
theorem add0_ok {b : Nat} {l : Str} (h : LnOk b l) (n : Nat) (hn : n < 10) : LnOk (b + 20) (l ++ Txt.mul " 0" (n : Int)) := by
  obtain ⟨h1, h2⟩ := mul0_ok n hn
  rw [List.all_eq_true] at h1
  have h1' : ∀ c ∈ cps (Txt.mul " 0" (n : Int)), c < 1114112 ∧ c ≠ 10 := fun c hc => by simpa using h1 c hc
  have h5 := h.len
  refine ⟨okS_app h.ok fun c hc => (h1' c hc).1, by rw [len_app, h2]; omega, ?_⟩
  rw [cps_app, List.mem_append, not_or]
  exact ⟨h.no, fun z => (h1' 10 z).2 rfl⟩
theorem lit_ok {b : Nat} {x : Str} (h : (cps x).all (fun c => decide (c < 1114112) && decide (c ≠ 10)) = true) (hl : x.length ≤ b) : LnOk b x := by
  rw [List.all_eq_true] at h
  have h' : ∀ c ∈ cps x, c < 1114112 ∧ c ≠ 10 := fun c hc => by simpa using h c hc
  exact ⟨fun c hc => (h' c hc).1, hl, fun z => (h' 10 z).2 rfl⟩
theorem line_sub {b : Nat} {ls : List Str} {new : List Str} {i j : Nat} (h : ∀ l ∈ ls, LnOk b l) (hn : ∀ l ∈ new, LnOk (b + 20) l) : ∀ l ∈ ls.take i ++ (new ++ ls.drop j), LnOk (b + 20) l := fun l hl => by
  rcases List.mem_append.mp hl with z | z
  · exact (h l (List.mem_of_mem_take z)).mono (by omega)
  · rcases List.mem_append.mp z with z | z
    · exact hn l z
    · exact (h l (List.mem_of_mem_drop z)).mono (by omega)
end DL

namespace DL
open PySem L2
section
variable {σ : Sl} {S : Sto}
@[simp] theorem v_mulS' (z : Str) (n : Int) : fMulS (.str z) (.int n) S = if 0 ≤ n ∧ n ≤ 1000 ∧ z.length ≤ 1000 then .ok (.str (Txt.mul z n)) S else .bad := rfl
end
theorem cl_strs (n : Nat) (ws : List Str) : cl n (.lst (ws.map D.str)) = true := by
  rw [cl_lst]
  exact cll_map _ _ _ fun _ _ => rfl
theorem join_fact (S : Sto) (ys : List Str) (Y : List D) (e : Y = ys.map D.str) (hl : (ys.map (·.length)).sum + ys.length ≤ 1000000) : fJoin " " (.lst Y) S = .ok (.str (Str.join " " ys)) S := by
  subst e
  have := v_join S " " ys (.lst (ys.map D.str)) rfl (by rw [heap_len.2.1]; omega)
  rw [join_eq] at this
  exact this
/-- what a change leaves -/
def Chg (b n : Nat) (ls : List Str) : Prop := 1 ≤ ls.length ∧ ls.length ≤ n + 8 ∧ ∀ l ∈ ls, LnOk (b + 20) l
set_option maxHeartbeats 4000000 in
theorem changed_ok (h : Hh) (T : Sto) (b : Nat) (hb : b ≤ 200) (ls odds : List Str) (h1 : 1 ≤ ls.length) (hn : ls.length ≤ 900) (hl : ∀ l ∈ ls, LnOk b l) (ho : ∀ w ∈ odds, LnOk 4 w) (ho1 : odds ≠ []) (ho2 : odds.length < 1000) :
    ∃ (ls' : List Str) (h' : Hh), f_l_changed [.ref 1, .lst (ls.map D.str), .lst (odds.map D.str)] (hs h ++ T) = .ok (.lst (ls'.map D.str)) (hs h' ++ T) ∧ Chg b ls.length ls' := by
  have := fun_out (slots := 8) (n := 3) (m := p_l_changed) (ds := [.ref 1, .lst (ls.map D.str), .lst (odds.map D.str)]) (S := hs h ++ T) (Q := fun d S => ∃ (ls' : List Str) (h' : Hh), d = .lst (ls'.map D.str) ∧ S = hs h' ++ T ∧ Chg b ls.length ls') rfl (fun F hF => by
    have fin1 : ∀ (ls' : List Str) (Y : List D) (h' : Hh), Y = ls'.map D.str → Chg b ls.length ls' → F (.lst Y) (hs h' ++ T) := fun ls' Y h' e c => by
      subst e
      exact hF _ _ (finP_hs0 (cl_strs _ _) ⟨ls', h', rfl, rfl, c⟩)
    obtain ⟨s, ha, ea, hs1⟩ := dr_next h T ls.length (by omega) (by omega)
    obtain ⟨kd, hb2, eb, hk1⟩ := dr_next ha T 7 (by omega) (by omega)
    rw [show ((7 : Nat) : Int) = 7 from rfl] at eb
    obtain ⟨l, hls⟩ : ∃ l, l = ls[s] := ⟨_, rfl⟩
    have hll : LnOk b l := by rw [hls]; exact hl _ (List.getElem_mem hs1)
    have hsp := v_split' (hs hb2 ++ T) l " " (by decide +kernel) (by have := hll.len; omega)
    have hss := split_sum l
    have hlb := hll.len
    obtain ⟨ps, hps⟩ : ∃ ps, ps = Txt.split l " " := ⟨_, rfl⟩
    rw [← hps] at hsp hss
    obtain ⟨k, hc, ec, hk2⟩ := dr_next hb2 T (ps.length + 1) (by omega) (by omega)
    rw [show ((ps.length + 1 : Nat) : Int) = (ps.length : Int) + 1 by omega] at ec
    have hll0 : (ls.map D.str).length = ls.length := List.length_map _
    have hpl0 : (ps.map D.str).length = ps.length := List.length_map _
    have hg : (ls.map D.str)[s]? = some (.str l) := by rw [List.getElem?_map, List.getElem?_eq_getElem hs1, ← hls]; rfl
    have q1 : cutD (ls.map D.str) none (some (s : Int)) = (ls.take s).map D.str := by rw [cut_to, List.map_take]
    have q2 : cutD (ls.map D.str) (some ((s : Int) + 1)) none = (ls.drop (s + 1)).map D.str := by
      have := cut_from (ls.map D.str) (s + 1)
      rw [List.map_drop]
      exact this
    have q3 : cutD (ls.map D.str) none (some ((s : Int) + 1)) = (ls.take (s + 1)).map D.str := by
      have := cut_to (ls.map D.str) (s + 1)
      rw [List.map_take]
      exact this
    have q4 : cutD (ps.map D.str) none (some (k : Int)) = (ps.take k).map D.str := by rw [cut_to, List.map_take]
    have n1 : ((ls.take s).map D.str).length ≤ 900 := by rw [List.length_map, List.length_take]; omega
    have n2 : ((ls.drop (s + 1)).map D.str).length ≤ 900 := by rw [List.length_map, List.length_drop]; omega
    have n3 : ((ls.take (s + 1)).map D.str).length ≤ 900 := by rw [List.length_map, List.length_take]; omega
    have n4 : ((ps.take k).map D.str).length ≤ 300 := by rw [List.length_map, List.length_take]; omega
    -- one line in the place of another
    have done1 : ∀ (x : Str) (h' : Hh) (Y : List D), LnOk (b + 20) x → Y = (ls.take s).map D.str ++ D.str x :: (ls.drop (s + 1)).map D.str → F (.lst Y) (hs h' ++ T) := fun x h' Y hx e => by
      refine fin1 (ls.take s ++ ([x] ++ ls.drop (s + 1))) Y h' (by rw [e]; simp) ⟨?_, ?_, line_sub hl fun z hz => by rw [List.mem_singleton.mp hz]; exact hx⟩
      · rw [List.length_append, List.length_append, List.length_singleton]; omega
      · rw [List.length_append, List.length_append, List.length_singleton, List.length_take, List.length_drop]; omega
    have cases7 : kd < 3 ∨ kd = 3 ∨ kd = 4 ∨ kd = 5 ∨ kd = 6 := by omega
    rcases cases7 with h3 | rfl | rfl | rfl | rfl
    · obtain ⟨d, hd, ed, hdm⟩ := pick_ok hc T (odds.map D.str) (by simpa using ho1) (by simpa using ho2) (fun d hd => by
        obtain ⟨w, _, rfl⟩ := List.mem_map.mp hd
        rfl)
      obtain ⟨w, hwm, rfl⟩ := List.mem_map.mp hdm
      obtain ⟨q, hq⟩ : ∃ q : Nat, (if (1 : Int) < (kd : Int) then (1 : Int) else (kd : Int)) = (q : Int) := by
        by_cases z : 1 < kd
        · exact ⟨1, by rw [if_pos (by omega)]; rfl⟩
        · exact ⟨kd, by rw [if_neg (by omega)]⟩
      have q5 : cutD (ps.map D.str) (some ((k : Int) + (q : Int))) none = (ps.drop (k + q)).map D.str := by
        have := cut_from (ps.map D.str) (k + q)
        rw [List.map_drop]
        rw [← this]
        congr 2
      have n5 : ((ps.drop (k + q)).map D.str).length ≤ 300 := by rw [List.length_map, List.length_drop]; omega
      have hw4 := ho w hwm
      have hj := join_fact (hs hd ++ T) (ps.take k ++ w :: ps.drop (k + q)) ((ps.take k).map D.str ++ D.str w :: (ps.drop (k + q)).map D.str) (by simp) (by
        have h3 := cut_sums ps k q
        have h4 := hw4.len
        simp only [List.map_append, List.map_cons, List.sum_append, List.sum_cons, List.length_append, List.length_cons, List.length_take, List.length_drop]
        omega)
      have hput := put_ok hll hw4 k q
      rw [← hps] at hput
      have i3 : (kd : Int) < 3 := by omega
      have dn := done1 _ hd _ hput rfl
      generalize Str.join " " (ps.take k ++ w :: ps.drop (k + q)) = LINE at *
      generalize (ps.take k).map D.str = PA at *
      generalize (ps.drop (k + q)).map D.str = PB at *
      generalize (ls.take s).map D.str = CA at *
      generalize (ls.drop (s + 1)).map D.str = CB at *
      generalize ps.map D.str = PS at *
      generalize ls.map D.str = LD at *
      generalize odds.map D.str = OD at *
      have m1 : PA.length + 1 ≤ 100000 := by omega
      have m2 : PA.length + (PB.length + 1) ≤ 100000 := by omega
      have m3 : CA.length + 1 ≤ 100000 := by omega
      have m4 : CA.length + (CB.length + 1) ≤ 100000 := by omega
      have m5 : PA.length + 1 + PB.length ≤ 100000 := by omega
      have m6 : CA.length + 1 + CB.length ≤ 100000 := by omega
      simp [p_l_changed, hll0, ea, eb, hg, hsp, hpl0, ec, i3, q4, ed, hq, q5, m1, m2, m5, hj, q1, q2, m3, m4, m6]
      exact dn
    · have hj := join_fact (hs hc ++ T) (ps.take k) ((ps.take k).map D.str) rfl (by
        have h3 := take_sums ps k
        rw [List.length_take]
        omega)
      have hcut := cutoff_ok hll k
      rw [← hps] at hcut
      have dn := done1 _ hc _ hcut rfl
      generalize Str.join " " (ps.take k) = LINE at *
      generalize (ps.take k).map D.str = PA at *
      generalize (ls.take s).map D.str = CA at *
      generalize (ls.drop (s + 1)).map D.str = CB at *
      generalize ps.map D.str = PS at *
      generalize ls.map D.str = LD at *
      generalize odds.map D.str = OD at *
      have m3 : CA.length + 1 ≤ 100000 := by omega
      have m4 : CA.length + (CB.length + 1) ≤ 100000 := by omega
      have m6 : CA.length + 1 + CB.length ≤ 100000 := by omega
      simp [p_l_changed, hll0, ea, eb, hg, hsp, hpl0, ec, q4, hj, q1, q2, m3, m4, m6]
      exact dn
    · obtain ⟨d, hd, ed, hdm⟩ := pick_ok hc T [.str "", .str "heap", .str l, .str "heap 0"] (by simp) (by simp) (fun d hd => by
        simp at hd
        rcases hd with rfl | rfl | rfl | rfl <;> rfl)
      obtain ⟨x, rfl, hx⟩ : ∃ x, d = .str x ∧ LnOk (b + 20) x := by
        simp at hdm
        rcases hdm with rfl | rfl | rfl | rfl
        · exact ⟨_, rfl, lit_ok (by decide +kernel) (Nat.le_trans (show _ ≤ 6 by decide +kernel) (by omega))⟩
        · exact ⟨_, rfl, lit_ok (by decide +kernel) (Nat.le_trans (show _ ≤ 6 by decide +kernel) (by omega))⟩
        · exact ⟨_, rfl, hll.mono (by omega)⟩
        · exact ⟨_, rfl, lit_ok (by decide +kernel) (Nat.le_trans (show _ ≤ 6 by decide +kernel) (by omega))⟩
      have dn : ∀ Y, Y = (ls.take (s + 1)).map D.str ++ D.str x :: (ls.drop (s + 1)).map D.str → F (.lst Y) (hs hd ++ T) := fun Y e => by
        refine fin1 (ls.take (s + 1) ++ ([x] ++ ls.drop (s + 1))) Y hd (by rw [e]; simp) ⟨?_, ?_, line_sub hl fun z hz => by rw [List.mem_singleton.mp hz]; exact hx⟩
        · rw [List.length_append, List.length_append, List.length_singleton]; omega
        · rw [List.length_append, List.length_append, List.length_singleton, List.length_take, List.length_drop]; omega
      have dn := dn _ rfl
      generalize (ls.take (s + 1)).map D.str = CA at *
      generalize (ls.drop (s + 1)).map D.str = CB at *
      generalize ps.map D.str = PS at *
      generalize ls.map D.str = LD at *
      generalize odds.map D.str = OD at *
      have m3 : CA.length + 1 ≤ 100000 := by omega
      have m4 : CA.length + (CB.length + 1) ≤ 100000 := by omega
      have m6 : CA.length + 1 + CB.length ≤ 100000 := by omega
      simp [p_l_changed, hll0, ea, eb, hg, hsp, hpl0, ec, ed, q3, q2, m3, m4, m6]
      exact dn
    · obtain ⟨d, hd, ed, hdm⟩ := pick_ok hc T [.int 1, .int 9] (by simp) (by simp) (fun d hd => by
        simp at hd
        rcases hd with rfl | rfl <;> rfl)
      obtain ⟨n, rfl, hn10⟩ : ∃ n : Nat, d = .int (n : Int) ∧ n < 10 := by
        simp at hdm
        rcases hdm with rfl | rfl
        · exact ⟨1, rfl, by omega⟩
        · exact ⟨9, rfl, by omega⟩
      have hadd := add0_ok hll n hn10
      have hm0 := (mul0_ok n hn10).2
      have dn := done1 _ hd _ hadd rfl
      have hz : (Str.ofString " 0").length ≤ 1000 := Nat.le_trans (show _ ≤ 2 by decide +kernel) (by omega)
      have i1 : (n : Int) ≤ 1000 := by omega
      have i2 : l.length + (Txt.mul " 0" (n : Int)).length ≤ 100000 := by omega
      generalize (ls.take s).map D.str = CA at *
      generalize (ls.drop (s + 1)).map D.str = CB at *
      generalize ps.map D.str = PS at *
      generalize ls.map D.str = LD at *
      generalize odds.map D.str = OD at *
      have m3 : CA.length + 1 ≤ 100000 := by omega
      have m4 : CA.length + (CB.length + 1) ≤ 100000 := by omega
      have m6 : CA.length + 1 + CB.length ≤ 100000 := by omega
      simp [p_l_changed, hll0, ea, eb, hg, hsp, hpl0, ec, ed, hz, i1, i2, q1, q2, m3, m4, m6]
      exact dn
    · obtain ⟨d, hd, ed, hdm⟩ := pick_ok hc T [.int 1, .int 8] (by simp) (by simp) (fun d hd => by
        simp at hd
        rcases hd with rfl | rfl <;> rfl)
      obtain ⟨n, rfl, hn9, hrep⟩ : ∃ n : Nat, d = .int (n : Int) ∧ n ≤ 8 ∧ repD (n : Int) [.str "heap"] = (List.replicate n ("heap" : Str)).map D.str := by
        simp at hdm
        rcases hdm with rfl | rfl
        · exact ⟨1, rfl, by omega, rfl⟩
        · exact ⟨8, rfl, by omega, rfl⟩
      have dn := fin1 (ls ++ List.replicate n ("heap" : Str)) ((ls.map D.str) ++ (List.replicate n ("heap" : Str)).map D.str) hd (by rw [List.map_append]) ⟨by rw [List.length_append]; omega, by rw [List.length_append, List.length_replicate]; omega, fun z hz => by
        rcases List.mem_append.mp hz with z1 | z1
        · exact (hl z z1).mono (by omega)
        · rw [(List.mem_replicate.mp z1).2]
          exact lit_ok (by decide +kernel) (Nat.le_trans (show _ ≤ 6 by decide +kernel) (by omega))⟩
      have hrl : ((List.replicate n ("heap" : Str)).map D.str).length = n := by rw [List.length_map, List.length_replicate]
      generalize (List.replicate n ("heap" : Str)).map D.str = RP at *
      generalize ps.map D.str = PS at *
      generalize ls.map D.str = LD at *
      generalize odds.map D.str = OD at *
      have i1 : (n : Int) ≤ 1000 := by omega
      have i2 : (-1000 : Int) ≤ (n : Int) := by omega
      have m3 : LD.length + RP.length ≤ 100000 := by omega
      have m4 : ls.length + n ≤ 100000 := by omega
      simp [p_l_changed, hll0, ea, eb, hg, hsp, hpl0, ec, ed, hrep, i1, i2, m3, m4, hrl]
      exact dn)
  obtain ⟨d, S2, e, ls', h', rfl, rfl, c⟩ := this
  exact ⟨ls', h', e, c⟩
end DL

namespace DL
open PySem L2
theorem alk_eA (o : Option (Nat × Nat)) : alk 7 (eA o) = true := by
  cases o with
  | none => simp [eA]
  | some p => simp [eA]
theorem nb_eA (o : Option (Nat × Nat)) : nb (eA o) = true := by
  cases o with
  | none => rfl
  | some p => rfl
theorem ln_ok10 {r : List Nat} (h : ∀ c ∈ r, c < 8) (hl : r.length ≤ 8) : LnOk 30 (lnS r) := by
  obtain ⟨h1, h2⟩ := ln_ok h hl
  refine ⟨h1, h2, join_no sp_no _ fun y hy => ?_⟩
  rcases List.mem_cons.mp hy with rfl | hy
  · decide +kernel
  · obtain ⟨c, hc, rfl⟩ := List.mem_map.mp hy
    have : ∀ c, c < 8 → 10 ∉ cps (cd c) := by decide +kernel
    exact this c (h c hc)
/-- the lines, as the law writes them -/
theorem lines11 (S : Sto) {hp : List (List Nat)} (p : PackOk hp) (a0 a1 a2 a3 a4 a5 a6 a7 a8 a11 : D) :
    compL S [] false (.nm 9) [a0, a1, a2, a3, a4, a5, a6, a7, a8, .dead, .dead, a11] (fun _ S => .ok true S) p_law_k11_e1 (hp.map eR) [] S = .ok ((hp.map lnS).map D.str) S := by
  obtain ⟨b1, b2, b3⟩ := heap_len
  have h8 := p.le
  have hr8 : ∀ r ∈ hp, r.length ≤ 8 ∧ ∀ c ∈ r, c < 8 := fun r hr => ⟨p.sz r hr, fun c hc => by have := p.lt r hr c hc; omega⟩
  have hc1 : ∀ (r : List Nat), r ∈ hp → ∀ (a9 : D), compL S [] false (.nm 10) [a0, a1, a2, a3, a4, a5, a6, a7, a8, a9, .dead, a11] (fun _ S => .ok true S) p_law_k11_e0 (r.map eN) [] S = .ok ((r.map cd).map D.str) S := fun r hr a9 => by
    have := comp_all (S := S) (src := []) (pair := false) (t := .nm 10) (wσ := [a0, a1, a2, a3, a4, a5, a6, a7, a8, a9, .dead, a11]) (e := p_law_k11_e0) eN (fun c => D.str (cd c)) r (fun c hc => ⟨_, rfl, by
      have e1 := cd_fStr S ((hr8 r hr).2 c hc)
      simp [p_law_k11_e0, e1]⟩) (by have := (hr8 r hr).1; simp; omega)
    rw [this, List.map_map]
    rfl
  have hc2 := comp_all (S := S) (src := []) (pair := false) (t := .nm 9) (wσ := [a0, a1, a2, a3, a4, a5, a6, a7, a8, .dead, .dead, a11]) (e := p_law_k11_e1) eR (fun r => D.str (lnS r)) hp (fun r hr => ⟨_, rfl, by
    have h1 := hc1 r hr (eR r)
    have hl := (hr8 r hr).1
    have s := sum_ones r (hr8 r hr).2
    have hj := v_join S " " ("heap" :: r.map cd) (.lst (.str "heap" :: (r.map cd).map D.str)) rfl (by
      simp only [List.map_cons, List.sum_cons, List.length_cons, List.length_map, s, b1, b2]; omega)
    rw [join_eq] at hj
    have hll : ((r.map cd).map D.str).length ≤ 99999 := by simp; omega
    have hl1 : 1 + ((r.map cd).map D.str).length ≤ 100000 := by omega
    have hj' : fJoin " " (.lst (.str "heap" :: (r.map cd).map D.str)) S = .ok (.str (lnS r)) S := hj
    generalize (r.map cd).map D.str = CD at *
    simp [p_law_k11_e1, wipeD, h1, hl1, hj']⟩) (by simp; omega)
  rw [hc2, List.map_map]
  rfl
theorem pick0 (h : Hh) (ds : List D) (h0 : ds ≠ []) (hl : ds.length < 1000) (hv : ∀ d ∈ ds, cl 0 d = true) : ∃ (d : D) (h' : Hh), f_l_pick [.ref 1, .lst ds] (hs h) = .ok d (hs h') ∧ d ∈ ds := by
  have := pick_ok h [] ds h0 hl hv
  simpa only [List.append_nil] using this
def odds : List Str := ["", "0", "1", "2", "7", "8", "00", "-1", "x", "+1", "1.0", "heap", "Heap", "\t"]
theorem odds_ok : ∀ w ∈ odds, LnOk 4 w := fun w hw => by
  have h1 : ∀ w ∈ odds, (cps w).all (fun c => decide (c < 1114112) && decide (c ≠ 10)) = true ∧ w.length ≤ 4 := by decide +kernel
  exact lit_ok (h1 w hw).1 (h1 w hw).2
theorem changed0 (h : Hh) (b : Nat) (hb : b ≤ 200) (ls : List Str) (h1 : 1 ≤ ls.length) (hn : ls.length ≤ 900) (hl : ∀ l ∈ ls, LnOk b l) : ∃ (ls' : List Str) (h' : Hh), f_l_changed [.ref 1, .lst (ls.map D.str), .lst (odds.map D.str)] (hs h) = .ok (.lst (ls'.map D.str)) (hs h') ∧ Chg b ls.length ls' := by
  have := changed_ok h [] b hb ls odds h1 hn hl odds_ok (by simp [odds]) (by simp [odds])
  simpa only [List.append_nil] using this
/-- answer and due are alike -/
theorem turn_ok (S : Sto) (ls : List Str) (h1 : 1 ≤ ls.length) (hn : ls.length ≤ 24) (hl : ∀ l ∈ ls, LnOk 70 l) : ∃ (t : Str) (o : D), fJoin "\n" (.lst (ls.map D.str)) S = .ok (.str t) S ∧ f_l_answer [.str t] S = .ok o S ∧ f_l_due [.lst (ls.map D.str)] S = .ok o S ∧ f_l_alike 8 [o, o] S = .ok (.bl true) S ∧ live o = true := by
  have hsum : ∀ ls : List Str, (∀ l ∈ ls, LnOk 70 l) → (ls.map (·.length)).sum ≤ 70 * ls.length := fun ls => by
    induction ls with
    | nil => intro _; simp
    | cons q l ih =>
      intro h
      have := ih fun x hx => h x (List.mem_cons_of_mem _ hx)
      have h2 := (h q List.mem_cons_self).len
      simp only [List.map_cons, List.sum_cons, List.length_cons]
      omega
  have hs := hsum ls hl
  have hj := v_join S "\n" ls (.lst (ls.map D.str)) rfl (by rw [heap_len.2.2]; omega)
  rw [join_eq] at hj
  have hok : okS (Str.join "\n" ls) := okS_join (okS_lit (by decide +kernel)) _ fun l h => (hl l h).ok
  have hlen := len_join "\n" ls
  rw [heap_len.2.2] at hlen
  have e1 := answer_any S (Str.join "\n" ls) hok (by omega)
  have hw : wss (Str.join "\n" ls) = ls.map wl := by
    unfold wss
    rw [nl_cps, split_join 10 ls (by intro e; subst e; simp at h1) fun w hw => (hl w hw).no]
  rw [hw] at e1
  have e2 := due_ok S ls (fun l h => ⟨(hl l h).ok, by have := (hl l h).len; omega⟩) (by omega)
  exact ⟨_, _, hj, e1, e2, alike_ok 7 _ S (alk_eA _), by cases ans (ls.map wl) <;> rfl⟩
def txts : List Str := ["", "heap", "heap 0", "heap 1", "heap 0\nheap 0", Txt.mul "heap\n" 9, "heap 0 0", Txt.mul "heap\n" 8 ++ "heap"]
theorem txts_ans : txts.map (fun t => ans (wss t)) = [some (1, 1), none, none, some (1, 2), some (1, 3), some (9, 1), none, some (9, 1)] := by decide +kernel
theorem txts_ok : ∀ t ∈ txts, okS t ∧ t.length ≤ 19000 := fun t ht => by
  have h1 : ∀ w ∈ txts, (cps w).all (fun c => decide (c < 1114112)) = true ∧ w.length ≤ 19000 := by decide +kernel
  exact ⟨okS_lit (h1 t ht).1, (h1 t ht).2⟩
abbrev dueD : List D := [.tup [.int 1, .int 1], .non, .non, .tup [.int 1, .int 2], .tup [.int 1, .int 3], .tup [.int 9, .int 1], .non, .tup [.int 9, .int 1]]
theorem txts_comp (S : Sto) (a0 a1 a2 a3 a4 a5 a6 a7 a8 a9 a10 : D) : compL S [] false (.nm 11) [a0, a1, a2, a3, a4, a5, a6, a7, a8, a9, a10, .dead] (fun _ S => .ok true S) p_law_k11_e2 (txts.map D.str) [] S = .ok dueD S := by
  have := comp_all (S := S) (src := []) (pair := false) (t := .nm 11) (wσ := [a0, a1, a2, a3, a4, a5, a6, a7, a8, a9, a10, .dead]) (e := p_law_k11_e2) D.str (fun t => eA (ans (wss t))) txts (fun t ht => ⟨_, rfl, by
    have e1 := answer_any S t (txts_ok t ht).1 (txts_ok t ht).2
    simp [p_law_k11_e2, e1]⟩) (by simp [txts])
  rw [this]
  have e : txts.map (fun t => eA (ans (wss t))) = (txts.map fun t => ans (wss t)).map eA := by rw [List.map_map]; rfl
  rw [e, txts_ans]
  rfl
theorem due_eq (S : Sto) : fEq (.lst dueD) (.lst dueD) S = .ok (.bl true) S := by
  have hp : pln 64 (.lst dueD) = true := by decide +kernel
  rw [v_eq S (.lst dueD) (.lst dueD) hp hp]
  have : eqD (.lst dueD) (.lst dueD) = true := (eqD_iff _ _ rfl rfl).mpr rfl
  show R.ok (D.bl (eqD (.lst dueD) (.lst dueD))) S = _
  rw [this]
set_option maxHeartbeats 8000000 in
theorem law_k11_true (ns : List Int) (hn : ns.length ≤ 63) : ∃ S, f_law_k11 [.scr ns] [] = .ok (.bl true) S := by
  obtain ⟨h0, e0⟩ := mix_ok ns hn 11
  have := fun_out (slots := 12) (n := 1) (m := p_law_k11) (ds := [.scr ns]) (S := []) (Q := fun d S => d = .bl true) rfl (fun F hF => by
    have e5 : rgD 0 6 = (List.range 6).map eN := rgD_nat 6
    have e6 : okRg (0, 6) = true := rfl
    simp [p_law_k11, e0, e5, e6]
    refine out_for (fun k σ S => ∃ (h : Hh) (j3 j4 j5 j6 : D), σ = [.scr ns, .ref 1, .lst (odds.map D.str), j3, j4, j5, j6, .dead, .dead, .dead, .dead, .dead] ∧ S = hs h) (fun k d σ S e q => ?_) (fun σ S q => ?_) ⟨h0, _, _, _, _, rfl, rfl⟩
    · obtain ⟨h, j3, j4, j5, j6, rfl, rfl⟩ := q
      refine ⟨by simp, _, rfl, fun F1 hF1 => ?_⟩
      obtain ⟨r, h1, e1, hr⟩ := drawn_pack h
      obtain ⟨n, hnr⟩ : ∃ n : Nat, n = 1 + r := ⟨_, rfl⟩
      have cn : (1 : Int) + (r : Int) = (n : Int) := by omega
      obtain ⟨zs, h2, e2, hzl, hzs, hz8⟩ := drawn_sizes h1 n 64 (by omega)
      rw [show ((64 : Nat) : Int) = 64 from rfl] at e2
      obtain ⟨hp, h3, e3, hpl, p⟩ := drawn_deal h2 zs (by omega) (by omega) hzs hz8
      have h8 := p.le
      have hr8 : ∀ r ∈ hp, r.length ≤ 8 ∧ ∀ c ∈ r, c < 8 := fun r hr => ⟨p.sz r hr, fun c hc => by have := p.lt r hr c hc; omega⟩
      have l1 := fun a0 a1 a2 a3 a4 a5 a6 a7 a8 a11 => lines11 (hs h3) p a0 a1 a2 a3 a4 a5 a6 a7 a8 a11
      have hch := changed0
      obtain ⟨OD, hOD⟩ : ∃ OD, OD = odds.map D.str := ⟨_, rfl⟩
      rw [← hOD] at hch hF1 ⊢
      obtain ⟨dm, h4, e4, hdm⟩ := pick0 h3 [.int 0, .int 1, .int 1, .int 2] (by simp) (by simp) (fun d hd => by
        simp at hd
        rcases hd with rfl | rfl | rfl <;> rfl)
      obtain ⟨m, rfl, hm2⟩ : ∃ m : Nat, dm = .int (m : Int) ∧ m ≤ 2 := by
        simp at hdm
        rcases hdm with rfl | rfl | rfl
        · exact ⟨0, rfl, by omega⟩
        · exact ⟨1, rfl, by omega⟩
        · exact ⟨2, rfl, by omega⟩
      have r1 : rgD 0 (m : Int) = (List.range m).map eN := rgD_nat m
      have r2 : okRg (0, (m : Int)) = true := okRg_0 (by omega)
      obtain ⟨LN, hLN⟩ : ∃ LN, LN = (hp.map lnS).map D.str := ⟨_, rfl⟩
      obtain ⟨HR, hHR⟩ : ∃ HR, HR = hp.map eR := ⟨_, rfl⟩
      rw [← hLN, ← hHR] at l1
      have eHH : eH hp = .tup HR := by rw [hHR]
      rw [eHH] at e3
      simp [p_law_k11_b1, e1, cn, e2, e3, wipeD, l1, e4, r1, r2]
      refine out_for (fun k σ S => ∃ (h : Hh) (ls : List Str) (j6 : D), σ = [.scr ns, .ref 1, .lst OD, d, .tup HR, .lst (ls.map D.str), j6, .dead, .dead, .dead, .dead, .dead] ∧ S = hs h ∧ 1 ≤ ls.length ∧ ls.length ≤ 8 + 8 * k ∧ ∀ l ∈ ls, LnOk (30 + 20 * k) l) (fun k x σ S e q => ?_) (fun σ S q => ?_) ⟨h4, hp.map lnS, _, by rw [hLN], rfl, by rw [List.length_map]; exact p.pos, by rw [List.length_map]; omega, fun l hl => ?_⟩
      · obtain ⟨h5, ls, j6', rfl, rfl, i1, i2, i3⟩ := q
        have hk := (List.getElem?_eq_some_iff.mp e).1
        rw [List.length_map, List.length_range] at hk
        refine ⟨by simp, _, rfl, fun F2 hF2 => ?_⟩
        obtain ⟨ls', h6, e7, c1, c2, c3⟩ := hch h5 (30 + 20 * k) (by omega) ls i1 (by omega) i3
        have fin2 := fun j => hF2 [.scr ns, .ref 1, .lst OD, d, .tup HR, .lst (ls'.map D.str), j, .dead, .dead, .dead, .dead, .dead] (hs h6) ⟨h6, ls', j, rfl, rfl, c1, by omega, fun l hl => (c3 l hl).mono (by omega)⟩
        generalize ls.map D.str = LS at *
        generalize ls'.map D.str = LS' at *
        simp [p_law_k11_b0, e7]
        exact fin2 _
      · obtain ⟨h5, ls, j6', rfl, rfl, i1, i2, i3⟩ := q
        rw [List.length_map, List.length_range] at i2 i3
        refine ⟨by simp, ?_⟩
        obtain ⟨t, o, t1, t2, t3, t4, t5⟩ := turn_ok (hs h5) ls i1 (by omega) (fun l hl => (i3 l hl).mono (by omega))
        have fin1 := fun j3 j4 j5 j6 => hF1 [.scr ns, .ref 1, .lst OD, j3, j4, j5, j6, .dead, .dead, .dead, .dead, .dead] (hs h5) ⟨h5, j3, j4, j5, j6, rfl, rfl⟩
        generalize ls.map D.str = LS at *
        simp [t1, t2, t3, t4, t5]
        exact fin1 _ _ _ _
      · obtain ⟨r, hr, rfl⟩ := List.mem_map.mp hl
        exact ln_ok10 (hr8 r hr).2 (hr8 r hr).1
    · obtain ⟨h, j3, j4, j5, j6, rfl, rfl⟩ := q
      refine ⟨by simp, ?_⟩
      have tc : ∀ (a0 a1 a2 a3 a4 a5 a6 a7 a8 a9 a10 : D), compL (hs h) [] false (.nm 11) [a0, a1, a2, a3, a4, a5, a6, a7, a8, a9, a10, .dead] (fun _ S => .ok true S) p_law_k11_e2 [.str "", .str "heap", .str "heap 0", .str "heap 1", .str "heap 0\nheap 0", .str (Txt.mul "heap\n" 9), .str "heap 0 0", .str (Txt.mul "heap\n" 8 ++ "heap")] [] (hs h) = .ok dueD (hs h) := fun a0 a1 a2 a3 a4 a5 a6 a7 a8 a9 a10 => txts_comp (hs h) a0 a1 a2 a3 a4 a5 a6 a7 a8 a9 a10
      have de := due_eq (hs h)
      have z1 : (Str.ofString "heap\n").length ≤ 1000 := Nat.le_trans (show _ ≤ 5 by decide +kernel) (by omega)
      have z2 : (Txt.mul (Str.ofString "heap\n") 8).length + (Str.ofString "heap").length ≤ 100000 := Nat.le_trans (show _ ≤ 44 by decide +kernel) (by omega)
      generalize odds.map D.str = OD
      simp [z1, z2, wipeD, tc, de]
      exact hF _ _ (finP_app (S := []) (T := hs h) (fz_cl rfl) rfl))
  obtain ⟨d, S2, e, rfl⟩ := this
  exact ⟨S2, e⟩
end DL

set_option maxHeartbeats 8000000
namespace LW
open PySem PySem.Spec PyProof.Rows L2 DL
def topS (i : Nat) : Stmt := PySem.Challenge.pw_heapleads_k11_texts_refused.main.body.getD i (.Pass ⟨0, 0, 0, 0⟩)
def inCls : Stmt → List Stmt
  | .ClassDef _ _ _ b _ _ _ _ _ _ _ => b
  | _ => []
def clsS (i j : Nat) : Stmt := (inCls (topS i)).getD j (.Pass ⟨0, 0, 0, 0⟩)

abbrev s_InvalidText_init : Stmt := clsS 4 0
abbrev s_Unfitting_init : Stmt := clsS 3 0
abbrev s_BadHeaps_init : Stmt := clsS 2 0
abbrev s_l_mix : Stmt := topS 16
theorem sc_l_mix : FnScope ["_law_script", "_law_seed", "_law_state", "_law_cell"] ["_law_script", "_law_seed"] (defScope s_l_mix) := ⟨rfl, rfl, rfl, by decide +kernel, rfl, by decide +kernel, by decide +kernel⟩
abbrev s_l_next : Stmt := topS 17
theorem sc_l_next : FnScope ["_law_h", "_law_cap", "_law_cell"] ["_law_h", "_law_cap"] (defScope s_l_next) := ⟨rfl, rfl, rfl, by decide +kernel, rfl, by decide +kernel, by decide +kernel⟩
abbrev s_l_deal : Stmt := topS 21
theorem sc_l_deal : FnScope ["_law_h", "_law_sizes_here", "_law_cards", "_law_heap", "_law_found", "_law_size", "_law_row", "_law_k", "_law_spot"] ["_law_h", "_law_sizes_here"] (defScope s_l_deal) := ⟨rfl, rfl, rfl, by decide +kernel, rfl, by decide +kernel, by decide +kernel⟩
abbrev s_l_pick : Stmt := topS 19
theorem sc_l_pick : FnScope ["_law_h", "_law_things"] ["_law_h", "_law_things"] (defScope s_l_pick) := ⟨rfl, rfl, rfl, by decide +kernel, rfl, by decide +kernel, by decide +kernel⟩
abbrev s_l_sizes : Stmt := topS 20
theorem sc_l_sizes : FnScope ["_law_h", "_law_many", "_law_most", "_law_cap", "_law_found", "_law_whole", "_law_heap", "_law_size"] ["_law_h", "_law_many", "_law_most"] (defScope s_l_sizes) := ⟨rfl, rfl, rfl, by decide +kernel, rfl, by decide +kernel, by decide +kernel⟩
abbrev s_l_changed : Stmt := topS 25
theorem sc_l_changed : FnScope ["_law_h", "_law_lines", "_law_odd", "_law_spot", "_law_kind", "_law_row", "_law_k", "_law_line"] ["_law_h", "_law_lines", "_law_odd"] (defScope s_l_changed) := ⟨rfl, rfl, rfl, by decide +kernel, rfl, by decide +kernel, by decide +kernel⟩
abbrev s_l_alike : Stmt := topS 18
theorem sc_l_alike : FnScope ["_law_found", "_law_due_here", "_law_k"] ["_law_found", "_law_due_here"] (defScope s_l_alike) := ⟨rfl, rfl, rfl, by decide +kernel, rfl, by decide +kernel, by decide +kernel⟩
abbrev s_take_heap : Stmt := topS 13
theorem sc_take_heap : FnScope ["words", "many", "line", "at", "heap", "word"] ["words", "many", "line"] (defScope s_take_heap) := ⟨rfl, rfl, rfl, by decide +kernel, rfl, by decide +kernel, by decide +kernel⟩
abbrev s_is_integer : Stmt := topS 8
theorem sc_is_integer : FnScope ["thing", "low", "high"] ["thing", "low", "high"] (defScope s_is_integer) := ⟨rfl, rfl, rfl, by decide +kernel, rfl, by decide +kernel, by decide +kernel⟩
abbrev s_is_heap : Stmt := topS 9
theorem sc_is_heap : FnScope ["thing", "many", "card"] ["thing", "many"] (defScope s_is_heap) := ⟨rfl, rfl, rfl, by decide +kernel, rfl, by decide +kernel, by decide +kernel⟩
abbrev s_check_heaps : Stmt := topS 10
theorem sc_check_heaps : FnScope ["thing", "index", "heap"] ["thing"] (defScope s_check_heaps) := ⟨rfl, rfl, rfl, by decide +kernel, rfl, by decide +kernel, by decide +kernel⟩
abbrev s_Pack_init : Stmt := clsS 11 0
theorem sc_Pack_init : FnScope ["self", "heaps", "index", "heap", "other"] ["self", "heaps"] (defScope s_Pack_init) := ⟨rfl, rfl, rfl, by decide +kernel, rfl, by decide +kernel, by decide +kernel⟩
abbrev s_read : Stmt := topS 14
theorem sc_read : FnScope ["text", "lines", "many", "rows", "error", "line", "word", "at", "words"] ["text"] (defScope s_read) := ⟨rfl, rfl, rfl, by decide +kernel, rfl, by decide +kernel, by decide +kernel⟩
abbrev s_l_answer : Stmt := topS 24
theorem sc_l_answer : FnScope ["_law_text", "_law_found", "error"] ["_law_text"] (defScope s_l_answer) := ⟨rfl, rfl, rfl, by decide +kernel, rfl, by decide +kernel, by decide +kernel⟩
abbrev s_l_wrong : Stmt := topS 22
theorem sc_l_wrong : FnScope ["_law_k", "_law_row", "_law_many", "_law_at"] ["_law_k", "_law_row", "_law_many"] (defScope s_l_wrong) := ⟨rfl, rfl, rfl, by decide +kernel, rfl, by decide +kernel, by decide +kernel⟩
abbrev s_l_due : Stmt := topS 23
theorem sc_l_due : FnScope ["_law_lines", "_law_rows", "_law_k", "_law_wrong_here", "_law_line", "_law_one", "_law_row"] ["_law_lines"] (defScope s_l_due) := ⟨rfl, rfl, rfl, by decide +kernel, rfl, by decide +kernel, by decide +kernel⟩
abbrev s_law : Stmt := topS 26
theorem sc_law : FnScope ["_law_script", "_law_h", "_law_odd", "_law_turn", "_law_heaps", "_law_lines", "_law_change", "_law_some", "_law_due_here", "_law_heap", "_law_card", "_law_text"] ["_law_script"] (defScope s_law) := ⟨rfl, rfl, rfl, by decide +kernel, rfl, by decide +kernel, by decide +kernel⟩
structure Txt (P : Program) (K : PySem.W.Frag) (mg : Str → Option Value) (G : Nat → Addr) where
  a_l_mix : Addr
  d_l_mix : FuncData
  F_l_mix : Fun K "_law_mix" "_law_mix" s_l_mix a_l_mix d_l_mix
  b_l_mix : Binds K d_l_mix ["_law_script", "_law_seed"] []
  m_l_mix : mg "_law_mix" = some (.ref a_l_mix)
  a_l_next : Addr
  d_l_next : FuncData
  F_l_next : Fun K "_law_next" "_law_next" s_l_next a_l_next d_l_next
  b_l_next : Binds K d_l_next ["_law_h", "_law_cap"] []
  m_l_next : mg "_law_next" = some (.ref a_l_next)
  a_l_deal : Addr
  d_l_deal : FuncData
  F_l_deal : Fun K "_law_deal" "_law_deal" s_l_deal a_l_deal d_l_deal
  b_l_deal : Binds K d_l_deal ["_law_h", "_law_sizes_here"] []
  m_l_deal : mg "_law_deal" = some (.ref a_l_deal)
  a_l_pick : Addr
  d_l_pick : FuncData
  F_l_pick : Fun K "_law_pick" "_law_pick" s_l_pick a_l_pick d_l_pick
  b_l_pick : Binds K d_l_pick ["_law_h", "_law_things"] []
  m_l_pick : mg "_law_pick" = some (.ref a_l_pick)
  a_l_sizes : Addr
  d_l_sizes : FuncData
  F_l_sizes : Fun K "_law_sizes" "_law_sizes" s_l_sizes a_l_sizes d_l_sizes
  b_l_sizes : Binds K d_l_sizes ["_law_h", "_law_many", "_law_most"] []
  m_l_sizes : mg "_law_sizes" = some (.ref a_l_sizes)
  a_l_changed : Addr
  d_l_changed : FuncData
  F_l_changed : Fun K "_law_changed" "_law_changed" s_l_changed a_l_changed d_l_changed
  b_l_changed : Binds K d_l_changed ["_law_h", "_law_lines", "_law_odd"] []
  m_l_changed : mg "_law_changed" = some (.ref a_l_changed)
  a_l_alike : Addr
  d_l_alike : FuncData
  F_l_alike : Fun K "_law_alike" "_law_alike" s_l_alike a_l_alike d_l_alike
  b_l_alike : Binds K d_l_alike ["_law_found", "_law_due_here"] []
  m_l_alike : mg "_law_alike" = some (.ref a_l_alike)
  a_take_heap : Addr
  d_take_heap : FuncData
  F_take_heap : Fun K "take_heap" "take_heap" s_take_heap a_take_heap d_take_heap
  b_take_heap : Binds K d_take_heap ["words", "many", "line"] []
  m_take_heap : mg "take_heap" = some (.ref a_take_heap)
  a_is_integer : Addr
  d_is_integer : FuncData
  F_is_integer : Fun K "is_integer" "is_integer" s_is_integer a_is_integer d_is_integer
  b_is_integer : Binds K d_is_integer ["thing", "low", "high"] []
  m_is_integer : mg "is_integer" = some (.ref a_is_integer)
  a_is_heap : Addr
  d_is_heap : FuncData
  F_is_heap : Fun K "is_heap" "is_heap" s_is_heap a_is_heap d_is_heap
  b_is_heap : Binds K d_is_heap ["thing", "many"] []
  m_is_heap : mg "is_heap" = some (.ref a_is_heap)
  a_check_heaps : Addr
  d_check_heaps : FuncData
  F_check_heaps : Fun K "check_heaps" "check_heaps" s_check_heaps a_check_heaps d_check_heaps
  b_check_heaps : Binds K d_check_heaps ["thing"] []
  m_check_heaps : mg "check_heaps" = some (.ref a_check_heaps)
  a_Pack_init : Addr
  d_Pack_init : FuncData
  F_Pack_init : Fun K "__init__" "Pack.__init__" s_Pack_init a_Pack_init d_Pack_init
  b_Pack_init : Binds K d_Pack_init ["self", "heaps"] []
  a_read : Addr
  d_read : FuncData
  F_read : Fun K "read" "read" s_read a_read d_read
  b_read : Binds K d_read ["text"] []
  m_read : mg "read" = some (.ref a_read)
  a_l_answer : Addr
  d_l_answer : FuncData
  F_l_answer : Fun K "_law_answer" "_law_answer" s_l_answer a_l_answer d_l_answer
  b_l_answer : Binds K d_l_answer ["_law_text"] []
  m_l_answer : mg "_law_answer" = some (.ref a_l_answer)
  a_l_wrong : Addr
  d_l_wrong : FuncData
  F_l_wrong : Fun K "_law_wrong" "_law_wrong" s_l_wrong a_l_wrong d_l_wrong
  b_l_wrong : Binds K d_l_wrong ["_law_k", "_law_row", "_law_many"] []
  m_l_wrong : mg "_law_wrong" = some (.ref a_l_wrong)
  a_l_due : Addr
  d_l_due : FuncData
  F_l_due : Fun K "_law_due" "_law_due" s_l_due a_l_due d_l_due
  b_l_due : Binds K d_l_due ["_law_lines"] []
  m_l_due : mg "_law_due" = some (.ref a_l_due)
  a_law : Addr
  d_law : FuncData
  F_law : Fun K "law" "law" s_law a_law d_law
  b_law : Binds K d_law ["_law_script"] []
  m_law : mg "law" = some (.ref a_law)
  n_all : mg "all" = none
  n_bool : mg "bool" = none
  n_enumerate : mg "enumerate" = none
  n_int : mg "int" = none
  n_isinstance : mg "isinstance" = none
  n_len : mg "len" = none
  n_list : mg "list" = none
  n_max : mg "max" = none
  n_min : mg "min" = none
  n_range : mg "range" = none
  n_str : mg "str" = none
  n_sum : mg "sum" = none
  n_tuple : mg "tuple" = none
  u_MOST_HEAPS : Value
  c_MOST_HEAPS : mg "MOST_HEAPS" = some u_MOST_HEAPS
  r_MOST_HEAPS : RelV (.int 8) u_MOST_HEAPS
  u_MOST_CARDS : Value
  c_MOST_CARDS : mg "MOST_CARDS" = some u_MOST_CARDS
  r_MOST_CARDS : RelV (.int 8) u_MOST_CARDS
  cls_0 : Cls K (G 0)
  m_Pack : mg "Pack" = some (.ref (G 0))
  mk_Pack : Mk K (G 0) a_Pack_init
  no_rows : NoAttr K (G 0) "rows"
  m_HeapError : mg "HeapError" = some (.ref (G 2))
  m_BadHeaps : mg "BadHeaps" = some (.ref (G 3))
  m_Unfitting : mg "Unfitting" = some (.ref (G 4))
  m_InvalidText : mg "InvalidText" = some (.ref (G 10))
  xm_BadHeaps : XMk P K mg (G 3) ["index"]
  xm_Unfitting : XMk P K mg (G 4) ["heap"]
  xm_InvalidText : XMk P K mg (G 10) ["line", "word"]
  ex_10_10 : PySem.W.exmOne K (.ref (G 10)) (.ref (G 10)) = some true
  ex_3_10 : PySem.W.exmOne K (.ref (G 3)) (.ref (G 10)) = some false
  ex_4_10 : PySem.W.exmOne K (.ref (G 4)) (.ref (G 10)) = some false
  ex_4_4 : PySem.W.exmOne K (.ref (G 4)) (.ref (G 4)) = some true
  xh_10 : XHold K (G 10)
  xh_4 : XHold K (G 4)
  xn_10_line : PySem.W.findIn K (.ref (G 10)) "line" = some none
  xn_10_word : PySem.W.findIn K (.ref (G 10)) "word" = some none
  xn_4_heap : PySem.W.findIn K (.ref (G 4)) "heap" = some none
  ki_10_2 : PySem.W.kitOne K (.ref (G 10)) (.ref (G 2)) = some (isx 10 2)
section
variable {P : Program} {w : World} {K : PySem.W.Frag} {mg : Str → Option Value} {base : Heap} {G : Nat → Addr}
theorem ok_l_mix (T : Txt P K mg G) : FnOk P w K mg base (L2.CX P w) 1 T.a_l_mix T.d_l_mix ["_law_script", "_law_seed"] (spD ⟨K, G⟩ f_l_mix) := fn_okK (k := 0) T.F_l_mix sc_l_mix (fun cdv A outer s H E hr => by
    have tk : Takes (cxOf (L2.CX P w) P w K mg base ["_law_script", "_law_seed", "_law_state", "_law_cell"] "_law_mix" (defScope s_l_mix) T.a_l_mix cdv A outer s H E) (fun cls d _ H => E cls d H) := takes_of rfl rfl rfl rfl
    exact (ss_cons (ss_set (i := 2) sc_l_mix.nd rfl (.inl rfl) (se_var (pv 1)))
    (ss_cons (ss_for (t := .nm 3) (passes_of rfl) rfl (si_seq rfl (se_var (pv 0))) (pg_name (i := 3) sc_l_mix.nd rfl (.inl rfl)) (ss_one (ss_set (i := 2) sc_l_mix.nd rfl (.inl rfl) ((se_mod ((se_int1 rfl T.n_int (sa_cons ((se_add ((se_add ((se_mul (se_var (pv 2)) (se_int))) ((se_mod ((se_int1 rfl T.n_int (sa_cons (se_var (pv 3)) (sa_nil)))) (se_int))))) (se_int))) (sa_nil)))) (se_int))))))
    (ss_one (ss_ret ((sn_loc ((sn_lst (sa_cons (se_var (pv 2)) (sa_cons ((sn_loc ((sn_list rfl rfl T.n_list (sa_cons (se_var (pv 0)) (sa_nil)))))) (sa_cons (se_int) (sa_nil)))))))))))))
theorem ok_l_next (T : Txt P K mg G) : FnOk P w K mg base (L2.CX P w) 1 T.a_l_next T.d_l_next ["_law_h", "_law_cap"] (spD ⟨K, G⟩ f_l_next) := fn_okD (k := 0) T.F_l_next sc_l_next (fun cdv A outer s H E hr => by
    have tk : Takes (cxOf (L2.CX P w) P w K mg base ["_law_h", "_law_cap", "_law_cell"] "_law_next" (defScope s_l_next) T.a_l_next cdv A outer s H E) (fun cls d _ H => E cls d H) := takes_of rfl rfl rfl rfl
    exact (ss_cons (ss_set (i := 2) sc_l_next.nd rfl (.inl rfl) ((se_sub1 ((se_add ((se_sub1 (se_var (pv 0)) (se_int))) ((sn_frz ((sn_lst (sa_cons (se_int) (sa_nil)))))))) ((se_mod ((se_int1 rfl T.n_int (sa_cons ((se_sub1 (se_var (pv 0)) (se_int))) (sa_nil)))) ((se_max rfl rfl T.n_max (sa_cons (se_int) (sa_cons ((se_len rfl T.n_len (sa_cons ((se_sub1 (se_var (pv 0)) (se_int))) (sa_nil)))) (sa_nil))))))))))
    (ss_cons (ss_if ((st_c1 sc_ge (se_var (pv 2)) ((se_pow (se_int) (se_int))))) (ss_cons (ss_setIx ((se_sub1 (se_var (pv 0)) (se_int))) ((se_mod ((se_int1 rfl T.n_int (sa_cons ((se_sub1 (se_var (pv 0)) (se_int))) (sa_nil)))) ((se_len rfl T.n_len (sa_cons ((se_sub1 (se_var (pv 0)) (se_int))) (sa_nil)))))) ((se_div (se_var (pv 2)) (se_var (pv 1)))) (fun ho hi => pg_sub ho hi set_list))
    (ss_one (ss_ret ((se_mod ((se_int1 rfl T.n_int (sa_cons (se_var (pv 2)) (sa_nil)))) (se_var (pv 1))))))) (ss_nil))
    (ss_cons (ss_setIx (se_var (pv 0)) (se_int) ((se_mod ((se_int1 rfl T.n_int (sa_cons ((se_add ((se_add ((se_mul ((se_sub1 (se_var (pv 0)) (se_int))) (se_int))) ((se_mul (se_var (pv 2)) (se_int))))) (se_int))) (sa_nil)))) (se_int))) (fun ho hi => pg_sub ho hi set_list))
    (ss_cons (ss_setIx (se_var (pv 0)) (se_int) ((se_add ((se_sub1 (se_var (pv 0)) (se_int))) (se_int))) (fun ho hi => pg_sub ho hi set_list))
    (ss_one (ss_ret ((se_mod ((se_int1 rfl T.n_int (sa_cons ((se_div ((se_sub1 (se_var (pv 0)) (se_int))) (se_int))) (sa_nil)))) (se_var (pv 1)))))))))))
theorem ok_l_deal (T : Txt P K mg G) : FnOk P w K mg base (L2.CX P w) 2 T.a_l_deal T.d_l_deal ["_law_h", "_law_sizes_here"] (spD ⟨K, G⟩ f_l_deal) := fn_okD (k := 1) T.F_l_deal sc_l_deal (fun cdv A outer s H E hr => by
    have tk : Takes (cxOf (L2.CX P w) P w K mg base ["_law_h", "_law_sizes_here", "_law_cards", "_law_heap", "_law_found", "_law_size", "_law_row", "_law_k", "_law_spot"] "_law_deal" (defScope s_l_deal) T.a_l_deal cdv A outer s H E) (fun cls d _ H => E cls d H) := takes_of rfl rfl rfl rfl
    exact (ss_cons (ss_set (i := 2) sc_l_deal.nd rfl (.inl rfl) ((sn_frz ((sn_lst (sa_nil))))))
    (ss_cons (ss_for (t := .nm 3) (passes_of rfl) rfl (si_range1 rfl T.n_range (sa_cons ((se_len rfl T.n_len (sa_cons (se_var (pv 1)) (sa_nil)))) (sa_nil))) (pg_name (i := 3) sc_l_deal.nd rfl (.inl rfl)) (ss_one (ss_set (i := 2) sc_l_deal.nd rfl (.inl rfl) ((se_add (se_var (pv 2)) ((sn_frz ((sn_mul ((sn_frz ((sn_lst (sa_cons (se_var (pv 3)) (sa_nil)))))) ((se_sub1 (se_var (pv 1)) (se_var (pv 3)))))))))))))
    (ss_cons (ss_set (i := 4) sc_l_deal.nd rfl (.inl rfl) ((sn_loc ((sn_lst (sa_nil))))))
    (ss_cons (ss_for (t := .nm 5) (passes_of rfl) rfl (si_seq rfl (se_var (pv 1))) (pg_name (i := 5) sc_l_deal.nd rfl (.inl rfl)) (ss_cons (ss_set (i := 6) sc_l_deal.nd rfl (.inl rfl) ((sn_loc ((sn_lst (sa_nil))))))
    (ss_cons (ss_for (t := .nm 7) (passes_of rfl) rfl (si_range1 rfl T.n_range (sa_cons (se_var (pv 5)) (sa_nil))) (pg_name (i := 7) sc_l_deal.nd rfl (.inl rfl)) (ss_cons (ss_set (i := 8) sc_l_deal.nd rfl (.inl rfl) ((se_call tk (ok_l_next T) (hr.mono (by decide)) rfl T.m_l_next T.F_l_next.kp T.b_l_next (sa_cons (se_var (pv 0)) (sa_cons ((se_len rfl T.n_len (sa_cons (se_var (pv 2)) (sa_nil)))) (sa_nil))))))
    (ss_cons (ss_expr ((se_append (se_var (pv 6)) (sa_cons ((se_sub1 (se_var (pv 2)) (se_var (pv 8)))) (sa_nil)))))
    (ss_one (ss_set (i := 2) sc_l_deal.nd rfl (.inl rfl) ((se_add ((se_slice (se_var (pv 2)) so_none (so_some (se_var (pv 8))))) ((se_slice (se_var (pv 2)) (so_some ((se_add (se_var (pv 8)) (se_int)))) so_none)))))))))
    (ss_one (ss_expr ((se_append (se_var (pv 4)) (sa_cons ((se_tuple rfl T.n_tuple (sa_cons (se_var (pv 6)) (sa_nil)))) (sa_nil)))))))))
    (ss_one (ss_ret ((se_tuple rfl T.n_tuple (sa_cons (se_var (pv 4)) (sa_nil)))))))))))
theorem ok_l_pick (T : Txt P K mg G) : FnOk P w K mg base (L2.CX P w) 2 T.a_l_pick T.d_l_pick ["_law_h", "_law_things"] (spD ⟨K, G⟩ f_l_pick) := fn_okD (k := 1) T.F_l_pick sc_l_pick (fun cdv A outer s H E hr => by
    have tk : Takes (cxOf (L2.CX P w) P w K mg base ["_law_h", "_law_things"] "_law_pick" (defScope s_l_pick) T.a_l_pick cdv A outer s H E) (fun cls d _ H => E cls d H) := takes_of rfl rfl rfl rfl
    exact (ss_one (ss_ret ((se_sub1 (se_var (pv 1)) ((se_call tk (ok_l_next T) (hr.mono (by decide)) rfl T.m_l_next T.F_l_next.kp T.b_l_next (sa_cons (se_var (pv 0)) (sa_cons ((se_len rfl T.n_len (sa_cons (se_var (pv 1)) (sa_nil)))) (sa_nil))))))))))
theorem ok_l_sizes (T : Txt P K mg G) : FnOk P w K mg base (L2.CX P w) 3 T.a_l_sizes T.d_l_sizes ["_law_h", "_law_many", "_law_most"] (spD ⟨K, G⟩ f_l_sizes) := fn_okD (k := 2) T.F_l_sizes sc_l_sizes (fun cdv A outer s H E hr => by
    have tk : Takes (cxOf (L2.CX P w) P w K mg base ["_law_h", "_law_many", "_law_most", "_law_cap", "_law_found", "_law_whole", "_law_heap", "_law_size"] "_law_sizes" (defScope s_l_sizes) T.a_l_sizes cdv A outer s H E) (fun cls d _ H => E cls d H) := takes_of rfl rfl rfl rfl
    exact (ss_cons (ss_par3 (i := 3) (j := 4) (l := 5) rfl sc_l_sizes.nd rfl rfl rfl (by decide) (by decide) (by decide) rfl rfl rfl (sa_cons ((se_call tk (ok_l_pick T) (hr.mono (by decide)) rfl T.m_l_pick T.F_l_pick.kp T.b_l_pick (sa_cons (se_var (pv 0)) (sa_cons ((sn_frz ((sn_lst (sa_cons (se_int) (sa_cons (se_int) (sa_cons (se_int) (sa_nil)))))))) (sa_nil))))) (sa_cons ((sn_loc ((sn_lst (sa_nil))))) (sa_cons (se_int) (sa_nil)))))
    (ss_cons (ss_for (t := .nm 6) (passes_of rfl) rfl (si_range1 rfl T.n_range (sa_cons (se_var (pv 1)) (sa_nil))) (pg_name (i := 6) sc_l_sizes.nd rfl (.inl rfl)) (ss_cons (ss_set (i := 7) sc_l_sizes.nd rfl (.inl rfl) ((se_min rfl rfl T.n_min (sa_cons ((se_call tk (ok_l_next T) (hr.mono (by decide)) rfl T.m_l_next T.F_l_next.kp T.b_l_next (sa_cons (se_var (pv 0)) (sa_cons (se_var (pv 3)) (sa_nil))))) (sa_cons ((se_sub (se_var (pv 2)) (se_var (pv 5)))) (sa_nil))))))
    (ss_cons (ss_expr ((se_append (se_var (pv 4)) (sa_cons (se_var (pv 7)) (sa_nil)))))
    (ss_one (ss_set (i := 5) sc_l_sizes.nd rfl (.inl rfl) ((se_add (se_var (pv 5)) (se_var (pv 7)))))))))
    (ss_one (ss_ret ((se_tuple rfl T.n_tuple (sa_cons (se_var (pv 4)) (sa_nil)))))))))
theorem ok_l_changed (T : Txt P K mg G) : FnOk P w K mg base (L2.CX P w) 3 T.a_l_changed T.d_l_changed ["_law_h", "_law_lines", "_law_odd"] (spD ⟨K, G⟩ f_l_changed) := fn_okD (k := 2) T.F_l_changed sc_l_changed (fun cdv A outer s H E hr => by
    have tk : Takes (cxOf (L2.CX P w) P w K mg base ["_law_h", "_law_lines", "_law_odd", "_law_spot", "_law_kind", "_law_row", "_law_k", "_law_line"] "_law_changed" (defScope s_l_changed) T.a_l_changed cdv A outer s H E) (fun cls d _ H => E cls d H) := takes_of rfl rfl rfl rfl
    exact (ss_cons (ss_par (i := 3) (j := 4) rfl sc_l_changed.nd rfl rfl (by decide) rfl rfl (sa_cons ((se_call tk (ok_l_next T) (hr.mono (by decide)) rfl T.m_l_next T.F_l_next.kp T.b_l_next (sa_cons (se_var (pv 0)) (sa_cons ((se_len rfl T.n_len (sa_cons (se_var (pv 1)) (sa_nil)))) (sa_nil))))) (sa_cons ((se_call tk (ok_l_next T) (hr.mono (by decide)) rfl T.m_l_next T.F_l_next.kp T.b_l_next (sa_cons (se_var (pv 0)) (sa_cons (se_int) (sa_nil))))) (sa_nil))))
    (ss_cons (ss_set (i := 5) sc_l_changed.nd rfl (.inl rfl) ((sn_frz ((sn_split ((se_sub1 (se_var (pv 1)) (se_var (pv 3)))) (se_str))))))
    (ss_cons (ss_set (i := 6) sc_l_changed.nd rfl (.inl rfl) ((se_call tk (ok_l_next T) (hr.mono (by decide)) rfl T.m_l_next T.F_l_next.kp T.b_l_next (sa_cons (se_var (pv 0)) (sa_cons ((se_add ((se_len rfl T.n_len (sa_cons (se_var (pv 5)) (sa_nil)))) (se_int))) (sa_nil))))))
    (ss_cons (ss_if ((st_c1 sc_lt (se_var (pv 4)) (se_int))) (ss_cons (ss_set (i := 7) sc_l_changed.nd rfl (.inl rfl) ((se_join (se_str) ((se_add ((se_add ((se_slice (se_var (pv 5)) so_none (so_some (se_var (pv 6))))) ((sn_frz ((sn_lst (sa_cons ((se_call tk (ok_l_pick T) (hr.mono (by decide)) rfl T.m_l_pick T.F_l_pick.kp T.b_l_pick (sa_cons (se_var (pv 0)) (sa_cons (se_var (pv 2)) (sa_nil))))) (sa_nil)))))))) ((se_slice (se_var (pv 5)) (so_some ((se_add (se_var (pv 6)) ((se_min rfl rfl T.n_min (sa_cons (se_var (pv 4)) (sa_cons (se_int) (sa_nil)))))))) so_none)))))))
    (ss_one (ss_ret ((se_add ((se_add ((se_slice (se_var (pv 1)) so_none (so_some (se_var (pv 3))))) ((sn_frz ((sn_lst (sa_cons (se_var (pv 7)) (sa_nil)))))))) ((se_slice (se_var (pv 1)) (so_some ((se_add (se_var (pv 3)) (se_int)))) so_none))))))) (ss_nil))
    (ss_cons (ss_if ((st_c1 (sc_eq hr) (se_var (pv 4)) (se_int))) (ss_one (ss_ret ((se_add ((se_add ((se_slice (se_var (pv 1)) so_none (so_some (se_var (pv 3))))) ((sn_frz ((sn_lst (sa_cons ((se_join (se_str) ((se_slice (se_var (pv 5)) so_none (so_some (se_var (pv 6))))))) (sa_nil)))))))) ((se_slice (se_var (pv 1)) (so_some ((se_add (se_var (pv 3)) (se_int)))) so_none)))))) (ss_nil))
    (ss_cons (ss_if ((st_c1 (sc_eq hr) (se_var (pv 4)) (se_int))) (ss_one (ss_ret ((se_add ((se_add ((se_slice (se_var (pv 1)) so_none (so_some ((se_add (se_var (pv 3)) (se_int)))))) ((sn_frz ((sn_lst (sa_cons ((se_call tk (ok_l_pick T) (hr.mono (by decide)) rfl T.m_l_pick T.F_l_pick.kp T.b_l_pick (sa_cons (se_var (pv 0)) (sa_cons ((sn_frz ((sn_lst (sa_cons (se_str) (sa_cons (se_str) (sa_cons ((se_sub1 (se_var (pv 1)) (se_var (pv 3)))) (sa_cons (se_str) (sa_nil))))))))) (sa_nil))))) (sa_nil)))))))) ((se_slice (se_var (pv 1)) (so_some ((se_add (se_var (pv 3)) (se_int)))) so_none)))))) (ss_nil))
    (ss_cons (ss_if ((st_c1 (sc_eq hr) (se_var (pv 4)) (se_int))) (ss_one (ss_ret ((se_add ((se_add ((se_slice (se_var (pv 1)) so_none (so_some (se_var (pv 3))))) ((sn_frz ((sn_lst (sa_cons ((se_add ((se_sub1 (se_var (pv 1)) (se_var (pv 3)))) ((se_smul (se_str) ((se_call tk (ok_l_pick T) (hr.mono (by decide)) rfl T.m_l_pick T.F_l_pick.kp T.b_l_pick (sa_cons (se_var (pv 0)) (sa_cons ((sn_frz ((sn_lst (sa_cons (se_int) (sa_cons (se_int) (sa_nil))))))) (sa_nil))))))))) (sa_nil)))))))) ((se_slice (se_var (pv 1)) (so_some ((se_add (se_var (pv 3)) (se_int)))) so_none)))))) (ss_nil))
    (ss_one (ss_ret ((se_add (se_var (pv 1)) ((sn_frz ((sn_mul ((sn_frz ((sn_lst (sa_cons (se_str) (sa_nil)))))) ((se_call tk (ok_l_pick T) (hr.mono (by decide)) rfl T.m_l_pick T.F_l_pick.kp T.b_l_pick (sa_cons (se_var (pv 0)) (sa_cons ((sn_frz ((sn_lst (sa_cons (se_int) (sa_cons (se_int) (sa_nil))))))) (sa_nil)))))))))))))))))))))
theorem ok_l_alike (T : Txt P K mg G) : ∀ n : Nat, FnOk P w K mg base (L2.CX P w) (n + 1) T.a_l_alike T.d_l_alike ["_law_found", "_law_due_here"] (spD ⟨K, G⟩ (f_l_alike n))
  | 0 => fn_bad T.F_l_alike sc_l_alike
  | n + 1 => fn_okD (k := n + 1) T.F_l_alike sc_l_alike (fun cdv A outer s H E hr => by
    have tk : Takes (cxOf (L2.CX P w) P w K mg base ["_law_found", "_law_due_here", "_law_k"] "_law_alike" (defScope s_l_alike) T.a_l_alike cdv A outer s H E) (fun cls d _ H => E cls d H) := takes_of rfl rfl rfl rfl
    have ih := ok_l_alike T n
    exact (ss_cons (ss_if ((st_val ((se_isi2 .tuple .list (by decide) (by decide) rfl T.n_isinstance (se_var (pv 1)) (pe_bltn rfl T.n_tuple (by decide +kernel) rfl) (pe_bltn rfl T.n_list (by decide +kernel) rfl))))) (ss_cons (ss_if ((PW.pt (sw_or ((st_not ((st_val ((se_isi2 .tuple .list (by decide) (by decide) rfl T.n_isinstance (se_var (pv 0)) (pe_bltn rfl T.n_tuple (by decide +kernel) rfl) (pe_bltn rfl T.n_list (by decide +kernel) rfl))))))) (sw_or1 ((st_c1 (sc_ne hr) ((se_isi .list (by decide) rfl T.n_isinstance (se_var (pv 0)) (pe_bltn rfl T.n_list (by decide +kernel) rfl))) ((se_isi .list (by decide) rfl T.n_isinstance (se_var (pv 1)) (pe_bltn rfl T.n_list (by decide +kernel) rfl))))))))) (ss_one (ss_ret (se_bl))) (ss_nil))
    (ss_cons (ss_if ((st_c1 (sc_ne hr) ((se_len rfl T.n_len (sa_cons (se_var (pv 0)) (sa_nil)))) ((se_len rfl T.n_len (sa_cons (se_var (pv 1)) (sa_nil)))))) (ss_one (ss_ret (se_bl))) (ss_nil))
    (ss_one (ss_ret ((se_c1 (sc_eq hr) ((sn_frz ((sn_comp (own := [("_law_k", 2)]) (t := .nm 2) rfl sc_l_alike.nd (si_range1 rfl T.n_range (sa_cons ((se_len rfl T.n_len (sa_cons (se_var (pv 1)) (sa_nil)))) (sa_nil))) (blkOk_by (N := ["_law_found", "_law_due_here", "_law_k"]) (sc := defScope s_l_alike) (by decide +kernel)) (fun _ _ _ _ _ => pg_name (i := 2) sc_l_alike.nd rfl (by first | exact .inl rfl | exact .inr rfl)) (fun _ _ _ _ _ => st_ifs ((st_not ((st_val ((se_call takes0 ih (hr.mono (Nat.le_refl _)) rfl T.m_l_alike T.F_l_alike.kp T.b_l_alike (sa_cons ((se_sub1 (se_var (pv 0)) (se_var (pv 2)))) (sa_cons ((se_sub1 (se_var (pv 1)) (se_var (pv 2)))) (sa_nil)))))))))) (fun _ _ _ _ _ => se_var (pv 2)) (by decide))))) ((sn_frz ((sn_lst (sa_nil))))))))))) (ss_nil))
    (ss_cons (ss_if ((PW.pt (sw_or ((st_isN (se_var (pv 1)))) (sw_or1 ((st_val ((se_isi .str (by decide) rfl T.n_isinstance (se_var (pv 1)) (pe_bltn rfl T.n_str (by decide +kernel) rfl))))))))) (ss_one (ss_ret ((se_and ((se_c1 (sc_eq hr) (se_var (pv 0)) (se_var (pv 1)))) (se_one ((se_c1 (sc_eq hr) ((se_isi .str (by decide) rfl T.n_isinstance (se_var (pv 0)) (pe_bltn rfl T.n_str (by decide +kernel) rfl))) ((se_isi .str (by decide) rfl T.n_isinstance (se_var (pv 1)) (pe_bltn rfl T.n_str (by decide +kernel) rfl)))))))))) (ss_nil))
    (ss_one (ss_ret ((se_and ((se_isi .int (by decide) rfl T.n_isinstance (se_var (pv 0)) (pe_bltn rfl T.n_int (by decide +kernel) rfl))) (se_and ((se_c1 (sc_eq hr) ((se_isi .bool (by decide) rfl T.n_isinstance (se_var (pv 0)) (pe_bltn rfl T.n_bool (by decide +kernel) rfl))) ((se_isi .bool (by decide) rfl T.n_isinstance (se_var (pv 1)) (pe_bltn rfl T.n_bool (by decide +kernel) rfl))))) (se_one ((se_c1 (sc_eq hr) (se_var (pv 0)) (se_var (pv 1)))))))))))))
theorem ok_take_heap (T : Txt P K mg G) : FnOk P w K mg base (L2.CX P w) 2 T.a_take_heap T.d_take_heap ["words", "many", "line"] (spD ⟨K, G⟩ f_take_heap) := fn_okD (k := 1) T.F_take_heap sc_take_heap (fun cdv A outer s H E hr => by
    have tk : Takes (cxOf (L2.CX P w) P w K mg base ["words", "many", "line", "at", "heap", "word"] "take_heap" (defScope s_take_heap) T.a_take_heap cdv A outer s H E) (fun cls d _ H => E cls d H) := takes_of rfl rfl rfl rfl
    exact (ss_cons (ss_if ((st_c1 (sc_ne hr) ((se_slice (se_var (pv 0)) so_none (so_some (se_int)))) ((sn_frz ((sn_lst (sa_cons (se_str) (sa_nil)))))))) (ss_one (ss_raise (k := 10) (j := 0) (ns := ["line", "word"]) rfl tk T.xm_InvalidText (by decide) (hr.mono (by decide)) T.m_InvalidText (sa_cons (se_var (pv 2)) (sa_cons (se_int) (sa_nil))))) (ss_nil))
    (ss_cons (ss_for (t := .nm 3) (passes_of rfl) rfl (si_range2 rfl T.n_range (sa_cons (se_int) (sa_cons ((se_len rfl T.n_len (sa_cons (se_var (pv 0)) (sa_nil)))) (sa_nil)))) (pg_name (i := 3) sc_take_heap.nd rfl (.inl rfl)) (ss_one (ss_if ((PW.pt (sw_or ((st_c1 sc_gt (se_var (pv 3)) ((se_glob rfl T.c_MOST_CARDS T.r_MOST_CARDS)))) (sw_or1 ((st_c1 sc_notIn ((se_sub1 (se_var (pv 0)) (se_var (pv 3)))) ((sn_frz ((sn_comp (own := [("heap", 4)]) (t := .nm 4) rfl sc_take_heap.nd (si_range1 rfl T.n_range (sa_cons (se_var (pv 1)) (sa_nil))) (blkOk_by (N := ["words", "many", "line", "at", "heap", "word"]) (sc := defScope s_take_heap) (by decide +kernel)) (fun _ _ _ _ _ => pg_name (i := 4) sc_take_heap.nd rfl (by first | exact .inl rfl | exact .inr rfl)) (fun _ _ _ _ _ => st_yes) (fun _ _ _ _ _ => (se_str1 rfl T.n_str (sa_cons (se_var (pv 4)) (sa_nil)))) (by decide))))))))))) (ss_one (ss_raise (k := 10) (j := 0) (ns := ["line", "word"]) rfl tk T.xm_InvalidText (by decide) (hr.mono (by decide)) T.m_InvalidText (sa_cons (se_var (pv 2)) (sa_cons ((se_add (se_var (pv 3)) (se_int))) (sa_nil))))) (ss_nil))))
    (ss_one (ss_ret ((se_tuple rfl T.n_tuple (sa_cons ((sn_frz ((sn_comp (own := [("word", 5)]) (t := .nm 5) rfl sc_take_heap.nd (si_seq rfl ((se_slice (se_var (pv 0)) (so_some (se_int)) so_none))) (blkOk_by (N := ["words", "many", "line", "at", "heap", "word"]) (sc := defScope s_take_heap) (by decide +kernel)) (fun _ _ _ _ _ => pg_name (i := 5) sc_take_heap.nd rfl (by first | exact .inl rfl | exact .inr rfl)) (fun _ _ _ _ _ => st_yes) (fun _ _ _ _ _ => (se_int1 rfl T.n_int (sa_cons (se_var (pv 5)) (sa_nil)))) (by decide))))) (sa_nil)))))))))
theorem ok_is_integer (T : Txt P K mg G) : FnOk P w K mg base (L2N.CX P w) 1 T.a_is_integer T.d_is_integer ["thing", "low", "high"] (spD ⟨K, G⟩ f_is_integer) := DN.fn_okD (k := 0) T.F_is_integer sc_is_integer (fun cdv A outer s H E hr => by
    have tk : L2N.Takes (cxOf (L2N.CX P w) P w K mg base ["thing", "low", "high"] "is_integer" (defScope s_is_integer) T.a_is_integer cdv A outer s H E) (fun cls d _ H => E cls d H) := L2N.takes_of rfl rfl rfl rfl
    exact (ss_one (ss_ret ((se_and ((se_isi .int (by decide) rfl T.n_isinstance (se_var (pv 0)) (pe_bltn rfl T.n_int (by decide +kernel) rfl))) (se_and ((se_not ((se_isi .bool (by decide) rfl T.n_isinstance (se_var (pv 0)) (pe_bltn rfl T.n_bool (by decide +kernel) rfl))))) (se_one ((se_c2 sc_le sc_le (se_var (pv 1)) (se_var (pv 0)) (se_var (pv 2)))))))))))
theorem ok_is_heap (T : Txt P K mg G) : FnOk P w K mg base (L2N.CX P w) 2 T.a_is_heap T.d_is_heap ["thing", "many"] (spD ⟨K, G⟩ f_is_heap) := DN.fn_okD (k := 1) T.F_is_heap sc_is_heap (fun cdv A outer s H E hr => by
    have tk : L2N.Takes (cxOf (L2N.CX P w) P w K mg base ["thing", "many", "card"] "is_heap" (defScope s_is_heap) T.a_is_heap cdv A outer s H E) (fun cls d _ H => E cls d H) := L2N.takes_of rfl rfl rfl rfl
    exact (ss_cons (ss_if ((PW.pt (sw_or ((st_not ((st_val ((se_isi .tuple (by decide) rfl T.n_isinstance (se_var (pv 0)) (pe_bltn rfl T.n_tuple (by decide +kernel) rfl))))))) (sw_or1 ((st_c1 sc_gt ((se_len rfl T.n_len (sa_cons (se_var (pv 0)) (sa_nil)))) ((se_glob rfl T.c_MOST_CARDS T.r_MOST_CARDS)))))))) (ss_one (ss_ret (se_bl))) (ss_nil))
    (ss_one (ss_ret ((se_all rfl rfl T.n_all (sa_cons ((sn_frz ((sn_comp (own := [("card", 2)]) (t := .nm 2) rfl sc_is_heap.nd (si_seq rfl (se_var (pv 0))) (blkOk_by (N := ["thing", "many", "card"]) (sc := defScope s_is_heap) (by decide +kernel)) (fun _ _ _ _ _ => pg_name (i := 2) sc_is_heap.nd rfl (by first | exact .inl rfl | exact .inr rfl)) (fun _ _ _ _ _ => st_yes) (fun _ _ _ _ _ => (DN.se_call takesN0 (ok_is_integer T) (hr.mono (by decide)) rfl T.m_is_integer T.F_is_integer.kp T.b_is_integer (sa_cons (se_var (pv 2)) (sa_cons (se_int) (sa_cons ((se_sub (se_var (pv 1)) (se_int))) (sa_nil)))))) (by decide))))) (sa_nil))))))))
theorem ok_check_heaps (T : Txt P K mg G) : FnOk P w K mg base (L2N.CX P w) 4 T.a_check_heaps T.d_check_heaps ["thing"] (spD ⟨K, G⟩ f_check_heaps) := DN.fn_okD (k := 3) T.F_check_heaps sc_check_heaps (fun cdv A outer s H E hr => by
    have tk : L2N.Takes (cxOf (L2N.CX P w) P w K mg base ["thing", "index", "heap"] "check_heaps" (defScope s_check_heaps) T.a_check_heaps cdv A outer s H E) (fun cls d _ H => E cls d H) := L2N.takes_of rfl rfl rfl rfl
    exact (ss_cons (ss_if ((PW.pt (sw_or ((st_not ((st_val ((se_isi .tuple (by decide) rfl T.n_isinstance (se_var (pv 0)) (pe_bltn rfl T.n_tuple (by decide +kernel) rfl))))))) (sw_or1 ((st_not ((st_c2 sc_le sc_le (se_int) ((se_len rfl T.n_len (sa_cons (se_var (pv 0)) (sa_nil)))) ((se_glob rfl T.c_MOST_HEAPS T.r_MOST_HEAPS)))))))))) (ss_one (DN.ss_raise (k := 3) (j := 0) (ns := ["index"]) rfl tk T.xm_BadHeaps (by decide) (hr.mono (by decide)) T.m_BadHeaps (sa_cons (se_non) (sa_nil)))) (ss_nil))
    (ss_one (ss_for (t := .tp [1, 2]) (passes_of rfl) rfl (si_enum rfl rfl T.n_enumerate (sa_cons (se_var (pv 0)) (sa_nil))) (pg_tup rfl (pgs_cons (pg_name (i := 1) sc_check_heaps.nd rfl (.inl rfl)) (pgs_cons (pg_name (i := 2) sc_check_heaps.nd rfl (.inl rfl)) (pgs_nil)))) (ss_one (ss_if ((st_not ((st_val ((DN.se_call tk (ok_is_heap T) (hr.mono (by decide)) rfl T.m_is_heap T.F_is_heap.kp T.b_is_heap (sa_cons (se_var (pv 2)) (sa_cons ((se_len rfl T.n_len (sa_cons (se_var (pv 0)) (sa_nil)))) (sa_nil))))))))) (ss_one (DN.ss_raise (k := 3) (j := 0) (ns := ["index"]) rfl tk T.xm_BadHeaps (by decide) (hr.mono (by decide)) T.m_BadHeaps (sa_cons (se_var (pv 1)) (sa_nil)))) (ss_nil)))))))
theorem ok_Pack_init (T : Txt P K mg G) : FnOk P w K mg base (L2N.CX P w) 6 T.a_Pack_init T.d_Pack_init ["self", "heaps"] (spD ⟨K, G⟩ f_Pack_init) := DN.fn_okD (k := 5) T.F_Pack_init sc_Pack_init (fun cdv A outer s H E hr => by
    have tk : L2N.Takes (cxOf (L2N.CX P w) P w K mg base ["self", "heaps", "index", "heap", "other"] "Pack.__init__" (defScope s_Pack_init) T.a_Pack_init cdv A outer s H E) (fun cls d _ H => E cls d H) := L2N.takes_of rfl rfl rfl rfl
    exact (ss_cons (ss_expr ((DN.se_call tk (ok_check_heaps T) (hr.mono (by decide)) rfl T.m_check_heaps T.F_check_heaps.kp T.b_check_heaps (sa_cons (se_var (pv 1)) (sa_nil)))))
    (ss_cons (ss_for (t := .tp [2, 3]) (passes_of rfl) rfl (si_enum rfl rfl T.n_enumerate (sa_cons (se_var (pv 1)) (sa_nil))) (pg_tup rfl (pgs_cons (pg_name (i := 2) sc_Pack_init.nd rfl (.inr rfl)) (pgs_cons (pg_name (i := 3) sc_Pack_init.nd rfl (.inl rfl)) (pgs_nil)))) (ss_one (ss_if ((st_c1 (sc_ne hr) ((se_sum rfl rfl T.n_sum (sa_cons ((sn_frz ((sn_comp (own := [("other", 4)]) (t := .nm 4) rfl sc_Pack_init.nd (si_seq rfl (se_var (pv 1))) (blkOk_by (N := ["self", "heaps", "index", "heap", "other"]) (sc := defScope s_Pack_init) (by decide +kernel)) (fun _ _ _ _ _ => pg_name (i := 4) sc_Pack_init.nd rfl (by first | exact .inl rfl | exact .inr rfl)) (fun _ _ _ _ _ => st_yes) (fun _ _ _ _ _ => (se_count (se_var (pv 4)) (se_var (pv 2)))) (by decide))))) (sa_nil)))) ((se_len rfl T.n_len (sa_cons (se_var (pv 3)) (sa_nil)))))) (ss_one (DN.ss_raise (k := 4) (j := 0) (ns := ["heap"]) rfl tk T.xm_Unfitting (by decide) (hr.mono (by decide)) T.m_Unfitting (sa_cons (se_var (pv 2)) (sa_nil)))) (ss_nil))))
    (ss_one (ss_fld rfl T.cls_0 T.no_rows (se_var (pv 0)) (se_var (pv 1)))))))
theorem ok_read (T : Txt P K mg G) : FnOk P w K mg base (L2.CX P w) 9 T.a_read T.d_read ["text"] (spD ⟨K, G⟩ f_read) := fn_okD (k := 8) T.F_read sc_read (fun cdv A outer s H E hr => by
    have tk : Takes (cxOf (L2.CX P w) P w K mg base ["text", "lines", "many", "rows", "error", "line", "word", "at", "words"] "read" (defScope s_read) T.a_read cdv A outer s H E) (fun cls d _ H => E cls d H) := takes_of rfl rfl rfl rfl
    exact (ss_cons (ss_setComp (i := 1) (f := mFz) (own := [("line", 5)]) (t := .nm 5) (fun _ => frz_imp) rfl sc_read.nd rfl rfl (sw_true rfl rfl rfl (by decide +kernel)) (si_seq rfl ((sn_frz ((sn_split (se_var (pv 0)) (se_str)))))) (blkOk_by (N := ["text", "lines", "many", "rows", "error", "line", "word", "at", "words"]) (sc := defScope s_read) (by decide +kernel)) (fun _ _ _ _ _ => pg_name (i := 5) sc_read.nd rfl (by first | exact .inl rfl | exact .inr rfl)) (fun _ _ _ _ _ => st_yes) (fun _ _ _ _ _ => (sn_frz ((sn_comp (own := [("word", 6)]) (t := .nm 6) rfl sc_read.nd (si_seq rfl ((sn_frz ((sn_split (se_var (pv 5)) (se_str)))))) (blkOk_by (by kernel_rfl)) (fun _ _ _ _ _ => pg_name (i := 6) sc_read.nd rfl (by first | exact .inl rfl | exact .inr rfl)) (fun _ _ _ _ _ => st_ifs ((st_c1 (sc_ne hr) (se_var (pv 6)) (se_str)))) (fun _ _ _ _ _ => se_var (pv 6)) (by decide))))) (by decide))
    (ss_cons (ss_set (i := 2) sc_read.nd rfl (.inr rfl) ((se_min rfl rfl T.n_min (sa_cons ((se_len rfl T.n_len (sa_cons (se_var (pv 1)) (sa_nil)))) (sa_cons ((se_glob rfl T.c_MOST_HEAPS T.r_MOST_HEAPS)) (sa_nil))))))
    (ss_cons (ss_setCompX (i := 3) (f := mFz) (own := [("at", 7), ("words", 8)]) (t := .tp [7, 8]) (fun _ => frz_imp) rfl rfl tk rfl sc_read.nd rfl rfl (sw_true rfl rfl rfl (by decide +kernel)) (si_enum2 rfl rfl T.n_enumerate (sa_cons ((se_slice (se_var (pv 1)) so_none (so_some ((se_glob rfl T.c_MOST_HEAPS T.r_MOST_HEAPS))))) (sa_cons (se_int) (sa_nil)))) (blkOk_by (N := ["text", "lines", "many", "rows", "error", "line", "word", "at", "words"]) (sc := defScope s_read) (by decide +kernel)) (fun _ _ _ _ _ => pg_tup rfl (pgs_cons (pg_name (i := 7) sc_read.nd rfl (by first | exact .inl rfl | exact .inr rfl)) (pgs_cons (pg_name (i := 8) sc_read.nd rfl (by first | exact .inl rfl | exact .inr rfl)) (pgs_nil)))) (fun _ _ _ _ _ => st_yes) (fun _ _ _ _ _ _ _ bt => (se_callB bt (ok_take_heap T) (hr.mono (by decide)) rfl T.m_take_heap T.F_take_heap.kp T.b_take_heap (sa_cons (se_var (pv 8)) (sa_cons (se_var (pv 2)) (sa_cons (se_var (pv 7)) (sa_nil)))))) (by decide))
    (ss_cons (ss_if ((st_c1 sc_gt ((se_len rfl T.n_len (sa_cons (se_var (pv 1)) (sa_nil)))) ((se_glob rfl T.c_MOST_HEAPS T.r_MOST_HEAPS)))) (ss_one (ss_raise (k := 10) (j := 0) (ns := ["line", "word"]) rfl tk T.xm_InvalidText (by decide) (hr.mono (by decide)) T.m_InvalidText (sa_cons ((se_add ((se_glob rfl T.c_MOST_HEAPS T.r_MOST_HEAPS)) (se_int))) (sa_cons (se_int) (sa_nil))))) (ss_nil))
    (ss_one (ss_tryF (hit := 4) (i := 4) (j := 0) (k2 := 10) (ns2 := ["line", "word"]) rfl rfl sc_read.nd rfl rfl ⟨rfl, by decide, .inl T.m_Unfitting⟩ (L2H.passesAt_of rfl) tk T.ex_4_4 (xmk_be T.xm_Unfitting) T.xm_InvalidText (by decide) (hr.mono (by decide)) T.m_InvalidText (fun W2 pn xe tkN _ => ss_one (ss_ret ((se_fr (DN.se_new tkN T.mk_Pack (ok_Pack_init T) (hr.mono (by decide)) rfl T.m_Pack T.b_Pack_init (sa_cons ((se_tuple rfl T.n_tuple (sa_cons (se_var (pv 3)) (sa_nil)))) (sa_nil))))))) (fun a oe d pn hz hf => sa_cons ((se_add ((se_xf T.xh_4 T.xn_4_heap hz hf (se_var (pv 4)))) (se_int))) (sa_cons ((se_add ((se_len rfl T.n_len (sa_cons ((se_sub1 (se_var (pv 3)) ((se_xf T.xh_4 T.xn_4_heap hz hf (se_var (pv 4)))))) (sa_nil)))) (se_int))) (sa_nil))))))))))
theorem ok_l_answer (T : Txt P K mg G) : FnOk P w K mg base (L2.CX P w) 10 T.a_l_answer T.d_l_answer ["_law_text"] (spD ⟨K, G⟩ f_l_answer) := fn_okD (k := 9) T.F_l_answer sc_l_answer (fun cdv A outer s H E hr => by
    have tk : Takes (cxOf (L2.CX P w) P w K mg base ["_law_text", "_law_found", "error"] "_law_answer" (defScope s_l_answer) T.a_l_answer cdv A outer s H E) (fun cls d _ H => E cls d H) := takes_of rfl rfl rfl rfl
    exact (ss_cons (ss_set (i := 1) sc_l_answer.nd rfl (.inl rfl) (se_non))
    (ss_cons (ss_try rfl rfl sc_l_answer.nd tk (fun W2 pn xe tk2 _ => ss_one (ss_expr ((se_call tk2 (ok_read T) (hr.mono (by decide)) rfl T.m_read T.F_read.kp T.b_read (sa_cons (se_var (pv 0)) (sa_nil)))))) (.cons (c := ⟨hitL [10] [3, 4], 2, p_l_answer_s0⟩) rfl rfl ⟨rfl, by decide, .inl T.m_InvalidText⟩ (hitL_ok (P := fun k b => PySem.W.exmOne K (.ref (G k)) (.ref (G 10)) = some b) (List.forall_mem_cons.mpr ⟨T.ex_10_10, List.forall_mem_nil _⟩) (List.forall_mem_cons.mpr ⟨T.ex_3_10, List.forall_mem_cons.mpr ⟨T.ex_4_10, List.forall_mem_nil _⟩⟩)) (fun a oe k d pn hk hz hf => by
      have hm := hitL_in hk
      simp only [List.mem_cons, List.mem_nil_iff, or_false] at hm
      rcases hm with rfl
      · exact (ss_one (ss_set (i := 1) sc_l_answer.nd rfl (.inl rfl) ((se_ifExp ((st_val ((se_xis (c := 2) T.xh_10 hz hf rfl T.n_isinstance (se_var (pv 2)) rfl T.m_HeapError T.ki_10_2)))) ((se_tup (sa_cons ((se_xf T.xh_10 T.xn_10_line hz hf (se_var (pv 2)))) (sa_cons ((se_xf T.xh_10 T.xn_10_word hz hf (se_var (pv 2)))) (sa_nil))))) ((se_tup (sa_nil)))))))
      ) (.nil)))
    (ss_one (ss_ret (se_var (pv 1)))))))
theorem ok_l_wrong (T : Txt P K mg G) : FnOk P w K mg base (L2.CX P w) 1 T.a_l_wrong T.d_l_wrong ["_law_k", "_law_row", "_law_many"] (spD ⟨K, G⟩ f_l_wrong) := fn_okD (k := 0) T.F_l_wrong sc_l_wrong (fun cdv A outer s H E hr => by
    have tk : Takes (cxOf (L2.CX P w) P w K mg base ["_law_k", "_law_row", "_law_many", "_law_at"] "_law_wrong" (defScope s_l_wrong) T.a_l_wrong cdv A outer s H E) (fun cls d _ H => E cls d H) := takes_of rfl rfl rfl rfl
    exact (ss_cons (ss_if ((PW.pt (sw_or ((st_c1 sc_gt (se_var (pv 0)) (se_int))) (sw_or ((st_c1 (sc_eq hr) (se_var (pv 1)) ((sn_frz ((sn_lst (sa_nil))))))) (sw_or1 ((st_c1 (sc_ne hr) ((se_sub1 (se_var (pv 1)) (se_int))) (se_str)))))))) (ss_one (ss_ret (se_int))) (ss_nil))
    (ss_cons (ss_for (t := .nm 3) (passes_of rfl) rfl (si_range2 rfl T.n_range (sa_cons (se_int) (sa_cons ((se_len rfl T.n_len (sa_cons (se_var (pv 1)) (sa_nil)))) (sa_nil)))) (pg_name (i := 3) sc_l_wrong.nd rfl (.inl rfl)) (ss_one (ss_if ((PW.pt (sw_or ((st_c1 sc_gt (se_var (pv 3)) (se_int))) (sw_or1 ((st_c1 sc_notIn ((se_sub1 (se_var (pv 1)) (se_var (pv 3)))) ((se_slice ((sn_frz ((sn_lst (sa_cons (se_str) (sa_cons (se_str) (sa_cons (se_str) (sa_cons (se_str) (sa_cons (se_str) (sa_cons (se_str) (sa_cons (se_str) (sa_cons (se_str) (sa_nil))))))))))))) so_none (so_some (se_var (pv 2))))))))))) (ss_one (ss_ret ((se_add (se_var (pv 3)) (se_int))))) (ss_nil))))
    (ss_one (ss_ret (se_non))))))
theorem ok_l_due (T : Txt P K mg G) : FnOk P w K mg base (L2.CX P w) 2 T.a_l_due T.d_l_due ["_law_lines"] (spD ⟨K, G⟩ f_l_due) := fn_okD (k := 1) T.F_l_due sc_l_due (fun cdv A outer s H E hr => by
    have tk : Takes (cxOf (L2.CX P w) P w K mg base ["_law_lines", "_law_rows", "_law_k", "_law_wrong_here", "_law_line", "_law_one", "_law_row"] "_law_due" (defScope s_l_due) T.a_l_due cdv A outer s H E) (fun cls d _ H => E cls d H) := takes_of rfl rfl rfl rfl
    exact (ss_cons (ss_setComp (i := 1) (f := mFz) (own := [("_law_line", 4)]) (t := .nm 4) (fun _ => frz_imp) rfl sc_l_due.nd rfl rfl (sw_true rfl rfl rfl (by decide +kernel)) (si_seq rfl (se_var (pv 0))) (blkOk_by (N := ["_law_lines", "_law_rows", "_law_k", "_law_wrong_here", "_law_line", "_law_one", "_law_row"]) (sc := defScope s_l_due) (by decide +kernel)) (fun _ _ _ _ _ => pg_name (i := 4) sc_l_due.nd rfl (by first | exact .inl rfl | exact .inr rfl)) (fun _ _ _ _ _ => st_yes) (fun _ _ _ _ _ => (sn_frz ((sn_comp (own := [("_law_one", 5)]) (t := .nm 5) rfl sc_l_due.nd (si_seq rfl ((sn_frz ((sn_split (se_var (pv 4)) (se_str)))))) (blkOk_by (by kernel_rfl)) (fun _ _ _ _ _ => pg_name (i := 5) sc_l_due.nd rfl (by first | exact .inl rfl | exact .inr rfl)) (fun _ _ _ _ _ => st_ifs ((st_c1 (sc_ne hr) (se_var (pv 5)) (se_str)))) (fun _ _ _ _ _ => se_var (pv 5)) (by decide))))) (by decide))
    (ss_cons (ss_for (t := .nm 2) (passes_of rfl) rfl (si_range1 rfl T.n_range (sa_cons ((se_len rfl T.n_len (sa_cons (se_var (pv 1)) (sa_nil)))) (sa_nil))) (pg_name (i := 2) sc_l_due.nd rfl (.inr rfl)) (ss_cons (ss_set (i := 3) sc_l_due.nd rfl (.inl rfl) ((se_call tk (ok_l_wrong T) (hr.mono (by decide)) rfl T.m_l_wrong T.F_l_wrong.kp T.b_l_wrong (sa_cons (se_var (pv 2)) (sa_cons ((se_sub1 (se_var (pv 1)) (se_var (pv 2)))) (sa_cons ((se_len rfl T.n_len (sa_cons (se_var (pv 1)) (sa_nil)))) (sa_nil)))))))
    (ss_one (ss_if ((st_notN (se_var (pv 3)))) (ss_one (ss_ret ((se_tup (sa_cons ((se_add (se_var (pv 2)) (se_int))) (sa_cons (se_var (pv 3)) (sa_nil))))))) (ss_nil)))))
    (ss_cons (ss_for (t := .nm 2) (passes_of rfl) rfl (si_range1 rfl T.n_range (sa_cons ((se_len rfl T.n_len (sa_cons (se_var (pv 1)) (sa_nil)))) (sa_nil))) (pg_name (i := 2) sc_l_due.nd rfl (.inr rfl)) (ss_one (ss_if ((st_c1 (sc_ne hr) ((se_sum rfl rfl T.n_sum (sa_cons ((sn_frz ((sn_comp (own := [("_law_row", 6)]) (t := .nm 6) rfl sc_l_due.nd (si_seq rfl (se_var (pv 1))) (blkOk_by (N := ["_law_lines", "_law_rows", "_law_k", "_law_wrong_here", "_law_line", "_law_one", "_law_row"]) (sc := defScope s_l_due) (by decide +kernel)) (fun _ _ _ _ _ => pg_name (i := 6) sc_l_due.nd rfl (by first | exact .inl rfl | exact .inr rfl)) (fun _ _ _ _ _ => st_yes) (fun _ _ _ _ _ => (se_len rfl T.n_len (sa_cons ((sn_frz ((sn_comp (own := [("_law_one", 5)]) (t := .nm 5) rfl sc_l_due.nd (si_seq rfl (se_var (pv 6))) (blkOk_by (by kernel_rfl)) (fun _ _ _ _ _ => pg_name (i := 5) sc_l_due.nd rfl (by first | exact .inl rfl | exact .inr rfl)) (fun _ _ _ _ _ => st_ifs ((st_c1 (sc_eq hr) (se_var (pv 5)) ((se_str1 rfl T.n_str (sa_cons (se_var (pv 2)) (sa_nil))))))) (fun _ _ _ _ _ => se_var (pv 5)) (by decide))))) (sa_nil)))) (by decide))))) (sa_nil)))) ((se_sub ((se_len rfl T.n_len (sa_cons ((se_sub1 (se_var (pv 1)) (se_var (pv 2)))) (sa_nil)))) (se_int))))) (ss_one (ss_ret ((se_tup (sa_cons ((se_add (se_var (pv 2)) (se_int))) (sa_cons ((se_add ((se_len rfl T.n_len (sa_cons ((se_sub1 (se_var (pv 1)) (se_var (pv 2)))) (sa_nil)))) (se_int))) (sa_nil))))))) (ss_nil))))
    (ss_one (ss_ret (se_non)))))))
theorem ok_law (T : Txt P K mg G) : FnOk P w K mg base (L2.CX P w) 11 T.a_law T.d_law ["_law_script"] (spD ⟨K, G⟩ f_law_k11) := fn_okD (k := 10) T.F_law sc_law (fun cdv A outer s H E hr => by
    have tk : Takes (cxOf (L2.CX P w) P w K mg base ["_law_script", "_law_h", "_law_odd", "_law_turn", "_law_heaps", "_law_lines", "_law_change", "_law_some", "_law_due_here", "_law_heap", "_law_card", "_law_text"] "law" (defScope s_law) T.a_law cdv A outer s H E) (fun cls d _ H => E cls d H) := takes_of rfl rfl rfl rfl
    exact (ss_cons (ss_set (i := 1) sc_law.nd rfl (.inl rfl) ((se_call tk (ok_l_mix T) (hr.mono (by decide)) rfl T.m_l_mix T.F_l_mix.kp T.b_l_mix (sa_cons (se_var (pv 0)) (sa_cons (se_int) (sa_nil))))))
    (ss_cons (ss_set (i := 2) sc_law.nd rfl (.inl rfl) ((sn_frz ((sn_lst (sa_cons (se_str) (sa_cons (se_str) (sa_cons (se_str) (sa_cons (se_str) (sa_cons (se_str) (sa_cons (se_str) (sa_cons (se_str) (sa_cons (se_str) (sa_cons (se_str) (sa_cons (se_str) (sa_cons (se_str) (sa_cons (se_str) (sa_cons (se_str) (sa_cons (se_str) (sa_nil))))))))))))))))))))
    (ss_cons (ss_for (t := .nm 3) (passes_of rfl) rfl (si_range1 rfl T.n_range (sa_cons (se_int) (sa_nil))) (pg_name (i := 3) sc_law.nd rfl (.inl rfl)) (ss_cons (ss_set (i := 4) sc_law.nd rfl (.inl rfl) ((se_call tk (ok_l_deal T) (hr.mono (by decide)) rfl T.m_l_deal T.F_l_deal.kp T.b_l_deal (sa_cons (se_var (pv 1)) (sa_cons ((se_call tk (ok_l_sizes T) (hr.mono (by decide)) rfl T.m_l_sizes T.F_l_sizes.kp T.b_l_sizes (sa_cons (se_var (pv 1)) (sa_cons ((se_add (se_int) ((se_call tk (ok_l_next T) (hr.mono (by decide)) rfl T.m_l_next T.F_l_next.kp T.b_l_next (sa_cons (se_var (pv 1)) (sa_cons (se_int) (sa_nil))))))) (sa_cons (se_int) (sa_nil)))))) (sa_nil))))))
    (ss_cons (ss_setComp (i := 5) (f := mFz) (own := [("_law_heap", 9)]) (t := .nm 9) (fun _ => frz_imp) rfl sc_law.nd rfl rfl (sw_true rfl rfl rfl (by decide +kernel)) (si_seq rfl (se_var (pv 4))) (blkOk_by (N := ["_law_script", "_law_h", "_law_odd", "_law_turn", "_law_heaps", "_law_lines", "_law_change", "_law_some", "_law_due_here", "_law_heap", "_law_card", "_law_text"]) (sc := defScope s_law) (by decide +kernel)) (fun _ _ _ _ _ => pg_name (i := 9) sc_law.nd rfl (by first | exact .inl rfl | exact .inr rfl)) (fun _ _ _ _ _ => st_yes) (fun _ _ _ _ _ => (se_join (se_str) ((se_add ((sn_frz ((sn_lst (sa_cons (se_str) (sa_nil)))))) ((sn_frz ((sn_comp (own := [("_law_card", 10)]) (t := .nm 10) rfl sc_law.nd (si_seq rfl (se_var (pv 9))) (blkOk_by (by kernel_rfl)) (fun _ _ _ _ _ => pg_name (i := 10) sc_law.nd rfl (by first | exact .inl rfl | exact .inr rfl)) (fun _ _ _ _ _ => st_yes) (fun _ _ _ _ _ => (se_str1 rfl T.n_str (sa_cons (se_var (pv 10)) (sa_nil)))) (by decide))))))))) (by decide))
    (ss_cons (ss_for (t := .nm 6) (passes_of rfl) rfl (si_range1 rfl T.n_range (sa_cons ((se_call tk (ok_l_pick T) (hr.mono (by decide)) rfl T.m_l_pick T.F_l_pick.kp T.b_l_pick (sa_cons (se_var (pv 1)) (sa_cons ((sn_frz ((sn_lst (sa_cons (se_int) (sa_cons (se_int) (sa_cons (se_int) (sa_cons (se_int) (sa_nil))))))))) (sa_nil))))) (sa_nil))) (pg_name (i := 6) sc_law.nd rfl (.inl rfl)) (ss_one (ss_set (i := 5) sc_law.nd rfl (.inl rfl) ((se_call tk (ok_l_changed T) (hr.mono (by decide)) rfl T.m_l_changed T.F_l_changed.kp T.b_l_changed (sa_cons (se_var (pv 1)) (sa_cons (se_var (pv 5)) (sa_cons (se_var (pv 2)) (sa_nil)))))))))
    (ss_one (ss_if ((st_not ((st_val ((se_call tk (ok_l_alike T 8) (hr.mono (by decide)) rfl T.m_l_alike T.F_l_alike.kp T.b_l_alike (sa_cons ((se_call tk (ok_l_answer T) (hr.mono (by decide)) rfl T.m_l_answer T.F_l_answer.kp T.b_l_answer (sa_cons ((se_join (se_str) (se_var (pv 5)))) (sa_nil)))) (sa_cons ((se_call tk (ok_l_due T) (hr.mono (by decide)) rfl T.m_l_due T.F_l_due.kp T.b_l_due (sa_cons (se_var (pv 5)) (sa_nil)))) (sa_nil))))))))) (ss_one (ss_ret (se_bl))) (ss_nil)))))))
    (ss_cons (ss_set (i := 7) sc_law.nd rfl (.inl rfl) ((sn_frz ((sn_lst (sa_cons (se_str) (sa_cons (se_str) (sa_cons (se_str) (sa_cons (se_str) (sa_cons (se_str) (sa_cons ((se_smul (se_str) (se_int))) (sa_cons (se_str) (sa_cons ((se_add ((se_smul (se_str) (se_int))) (se_str))) (sa_nil))))))))))))))
    (ss_cons (ss_set (i := 8) sc_law.nd rfl (.inl rfl) ((sn_frz ((sn_lst (sa_cons ((se_tup (sa_cons (se_int) (sa_cons (se_int) (sa_nil))))) (sa_cons (se_non) (sa_cons (se_non) (sa_cons ((se_tup (sa_cons (se_int) (sa_cons (se_int) (sa_nil))))) (sa_cons ((se_tup (sa_cons (se_int) (sa_cons (se_int) (sa_nil))))) (sa_cons ((se_tup (sa_cons (se_int) (sa_cons (se_int) (sa_nil))))) (sa_cons (se_non) (sa_cons ((se_tup (sa_cons (se_int) (sa_cons (se_int) (sa_nil))))) (sa_nil))))))))))))))
    (ss_one (ss_ret ((se_c1 (sc_eq hr) ((sn_frz ((sn_comp (own := [("_law_text", 11)]) (t := .nm 11) rfl sc_law.nd (si_seq rfl (se_var (pv 7))) (blkOk_by (N := ["_law_script", "_law_h", "_law_odd", "_law_turn", "_law_heaps", "_law_lines", "_law_change", "_law_some", "_law_due_here", "_law_heap", "_law_card", "_law_text"]) (sc := defScope s_law) (by decide +kernel)) (fun _ _ _ _ _ => pg_name (i := 11) sc_law.nd rfl (by first | exact .inl rfl | exact .inr rfl)) (fun _ _ _ _ _ => st_yes) (fun _ _ _ _ _ => (se_call takes0 (ok_l_answer T) (hr.mono (by decide)) rfl T.m_l_answer T.F_l_answer.kp T.b_l_answer (sa_cons (se_var (pv 11)) (sa_nil)))) (by decide))))) (se_var (pv 8))))))))))))
end
set_option maxHeartbeats 0 in
theorem all_mk {l : PySem.W.OpenLaw} {w : World} {K : PySem.W.Frag} {h : Heap} {mg : Str → Option Value} {fa : Addr} (X : K.In h) (Gn : h.Ns mainGlobals mg) (hfa : mg "law" = some (.ref fa))
    {C10 : Addr}
    {C4 : Addr}
    {C3 : Addr}
    {C2 : Addr}
    {C0 : Addr}
    {f0 : Addr} {od0 an0 : Option Addr} {sl0 : Array (Option Value)} {oc0 kV0 dc0 pm0 cd0 ct0 : Value}
    {f1 : Addr} {od1 an1 : Option Addr} {sl1 : Array (Option Value)} {oc1 kV1 dc1 pm1 cd1 ct1 : Value}
    {f2 : Addr} {od2 an2 : Option Addr} {sl2 : Array (Option Value)} {oc2 kV2 dc2 pm2 cd2 ct2 : Value}
    {f3 : Addr} {od3 an3 : Option Addr} {sl3 : Array (Option Value)} {oc3 kV3 dc3 pm3 cd3 ct3 : Value}
    {f4 : Addr} {od4 an4 : Option Addr} {sl4 : Array (Option Value)} {oc4 kV4 dc4 pm4 cd4 ct4 : Value}
    {f5 : Addr} {od5 an5 : Option Addr} {sl5 : Array (Option Value)} {oc5 kV5 dc5 pm5 cd5 ct5 : Value}
    {f6 : Addr} {od6 an6 : Option Addr} {sl6 : Array (Option Value)} {oc6 kV6 dc6 pm6 cd6 ct6 : Value}
    {f7 : Addr} {od7 an7 : Option Addr} {sl7 : Array (Option Value)} {oc7 kV7 dc7 pm7 cd7 ct7 : Value}
    {f8 : Addr} {od8 an8 : Option Addr} {sl8 : Array (Option Value)} {oc8 kV8 dc8 pm8 cd8 ct8 : Value}
    {f9 : Addr} {od9 an9 : Option Addr} {sl9 : Array (Option Value)} {oc9 kV9 dc9 pm9 cd9 ct9 : Value}
    {f10 : Addr} {od10 an10 : Option Addr} {sl10 : Array (Option Value)} {oc10 kV10 dc10 pm10 cd10 ct10 : Value}
    {f11 : Addr} {od11 an11 : Option Addr} {sl11 : Array (Option Value)} {oc11 kV11 dc11 pm11 cd11 ct11 : Value}
    {f12 : Addr} {od12 an12 : Option Addr} {sl12 : Array (Option Value)} {oc12 kV12 dc12 pm12 cd12 ct12 : Value}
    {f13 : Addr} {od13 an13 : Option Addr} {sl13 : Array (Option Value)} {oc13 kV13 dc13 pm13 cd13 ct13 : Value}
    {f14 : Addr} {od14 an14 : Option Addr} {sl14 : Array (Option Value)} {oc14 kV14 dc14 pm14 cd14 ct14 : Value}
    {f15 : Addr} {od15 an15 : Option Addr} {sl15 : Array (Option Value)} {oc15 kV15 dc15 pm15 cd15 ct15 : Value}
    {f16 : Addr} {od16 an16 : Option Addr} {sl16 : Array (Option Value)} {oc16 kV16 dc16 pm16 cd16 ct16 : Value}
    {t_MOST_HEAPS : Tok}
    {t_MOST_CARDS : Tok}
    {nmx3 qnx3 : Str} {Nx3 fIx3 cdax3 ccx3 : Addr} {bsx3 bmx3 : List Value} {snx3 : List Str} {sux3 : List Value} {abx3 : Bool} {cox3 : Option Bool} {ddx3 odx3 anx3 cddx3 cldx3 : Option Addr} {kax3 kbx3 kcx3 kdx3 kex3 : Option Value} {ocx3 kVx3 dcx3 pmx3 ctx3 cclx3 clx3 : Value} {slx3 ccsx3 cslx3 : Array (Option Value)} {vsx3 : Array Value} {fix3 : Str} {tfx3 : Tok}
    {nmx4 qnx4 : Str} {Nx4 fIx4 cdax4 ccx4 : Addr} {bsx4 bmx4 : List Value} {snx4 : List Str} {sux4 : List Value} {abx4 : Bool} {cox4 : Option Bool} {ddx4 odx4 anx4 cddx4 cldx4 : Option Addr} {kax4 kbx4 kcx4 kdx4 kex4 : Option Value} {ocx4 kVx4 dcx4 pmx4 ctx4 cclx4 clx4 : Value} {slx4 ccsx4 cslx4 : Array (Option Value)} {vsx4 : Array Value} {fix4 : Str} {tfx4 : Tok}
    {nmx10 qnx10 : Str} {Nx10 fIx10 cdax10 ccx10 : Addr} {bsx10 bmx10 : List Value} {snx10 : List Str} {sux10 : List Value} {abx10 : Bool} {cox10 : Option Bool} {ddx10 odx10 anx10 cddx10 cldx10 : Option Addr} {kax10 kbx10 kcx10 kdx10 kex10 : Option Value} {ocx10 kVx10 dcx10 pmx10 ctx10 cclx10 clx10 : Value} {slx10 ccsx10 cslx10 : Array (Option Value)} {vsx10 : Array Value} {fix10 : Str} {tfx10 : Tok}
    (aC10 : PySem.W.nsIn K mainGlobals "InvalidText" = some (some (.ref C10)))
    (aC4 : PySem.W.nsIn K mainGlobals "Unfitting" = some (some (.ref C4)))
    (aC3 : PySem.W.nsIn K mainGlobals "BadHeaps" = some (some (.ref C3)))
    (aC2 : PySem.W.nsIn K mainGlobals "HeapError" = some (some (.ref C2)))
    (aC0 : PySem.W.nsIn K mainGlobals "Pack" = some (some (.ref C0)))
    (a0 : PySem.W.nsIn K mainGlobals "_law_mix" = some (some (.ref f0)))
    (l0 : K.lookup f0 = some ⟨oc0, od0, .func (PySem.W.fnOf "_law_mix" "_law_mix" (defArgs s_l_mix) (defBody s_l_mix) (defScope s_l_mix) .none kV0 dc0 pm0 an0 cd0 ct0), sl0⟩) (c0 : PySem.W.codeIn K cd0 "_law_mix" = true) (k0 : PySem.W.keepIn K (.ref f0) = true)
    (a1 : PySem.W.nsIn K mainGlobals "_law_next" = some (some (.ref f1)))
    (l1 : K.lookup f1 = some ⟨oc1, od1, .func (PySem.W.fnOf "_law_next" "_law_next" (defArgs s_l_next) (defBody s_l_next) (defScope s_l_next) .none kV1 dc1 pm1 an1 cd1 ct1), sl1⟩) (c1 : PySem.W.codeIn K cd1 "_law_next" = true) (k1 : PySem.W.keepIn K (.ref f1) = true)
    (a2 : PySem.W.nsIn K mainGlobals "_law_deal" = some (some (.ref f2)))
    (l2 : K.lookup f2 = some ⟨oc2, od2, .func (PySem.W.fnOf "_law_deal" "_law_deal" (defArgs s_l_deal) (defBody s_l_deal) (defScope s_l_deal) .none kV2 dc2 pm2 an2 cd2 ct2), sl2⟩) (c2 : PySem.W.codeIn K cd2 "_law_deal" = true) (k2 : PySem.W.keepIn K (.ref f2) = true)
    (a3 : PySem.W.nsIn K mainGlobals "_law_pick" = some (some (.ref f3)))
    (l3 : K.lookup f3 = some ⟨oc3, od3, .func (PySem.W.fnOf "_law_pick" "_law_pick" (defArgs s_l_pick) (defBody s_l_pick) (defScope s_l_pick) .none kV3 dc3 pm3 an3 cd3 ct3), sl3⟩) (c3 : PySem.W.codeIn K cd3 "_law_pick" = true) (k3 : PySem.W.keepIn K (.ref f3) = true)
    (a4 : PySem.W.nsIn K mainGlobals "_law_sizes" = some (some (.ref f4)))
    (l4 : K.lookup f4 = some ⟨oc4, od4, .func (PySem.W.fnOf "_law_sizes" "_law_sizes" (defArgs s_l_sizes) (defBody s_l_sizes) (defScope s_l_sizes) .none kV4 dc4 pm4 an4 cd4 ct4), sl4⟩) (c4 : PySem.W.codeIn K cd4 "_law_sizes" = true) (k4 : PySem.W.keepIn K (.ref f4) = true)
    (a5 : PySem.W.nsIn K mainGlobals "_law_changed" = some (some (.ref f5)))
    (l5 : K.lookup f5 = some ⟨oc5, od5, .func (PySem.W.fnOf "_law_changed" "_law_changed" (defArgs s_l_changed) (defBody s_l_changed) (defScope s_l_changed) .none kV5 dc5 pm5 an5 cd5 ct5), sl5⟩) (c5 : PySem.W.codeIn K cd5 "_law_changed" = true) (k5 : PySem.W.keepIn K (.ref f5) = true)
    (a6 : PySem.W.nsIn K mainGlobals "_law_alike" = some (some (.ref f6)))
    (l6 : K.lookup f6 = some ⟨oc6, od6, .func (PySem.W.fnOf "_law_alike" "_law_alike" (defArgs s_l_alike) (defBody s_l_alike) (defScope s_l_alike) .none kV6 dc6 pm6 an6 cd6 ct6), sl6⟩) (c6 : PySem.W.codeIn K cd6 "_law_alike" = true) (k6 : PySem.W.keepIn K (.ref f6) = true)
    (a7 : PySem.W.nsIn K mainGlobals "take_heap" = some (some (.ref f7)))
    (l7 : K.lookup f7 = some ⟨oc7, od7, .func (PySem.W.fnOf "take_heap" "take_heap" (defArgs s_take_heap) (defBody s_take_heap) (defScope s_take_heap) .none kV7 dc7 pm7 an7 cd7 ct7), sl7⟩) (c7 : PySem.W.codeIn K cd7 "take_heap" = true) (k7 : PySem.W.keepIn K (.ref f7) = true)
    (a8 : PySem.W.nsIn K mainGlobals "is_integer" = some (some (.ref f8)))
    (l8 : K.lookup f8 = some ⟨oc8, od8, .func (PySem.W.fnOf "is_integer" "is_integer" (defArgs s_is_integer) (defBody s_is_integer) (defScope s_is_integer) .none kV8 dc8 pm8 an8 cd8 ct8), sl8⟩) (c8 : PySem.W.codeIn K cd8 "is_integer" = true) (k8 : PySem.W.keepIn K (.ref f8) = true)
    (a9 : PySem.W.nsIn K mainGlobals "is_heap" = some (some (.ref f9)))
    (l9 : K.lookup f9 = some ⟨oc9, od9, .func (PySem.W.fnOf "is_heap" "is_heap" (defArgs s_is_heap) (defBody s_is_heap) (defScope s_is_heap) .none kV9 dc9 pm9 an9 cd9 ct9), sl9⟩) (c9 : PySem.W.codeIn K cd9 "is_heap" = true) (k9 : PySem.W.keepIn K (.ref f9) = true)
    (a10 : PySem.W.nsIn K mainGlobals "check_heaps" = some (some (.ref f10)))
    (l10 : K.lookup f10 = some ⟨oc10, od10, .func (PySem.W.fnOf "check_heaps" "check_heaps" (defArgs s_check_heaps) (defBody s_check_heaps) (defScope s_check_heaps) .none kV10 dc10 pm10 an10 cd10 ct10), sl10⟩) (c10 : PySem.W.codeIn K cd10 "check_heaps" = true) (k10 : PySem.W.keepIn K (.ref f10) = true)
    (a11 : PySem.W.findIn K (.ref C0) "__init__" = some (some (.ref f11)))
    (l11 : K.lookup f11 = some ⟨oc11, od11, .func (PySem.W.fnOf "__init__" "Pack.__init__" (defArgs s_Pack_init) (defBody s_Pack_init) (defScope s_Pack_init) .none kV11 dc11 pm11 an11 cd11 ct11), sl11⟩) (c11 : PySem.W.codeIn K cd11 "Pack.__init__" = true) (k11 : PySem.W.keepIn K (.ref f11) = true)
    (a12 : PySem.W.nsIn K mainGlobals "read" = some (some (.ref f12)))
    (l12 : K.lookup f12 = some ⟨oc12, od12, .func (PySem.W.fnOf "read" "read" (defArgs s_read) (defBody s_read) (defScope s_read) .none kV12 dc12 pm12 an12 cd12 ct12), sl12⟩) (c12 : PySem.W.codeIn K cd12 "read" = true) (k12 : PySem.W.keepIn K (.ref f12) = true)
    (a13 : PySem.W.nsIn K mainGlobals "_law_answer" = some (some (.ref f13)))
    (l13 : K.lookup f13 = some ⟨oc13, od13, .func (PySem.W.fnOf "_law_answer" "_law_answer" (defArgs s_l_answer) (defBody s_l_answer) (defScope s_l_answer) .none kV13 dc13 pm13 an13 cd13 ct13), sl13⟩) (c13 : PySem.W.codeIn K cd13 "_law_answer" = true) (k13 : PySem.W.keepIn K (.ref f13) = true)
    (a14 : PySem.W.nsIn K mainGlobals "_law_wrong" = some (some (.ref f14)))
    (l14 : K.lookup f14 = some ⟨oc14, od14, .func (PySem.W.fnOf "_law_wrong" "_law_wrong" (defArgs s_l_wrong) (defBody s_l_wrong) (defScope s_l_wrong) .none kV14 dc14 pm14 an14 cd14 ct14), sl14⟩) (c14 : PySem.W.codeIn K cd14 "_law_wrong" = true) (k14 : PySem.W.keepIn K (.ref f14) = true)
    (a15 : PySem.W.nsIn K mainGlobals "_law_due" = some (some (.ref f15)))
    (l15 : K.lookup f15 = some ⟨oc15, od15, .func (PySem.W.fnOf "_law_due" "_law_due" (defArgs s_l_due) (defBody s_l_due) (defScope s_l_due) .none kV15 dc15 pm15 an15 cd15 ct15), sl15⟩) (c15 : PySem.W.codeIn K cd15 "_law_due" = true) (k15 : PySem.W.keepIn K (.ref f15) = true)
    (a16 : PySem.W.nsIn K mainGlobals "law" = some (some (.ref f16)))
    (l16 : K.lookup f16 = some ⟨oc16, od16, .func (PySem.W.fnOf "law" "law" (defArgs s_law) (defBody s_law) (defScope s_law) .none kV16 dc16 pm16 an16 cd16 ct16), sl16⟩) (c16 : PySem.W.codeIn K cd16 "law" = true) (k16 : PySem.W.keepIn K (.ref f16) = true)
    (z_all : PySem.W.nsIn K mainGlobals "all" = some none)
    (z_bool : PySem.W.nsIn K mainGlobals "bool" = some none)
    (z_enumerate : PySem.W.nsIn K mainGlobals "enumerate" = some none)
    (z_int : PySem.W.nsIn K mainGlobals "int" = some none)
    (z_isinstance : PySem.W.nsIn K mainGlobals "isinstance" = some none)
    (z_len : PySem.W.nsIn K mainGlobals "len" = some none)
    (z_list : PySem.W.nsIn K mainGlobals "list" = some none)
    (z_max : PySem.W.nsIn K mainGlobals "max" = some none)
    (z_min : PySem.W.nsIn K mainGlobals "min" = some none)
    (z_range : PySem.W.nsIn K mainGlobals "range" = some none)
    (z_str : PySem.W.nsIn K mainGlobals "str" = some none)
    (z_sum : PySem.W.nsIn K mainGlobals "sum" = some none)
    (z_tuple : PySem.W.nsIn K mainGlobals "tuple" = some none)
    (y_MOST_HEAPS : PySem.W.nsIn K mainGlobals "MOST_HEAPS" = some (some (.int 8 t_MOST_HEAPS)))
    (y_MOST_CARDS : PySem.W.nsIn K mainGlobals "MOST_CARDS" = some (some (.int 8 t_MOST_CARDS)))
    (pg0 : PySem.W.plainGet K C0 Str.empty = true) (hd0 : PySem.W.hasDictIn K C0 = true) (po0 : PySem.W.plainOver K C0 = true) (sa0 : PySem.W.findIn K (.ref C0) "__setattr__" = some (some (.builtin "object.__setattr__"))) (ms0 : PySem.W.makesIn K C0 = true) (fn0 : PySem.W.isFn K (.ref f11) = true) (kp0 : PySem.W.keepIn K (.ref C0) = true)
    (no_rows : PySem.W.findIn K (.ref C0) "rows" = some none)
    (eC2 : PySem.W.subIn K (.ref C2) (.type "BaseException") = some true)
    (hC2 : PySem.W.hasDictIn K C2 = true)
    (tC2 : PySem.W.typeIn K (.ref C2) = some (.type "type"))
    (eC3 : PySem.W.subIn K (.ref C3) (.type "BaseException") = some true)
    (hC3 : PySem.W.hasDictIn K C3 = true)
    (tC3 : PySem.W.typeIn K (.ref C3) = some (.type "type"))
    (eC4 : PySem.W.subIn K (.ref C4) (.type "BaseException") = some true)
    (hC4 : PySem.W.hasDictIn K C4 = true)
    (tC4 : PySem.W.typeIn K (.ref C4) = some (.type "type"))
    (eC10 : PySem.W.subIn K (.ref C10) (.type "BaseException") = some true)
    (hC10 : PySem.W.hasDictIn K C10 = true)
    (tC10 : PySem.W.typeIn K (.ref C10) = some (.type "type"))
    (sb10_10 : PySem.W.subIn K (.ref C10) (.ref C10) = some true)
    (sb3_10 : PySem.W.subIn K (.ref C3) (.ref C10) = some false)
    (sb4_10 : PySem.W.subIn K (.ref C4) (.ref C10) = some false)
    (sb4_4 : PySem.W.subIn K (.ref C4) (.ref C4) = some true)
    (ga10 : PySem.W.findIn K (.ref C10) "__getattribute__" = some (some (.builtin "BaseException.__getattribute__")))
    (gg10 : PySem.W.findIn K (.ref C10) "__getattr__" = some none)
    (xa10 : PySem.W.findIn K (.ref C10) "__class__" = some (some (.builtin "object.__class__")))
    (xb10 : PySem.W.specialIn K (.builtin "object.__class__") "__get__" = some (some (.builtin "getset_descriptor.__get__")))
    (xc10 : PySem.W.takesIn K (.builtin "object.__class__") = some true)
    (xd10 : PySem.W.mroIn K C10 (.type "object") = some true)
    (ga4 : PySem.W.findIn K (.ref C4) "__getattribute__" = some (some (.builtin "BaseException.__getattribute__")))
    (gg4 : PySem.W.findIn K (.ref C4) "__getattr__" = some none)
    (xa4 : PySem.W.findIn K (.ref C4) "__class__" = some (some (.builtin "object.__class__")))
    (xb4 : PySem.W.specialIn K (.builtin "object.__class__") "__get__" = some (some (.builtin "getset_descriptor.__get__")))
    (xc4 : PySem.W.takesIn K (.builtin "object.__class__") = some true)
    (xd4 : PySem.W.mroIn K C4 (.type "object") = some true)
    (qxn_10_line : PySem.W.findIn K (.ref C10) "line" = some none)
    (qxn_10_word : PySem.W.findIn K (.ref C10) "word" = some none)
    (qxn_4_heap : PySem.W.findIn K (.ref C4) "heap" = some none)
    (qki_10_2 : PySem.W.kitOne K (.ref C10) (.ref C2) = some true)
    (z_super : PySem.W.nsIn K mainGlobals "super" = some none)
    (opq : PySem.W.nsIn K PySem.cStatics "thirdparty.any" = some none)
    (tops : (l.prog.main.scope.names.lookup ("super" : Str)).isSome = false)
    (kC3 : PySem.W.keepIn K (.ref C3) = true)
    (xL3 : K.lookup C3 = some (excClassObj nmx3 qnx3 C3 Nx3 bsx3 bmx3 true snx3 sux3 abx3 cox3 ddx3 kax3 kbx3 kcx3 kdx3 kex3 "ValueError.__new__"))
    (rv3 : PySem.HandSPX.refsVE bmx3 = true)
    (sat3 : PySem.W.findIn K (.ref C3) "__setattr__" = some (some (.builtin "object.__setattr__")))
    (ini3 : PySem.W.findIn K (.ref C3) "__init__" = some (some (.ref fIx3)))
    (tf3 : PySem.W.typeIn K (.ref fIx3) = some (.type "function"))
    (sup3 : PySem.W.ks_superIn K C3 C3 "__init__" = some (some (.builtin "ValueError.__init__")))
    (ms3_ : PySem.W.mroIn K C3 (.ref C3) = some true)
    (vE3 : PySem.W.subIn K (.ref C3) (.type "ValueError") = some true)
    (nf3_index : PySem.W.findIn K (.ref C3) "index" = some none)
    (lk3 : K.lookup fIx3 = some ⟨ocx3, odx3, .func (PySem.W.ksFn "__init__" "BadHeaps.__init__" (defArgs s_BadHeaps_init) (defBody s_BadHeaps_init) (defScope s_BadHeaps_init) .none kVx3 dcx3 pmx3 anx3 (.ref cdax3) ctx3 ccx3), slx3⟩)
    (cd3 : PySem.W.codeIn K (.ref cdax3) "BadHeaps.__init__" = true)
    (lc3 : K.lookup cdax3 = some ⟨cclx3, cddx3, .fields vsx3, ccsx3⟩)
    (v23 : vsx3[2]? = some (.str fix3 tfx3))
    (wf3 : ((l.prog.main.file : Str) == fix3) = true)
    (ce3 : K.lookup ccx3 = some ⟨clx3, cldx3, .cell (some (.ref C3)), cslx3⟩)
    (kC4 : PySem.W.keepIn K (.ref C4) = true)
    (xL4 : K.lookup C4 = some (excClassObj nmx4 qnx4 C4 Nx4 bsx4 bmx4 true snx4 sux4 abx4 cox4 ddx4 kax4 kbx4 kcx4 kdx4 kex4 "ValueError.__new__"))
    (rv4 : PySem.HandSPX.refsVE bmx4 = true)
    (sat4 : PySem.W.findIn K (.ref C4) "__setattr__" = some (some (.builtin "object.__setattr__")))
    (ini4 : PySem.W.findIn K (.ref C4) "__init__" = some (some (.ref fIx4)))
    (tf4 : PySem.W.typeIn K (.ref fIx4) = some (.type "function"))
    (sup4 : PySem.W.ks_superIn K C4 C4 "__init__" = some (some (.builtin "ValueError.__init__")))
    (ms4_ : PySem.W.mroIn K C4 (.ref C4) = some true)
    (vE4 : PySem.W.subIn K (.ref C4) (.type "ValueError") = some true)
    (nf4_heap : PySem.W.findIn K (.ref C4) "heap" = some none)
    (lk4 : K.lookup fIx4 = some ⟨ocx4, odx4, .func (PySem.W.ksFn "__init__" "Unfitting.__init__" (defArgs s_Unfitting_init) (defBody s_Unfitting_init) (defScope s_Unfitting_init) .none kVx4 dcx4 pmx4 anx4 (.ref cdax4) ctx4 ccx4), slx4⟩)
    (cd4 : PySem.W.codeIn K (.ref cdax4) "Unfitting.__init__" = true)
    (lc4 : K.lookup cdax4 = some ⟨cclx4, cddx4, .fields vsx4, ccsx4⟩)
    (v24 : vsx4[2]? = some (.str fix4 tfx4))
    (wf4 : ((l.prog.main.file : Str) == fix4) = true)
    (ce4 : K.lookup ccx4 = some ⟨clx4, cldx4, .cell (some (.ref C4)), cslx4⟩)
    (kC10 : PySem.W.keepIn K (.ref C10) = true)
    (xL10 : K.lookup C10 = some (excClassObj nmx10 qnx10 C10 Nx10 bsx10 bmx10 true snx10 sux10 abx10 cox10 ddx10 kax10 kbx10 kcx10 kdx10 kex10 "ValueError.__new__"))
    (rv10 : PySem.HandSPX.refsVE bmx10 = true)
    (sat10 : PySem.W.findIn K (.ref C10) "__setattr__" = some (some (.builtin "object.__setattr__")))
    (ini10 : PySem.W.findIn K (.ref C10) "__init__" = some (some (.ref fIx10)))
    (tf10 : PySem.W.typeIn K (.ref fIx10) = some (.type "function"))
    (sup10 : PySem.W.ks_superIn K C10 C10 "__init__" = some (some (.builtin "ValueError.__init__")))
    (ms10_ : PySem.W.mroIn K C10 (.ref C10) = some true)
    (vE10 : PySem.W.subIn K (.ref C10) (.type "ValueError") = some true)
    (nf10_line : PySem.W.findIn K (.ref C10) "line" = some none)
    (nf10_word : PySem.W.findIn K (.ref C10) "word" = some none)
    (lk10 : K.lookup fIx10 = some ⟨ocx10, odx10, .func (PySem.W.ksFn "__init__" "InvalidText.__init__" (defArgs s_InvalidText_init) (defBody s_InvalidText_init) (defScope s_InvalidText_init) .none kVx10 dcx10 pmx10 anx10 (.ref cdax10) ctx10 ccx10), slx10⟩)
    (cd10 : PySem.W.codeIn K (.ref cdax10) "InvalidText.__init__" = true)
    (lc10 : K.lookup cdax10 = some ⟨cclx10, cddx10, .fields vsx10, ccsx10⟩)
    (v210 : vsx10[2]? = some (.str fix10 tfx10))
    (wf10 : ((l.prog.main.file : Str) == fix10) = true)
    (ce10 : K.lookup ccx10 = some ⟨clx10, cldx10, .cell (some (.ref C10)), cslx10⟩) :
    ∃ fd : FuncData, (∀ (s : Shared) (v : Value), BindsTo s fd ⟨[v], []⟩ [("_law_script", v)]) ∧ ∀ base : Heap, K.In base → base.Ns mainGlobals mg → FnOk l.prog w K mg base (L2.CX l.prog w) 11 fa fd ["_law_script"] (spTrue K) := by
  have e := hfa.symm.trans (PySem.W.mg_of X Gn a16)
  cases e
  let T : Txt l.prog K mg (fun n => match n with | 0 => C0 | 2 => C2 | 3 => C3 | 4 => C4 | 10 => C10 | _ => 0) :=
   { a_l_mix := f0, d_l_mix := _, F_l_mix := fun_mk (st := s_l_mix) l0 c0 k0, b_l_mix := (fun_mk (st := s_l_mix) l0 c0 k0).binds (ps := ["_law_script", "_law_seed"]) fun _ _ _ _ _ _ us hl => match us, hl with | [_, _], _ => rfl,
     m_l_mix := PySem.W.mg_of X Gn a0,
     a_l_next := f1, d_l_next := _, F_l_next := fun_mk (st := s_l_next) l1 c1 k1, b_l_next := (fun_mk (st := s_l_next) l1 c1 k1).binds (ps := ["_law_h", "_law_cap"]) fun _ _ _ _ _ _ us hl => match us, hl with | [_, _], _ => rfl,
     m_l_next := PySem.W.mg_of X Gn a1,
     a_l_deal := f2, d_l_deal := _, F_l_deal := fun_mk (st := s_l_deal) l2 c2 k2, b_l_deal := (fun_mk (st := s_l_deal) l2 c2 k2).binds (ps := ["_law_h", "_law_sizes_here"]) fun _ _ _ _ _ _ us hl => match us, hl with | [_, _], _ => rfl,
     m_l_deal := PySem.W.mg_of X Gn a2,
     a_l_pick := f3, d_l_pick := _, F_l_pick := fun_mk (st := s_l_pick) l3 c3 k3, b_l_pick := (fun_mk (st := s_l_pick) l3 c3 k3).binds (ps := ["_law_h", "_law_things"]) fun _ _ _ _ _ _ us hl => match us, hl with | [_, _], _ => rfl,
     m_l_pick := PySem.W.mg_of X Gn a3,
     a_l_sizes := f4, d_l_sizes := _, F_l_sizes := fun_mk (st := s_l_sizes) l4 c4 k4, b_l_sizes := (fun_mk (st := s_l_sizes) l4 c4 k4).binds (ps := ["_law_h", "_law_many", "_law_most"]) fun _ _ _ _ _ _ us hl => match us, hl with | [_, _, _], _ => rfl,
     m_l_sizes := PySem.W.mg_of X Gn a4,
     a_l_changed := f5, d_l_changed := _, F_l_changed := fun_mk (st := s_l_changed) l5 c5 k5, b_l_changed := (fun_mk (st := s_l_changed) l5 c5 k5).binds (ps := ["_law_h", "_law_lines", "_law_odd"]) fun _ _ _ _ _ _ us hl => match us, hl with | [_, _, _], _ => rfl,
     m_l_changed := PySem.W.mg_of X Gn a5,
     a_l_alike := f6, d_l_alike := _, F_l_alike := fun_mk (st := s_l_alike) l6 c6 k6, b_l_alike := (fun_mk (st := s_l_alike) l6 c6 k6).binds (ps := ["_law_found", "_law_due_here"]) fun _ _ _ _ _ _ us hl => match us, hl with | [_, _], _ => rfl,
     m_l_alike := PySem.W.mg_of X Gn a6,
     a_take_heap := f7, d_take_heap := _, F_take_heap := fun_mk (st := s_take_heap) l7 c7 k7, b_take_heap := (fun_mk (st := s_take_heap) l7 c7 k7).binds (ps := ["words", "many", "line"]) fun _ _ _ _ _ _ us hl => match us, hl with | [_, _, _], _ => rfl,
     m_take_heap := PySem.W.mg_of X Gn a7,
     a_is_integer := f8, d_is_integer := _, F_is_integer := fun_mk (st := s_is_integer) l8 c8 k8, b_is_integer := (fun_mk (st := s_is_integer) l8 c8 k8).binds (ps := ["thing", "low", "high"]) fun _ _ _ _ _ _ us hl => match us, hl with | [_, _, _], _ => rfl,
     m_is_integer := PySem.W.mg_of X Gn a8,
     a_is_heap := f9, d_is_heap := _, F_is_heap := fun_mk (st := s_is_heap) l9 c9 k9, b_is_heap := (fun_mk (st := s_is_heap) l9 c9 k9).binds (ps := ["thing", "many"]) fun _ _ _ _ _ _ us hl => match us, hl with | [_, _], _ => rfl,
     m_is_heap := PySem.W.mg_of X Gn a9,
     a_check_heaps := f10, d_check_heaps := _, F_check_heaps := fun_mk (st := s_check_heaps) l10 c10 k10, b_check_heaps := (fun_mk (st := s_check_heaps) l10 c10 k10).binds (ps := ["thing"]) fun _ _ _ _ _ _ us hl => match us, hl with | [_], _ => rfl,
     m_check_heaps := PySem.W.mg_of X Gn a10,
     a_Pack_init := f11, d_Pack_init := _, F_Pack_init := fun_mk (st := s_Pack_init) l11 c11 k11, b_Pack_init := (fun_mk (st := s_Pack_init) l11 c11 k11).binds (ps := ["self", "heaps"]) fun _ _ _ _ _ _ us hl => match us, hl with | [_, _], _ => rfl,
     a_read := f12, d_read := _, F_read := fun_mk (st := s_read) l12 c12 k12, b_read := (fun_mk (st := s_read) l12 c12 k12).binds (ps := ["text"]) fun _ _ _ _ _ _ us hl => match us, hl with | [_], _ => rfl,
     m_read := PySem.W.mg_of X Gn a12,
     a_l_answer := f13, d_l_answer := _, F_l_answer := fun_mk (st := s_l_answer) l13 c13 k13, b_l_answer := (fun_mk (st := s_l_answer) l13 c13 k13).binds (ps := ["_law_text"]) fun _ _ _ _ _ _ us hl => match us, hl with | [_], _ => rfl,
     m_l_answer := PySem.W.mg_of X Gn a13,
     a_l_wrong := f14, d_l_wrong := _, F_l_wrong := fun_mk (st := s_l_wrong) l14 c14 k14, b_l_wrong := (fun_mk (st := s_l_wrong) l14 c14 k14).binds (ps := ["_law_k", "_law_row", "_law_many"]) fun _ _ _ _ _ _ us hl => match us, hl with | [_, _, _], _ => rfl,
     m_l_wrong := PySem.W.mg_of X Gn a14,
     a_l_due := f15, d_l_due := _, F_l_due := fun_mk (st := s_l_due) l15 c15 k15, b_l_due := (fun_mk (st := s_l_due) l15 c15 k15).binds (ps := ["_law_lines"]) fun _ _ _ _ _ _ us hl => match us, hl with | [_], _ => rfl,
     m_l_due := PySem.W.mg_of X Gn a15,
     a_law := fa, d_law := _, F_law := fun_mk (st := s_law) l16 c16 k16, b_law := (fun_mk (st := s_law) l16 c16 k16).binds (ps := ["_law_script"]) fun _ _ _ _ _ _ us hl => match us, hl with | [_], _ => rfl,
     m_law := PySem.W.mg_of X Gn a16,
     n_all := PySem.W.mg_none_of X Gn z_all,
     n_bool := PySem.W.mg_none_of X Gn z_bool,
     n_enumerate := PySem.W.mg_none_of X Gn z_enumerate,
     n_int := PySem.W.mg_none_of X Gn z_int,
     n_isinstance := PySem.W.mg_none_of X Gn z_isinstance,
     n_len := PySem.W.mg_none_of X Gn z_len,
     n_list := PySem.W.mg_none_of X Gn z_list,
     n_max := PySem.W.mg_none_of X Gn z_max,
     n_min := PySem.W.mg_none_of X Gn z_min,
     n_range := PySem.W.mg_none_of X Gn z_range,
     n_str := PySem.W.mg_none_of X Gn z_str,
     n_sum := PySem.W.mg_none_of X Gn z_sum,
     n_tuple := PySem.W.mg_none_of X Gn z_tuple,
     u_MOST_HEAPS := _, c_MOST_HEAPS := PySem.W.mg_of X Gn y_MOST_HEAPS, r_MOST_HEAPS := ⟨_, rfl⟩,
     u_MOST_CARDS := _, c_MOST_CARDS := PySem.W.mg_of X Gn y_MOST_CARDS, r_MOST_CARDS := ⟨_, rfl⟩,
     cls_0 := ⟨pg0, hd0, po0, sa0⟩, m_Pack := PySem.W.mg_of X Gn aC0, mk_Pack := ⟨ms0, a11, fn0, kp0⟩,
     no_rows := no_rows,
     m_HeapError := PySem.W.mg_of X Gn aC2,
     m_BadHeaps := PySem.W.mg_of X Gn aC3,
     m_Unfitting := PySem.W.mg_of X Gn aC4,
     m_InvalidText := PySem.W.mg_of X Gn aC10,
     ex_10_10 := PySem.W.exm_ref eC10 hC10 tC10 sb10_10,
     ex_3_10 := PySem.W.exm_ref eC10 hC10 tC10 sb3_10,
     ex_4_10 := PySem.W.exm_ref eC10 hC10 tC10 sb4_10,
     ex_4_4 := PySem.W.exm_ref eC4 hC4 tC4 sb4_4,
     xh_10 := ⟨⟨ga10, gg10, eC10, hC10⟩, cls_of_hd hC10, xa10, xb10, xc10, xd10⟩,
     xh_4 := ⟨⟨ga4, gg4, eC4, hC4⟩, cls_of_hd hC4, xa4, xb4, xc4, xd4⟩,
     xn_10_line := qxn_10_line,
     xn_10_word := qxn_10_word,
     xn_4_heap := qxn_4_heap,
     ki_10_2 := qki_10_2,
     xm_BadHeaps := xmk1 (qual := "BadHeaps.__init__") (f := "index") (PySem.DLX.XCl.mk ⟨_, _, _, _, _, _, _, _, _, _, _, _, _, _, _, xL3, rv3⟩ sat3 ini3 tf3 kC3 eC3 tC3 sup3 opq ms3_ vE3 (PySem.W.mg_none_of X Gn z_super) tops) ⟨_, _, _, _, _, _, _, _, _, _, _, _, _, _, _, _, _, _, _, _, lk3, cd3, lc3, v23, wf3, ce3, rfl⟩ nf3_index (fun _ _ _ => ⟨rfl, rfl, _, rfl⟩) (fun _ _ _ _ _ _ _ _ _ _ _ e => by subst e; exact .of_eq rfl) rfl rfl (by decide) (by decide) (by decide +kernel) (by decide +kernel) (by decide +kernel) (fun _ _ _ => rfl),
     xm_Unfitting := xmk1 (qual := "Unfitting.__init__") (f := "heap") (PySem.DLX.XCl.mk ⟨_, _, _, _, _, _, _, _, _, _, _, _, _, _, _, xL4, rv4⟩ sat4 ini4 tf4 kC4 eC4 tC4 sup4 opq ms4_ vE4 (PySem.W.mg_none_of X Gn z_super) tops) ⟨_, _, _, _, _, _, _, _, _, _, _, _, _, _, _, _, _, _, _, _, lk4, cd4, lc4, v24, wf4, ce4, rfl⟩ nf4_heap (fun _ _ _ => ⟨rfl, rfl, _, rfl⟩) (fun _ _ _ _ _ _ _ _ _ _ _ e => by subst e; exact .of_eq rfl) rfl rfl (by decide) (by decide) (by decide +kernel) (by decide +kernel) (by decide +kernel) (fun _ _ _ => rfl),
     xm_InvalidText := xmk2 (qual := "InvalidText.__init__") (f := "line") (g := "word") (PySem.DLX.XCl.mk ⟨_, _, _, _, _, _, _, _, _, _, _, _, _, _, _, xL10, rv10⟩ sat10 ini10 tf10 kC10 eC10 tC10 sup10 opq ms10_ vE10 (PySem.W.mg_none_of X Gn z_super) tops) ⟨_, _, _, _, _, _, _, _, _, _, _, _, _, _, _, _, _, _, _, _, lk10, cd10, lc10, v210, wf10, ce10, rfl⟩ nf10_line nf10_word (fun _ _ _ => ⟨rfl, rfl, _, rfl⟩) (fun _ _ _ _ _ _ _ _ _ _ _ _ e => by subst e; exact .of_eq rfl) rfl rfl (by decide) (by decide) (by decide) (by decide) (by decide) (by decide +kernel) (by decide +kernel) (by decide +kernel) (by decide +kernel) (fun _ _ _ => rfl) (fun _ _ _ => rfl) }
  exact ⟨PySem.W.fnOf "law" "law" (defArgs s_law) (defBody s_law) (defScope s_law) .none kV16 dc16 pm16 an16 cd16 ct16, fun s v => .of_eq rfl, fun base _ _ => fn_true (ok_law T) DL.law_k11_true⟩
end LW
open PySem PySem.W PyProof.Rows
set_option maxHeartbeats 0 in
theorem PySem.Challenge.cw_heapleads_k11_texts_refused_holds : PySem.Challenge.rw_heapleads_k11_texts_refused.Holds := by
  w_on; o_law; k_head; (case hw => w_witness2)
  k_fill
  refine L2.walk_of (l := PySem.Challenge.rw_heapleads_k11_texts_refused) (n := 63) (k := 11) (x := "_law_script") (CX := fun w => L2.CX PySem.Challenge.rw_heapleads_k11_texts_refused.prog w) (sp := fun w => DL.spTrue _) rfl (by decide) rfl ⟨rfl, by decide, by decide⟩ (fun w h Y => PySem.W.kIn_of Y) ?F (fun _ _ a ns hl _ hS => ⟨a, ns, rfl, hS, hl, fun _ => rfl⟩) (fun _ _ _ _ _ h => DL.cx_false h)
  case F =>
    intro w mg fa h KX Gn hmg
    refine' LW.all_mk KX Gn hmg ?aC10 ?aC4 ?aC3 ?aC2 ?aC0 ?a0 ?l0 ?c0 ?k0 ?a1 ?l1 ?c1 ?k1 ?a2 ?l2 ?c2 ?k2 ?a3 ?l3 ?c3 ?k3 ?a4 ?l4 ?c4 ?k4 ?a5 ?l5 ?c5 ?k5 ?a6 ?l6 ?c6 ?k6 ?a7 ?l7 ?c7 ?k7 ?a8 ?l8 ?c8 ?k8 ?a9 ?l9 ?c9 ?k9 ?a10 ?l10 ?c10 ?k10 ?a11 ?l11 ?c11 ?k11 ?a12 ?l12 ?c12 ?k12 ?a13 ?l13 ?c13 ?k13 ?a14 ?l14 ?c14 ?k14 ?a15 ?l15 ?c15 ?k15 ?a16 ?l16 ?c16 ?k16 ?z_all ?z_bool ?z_enumerate ?z_int ?z_isinstance ?z_len ?z_list ?z_max ?z_min ?z_range ?z_str ?z_sum ?z_tuple ?y_MOST_HEAPS ?y_MOST_CARDS ?pg0 ?hd0 ?po0 ?sa0 ?ms0 ?fn0 ?kp0 ?no_rows ?eC2 ?hC2 ?tC2 ?eC3 ?hC3 ?tC3 ?eC4 ?hC4 ?tC4 ?eC10 ?hC10 ?tC10 ?sb10_10 ?sb3_10 ?sb4_10 ?sb4_4 ?ga10 ?gg10 ?xa10 ?xb10 ?xc10 ?xd10 ?ga4 ?gg4 ?xa4 ?xb4 ?xc4 ?xd4 ?qxn_10_line ?qxn_10_word ?qxn_4_heap ?qki_10_2 ?z_super ?opq ?tops ?kC3 ?xL3 ?rv3 ?sat3 ?ini3 ?tf3 ?sup3 ?ms3_ ?vE3 ?nf3_index ?lk3 ?cd3 ?lc3 ?v23 ?wf3 ?ce3 ?kC4 ?xL4 ?rv4 ?sat4 ?ini4 ?tf4 ?sup4 ?ms4_ ?vE4 ?nf4_heap ?lk4 ?cd4 ?lc4 ?v24 ?wf4 ?ce4 ?kC10 ?xL10 ?rv10 ?sat10 ?ini10 ?tf10 ?sup10 ?ms10_ ?vE10 ?nf10_line ?nf10_word ?lk10 ?cd10 ?lc10 ?v210 ?wf10 ?ce10
    (case aC10 => k_is); (case aC4 => k_is); (case aC3 => k_is); (case aC2 => k_is); (case aC0 => k_is); (case a0 => k_is); (case l0 => k_is); (case c0 => k_is)
    (case k0 => k_is); (case a1 => k_is); (case l1 => k_is); (case c1 => k_is); (case k1 => k_is); (case a2 => k_is); (case l2 => k_is); (case c2 => k_is)
    (case k2 => k_is); (case a3 => k_is); (case l3 => k_is); (case c3 => k_is); (case k3 => k_is); (case a4 => k_is); (case l4 => k_is); (case c4 => k_is)
    (case k4 => k_is); (case a5 => k_is); (case l5 => k_is); (case c5 => k_is); (case k5 => k_is); (case a6 => k_is); (case l6 => k_is); (case c6 => k_is)
    (case k6 => k_is); (case a7 => k_is); (case l7 => k_is); (case c7 => k_is); (case k7 => k_is); (case a8 => k_is); (case l8 => k_is); (case c8 => k_is)
    (case k8 => k_is); (case a9 => k_is); (case l9 => k_is); (case c9 => k_is); (case k9 => k_is); (case a10 => k_is); (case l10 => k_is); (case c10 => k_is)
    (case k10 => k_is); (case a11 => k_is); (case l11 => k_is); (case c11 => k_is); (case k11 => k_is); (case a12 => k_is); (case l12 => k_is); (case c12 => k_is)
    (case k12 => k_is); (case a13 => k_is); (case l13 => k_is); (case c13 => k_is); (case k13 => k_is); (case a14 => k_is); (case l14 => k_is); (case c14 => k_is)
    (case k14 => k_is); (case a15 => k_is); (case l15 => k_is); (case c15 => k_is); (case k15 => k_is); (case a16 => k_is); (case l16 => k_is); (case c16 => k_is)
    (case k16 => k_is); (case z_all => k_is); (case z_bool => k_is); (case z_enumerate => k_is); (case z_int => k_is); (case z_isinstance => k_is); (case z_len => k_is); (case z_list => k_is)
    (case z_max => k_is); (case z_min => k_is); (case z_range => k_is); (case z_str => k_is); (case z_sum => k_is); (case z_tuple => k_is); (case y_MOST_HEAPS => k_is); (case y_MOST_CARDS => k_is)
    (case pg0 => k_is); (case hd0 => k_is); (case po0 => k_is); (case sa0 => k_is); (case ms0 => k_is); (case fn0 => k_is); (case kp0 => k_is); (case no_rows => k_is)
    (case eC2 => k_is); (case hC2 => k_is); (case tC2 => k_is); (case eC3 => k_is); (case hC3 => k_is); (case tC3 => k_is); (case eC4 => k_is); (case hC4 => k_is)
    (case tC4 => k_is); (case eC10 => k_is); (case hC10 => k_is); (case tC10 => k_is); (case sb10_10 => first | k_is | rfl); (case sb3_10 => first | k_is | rfl); (case sb4_10 => first | k_is | rfl); (case sb4_4 => first | k_is | rfl)
    (case ga10 => k_is); (case gg10 => k_is); (case xa10 => k_is); (case xb10 => k_is); (case xc10 => k_is); (case xd10 => k_is); (case ga4 => k_is); (case gg4 => k_is)
    (case xa4 => k_is); (case xb4 => k_is); (case xc4 => k_is); (case xd4 => k_is); (case qxn_10_line => k_is); (case qxn_10_word => k_is); (case qxn_4_heap => k_is); (case qki_10_2 => kit_is)
    (case z_super => k_is); (case opq => k_is); (case tops => first | rfl | decide +kernel); (case kC3 => k_is); (case xL3 => k_is); (case rv3 => decide +kernel); (case sat3 => k_is); (case ini3 => k_is)
    (case tf3 => k_is); (case sup3 => ks_is); (case ms3_ => first | k_is | rfl); (case vE3 => k_is); (case nf3_index => k_is); (case lk3 => k_is); (case cd3 => k_is); (case lc3 => k_is)
    (case v23 => rfl); (case wf3 => first | rfl | decide +kernel); (case ce3 => k_is); (case kC4 => k_is); (case xL4 => k_is); (case rv4 => decide +kernel); (case sat4 => k_is); (case ini4 => k_is)
    (case tf4 => k_is); (case sup4 => ks_is); (case ms4_ => first | k_is | rfl); (case vE4 => k_is); (case nf4_heap => k_is); (case lk4 => k_is); (case cd4 => k_is); (case lc4 => k_is)
    (case v24 => rfl); (case wf4 => first | rfl | decide +kernel); (case ce4 => k_is); (case kC10 => k_is); (case xL10 => k_is); (case rv10 => decide +kernel); (case sat10 => k_is); (case ini10 => k_is)
    (case tf10 => k_is); (case sup10 => ks_is); (case ms10_ => first | k_is | rfl); (case vE10 => k_is); (case nf10_line => k_is); (case nf10_word => k_is); (case lk10 => k_is); (case cd10 => k_is)
    (case lc10 => k_is); (case v210 => rfl); (case wf10 => first | rfl | decide +kernel); (case ce10 => k_is)

