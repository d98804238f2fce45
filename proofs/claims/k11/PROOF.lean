import PyProof.Rows.All
import Wide.All
import OpenK.AllK
import Wide.FinOn
import HandS.ForMost
import HandS.ForExc
import HandS.ClsMeth
import HandS.Defaults
import HandS.Deep
import HandS.Style
import HandS.Walk
import HandS.FStr
import HandS.IsInst
import HandS.Property
import KE.KCallOwn
import HandS.RaiseMore
import KE.KOpsOwn
import PyProof.EqKinds
import HandS.SlotsOwn
import PyProof.LongRange
import PyProof.ListRange
import HandS.Conv
import HandS.New0
import HandS.HeadHook1
import HandS.Ends
import HandS.Head2
import PySem.Challenge.RW_unlikecalls_k11_whole_places_by_bytes
set_option Elab.async false
set_option linter.all false
set_option maxRecDepth 100000
set_option maxHeartbeats 0
namespace PyI
open PySem PySem.Spec PyProof.Rows L2
/-! data -/
inductive Dt where
  | non | bl (b : Bool) | int (i : Int) | str (x : Str)
  | lst (xs : List Dt) | tup (xs : List Dt) | dct (ks : List Key) (vs : List Dt)
  | ins (c : Nat) (ns : List Str) (vs : List Dt)
  | cel (k : Nat) | cls (c : Nat) | ty (n : String) | scr (xs : List Int)
/-- what a slot holds: shared data, or an object that is this frame's alone -/
inductive Bn where
  | p (d : Dt) | o (d : Dt)
structure Fx where
  K : PySem.W.Frag
  ca : Nat → Addr
  fa : Nat → Addr
structure Wd where
  G : Hp
  A : List Addr
structure Le (w w' : Wd) : Prop where
  g : ∀ a o, w.G a = some o → w'.G a = some o
  a : ∃ m, w'.A = w.A ++ m
theorem Le.refl (w : Wd) : Le w w := ⟨fun _ _ h => h, [], by simp⟩
theorem Le.trans {w w1 w2 : Wd} (x : Le w w1) (y : Le w1 w2) : Le w w2 := by
  obtain ⟨m, hm⟩ := x.a
  obtain ⟨n, hn⟩ := y.a
  exact ⟨fun a o h => y.g a o (x.g a o h), m ++ n, by rw [hn, hm, List.append_assoc]⟩
theorem Le.at {w w' : Wd} (x : Le w w') {k : Nat} {a : Addr} (h : w.A[k]? = some a) : w'.A[k]? = some a := by
  obtain ⟨m, hm⟩ := x.a
  rw [hm]
  have hk : k < w.A.length := (List.getElem?_eq_some_iff.mp h).1
  rw [List.getElem?_append_left hk]
  exact h
theorem rd_mono {H H' : Hp} {a : Addr} {u : HO} (e : ∀ a o, H a = some o → H' a = some o) (h : Rd H a u) : Rd H' a u := by
  rcases h with h | ⟨o, h⟩
  · exact .inl (e _ _ h)
  · exact .inr ⟨o, e _ _ h⟩
theorem sqL_mono {K : PySem.W.Frag} {H H' : Hp} {a : Addr} {xs : List V} (e : ∀ a o, H a = some o → H' a = some o) (h : SqL K H a xs) : SqL K H' a xs := by
  rcases h with h | h
  · exact .inl (rd_mono e h)
  · exact .inr h
theorem sqT_mono {K : PySem.W.Frag} {H H' : Hp} {a : Addr} {xs : List V} (e : ∀ a o, H a = some o → H' a = some o) (h : SqT K H a xs) : SqT K H' a xs := by
  rcases h with h | h
  · exact .inl (rd_mono e h)
  · exact .inr h
mutual
def Dn (F : Fx) (w : Wd) : Dt → V → Prop
  | .non, v => v = .non
  | .bl b, v => v = .bl b
  | .int i, v => v = .int i
  | .str x, v => v = .str x
  | .lst ds, v => ∃ a vs, v = .ref a ∧ w.G a = some (.lst vs) ∧ Dns F w ds vs
  | .tup ds, v => ∃ a vs, v = .ref a ∧ SqT F.K w.G a vs ∧ Dns F w ds vs
  | .dct ks ds, v => ∃ a vs, v = .ref a ∧ w.G a = some (.dK (ks.zip vs)) ∧ ks.length = vs.length ∧ Dns F w ds vs
  | .ins c ns ds, v => ∃ a dx vs, v = .ref a ∧ w.G a = some (.ins (F.ca c) dx (ns.zip vs)) ∧ ns.length = vs.length ∧ Dns F w ds vs
  | .cel k, v => ∃ a, v = .ref a ∧ w.A[k]? = some a
  | .cls c, v => v = .ref (F.ca c)
  | .ty n, v => v = .ty n
  | .scr xs, v => ∃ a, v = .ref a ∧ SqL F.K w.G a (xs.map V.int)
def Dns (F : Fx) (w : Wd) : List Dt → List V → Prop
  | [], vs => vs = []
  | d :: ds, vs => ∃ v r, vs = v :: r ∧ Dn F w d v ∧ Dns F w ds r
end
mutual
theorem Dn.mono {F : Fx} {w w' : Wd} (l : Le w w') : ∀ (d : Dt) {v : V}, Dn F w d v → Dn F w' d v
  | .non, _, h => h
  | .bl _, _, h => h
  | .int _, _, h => h
  | .str _, _, h => h
  | .lst ds, _, ⟨a, vs, e, s, r⟩ => ⟨a, vs, e, l.g _ _ s, Dns.mono l ds r⟩
  | .tup ds, _, ⟨a, vs, e, s, r⟩ => ⟨a, vs, e, sqT_mono l.g s, Dns.mono l ds r⟩
  | .dct ks ds, _, ⟨a, vs, e, s, n, r⟩ => ⟨a, vs, e, l.g _ _ s, n, Dns.mono l ds r⟩
  | .ins c ns ds, _, ⟨a, dx, vs, e, s, n, r⟩ => ⟨a, dx, vs, e, l.g _ _ s, n, Dns.mono l ds r⟩
  | .cel k, _, ⟨a, e, h⟩ => ⟨a, e, l.at h⟩
  | .cls _, _, h => h
  | .ty _, _, h => h
  | .scr _, _, ⟨a, e, h⟩ => ⟨a, e, sqL_mono l.g h⟩
theorem Dns.mono {F : Fx} {w w' : Wd} (l : Le w w') : ∀ (ds : List Dt) {vs : List V}, Dns F w ds vs → Dns F w' ds vs
  | [], _, h => h
  | d :: ds, _, ⟨v, r, e, h, t⟩ => ⟨v, r, e, Dn.mono l d h, Dns.mono l ds t⟩
end
theorem Dns.length {F : Fx} {w : Wd} : ∀ {ds : List Dt} {vs : List V}, Dns F w ds vs → ds.length = vs.length
  | [], _, h => by cases h; rfl
  | d :: ds, _, ⟨v, r, e, _, t⟩ => by subst e; simp [Dns.length t]
theorem Dns.get {F : Fx} {w : Wd} : ∀ {ds : List Dt} {vs : List V} {i : Nat} {d : Dt}, Dns F w ds vs → ds[i]? = some d → ∃ v, vs[i]? = some v ∧ Dn F w d v
  | [], _, _, _, _, e => by simp at e
  | d :: ds, _, 0, _, ⟨v, r, e, h, t⟩, e2 => by
    simp at e2
    subst e
    subst e2
    exact ⟨v, rfl, h⟩
  | d :: ds, _, i + 1, d', ⟨v, r, e, h, t⟩, e2 => by
    subst e
    obtain ⟨v', h1, h2⟩ := Dns.get (i := i) (d := d') t (by simpa using e2)
    exact ⟨v', by simpa using h1, h2⟩
theorem Dns.append {F : Fx} {w : Wd} : ∀ {ds es : List Dt} {vs us : List V}, Dns F w ds vs → Dns F w es us → Dns F w (ds ++ es) (vs ++ us)
  | [], _, _, _, h, t => by cases h; exact t
  | d :: ds, _, _, _, ⟨v, r, e, h, t⟩, q => by
    subst e
    exact ⟨v, r ++ _, rfl, h, Dns.append t q⟩
theorem Dns.set {F : Fx} {w : Wd} {d : Dt} {v : V} (h : Dn F w d v) : ∀ {ds : List Dt} {vs : List V} (i : Nat), Dns F w ds vs → Dns F w (ds.set i d) (vs.set i v)
  | [], _, _, q => by cases q; exact rfl
  | _ :: _, _, 0, ⟨v', r, e, _, t⟩ => by subst e; exact ⟨v, r, rfl, h, t⟩
  | _ :: ds, _, i + 1, ⟨v', r, e, h', t⟩ => by subst e; exact ⟨v', r.set i v, rfl, h', Dns.set h i t⟩
/-- the content of an object that may change -/
def Mc (F : Fx) (w : Wd) (H : Hp) (a : Addr) : Dt → Prop
  | .lst ds => ∃ vs, H a = some (.lst vs) ∧ Dns F w ds vs
  | .ins c ns ds => ∃ dx vs, H a = some (.ins (F.ca c) dx (ns.zip vs)) ∧ ns.length = vs.length ∧ Dns F w ds vs
  | _ => False
theorem Mc.there {F : Fx} {w : Wd} {H : Hp} {a : Addr} : ∀ {d : Dt}, Mc F w H a d → ∃ o, H a = some o
  | .lst _, ⟨_, h, _⟩ => ⟨_, h⟩
  | .ins _ _ _, ⟨_, _, h, _⟩ => ⟨_, h⟩
  | .non, h | .bl _, h | .int _, h | .str _, h | .tup _, h | .dct _ _, h | .cel _, h | .cls _, h | .ty _, h | .scr _, h => h.elim
theorem Mc.move {F : Fx} {w w' : Wd} {H H' : Hp} {a : Addr} (l : Le w w') (e : ∀ o, H a = some o → H' a = some o) : ∀ {d : Dt}, Mc F w H a d → Mc F w' H' a d
  | .lst ds, ⟨vs, h, r⟩ => ⟨vs, e _ h, Dns.mono l ds r⟩
  | .ins _ _ ds, ⟨dx, vs, h, n, r⟩ => ⟨dx, vs, e _ h, n, Dns.mono l ds r⟩
  | .non, h | .bl _, h | .int _, h | .str _, h | .tup _, h | .dct _ _, h | .cel _, h | .cls _, h | .ty _, h | .scr _, h => h.elim
structure Sto where
  r : List (Option Bn)
  m : List Dt
/-- a frame: the heap and the world at its entry; ex: what the caller hands over to be changed -/
structure Fm where
  H0 : Hp
  w0 : Wd
  ex : List Addr
  xi : List Addr
/-- the cells -/
structure Cs (F : Fx) (w : Wd) (H : Hp) (m : List Dt) : Prop where
  fr : ∀ a o, w.G a = some o → H a = some o
  nd : w.A.Nodup
  ln : w.A.length = m.length
  ce : ∀ a ∈ w.A, w.G a = none
  co : ∀ (k : Nat) a d, w.A[k]? = some a → m[k]? = some d → Mc F w H a d
/-- from the frame's entry to now -/
structure Xt (f : Fm) (w : Wd) (H : Hp) : Prop where
  le : Le f.w0 w
  gn : ∀ a o, w.G a = some o → f.w0.G a = some o ∨ f.H0 a = none ∨ a ∈ f.ex
  an : ∀ a ∈ w.A, a ∈ f.w0.A ∨ f.H0 a = none
  pr : ∀ a o, f.H0 a = some o → a ∉ f.w0.A → a ∉ f.ex → H a = some o
  xs : ∀ a ∈ f.ex, ∃ o, H a = some o
def insB : Dt → Bool
  | .ins _ _ _ => true
  | _ => false
/-- an address of the frame's own: new, or handed in; an instance: handed in -/
def Ofr (f : Fm) (a : Addr) (d : Dt) : Prop := (f.H0 a = none ∨ a ∈ f.ex) ∧ (insB d = true → a ∈ f.xi)
structure Rr (F : Fx) (f : Fm) (w : Wd) (σ : L2.St) (H : Hp) (S : Sto) : Prop where
  cs : Cs F w H S.m
  xt : Xt f w H
  sl : σ.length = S.r.length
  pu : ∀ (i : Nat) d, S.r[i]? = some (some (.p d)) → ∃ v, σ[i]? = some (some v) ∧ Dn F w d v
  ow : ∀ (i : Nat) d, S.r[i]? = some (some (.o d)) → ∃ a, σ[i]? = some (some (.ref a)) ∧ w.G a = none ∧ a ∉ w.A ∧ Mc F w H a d ∧ Ofr f a d
  dj : ∀ (i j : Nat) a d e, S.r[i]? = some (some (.o d)) → S.r[j]? = some (some (.o e)) → σ[i]? = some (some (.ref a)) → σ[j]? = some (some (.ref a)) → i = j
theorem Cs.some {F : Fx} {w : Wd} {H : Hp} {m : List Dt} (c : Cs F w H m) {a : Addr} (h : a ∈ w.A) : ∃ o, H a = some o := by
  obtain ⟨k, hk⟩ := List.mem_iff_getElem?.mp h
  have hl : k < w.A.length := (List.getElem?_eq_some_iff.mp hk).1
  rw [c.ln] at hl
  exact (c.co k a _ hk (List.getElem?_eq_getElem hl)).there
theorem Cs.new {F : Fx} {w : Wd} {H : Hp} {m : List Dt} (c : Cs F w H m) {p : Addr} (h : H p = none) : w.G p = none ∧ p ∉ w.A := by
  constructor
  · cases e : w.G p with
    | none => rfl
    | some o =>
      rw [c.fr p o e] at h
      cases h
  · intro q
    obtain ⟨o, e⟩ := c.some q
    rw [e] at h
    cases h
theorem le_upd {w : Wd} {p : Addr} {o : HO} (h : w.G p = none) : Le w ⟨upd w.G p o, w.A⟩ :=
  ⟨fun a u e => by
    show upd w.G p o a = some u
    rw [upd_ne (ne_of_none e h)]
    exact e, [], by simp⟩
theorem Xt.mem {f : Fm} {w : Wd} {H : Hp} (x : Xt f w H) {a : Addr} (h : a ∈ f.w0.A) : a ∈ w.A := by
  obtain ⟨m, hm⟩ := x.le.a
  rw [hm]
  exact List.mem_append_left _ h
theorem Rr.new0 {F : Fx} {f : Fm} {w : Wd} {σ : L2.St} {H : Hp} {S : Sto} (R : Rr F f w σ H S) {p : Addr} (h : H p = none) : f.H0 p = none := by
  obtain ⟨gp, ap⟩ := R.cs.new h
  cases e : f.H0 p with
  | none => rfl
  | some u =>
    by_cases h1 : p ∈ f.w0.A
    · exact absurd (R.xt.mem h1) ap
    · by_cases h2 : p ∈ f.ex
      · obtain ⟨o, q⟩ := R.xt.xs p h2
        rw [q] at h
        cases h
      · rw [R.xt.pr p u e h1 h2] at h
        cases h
/-- the heap and the world grow, no slot and no cell changes -/
theorem Rr.grow {F : Fx} {f : Fm} {w w' : Wd} {σ : L2.St} {H H' : Hp} {S : Sto} (R : Rr F f w σ H S) (l : Le w w') (hA : w'.A = w.A) (eH : ∀ a o, H a = some o → H' a = some o)
    (fr : ∀ a o, w'.G a = some o → H' a = some o) (gn : ∀ a o, w'.G a = some o → w.G a = some o ∨ H a = none) : Rr F f w' σ H' S := by
  have notG : ∀ a o, H a = some o → w.G a = none → w'.G a = none := fun a o h1 h2 => by
    cases e : w'.G a with
    | none => rfl
    | some u =>
      rcases gn a u e with q | q
      · rw [h2] at q
        cases q
      · rw [h1] at q
        cases q
  refine ⟨⟨fr, by rw [hA]; exact R.cs.nd, by rw [hA]; exact R.cs.ln, fun a ha => ?_, fun k a d h1 h2 => ?_⟩, ⟨R.xt.le.trans l, fun a o h => ?_, fun a ha => ?_, fun a o h1 h2 h3 => eH _ _ (R.xt.pr a o h1 h2 h3), fun a ha => ?_⟩, R.sl, fun i d h => ?_, fun i d h => ?_, R.dj⟩
  · rw [hA] at ha
    obtain ⟨o, ho⟩ := R.cs.some ha
    exact notG a o ho (R.cs.ce a ha)
  · rw [hA] at h1
    exact (R.cs.co k a d h1 h2).move l (fun o q => eH a o q)
  · rcases gn a o h with q | q
    · exact R.xt.gn a o q
    · exact .inr (.inl (R.new0 q))
  · rw [hA] at ha
    exact R.xt.an a ha
  · obtain ⟨o, q⟩ := R.xt.xs a ha
    exact ⟨o, eH _ _ q⟩
  · obtain ⟨v, h1, h2⟩ := R.pu i d h
    exact ⟨v, h1, Dn.mono l d h2⟩
  · obtain ⟨a, h1, h2, h3, h4, h5⟩ := R.ow i d h
    obtain ⟨o, ho⟩ := h4.there
    exact ⟨a, h1, notG a o ho h2, by rw [hA]; exact h3, h4.move l (fun o q => eH a o q), h5⟩
/-- a new object that nobody will change -/
theorem Rr.alloc {F : Fx} {f : Fm} {w : Wd} {σ : L2.St} {H : Hp} {S : Sto} (R : Rr F f w σ H S) {p : Addr} {o : HO} (h : H p = none) :
    Rr F f ⟨upd w.G p o, w.A⟩ σ (upd H p o) S ∧ Le w ⟨upd w.G p o, w.A⟩ := by
  have l : Le w ⟨upd w.G p o, w.A⟩ := le_upd (R.cs.new h).1
  refine ⟨R.grow l rfl (fun a u e => by rw [upd_ne (ne_of_none e h)]; exact e) (fun a u e => ?_) (fun a u e => ?_), l⟩
  · have e2 : upd w.G p o a = some u := e
    by_cases q : a = p
    · subst q
      rw [upd_same] at e2 ⊢
      exact e2
    · rw [upd_ne q] at e2 ⊢
      exact R.cs.fr a u e2
  · by_cases q : a = p
    · subst q
      exact .inr h
    · have e2 : upd w.G p o a = some u := e
      rw [upd_ne q] at e2
      exact .inl e2
/-- a new object, not shared yet -/
theorem Rr.fresh {F : Fx} {f : Fm} {w : Wd} {σ : L2.St} {H : Hp} {S : Sto} (R : Rr F f w σ H S) {p : Addr} {o : HO} (h : H p = none) : Rr F f w σ (upd H p o) S :=
  R.grow (Le.refl w) rfl (fun a u e => by rw [upd_ne (ne_of_none e h)]; exact e) (fun a u e => by rw [upd_ne (ne_of_none (R.cs.fr a u e) h)]; exact R.cs.fr a u e) fun a u e => .inl e
theorem get_set {α : Type} {l : List α} {i j : Nat} {x y : α} (h : (l.set i x)[j]? = some y) : (j = i ∧ y = x) ∨ (j ≠ i ∧ l[j]? = some y) := by
  by_cases e : i = j
  · subst e
    have hl : i < (l.set i x).length := (List.getElem?_eq_some_iff.mp h).1
    rw [List.length_set] at hl
    rw [List.getElem?_set_self hl] at h
    exact .inl ⟨rfl, (Option.some.inj h).symm⟩
  · rw [List.getElem?_set_ne e] at h
    exact .inr ⟨fun q => e q.symm, h⟩
/-- a slot gets shared data -/
theorem Rr.setP {F : Fx} {f : Fm} {w : Wd} {σ : L2.St} {H : Hp} {S : Sto} (R : Rr F f w σ H S) {i : Nat} {d : Dt} {v : V} (h : Dn F w d v) :
    Rr F f w (σ.set i (some v)) H ⟨S.r.set i (some (.p d)), S.m⟩ := by
  have low : ∀ {j : Nat} {x : Option Bn}, (S.r.set i (some (.p d)))[j]? = some x → j < σ.length := fun {j x} q => by
    have := (List.getElem?_eq_some_iff.mp q).1
    rw [List.length_set] at this
    rw [R.sl]
    exact this
  refine ⟨R.cs, R.xt, by simp [R.sl], fun j e q => ?_, fun j e q => ?_, fun j k a e e' q q' s s' => ?_⟩
  · rcases get_set q with ⟨rfl, z⟩ | ⟨n, z⟩
    · cases z
      exact ⟨v, List.getElem?_set_self (low q), h⟩
    · obtain ⟨v', h1, h2⟩ := R.pu j e z
      exact ⟨v', by rw [List.getElem?_set_ne (Ne.symm n)]; exact h1, h2⟩
  · rcases get_set q with ⟨rfl, z⟩ | ⟨n, z⟩
    · cases z
    · obtain ⟨a, h1, h2⟩ := R.ow j e z
      exact ⟨a, by rw [List.getElem?_set_ne (Ne.symm n)]; exact h1, h2⟩
  · rcases get_set q with ⟨rfl, z⟩ | ⟨n, z⟩
    · cases z
    · rcases get_set q' with ⟨rfl, z'⟩ | ⟨n', z'⟩
      · cases z'
      · rw [List.getElem?_set_ne (Ne.symm n)] at s
        rw [List.getElem?_set_ne (Ne.symm n')] at s'
        exact R.dj j k a e e' z z' s s'
/-- a slot gets an object of the frame's own, held by no other slot -/
theorem Rr.setO {F : Fx} {f : Fm} {w : Wd} {σ : L2.St} {H : Hp} {S : Sto} (R : Rr F f w σ H S) {i : Nat} {d : Dt} {a : Addr} (h1 : w.G a = none) (h2 : a ∉ w.A) (h3 : Mc F w H a d) (h4 : Ofr f a d)
    (h5 : ∀ (j : Nat) e, S.r[j]? = some (some (.o e)) → σ[j]? = some (some (.ref a)) → False) :
    Rr F f w (σ.set i (some (.ref a))) H ⟨S.r.set i (some (.o d)), S.m⟩ := by
  have low : ∀ {j : Nat} {x : Option Bn}, (S.r.set i (some (.o d)))[j]? = some x → j < σ.length := fun {j x} q => by
    have := (List.getElem?_eq_some_iff.mp q).1
    rw [List.length_set] at this
    rw [R.sl]
    exact this
  refine ⟨R.cs, R.xt, by simp [R.sl], fun j e q => ?_, fun j e q => ?_, fun j k b e e' q q' s s' => ?_⟩
  · rcases get_set q with ⟨rfl, z⟩ | ⟨n, z⟩
    · cases z
    · obtain ⟨v', g1, g2⟩ := R.pu j e z
      exact ⟨v', by rw [List.getElem?_set_ne (Ne.symm n)]; exact g1, g2⟩
  · rcases get_set q with ⟨rfl, z⟩ | ⟨n, z⟩
    · cases z
      exact ⟨a, List.getElem?_set_self (low q), h1, h2, h3, h4⟩
    · obtain ⟨b, g1, g2⟩ := R.ow j e z
      exact ⟨b, by rw [List.getElem?_set_ne (Ne.symm n)]; exact g1, g2⟩
  · rcases get_set q with ⟨rfl, z⟩ | ⟨n, z⟩
    · rw [List.getElem?_set_self (low q)] at s
      cases s
      rcases get_set q' with ⟨rfl, z'⟩ | ⟨n', z'⟩
      · rfl
      · rw [List.getElem?_set_ne (Ne.symm n')] at s'
        exact (h5 k e' z' s').elim
    · rw [List.getElem?_set_ne (Ne.symm n)] at s
      rcases get_set q' with ⟨rfl, z'⟩ | ⟨n', z'⟩
      · rw [List.getElem?_set_self (low q')] at s'
        cases s'
        exact (h5 j e z s).elim
      · rw [List.getElem?_set_ne (Ne.symm n')] at s'
        exact R.dj j k b e e' z z' s s'
/-- what a frame's own object is to the heap -/
def hoOf (F : Fx) (H : Hp) (a : Addr) : HO := (H a).getD (.lst [])
theorem Mc.dn {F : Fx} {w : Wd} {H : Hp} {a : Addr} (h : w.G a = none) : ∀ {d : Dt}, Mc F w H a d → ∃ o, H a = some o ∧ Dn F ⟨upd w.G a o, w.A⟩ d (.ref a)
  | .lst ds, ⟨vs, e, r⟩ => ⟨_, e, a, vs, rfl, upd_same, Dns.mono (le_upd h) ds r⟩
  | .ins _ _ ds, ⟨dx, vs, e, n, r⟩ => ⟨_, e, a, dx, vs, rfl, upd_same, n, Dns.mono (le_upd h) ds r⟩
  | .non, h | .bl _, h | .int _, h | .str _, h | .tup _, h | .dct _ _, h | .cel _, h | .cls _, h | .ty _, h | .scr _, h => h.elim
/-- a slot's own object is shared from now on -/
theorem Rr.freeze {F : Fx} {f : Fm} {w : Wd} {σ : L2.St} {H : Hp} {S : Sto} (R : Rr F f w σ H S) {i : Nat} {d : Dt} (h : S.r[i]? = some (some (.o d))) :
    ∃ a w', σ[i]? = some (some (.ref a)) ∧ Le w w' ∧ Rr F f w' σ H ⟨S.r.set i (some (.p d)), S.m⟩ ∧ Dn F w' d (.ref a) := by
  obtain ⟨a, s1, g1, a1, m1, f1⟩ := R.ow i d h
  obtain ⟨o, ho, dn⟩ := m1.dn g1
  have l : Le w ⟨upd w.G a o, w.A⟩ := le_upd g1
  have hi : i < S.r.length := (List.getElem?_eq_some_iff.mp h).1
  refine ⟨a, _, s1, l, ⟨⟨fun b u e => ?_, R.cs.nd, R.cs.ln, fun b hb => ?_, fun k b e q1 q2 => (R.cs.co k b e q1 q2).move l (fun _ z => z)⟩, ⟨R.xt.le.trans l, fun b u e => ?_, R.xt.an, R.xt.pr, R.xt.xs⟩, by simp [R.sl], fun j e q => ?_, fun j e q => ?_, fun j k b e e' q q' s s' => ?_⟩, dn⟩
  · have e2 : upd w.G a o b = some u := e
    by_cases z : b = a
    · subst z
      rw [upd_same] at e2
      rw [ho, e2]
    · rw [upd_ne z] at e2
      exact R.cs.fr b u e2
  · show upd w.G a o b = none
    rw [upd_ne (fun z => by subst z; exact a1 hb)]
    exact R.cs.ce b hb
  · have e2 : upd w.G a o b = some u := e
    by_cases z : b = a
    · subst z
      exact .inr f1.1
    · rw [upd_ne z] at e2
      exact R.xt.gn b u e2
  · rcases get_set q with ⟨rfl, z⟩ | ⟨n, z⟩
    · cases z
      exact ⟨_, s1, dn⟩
    · obtain ⟨v', g1', g2'⟩ := R.pu j e z
      exact ⟨v', g1', Dn.mono l e g2'⟩
  · rcases get_set q with ⟨rfl, z⟩ | ⟨n, z⟩
    · cases z
    · obtain ⟨b, g1', g2', g3', g4', g5'⟩ := R.ow j e z
      refine ⟨b, g1', ?_, g3', g4'.move l (fun _ z => z), g5'⟩
      show upd w.G a o b = none
      rw [upd_ne (fun y => by subst y; exact n (R.dj j i b e d z h g1' s1))]
      exact g2'
  · rcases get_set q with ⟨rfl, z⟩ | ⟨n, z⟩
    · cases z
    · rcases get_set q' with ⟨rfl, z'⟩ | ⟨n', z'⟩
      · cases z'
      · exact R.dj j k b e e' z z' s s'
/-- an object of the frame's own is changed -/
theorem Rr.write {F : Fx} {f : Fm} {w : Wd} {σ : L2.St} {H H' : Hp} {S : Sto} (R : Rr F f w σ H S) {i : Nat} {d d' : Dt} {a : Addr} (h : S.r[i]? = some (some (.o d))) (ha : σ[i]? = some (some (.ref a)))
    (eH : ∀ b, b ≠ a → H' b = H b) (hm : Mc F w H' a d') (hk : insB d' = insB d) : Rr F f w σ H' ⟨S.r.set i (some (.o d')), S.m⟩ := by
  obtain ⟨a', s1, g1, a1, m1, f1⟩ := R.ow i d h
  rw [ha] at s1
  cases s1
  have hi : i < S.r.length := (List.getElem?_eq_some_iff.mp h).1
  refine ⟨⟨fun b u e => ?_, R.cs.nd, R.cs.ln, R.cs.ce, fun k b e q1 q2 => (R.cs.co k b e q1 q2).move (Le.refl w) (fun o z => ?_)⟩, ⟨R.xt.le, R.xt.gn, R.xt.an, fun b o q1 q2 q3 => ?_, fun b hb => ?_⟩, by simp [R.sl], fun j e q => ?_, fun j e q => ?_, fun j k b e e' q q' s s' => ?_⟩
  · rw [eH b (fun z => by subst z; rw [g1] at e; cases e)]
    exact R.cs.fr b u e
  · rw [eH b (fun y => by subst y; exact a1 (List.mem_of_getElem? q1))]
    exact z
  · have hb : b ≠ a := fun y => by
      subst y
      rcases f1.1 with z | z
      · rw [z] at q1
        cases q1
      · exact q3 z
    rw [eH b hb]
    exact R.xt.pr b o q1 q2 q3
  · by_cases y : b = a
    · subst y
      exact hm.there
    · rw [eH b y]
      exact R.xt.xs b hb
  · rcases get_set q with ⟨rfl, z⟩ | ⟨n, z⟩
    · cases z
    · exact R.pu j e z
  · rcases get_set q with ⟨rfl, z⟩ | ⟨n, z⟩
    · cases z
      exact ⟨a, ha, g1, a1, hm, f1.1, fun z => f1.2 (hk ▸ z)⟩
    · obtain ⟨b, g1', g2', g3', g4', g5'⟩ := R.ow j e z
      refine ⟨b, g1', g2', g3', g4'.move (Le.refl w) (fun o z' => ?_), g5'⟩
      rw [eH b (fun y => by subst y; exact n (R.dj j i b e d z h g1' ha))]
      exact z'
  · rcases get_set q with ⟨rfl, z⟩ | ⟨n, z⟩
    · rcases get_set q' with ⟨rfl, z'⟩ | ⟨n', z'⟩
      · rfl
      · exact R.dj j k b d e' h z' s s'
    · rcases get_set q' with ⟨rfl, z'⟩ | ⟨n', z'⟩
      · exact R.dj j k b e d z h s s'
      · exact R.dj j k b e e' z z' s s'
/-- a cell is changed -/
theorem Rr.cell {F : Fx} {f : Fm} {w : Wd} {σ : L2.St} {H H' : Hp} {S : Sto} (R : Rr F f w σ H S) {k : Nat} {d' : Dt} {a : Addr} (h : w.A[k]? = some a)
    (eH : ∀ b, b ≠ a → H' b = H b) (hm : Mc F w H' a d') : Rr F f w σ H' ⟨S.r, S.m.set k d'⟩ := by
  have am : a ∈ w.A := List.mem_of_getElem? h
  have ga := R.cs.ce a am
  have hk : k < w.A.length := (List.getElem?_eq_some_iff.mp h).1
  have uq : ∀ (j : Nat), w.A[j]? = some a → j = k := fun j hj => by
    have e1 := (List.getElem?_eq_some_iff.mp hj)
    have e2 := (List.getElem?_eq_some_iff.mp h)
    obtain ⟨l1, e1⟩ := e1
    obtain ⟨l2, e2⟩ := e2
    exact (List.getElem_inj R.cs.nd).mp (e1.trans e2.symm)
  refine ⟨⟨fun b u e => ?_, R.cs.nd, by simp [R.cs.ln], R.cs.ce, fun j b e q1 q2 => ?_⟩, ⟨R.xt.le, R.xt.gn, R.xt.an, fun b o q1 q2 q3 => ?_, fun b hb => ?_⟩, R.sl, R.pu, fun j e q => ?_, R.dj⟩
  · rw [eH b (fun z => by subst z; rw [ga] at e; cases e)]
    exact R.cs.fr b u e
  · rcases get_set q2 with ⟨rfl, z⟩ | ⟨n, z⟩
    · subst z
      rw [h] at q1
      cases q1
      exact hm
    · refine (R.cs.co j b e q1 z).move (Le.refl w) (fun o y => ?_)
      rw [eH b (fun x => by subst x; exact n (uq j q1))]
      exact y
  · have hb : b ≠ a := fun y => by
      subst y
      rcases R.xt.an b am with z | z
      · exact q2 z
      · rw [z] at q1
        cases q1
    rw [eH b hb]
    exact R.xt.pr b o q1 q2 q3
  · by_cases y : b = a
    · subst y
      exact hm.there
    · rw [eH b y]
      exact R.xt.xs b hb
  · obtain ⟨b, g1, g2, g3, g4, g5⟩ := R.ow j e q
    refine ⟨b, g1, g2, g3, g4.move (Le.refl w) (fun o y => ?_), g5⟩
    rw [eH b (fun x => by subst x; exact g3 am)]
    exact y
/-- behind a call: the callee's frame began at H, w and handed nothing over -/
theorem Rr.back {F : Fx} {f : Fm} {w w' : Wd} {σ : L2.St} {H H' : Hp} {S : Sto} {m' : List Dt} (R : Rr F f w σ H S) (c : Cs F w' H' m') (x : Xt ⟨H, w, [], []⟩ w' H') : Rr F f w' σ H' ⟨S.r, m'⟩ := by
  have notG : ∀ a o, H a = some o → w.G a = none → w'.G a = none := fun a o h1 h2 => by
    cases e : w'.G a with
    | none => rfl
    | some u =>
      rcases x.gn a u e with q | q | q
      · have q2 : w.G a = some u := q
        rw [h2] at q2
        cases q2
      · have q2 : H a = none := q
        rw [h1] at q2
        cases q2
      · cases q
  have notA : ∀ a o, H a = some o → a ∉ w.A → a ∉ w'.A := fun a o h1 h2 h3 => by
    rcases x.an a h3 with q | q
    · exact h2 q
    · have q2 : H a = none := q
      rw [h1] at q2
      cases q2
  have l : Le w w' := x.le
  have keep : ∀ a o, H a = some o → a ∉ w.A → H' a = some o := fun a o h1 h2 => x.pr a o h1 h2 (by simp)
  refine ⟨c, ⟨R.xt.le.trans l, fun a o h => ?_, fun a ha => ?_, fun a o h1 h2 h3 => ?_, fun a ha => ?_⟩, R.sl, fun i d h => ?_, fun i d h => ?_, R.dj⟩
  · rcases x.gn a o h with q | q | q
    · exact R.xt.gn a o q
    · exact .inr (.inl (R.new0 q))
    · cases q
  · rcases x.an a ha with q | q
    · exact R.xt.an a q
    · exact .inr (R.new0 q)
  · refine keep a o (R.xt.pr a o h1 h2 h3) (fun q => ?_)
    rcases R.xt.an a q with z | z
    · exact h2 z
    · rw [z] at h1
      cases h1
  · obtain ⟨o, q⟩ := R.xt.xs a ha
    by_cases z : a ∈ w.A
    · obtain ⟨m, hm⟩ := l.a
      exact c.some (by rw [hm]; exact List.mem_append_left _ z)
    · exact ⟨o, keep a o q z⟩
  · obtain ⟨v, h1, h2⟩ := R.pu i d h
    exact ⟨v, h1, Dn.mono l d h2⟩
  · obtain ⟨a, h1, h2, h3, h4, h5⟩ := R.ow i d h
    obtain ⟨o, ho⟩ := h4.there
    exact ⟨a, h1, notG a o ho h2, notA a o ho h3, h4.move l (fun o q => keep a o q h3), h5⟩
/-- the slots' own objects -/
def owns (σ : L2.St) (r : List (Option Bn)) : List Addr := (σ.zip r).filterMap fun p => match p with
  | (some (.ref a), some (.o _)) => some a
  | _ => none
theorem mem_owns {σ : L2.St} {r : List (Option Bn)} {a : Addr} : a ∈ owns σ r ↔ ∃ (i : Nat) (d : Dt), σ[i]? = some (some (.ref a)) ∧ r[i]? = some (some (.o d)) := by
  unfold owns
  rw [List.mem_filterMap]
  constructor
  · rintro ⟨⟨x, y⟩, hm, e⟩
    obtain ⟨i, hi⟩ := List.mem_iff_getElem?.mp hm
    rw [List.getElem?_zip_eq_some] at hi
    split at e
    · rename_i a' d' heq
      cases heq
      cases e
      exact ⟨i, _, hi.1, hi.2⟩
    · cases e
  · rintro ⟨i, d, h1, h2⟩
    exact ⟨(some (.ref a), some (.o d)), List.mem_iff_getElem?.mpr ⟨i, List.getElem?_zip_eq_some.mpr ⟨h1, h2⟩⟩, rfl⟩
/-- a frame within the frame, from here on; D: one more object that stays (none of ours) -/
theorem Rr.enter {F : Fx} {f : Fm} {w : Wd} {σ : L2.St} {H : Hp} {S : Sto} (R : Rr F f w σ H S) : Rr F ⟨H, w, owns σ S.r, f.xi⟩ w σ H S := by
  refine ⟨R.cs, ⟨Le.refl w, fun a o h => .inl h, fun a h => .inl h, fun a o h _ _ => h, fun a ha => ?_⟩, R.sl, R.pu, fun i d h => ?_, R.dj⟩
  · obtain ⟨i, d, h1, h2⟩ := mem_owns.mp ha
    obtain ⟨a', s1, _, _, m1, _⟩ := R.ow i d h2
    rw [h1] at s1
    cases s1
    exact m1.there
  · obtain ⟨a, s1, g1, a1, m1, z⟩ := R.ow i d h
    exact ⟨a, s1, g1, a1, m1, .inr (mem_owns.mpr ⟨i, d, s1, h⟩), z.2⟩
/-- and back -/
theorem Xt.leave {F : Fx} {f : Fm} {w w' : Wd} {σ : L2.St} {H H' : Hp} {S : Sto} (R : Rr F f w σ H S) (x : Xt ⟨H, w, owns σ S.r, f.xi⟩ w' H') (hA : ∀ a ∈ w.A, ∃ o, H' a = some o) : Xt f w' H' := by
  have ownF : ∀ a, a ∈ owns σ S.r → f.H0 a = none ∨ a ∈ f.ex := fun a ha => by
    obtain ⟨i, d, h1, h2⟩ := mem_owns.mp ha
    obtain ⟨a', s1, _, _, _, z⟩ := R.ow i d h2
    rw [h1] at s1
    cases s1
    exact z.1
  refine ⟨R.xt.le.trans x.le, fun a o h => ?_, fun a ha => ?_, fun a o h1 h2 h3 => ?_, fun a ha => ?_⟩
  · rcases x.gn a o h with q | q | q
    · exact R.xt.gn a o q
    · exact .inr (.inl (R.new0 q))
    · exact .inr (ownF a q)
  · rcases x.an a ha with q | q
    · exact R.xt.an a q
    · exact .inr (R.new0 q)
  · refine x.pr a o (R.xt.pr a o h1 h2 h3) (fun q => ?_) (fun q => ?_)
    · rcases R.xt.an a q with z | z
      · exact h2 z
      · rw [z] at h1
        cases h1
    · rcases ownF a q with z | z
      · rw [z] at h1
        cases h1
      · exact h3 z
  · obtain ⟨o, q⟩ := R.xt.xs a ha
    by_cases h1 : a ∈ w.A
    · exact hA a h1
    · by_cases h2 : a ∈ owns σ S.r
      · exact x.xs a h2
      · exact ⟨o, x.pr a o q h1 h2⟩
end PyI
namespace PyI
open PySem PySem.Spec PyProof.Rows L2
/-! terms -/
inductive Ar where
  | a (i : Nat) | d (v : Dt)
inductive Bi where
  | len | abs | max | min | int | str | repr | all | divmod | list | tuple
  deriving DecidableEq
inductive Ty where
  | int | bool | str | list | tuple | dict | own (c : Nat)
inductive Tg where
  | nm (i : Nat) | tp (ts : List Tg)
inductive Tm where
  | var (i : Nat) | cst (d : Dt) | glo (x : Str) (d : Dt)
  | bin (op : Operator) (a b : Tm) | neg (a : Tm)
  | cmp (op : CmpOp) (a b : Tm) | chn (o1 o2 : CmpOp) (a b c : Tm)
  | and2 (a b : Tm) | or2 (a b : Tm) | not1 (a : Tm) | ife (c a b : Tm)
  | tup (es : List Tm) | lst (es : List Tm)
  | ix (a b : Tm) | fld (a : Tm) (f : Str)
  | bi (b : Bi) (es : List Tm) | isi (a : Tm) (ts : List Ty)
  | call (f : Nat) (ks : List Str) (es : List Tm)
  | make (c : Nat) (ks : List Str) (es : List Tm)
  | meth (a : Tm) (m : Str) (ks : List Str) (es : List Tm)
  | smeth (c : Nat) (m : Str) (f : Nat) (ks : List Str) (es : List Tm)
  | comp (e : Tm) (own : List Nat) (tg : Tg) (it : Tm) (c : Tm)
  | rng1 (a : Tm) | rng2 (a b : Tm)
  | fst (es : List Tm) | fms (a : Tm) | fmr (a : Tm)
  | split (a b : Tm)
  | lenB (i : Nat) | ixB (i : Nat) (b : Tm)
  | slcL (a b : Tm) | slcH (a b : Tm) | slcB (a b c : Tm) | enm (a : Tm) | lrg2 (a b : Tm) | join (a b : Tm) | mk0 (c : Nat)
inductive Sm where
  | asg (tg : Tg) (e : Tm) | asgO (i : Nat) (e : Tm) | par (i j : Nat) (a b : Tm)
  | put (o i e : Tm) | putB (o : Nat) (i e : Tm) | fld (f : Str) (e : Tm)
  | tsub (o i : Tm) (j : Nat) (e : Tm)
  | iff (c : Tm) (a b : List Sm) | for_ (tg : Tg) (it : Tm) (b : List Sm) | whl (n : Nat) (c : Tm) (b : List Sm)
  | ret (e : Tm) | retO (i : Nat) | retF (e : Tm) | retN | exp (e : Tm) | pas | brk | cnt
  | rai (c : Nat) (es : List Tm) | app (i : Nat) (e : Tm) | nev | aug (i : Nat) (op : Operator) (e : Tm)
structure FnD where
  k : Nat
  n : Nat
  cell : Bool
  shs : List (Nat × List Str × List Ar)
  b : List Sm
structure ClD where
  init : Nat
  shs : List (Nat × List Str × List Ar)
  meth : List (Str × Nat)
  prop : List (Str × Nat)
  stat : List (Str × Nat)
  flds : List Str
  up : List Nat
  bare : Bool
structure Pg where
  fn : List FnD
  cl : List ClD
  xf : List (Nat × List Str)
/-! results -/
inductive Rs (α : Type) where
  | ok (a : α) (S : Sto) | ex (c : Nat) (ns : List Str) (ds : List Dt) (S : Sto) | bad
def Rs.bind {α β : Type} (x : Rs α) (k : α → Sto → Rs β) : Rs β := match x with
  | .ok a S => k a S
  | .ex c ns ds S => .ex c ns ds S
  | .bad => .bad
theorem Rs.bind_assoc {α β γ : Type} (x : Rs α) (k : α → Sto → Rs β) (l : β → Sto → Rs γ) : (x.bind k).bind l = x.bind fun a S => (k a S).bind l := by
  cases x <;> rfl
inductive Rc where
  | ok (b : Bn) (m : List Dt) | ex (c : Nat) (ns : List Str) (ds : List Dt) (m : List Dt) | bad
inductive Rt where
  | nx (S : Sto) | rt (b : Bn) (S : Sto) | bk (S : Sto) | ct (S : Sto) | ex (c : Nat) (ns : List Str) (ds : List Dt) (S : Sto) | bad
/-! operations on data -/
mutual
def toPy : Dt → Option PyData
  | .non => some .none
  | .bl b => some (.bool b)
  | .int i => some (.int i)
  | .str x => some (.str x)
  | .lst ds => (toPys ds).map .list
  | .tup ds => (toPys ds).map .tuple
  | .dct _ _ => none
  | .ins _ _ _ => none
  | .cel _ => none
  | .cls _ => none
  | .ty _ => none
  | .scr _ => none
def toPys : List Dt → Option (List PyData)
  | [] => some []
  | d :: ds => match toPy d, toPys ds with
    | some x, some xs => some (x :: xs)
    | _, _ => none
end
def mulOk (i j : Int) : Bool := (decide (-(2 ^ 64) < i) && decide (i < 2 ^ 64)) || (decide (-(2 ^ 64) < j) && decide (j < 2 ^ 64))
def opD : Operator → Dt → Dt → Option Dt
  | .Add, .int i, .int j => some (.int (i + j))
  | .Add, .str x, .str y => if x.length + y.length ≤ sizeLine then some (.str (x ++ y)) else none
  | .Add, .lst xs, .lst ys => if xs.length + ys.length ≤ sizeLine then some (.lst (xs ++ ys)) else none
  | .Sub, .int i, .int j => some (.int (i - j))
  | .Mult, .int i, .int j => if mulOk i j then some (.int (i * j)) else none
  | .Mult, .lst xs, .int k => if -(2 ^ 63) ≤ k ∧ k < 2 ^ 63 ∧ xs.length * k.toNat ≤ sizeLine then some (.lst (List.replicate k.toNat xs).flatten) else none
  | .FloorDiv, .int i, .int j => if 0 < j ∧ j < 1073741824 then some (.int (i / j)) else none
  | .Mod, .int i, .int j => if 0 < j then some (.int (i % j)) else none
  | .Pow, .int i, .int j => if 0 ≤ j ∧ j ≤ 1000000 ∧ i.natAbs < 2 ^ 64 then some (.int (i ^ j.toNat)) else none
  | _, _, _ => none
def eqD (a b : Dt) : Option Bool := match toPy a, toPy b with
  | some x, some y => if SeqAt.shaped x && SeqAt.shaped y then some (PyData.eqv x y) else none
  | _, _ => none
def dtV : Dt → V
  | .bl b => .bl b
  | .int i => .int i
  | .str x => .str x
  | _ => .non
def flatD : Dt → Bool
  | .non | .bl _ | .int _ | .str _ => true
  | _ => false
def inLD (a : Dt) (ds : List Dt) : Option Bool := match toPy a, toPys ds with
  | some x, some xs => if SeqAt.shaped x && SeqAt.shaped (.list xs) then some (xs.any fun z => PyData.eqv z x) else none
  | _, _ => none
def inTD (a : Dt) (ds : List Dt) : Option Bool := if flatD a && ds.all flatD then some (inV (dtV a) (ds.map dtV)) else none
def cmpD : CmpOp → Dt → Dt → Option Bool
  | .Lt, .int i, .int j => some (decide (i < j))
  | .LtE, .int i, .int j => some (decide (i ≤ j))
  | .Gt, .int i, .int j => some (decide (j < i))
  | .GtE, .int i, .int j => some (decide (j ≤ i))
  | .Eq, a, b => eqD a b
  | .NotEq, a, b => (eqD a b).map (!·)
  | .Is, .non, .non => some true
  | .Is, .int _, .non | .Is, .str _, .non | .Is, .bl _, .non => some false
  | .IsNot, .non, .non => some false
  | .IsNot, .int _, .non | .IsNot, .str _, .non | .IsNot, .bl _, .non => some true
  | .Is, .bl a, .bl b => some (decide (a = b))
  | .In, .str x, .str y => some (!(Builtin.Str.occurrences y x 0 y.length 1).isEmpty)
  | .NotIn, .str x, .str y => some (!(!(Builtin.Str.occurrences y x 0 y.length 1).isEmpty))
  | .In, a, .lst ds => inLD a ds
  | .In, a, .tup ds => inTD a ds
  | .NotIn, a, .lst ds => (inLD a ds).map (!·)
  | .NotIn, a, .tup ds => (inTD a ds).map (!·)
  | _, _, _ => none
def boolsD : List Dt → Option (List Bool)
  | [] => some []
  | .bl b :: ds => (boolsD ds).map (b :: ·)
  | _ => none
def biD : Bi → List Dt → Option Dt
  | .len, [.str x] => if x.length ≤ sizeLine then some (.int x.length) else none
  | .len, [.lst ds] => some (.int ds.length)
  | .len, [.tup ds] => some (.int ds.length)
  | .len, [.scr xs] => some (.int xs.length)
  | .abs, [.int i] => some (.int (if i < 0 then -i else i))
  | .max, [.int i, .int j] => some (.int (if j > i then j else i))
  | .min, [.int i, .int j] => some (.int (if j < i then j else i))
  | .int, [.int i] => some (.int i)
  | .int, [.str x] => if x.length ≤ 640 then (PySem.intText? x).map .int else none
  | .str, [.int i] => if i.natAbs.log2 < 1920 then some (.str (toString i)) else none
  | .repr, [a] => match toPy a with
    | some x => if x.showable && decide (x.shown.length ≤ sizeLine) && decide (x.depth ≤ 20) then some (.str x.shown) else none
    | none => none
  | .all, [.lst ds] => (boolsD ds).map fun bs => .bl (bs.all id)
  | .divmod, [.int i, .int j] => if 0 < j ∧ j < 1073741824 then some (.tup [.int (i / j), .int (i % j)]) else none
  | .list, [.lst ds] => some (.lst ds)
  | .list, [.tup ds] => some (.lst ds)
  | _, _ => none
def atD (ds : List Dt) (i : Int) : Option Dt := atI ds i
def ixD (m : List Dt) : Dt → Dt → Option Dt
  | .lst ds, .int i => atI ds i
  | .tup ds, .int i => atI ds i
  | .scr xs, .int i => (atI xs i).map .int
  | .cel k, .int i => match m[k]? with
    | some (.lst ds) => atI ds i
    | _ => none
  | .str x, .int i => if x.length ≤ sizeLine then (atI x.cps.toList i).map fun c => .str ⟨#[c]⟩ else none
  | _, _ => none
def cutL {α : Type} (xs : List α) (lo hi : Option Int) : List α := (xs.drop (HT.sIx xs.length 0 lo)).take (HT.sIx xs.length xs.length hi - HT.sIx xs.length 0 lo)
def slD (x : Dt) (lo hi : Option Int) : Option Dt := match x with
  | .lst ds => some (.lst (cutL ds lo hi))
  | .tup ds => if HT.sIx ds.length 0 lo = 0 ∧ HT.sIx ds.length ds.length hi = ds.length then none else some (.tup (cutL ds lo hi))
  | .str z => if z.length ≤ sizeLine then some (.str (cutS z lo hi)) else none
  | _ => none
def enmL : Nat → List Dt → List Dt
  | _, [] => []
  | i, d :: ds => .tup [.int (i : Nat), d] :: enmL (i + 1) ds
def enmD (x : Dt) : Option (List Dt) := match x with
  | .lst ds => some (enmL 0 ds)
  | _ => none
def strsD : List Dt → Option (List Str)
  | [] => some []
  | .str x :: ds => (strsD ds).map (x :: ·)
  | _ => none
def joinOk (s : Str) (ts : List Str) : Bool := decide ((ts.map (·.length)).sum + ts.length * s.length ≤ 16777216)
def lookD (f : Str) : List Str → List Dt → Option Dt
  | n :: ns, d :: ds => if f = n then some d else lookD f ns ds
  | _, _ => none
def isB : Dt → Ty → Option Bool
  | .non, .int | .non, .bool | .non, .str | .non, .list | .non, .tuple | .non, .dict => some false
  | .bl _, .int | .bl _, .bool => some true
  | .bl _, .str | .bl _, .list | .bl _, .tuple | .bl _, .dict => some false
  | .int _, .int => some true
  | .int _, .bool | .int _, .str | .int _, .list | .int _, .tuple | .int _, .dict => some false
  | .str _, .str => some true
  | .str _, .int | .str _, .bool | .str _, .list | .str _, .tuple | .str _, .dict => some false
  | .lst _, .list => some true
  | .lst _, .int | .lst _, .bool | .lst _, .str | .lst _, .tuple | .lst _, .dict => some false
  | .tup _, .tuple => some true
  | .tup _, .int | .tup _, .bool | .tup _, .str | .tup _, .list | .tup _, .dict => some false
  | .non, .own _ | .bl _, .own _ | .int _, .own _ | .str _, .own _ | .lst _, .own _ | .tup _, .own _ => some false
  | _, _ => none
def isC (x : ClD) : Ty → Bool
  | .own c => x.up.contains c
  | _ => false
def isT (P : Pg) (d : Dt) (t : Ty) : Option Bool := match d with
  | .ins c _ _ => (P.cl[c]?).map fun x => isC x t
  | d => isB d t
def isTs (P : Pg) (d : Dt) : List Ty → Option Bool
  | [] => some false
  | t :: ts => match isT P d t with
    | some true => some true
    | some false => isTs P d ts
    | none => none
def pick (ds : List Dt) : List Ar → Option (List Dt)
  | [] => some []
  | .a i :: r => match ds[i]?, pick ds r with
    | some d, some t => some (d :: t)
    | _, _ => none
  | .d v :: r => (pick ds r).map (v :: ·)
mutual
def tgD : Tg → Dt → List (Option Bn) → Option (List (Option Bn))
  | .nm i, d, r => if i < r.length then some (r.set i (some (.p d))) else none
  | .tp ts, .tup ds, r => if ts.length = ds.length then tgsD ts ds r else none
  | .tp _, _, _ => none
def tgsD : List Tg → List Dt → List (Option Bn) → Option (List (Option Bn))
  | [], [], r => some r
  | t :: ts, d :: ds, r => match tgD t d r with
    | some r' => tgsD ts ds r'
    | none => none
  | _, _, _ => none
end
def wipeB (r : List (Option Bn)) : List Nat → List (Option Bn)
  | [] => r
  | i :: is => (wipeB r is).set i none
def pureAt (r : List (Option Bn)) (i : Nat) : Bool := match r[i]? with
  | some (some (.o _)) => false
  | some _ => true
  | none => false
def backB (r0 : List (Option Bn)) : List Nat → List (Option Bn) → List (Option Bn)
  | [], r => r
  | i :: is, r => (backB r0 is r).set i ((r0[i]?).getD none)
def itemsD : Dt → Option (List Dt)
  | .lst ds => some ds
  | .tup ds => some ds
  | .str x => some (x.cps.toList.map fun c => .str ⟨#[c]⟩)
  | .scr xs => some (xs.map .int)
  | _ => none
def compL (ev cnd : Sto → Rs Dt) (tg : Tg) (own : List Nat) : List Dt → List Dt → Sto → Rs (List Dt)
  | [], acc, S => .ok acc S
  | x :: xs, acc, S => match tgD tg x (wipeB S.r own) with
    | none => .bad
    | some r' => match cnd ⟨r', S.m⟩ with
      | .ok (.bl true) S2 => match ev S2 with
        | .ok d S3 => compL ev cnd tg own xs (acc ++ [d]) S3
        | _ => .bad
      | .ok (.bl false) S2 => compL ev cnd tg own xs acc S2
      | _ => .bad
/-- the run of a comprehension over what its source gives -/
def compR (me mc : Sto → Rs Dt) (tg : Tg) (vs : List Nat) (x : Dt) (S1 : Sto) : Rs Dt := match itemsD x with
    | some ds => if ds.length ≤ sizeLine ∧ vs.all (pureAt S1.r) = true then
        match compL me mc tg vs ds [] S1 with
        | .ok acc S2 => .ok (.lst acc) ⟨backB S1.r vs S2.r, S2.m⟩
        | _ => .bad
      else .bad
    | none => .bad
def rangeD (lo hi : Int) : List Dt := (List.range (hi - lo).toNat).map fun i => .int (lo + (i : Nat))
def smallI (i : Int) : Bool := decide (-(2 ^ 62) ≤ i) && decide (i < 2 ^ 62)
def rng1D (x : Dt) (S : Sto) : Rs Dt := match x with
  | .int i => if smallI i = true then .ok (.lst (rangeD 0 i)) S else .bad
  | _ => .bad
def rng2D (x y : Dt) (S : Sto) : Rs Dt := match x, y with
  | .int i, .int j => if (smallI i && smallI j) = true then .ok (.lst (rangeD i j)) S else .bad
  | _, _ => .bad
def lrgD (i : Int) (y : Dt) (S : Sto) : Rs Dt := match y with
  | .int j => if (j - i).toNat ≤ 65536 then .ok (.lst (rangeD i j)) S else .bad
  | _ => .bad
def joinD (s : Str) (y : Dt) (S : Sto) : Rs Dt := match y with
  | .lst ds => match strsD ds with
    | some ts => if joinOk s ts = true then .ok (.str (Txt.join s ts)) S else .bad
    | none => .bad
  | _ => .bad
def shOf (n : Nat) (ks : List Str) : List (Nat × List Str × List Ar) → Option (List Ar)
  | [] => none
  | t :: r => if t.1 = n ∧ t.2.1 = ks then some t.2.2 else shOf n ks r
theorem shOf_mem {n : Nat} {ks : List Str} {sh : List Ar} : ∀ {l : List (Nat × List Str × List Ar)}, shOf n ks l = some sh → (n, ks, sh) ∈ l
  | [], h => by cases h
  | ⟨a, b, c⟩ :: r, h => by
    unfold shOf at h
    split at h
    · rename_i e
      cases h
      obtain ⟨e1, e2⟩ := e
      subst e1
      subst e2
      exact List.mem_cons_self
    · exact List.mem_cons_of_mem _ (shOf_mem h)
def Pg.shf (P : Pg) (f n : Nat) (ks : List Str) : Option (List Ar) := (P.fn[f]?).bind fun x => shOf n ks x.shs
def Pg.shc (P : Pg) (c n : Nat) (ks : List Str) : Option (List Ar) := (P.cl[c]?).bind fun x => shOf n ks x.shs
def Pg.fld (P : Pg) (c : Nat) (f : Str) : Bool := match P.cl[c]? with
  | some x => x.flds.contains f
  | none => false
def Pg.meth (P : Pg) (c : Nat) (m : Str) : Option Nat := (P.cl[c]?).bind fun x => x.meth.lookup m
def Pg.prop (P : Pg) (c : Nat) (m : Str) : Option Nat := (P.cl[c]?).bind fun x => x.prop.lookup m
def upR (x : Rc) (S : Sto) : Rs Dt := match x with
  | .ok (.p d) m => .ok d ⟨S.r, m⟩
  | .ok (.o d) m => .ok d ⟨S.r, m⟩
  | .ex c ns ds m => .ex c ns ds ⟨S.r, m⟩
  | .bad => .bad
/-- a call that lets nothing out -/
def upN (x : Rc) (S : Sto) : Rs Dt := match x with
  | .ok (.p d) m => .ok d ⟨S.r, m⟩
  | .ok (.o d) m => .ok d ⟨S.r, m⟩
  | _ => .bad
def upP (o : Option (List Dt)) (g : List Dt → List Dt → Rc) (S : Sto) : Rs Dt := match o with
  | some xs => upR (g xs S.m) S
  | none => .bad
def okD (x : Option Dt) (S : Sto) : Rs Dt := match x with
  | some d => .ok d S
  | none => .bad
section
variable (P : Pg) (cf : Nat → List Dt → List Dt → Rc) (ci : Nat → List Dt → List Dt → Rc)
def strB (d : Dt) (S : Sto) : Rs Dt := match d with
  | .str y => .ok (.str y) S
  | _ => .bad
def lenB' (d : Dt) (S : Sto) : Rs Dt := match d with
  | .int n => if 0 ≤ n ∧ n < 2 ^ 63 then .ok (.int n) S else .bad
  | _ => .bad
def bi1 (b : Bi) (ds : List Dt) (S : Sto) : Rs Dt := match b, ds with
  | .len, [.ins c ns vs] => match P.meth c "__len__" with
    | some f => (upN (cf f [.ins c ns vs] S.m) S).bind lenB'
    | none => .bad
  | .str, [.ins c ns vs] => match P.meth c "__str__" with
    | some f => (upN (cf f [.ins c ns vs] S.m) S).bind strB
    | none => .bad
  | .repr, [.ins c ns vs] => match P.meth c "__repr__" with
    | some f => (upN (cf f [.ins c ns vs] S.m) S).bind strB
    | none => .bad
  | b, ds => okD (biD b ds) S
def typed (P : Pg) : Dt → Bool
  | .non | .bl _ | .int _ | .str _ | .lst _ | .tup _ => true
  | .ins c _ _ => (P.cl[c]?).isSome
  | _ => false
def blB (d : Dt) (S : Sto) : Rs Dt := match d with
  | .bl y => .ok (.bl y) S
  | _ => .bad
def negB (d : Dt) (S : Sto) : Rs Dt := match d with
  | .bl y => .ok (.bl (!y)) S
  | _ => .bad
def eqBk : Dt → Bool
  | .non | .bl _ | .int _ | .str _ | .lst _ | .tup _ => true
  | _ => false
def cmp1 (op : CmpOp) (a b : Dt) (S : Sto) : Rs Dt := match op, a, b with
  | .Eq, .ins c ns vs, b => match P.meth c "__eq__" with
    | some f => if typed P b = true then upN (cf f [.ins c ns vs, b] S.m) S else .bad
    | none => .bad
  | .Eq, a, .ins c ns vs => match P.meth c "__eq__" with
    | some f => if eqBk a = true then upN (cf f [.ins c ns vs, a] S.m) S else .bad
    | none => .bad
  | .In, a, .ins c ns vs => match P.meth c "__contains__" with
    | some f => (upN (cf f [.ins c ns vs, a] S.m) S).bind blB
    | none => .bad
  | .NotIn, a, .ins c ns vs => match P.meth c "__contains__" with
    | some f => (upN (cf f [.ins c ns vs, a] S.m) S).bind negB
    | none => .bad
  | op, a, b => okD ((cmpD op a b).map .bl) S
def opMeth : Operator → Option Str
  | .Add => some "__add__"
  | .Sub => some "__sub__"
  | .Mult => some "__mul__"
  | .RShift => some "__rshift__"
  | _ => none
/-- an operator, own ones too -/
def bin1 (op : Operator) (a b : Dt) (S : Sto) : Rs Dt := match a with
  | .ins c ns vs => match (opMeth op).bind (P.meth c) with
    | some f => if typed P b = true then upR (cf f [.ins c ns vs, b] S.m) S else .bad
    | none => .bad
  | a => okD (opD op a b) S
/-- op= at a name -/
def aug1 (op : Operator) (a b : Dt) (S : Sto) : Rs Dt := match a with
  | .ins c ns vs => bin1 P cf op (.ins c ns vs) b S
  | _ => .bad
mutual
def evE : Tm → Sto → Rs Dt
  | .var i, S => match S.r[i]? with
    | some (some (.p d)) => .ok d S
    | some (some (.o (.lst ds))) => .ok (.lst ds) ⟨S.r.set i (some (.p (.lst ds))), S.m⟩
    | _ => .bad
  | .cst d, S => .ok d S
  | .glo _ d, S => .ok d S
  | .bin op a b, S => (evE a S).bind fun x S1 => (evE b S1).bind fun y S2 => bin1 P cf op x y S2
  | .neg a, S => (evE a S).bind fun x S1 => match x with
    | .int i => .ok (.int (-i)) S1
    | _ => .bad
  | .cmp op a b, S => (evE a S).bind fun x S1 => (evE b S1).bind fun y S2 => cmp1 P cf op x y S2
  | .chn o1 o2 a b c, S => (evE a S).bind fun x S1 => (evE b S1).bind fun y S2 => (okD ((cmpD o1 x y).map .bl) S2).bind fun k S3 => match k with
    | .bl true => (evE c S3).bind fun z S4 => okD ((cmpD o2 y z).map .bl) S4
    | .bl false => .ok (.bl false) S3
    | _ => .bad
  | .and2 a b, S => (evE a S).bind fun x S1 => match x with
    | .bl true => evE b S1
    | .bl false => .ok (.bl false) S1
    | _ => .bad
  | .or2 a b, S => (evE a S).bind fun x S1 => match x with
    | .bl true => .ok (.bl true) S1
    | .bl false => evE b S1
    | _ => .bad
  | .not1 a, S => (evE a S).bind fun x S1 => match x with
    | .bl k => .ok (.bl (!k)) S1
    | _ => .bad
  | .ife c a b, S => (evE c S).bind fun x S1 => match x with
    | .bl true => evE a S1
    | .bl false => evE b S1
    | _ => .bad
  | .tup es, S => (evEs es S).bind fun ds S1 => if ds.length ≤ sizeLine then .ok (.tup ds) S1 else .bad
  | .lst es, S => (evEs es S).bind fun ds S1 => if ds.length ≤ sizeLine then .ok (.lst ds) S1 else .bad
  | .ix a b, S => (evE a S).bind fun x S1 => (evE b S1).bind fun y S2 => okD (ixD S2.m x y) S2
  | .fld a f, S => (evE a S).bind fun x S1 => match x with
    | .ins c ns vs => match P.prop c f with
      | some g => upN (cf g [.ins c ns vs] S1.m) S1
      | none => if P.fld c f then okD (lookD f ns vs) S1 else .bad
    | _ => .bad
  | .bi b es, S => (evEs es S).bind fun ds S1 => bi1 P cf b ds S1
  | .isi a ts, S => (evE a S).bind fun x S1 => okD ((isTs P x ts).map .bl) S1
  | .call f ks es, S => (evEs es S).bind fun ds S1 => match P.shf f (ds.length - ks.length) ks with
    | some sh => upP (pick ds sh) (cf f) S1
    | none => .bad
  | .make c ks es, S => (evEs es S).bind fun ds S1 => match P.shc c (ds.length - ks.length) ks with
    | some sh => upP (pick ds sh) (ci c) S1
    | none => .bad
  | .meth a m ks es, S => (evE a S).bind fun x S1 => match x with
    | .ins c ns vs => match P.meth c m, lookD m ns vs with
      | some g, none => (evEs es S1).bind fun ds S2 => match P.shf g (ds.length + 1 - ks.length) ks with
        | some sh => upP (pick (.ins c ns vs :: ds) sh) (cf g) S2
        | none => .bad
      | _, _ => .bad
    | _ => .bad
  | .smeth _ _ f ks es, S => (evEs es S).bind fun ds S1 => match P.shf f (ds.length - ks.length) ks with
    | some sh => upP (pick ds sh) (cf f) S1
    | none => .bad
  | .comp e own tg it c, S => (evE it S).bind (compR (evE e) (evE c) tg own)
  | .rng1 a, S => (evE a S).bind rng1D
  | .rng2 a b, S => (evE a S).bind fun x S1 => (evE b S1).bind (rng2D x)
  | .fst es, S => (evJ es Str.empty S).bind fun x S1 => .ok (.str x) S1
  | .fms a, S => (evE a S).bind fun x S1 => match x with
    | .str y => if y.length ≤ sizeLine then .ok (.str y) S1 else .bad
    | .int i => if i.natAbs.log2 < 1920 then .ok (.str (toString i)) S1 else .bad
    | _ => .bad
  | .fmr a, S => (evE a S).bind fun x S1 => match x with
    | .str y => if (reprText y).length ≤ sizeLine then .ok (.str (reprText y)) S1 else .bad
    | .int i => if i.natAbs.log2 < 1920 then .ok (.str (toString i)) S1 else .bad
    | _ => .bad
  | .split a b, S => (evE a S).bind fun x S1 => match x with
    | .str s => (evE b S1).bind fun y S2 => match y with
      | .str t => if (t.length == 0) = false ∧ s.length + 2 ≤ sizeLine then .ok (.lst ((Txt.split s t).map .str)) S2 else .bad
      | _ => .bad
    | _ => .bad
  | .lenB i, S => match S.r[i]? with
    | some (some (.o (.lst ds))) => .ok (.int ds.length) S
    | _ => .bad
  | .ixB i b, S => match S.r[i]? with
    | some (some (.o _)) => (evE b S).bind fun y S1 => match S1.r[i]?, y with
      | some (some (.o (.lst ds))), .int j => okD (atI ds j) S1
      | _, _ => .bad
    | _ => .bad
  | .slcL a b, S => (evE a S).bind fun x S1 => (evE b S1).bind fun y S2 => match y with
    | .int i => okD (slD x (some i) none) S2
    | _ => .bad
  | .slcH a b, S => (evE a S).bind fun x S1 => (evE b S1).bind fun y S2 => match y with
    | .int i => okD (slD x none (some i)) S2
    | _ => .bad
  | .slcB a b c, S => (evE a S).bind fun x S1 => (evE b S1).bind fun y S2 => match y with
    | .int i => (evE c S2).bind fun z S3 => match z with
      | .int j => okD (slD x (some i) (some j)) S3
      | _ => .bad
    | _ => .bad
  | .enm a, S => (evE a S).bind fun x S1 => okD ((enmD x).map .lst) S1
  | .lrg2 a b, S => (evE a S).bind fun x S1 => match x with
    | .int i => (evE b S1).bind (lrgD i)
    | _ => .bad
  | .join a b, S => (evE a S).bind fun x S1 => match x with
    | .str s => (evE b S1).bind (joinD s)
    | _ => .bad
  | .mk0 c, S => match P.cl[c]? with
    | some x => if x.bare = true then .ok (.ins c [] []) S else .bad
    | none => .bad
def evEs : List Tm → Sto → Rs (List Dt)
  | [], S => .ok [] S
  | e :: es, S => (evE e S).bind fun d S1 => (evEs es S1).bind fun ds S2 => .ok (d :: ds) S2
def evJ : List Tm → Str → Sto → Rs Str
  | [], acc, S => .ok acc S
  | e :: es, acc, S => (evE e S).bind fun d S1 => match d with
    | .str y => if (acc ++ y).length ≤ sizeLine then evJ es (acc ++ y) S1 else .bad
    | _ => .bad
end
def putD (f : Str) (d : Dt) : List Str → List Dt → List Str × List Dt
  | n :: ns, v :: vs => if f = n then (n :: ns, d :: vs) else let p := putD f d ns vs; (n :: p.1, v :: p.2)
  | _, _ => ([f], [d])
def setC (m : List Dt) (o i d : Dt) : Option (List Dt) := match o, i with
  | .cel k, .int j => match m[k]? with
    | some (.lst ds) => (ixN ds.length j).map fun n => m.set k (.lst (ds.set n d))
    | _ => none
  | _, _ => none
def toRt {α : Type} (x : Rs α) (k : α → Sto → Rt) : Rt := match x with
  | .ok a S => k a S
  | .ex c ns ds S => .ex c ns ds S
  | .bad => .bad
def forL (body : Sto → Rt) (tg : Tg) : List Dt → Sto → Rt
  | [], S => .nx S
  | x :: xs, S => match tgD tg x S.r with
    | none => .bad
    | some r' => match body ⟨r', S.m⟩ with
      | .nx S' => forL body tg xs S'
      | .ct S' => forL body tg xs S'
      | .bk S' => .nx S'
      | r => r
def whL (cnd : Sto → Rs Bool) (body : Sto → Rt) : Nat → Sto → Rt
  | 0, _ => .bad
  | n + 1, S => toRt (cnd S) fun b S1 => if b = true then
      match body S1 with
      | .nx S' => whL cnd body n S'
      | .ct S' => whL cnd body n S'
      | .bk S' => .nx S'
      | r => r
    else .nx S1
def tst (m : Sto → Rs Dt) (S : Sto) : Rs Bool := (m S).bind fun d S1 => match d with
  | .bl b => .ok b S1
  | _ => .bad
def freshTm : Tm → Bool
  | .lst _ => true
  | .bi .list _ => true
  | .comp _ _ _ _ _ => true
  | _ => false
mutual
def evS : Sm → Sto → Rt
  | .asg tg e, S => toRt (evE P cf ci e S) fun d S1 => match tgD tg d S1.r with
    | some r' => .nx ⟨r', S1.m⟩
    | none => .bad
  | .asgO i e, S => toRt (evE P cf ci e S) fun d S1 => if i < S1.r.length then .nx ⟨S1.r.set i (some (.o d)), S1.m⟩ else .bad
  | .par i j a b, S => toRt (evE P cf ci a S) fun x S1 => toRt (evE P cf ci b S1) fun y S2 => if i < S2.r.length ∧ j < S2.r.length then .nx ⟨(S2.r.set i (some (.p x))).set j (some (.p y)), S2.m⟩ else .bad
  | .put o i e, S => toRt (evE P cf ci e S) fun d S1 => toRt (evE P cf ci o S1) fun x S2 => toRt (evE P cf ci i S2) fun y S3 => match setC S3.m x y d with
    | some m' => .nx ⟨S3.r, m'⟩
    | none => .bad
  | .putB o i e, S => toRt (evE P cf ci e S) fun d S1 => match S1.r[o]? with
    | some (some (.o _)) => toRt (evE P cf ci i S1) fun y S2 => match S2.r[o]?, y with
      | some (some (.o (.lst ds))), .int j => match ixN ds.length j with
        | some n => .nx ⟨S2.r.set o (some (.o (.lst (ds.set n d)))), S2.m⟩
        | none => .bad
      | _, _ => .bad
    | _ => .bad
  | .fld f e, S => toRt (evE P cf ci e S) fun d S1 => match S1.r[(0 : Nat)]? with
    | some (some (Bn.o (Dt.ins c ns vs))) => if P.fld c f = true ∧ ns.length < 1000 then .nx ⟨S1.r.set 0 (some (.o (.ins c (putD f d ns vs).1 (putD f d ns vs).2))), S1.m⟩ else .bad
    | _ => .bad
  | .tsub o i j e, S => toRt (evE P cf ci e S) fun t S1 => match t with
    | .tup [d1, d2] => toRt (evE P cf ci o S1) fun x S2 => toRt (evE P cf ci i S2) fun y S3 => match setC S3.m x y d1 with
      | some m' => if j < S3.r.length then .nx ⟨S3.r.set j (some (.p d2)), m'⟩ else .bad
      | none => .bad
    | _ => .bad
  | .iff c a b, S => toRt (tst (evE P cf ci c) S) fun k S1 => if k = true then evSs a S1 else evSs b S1
  | .for_ tg it b, S => toRt (evE P cf ci it S) fun d S1 => match itemsD d with
    | some ds => forL (evSs b) tg ds S1
    | none => .bad
  | .whl n c b, S => whL (tst (evE P cf ci c)) (evSs b) n S
  | .ret e, S => toRt (evE P cf ci e S) fun d S1 => .rt (.p d) S1
  | .retO i, S => match S.r[i]? with
    | some (some (.o (.lst ds))) => .rt (.o (.lst ds)) S
    | _ => .bad
  | .retF e, S => toRt (evE P cf ci e S) fun d S1 => .rt (.o d) S1
  | .retN, S => .rt (.p .non) S
  | .exp e, S => toRt (evE P cf ci e S) fun _ S1 => .nx S1
  | .pas, S => .nx S
  | .brk, S => .bk S
  | .cnt, S => .ct S
  | .rai c es, S => toRt (evEs P cf ci es S) fun ds S1 => match P.xf.lookup c with
    | some ns => if ns.length = ds.length then .ex c ns ds S1 else .bad
    | none => .bad
  | .app i e, S => match S.r[i]? with
    | some (some (.o (.lst _))) => toRt (evE P cf ci e S) fun d S1 => match S1.r[i]? with
      | some (some (.o (.lst ds))) => if ds.length < sizeLine then .nx ⟨S1.r.set i (some (.o (.lst (ds ++ [d])))), S1.m⟩ else .bad
      | _ => .bad
    | _ => .bad
  | .nev, _ => .bad
  | .aug i op e, S => match S.r[i]? with
    | some (some (.p x)) => toRt (evE P cf ci e S) fun y S1 => toRt (aug1 P cf op x y S1) fun z S2 => if i < S2.r.length then .nx ⟨S2.r.set i (some (.p z)), S2.m⟩ else .bad
    | _ => .bad
def evSs : List Sm → Sto → Rt
  | [], S => .nx S
  | s :: ss, S => match evS s S with
    | .nx S1 => evSs ss S1
    | r => r
end
/-- a def's run -/
def fnRun (f : Nat) (xs m : List Dt) : Rc := match P.fn[f]? with
  | none => .bad
  | some fd => if xs.length = fd.k ∧ fd.k ≤ fd.n then
      match evSs P cf ci fd.b ⟨xs.map (fun d => some (.p d)) ++ List.replicate (fd.n - fd.k) none, m⟩ with
      | .nx S => if fd.cell = true then .bad else .ok (.p .non) S.m
      | .rt b S => if fd.cell = true then (match b with
          | .o d => .ok (.p (.cel S.m.length)) (S.m ++ [d])
          | .p _ => .bad) else .ok b S.m
      | .ex c ns ds S => .ex c ns ds S.m
      | _ => .bad
    else .bad
/-- a new instance -/
def clRun (c : Nat) (xs m : List Dt) : Rc := match P.cl[c]? with
  | none => .bad
  | some cd => match P.fn[cd.init]? with
    | none => .bad
    | some fd => if xs.length + 1 = fd.k ∧ fd.k ≤ fd.n then
        match evSs P cf ci fd.b ⟨some (.o (.ins c [] [])) :: (xs.map (fun d => some (.p d)) ++ List.replicate (fd.n - fd.k) none), m⟩ with
        | .nx S => match S.r[(0 : Nat)]? with
          | some (some (Bn.o (Dt.ins c' ns vs))) => .ok (.p (.ins c' ns vs)) S.m
          | _ => .bad
        | .ex c ns ds S => .ex c ns ds S.m
        | _ => .bad
      else .bad
end
def runs (P : Pg) : Nat → (Nat → List Dt → List Dt → Rc) × (Nat → List Dt → List Dt → Rc)
  | 0 => (fun _ _ _ => .bad, fun _ _ _ => .bad)
  | n + 1 => (fnRun P (runs P n).1 (runs P n).2, clRun P (runs P n).1 (runs P n).2)
end PyI
namespace PyI
open PySem PySem.Spec PyProof.Rows L2
/-! readings -/
section
variable (F : Fx) (f : Fm) (W : WX)
def Po {α β : Type} (σ : L2.St) (w : Wd) (r : Rs α) (Rel : Wd → α → β → Prop) (Q : β → Hp → Prop) : Prop := match r with
  | .ok a S' => ∀ b w' H', Rr F f w' σ H' S' → Le w w' → Rel w' a b → Q b H'
  | .ex c ns ds S' => ∀ dx vs w' H', Rr F f w' σ H' S' → Le w w' → w'.G dx = some (.xd (ns.zip vs)) → ns.length = vs.length → Dns F w' ds vs → W (.ref (F.ca c)) (some dx) σ H'
  | .bad => False
def Rd1 {α β : Type} (m : Sto → Rs α) (Rel : Wd → α → β → Prop) : L2.St → Hp → (β → Hp → Prop) → Prop := fun σ H Q => ∃ w S, Rr F f w σ H S ∧ Po F f W σ w (m S) Rel Q
end
section
variable {F : Fx} {f : Fm} {W : WX}
theorem Po.le {α β : Type} {σ : L2.St} {w w1 : Wd} {r : Rs α} {Rel : Wd → α → β → Prop} {Q : β → Hp → Prop} (l : Le w w1) (h : Po F f W σ w r Rel Q) : Po F f W σ w1 r Rel Q := by
  cases r with
  | ok a S => exact fun b w' H' R l' r => h b w' H' R (l.trans l') r
  | ex c ns ds S => exact fun dx vs w' H' R l' => h dx vs w' H' R (l.trans l')
  | bad => exact h
theorem Rd1.go {α β γ δ : Type} {m : Sto → Rs α} {k : α → Sto → Rs γ} {Rel1 : Wd → α → β → Prop} {Rel : Wd → γ → δ → Prop} {σ : L2.St} {H : Hp} {w : Wd} {S : Sto} {Q : δ → Hp → Prop} {Q1 : β → Hp → Prop}
    (R : Rr F f w σ H S) (h : Po F f W σ w ((m S).bind k) Rel Q)
    (hk : ∀ a b w1 H1 S1, m S = .ok a S1 → Rr F f w1 σ H1 S1 → Le w w1 → Rel1 w1 a b → Po F f W σ w1 (k a S1) Rel Q → Q1 b H1) : Rd1 F f W m Rel1 σ H Q1 := by
  refine ⟨w, S, R, ?_⟩
  cases e : m S with
  | ok a S1 =>
    rw [e] at h
    exact fun b w1 H1 R1 l1 r1 => hk a b w1 H1 S1 e R1 l1 r1 (Po.le l1 h)
  | ex c ns ds S1 =>
    rw [e] at h
    exact h
  | bad =>
    rw [e] at h
    exact h
theorem Po.ok {α β : Type} {σ : L2.St} {w : Wd} {a : α} {S : Sto} {Rel : Wd → α → β → Prop} {Q : β → Hp → Prop} {H : Hp} {b : β} (h : Po F f W σ w (.ok a S) Rel Q) (R : Rr F f w σ H S) (r : Rel w a b) : Q b H := h b w H R (Le.refl w) r
theorem Po.new {σ : L2.St} {w : Wd} {d : Dt} {S : Sto} {Q : VK} {H : Hp} {p : Addr} {o : HO} (h : Po F f W σ w (.ok d S) (Dn F) Q) (R : Rr F f w σ H S) (hp : H p = none) (r : Dn F ⟨upd w.G p o, w.A⟩ d (.ref p)) : Q (.ref p) (upd H p o) :=
  h _ _ _ (R.alloc hp).1 (R.alloc (o := o) hp).2 r
end
theorem peImp {X : Cx} {e : Expr} {t t' : TE} (h : PE X e t) (i : ∀ σ H Q, t' σ H Q → t σ H Q) : PE X e t' := ⟨fun pins s σ H Q I q => h.run pins s σ H Q I (i σ H Q q)⟩
theorem ptImp {X : Cx} {e : Expr} {t t' : TT} (h : PT X e t) (i : ∀ σ H Q, t' σ H Q → t σ H Q) : PT X e t' := ⟨fun pins s σ H Q I q => h.run pins s σ H Q I (i σ H Q q)⟩
theorem paImp {X : Cx} {e : List Expr} {t t' : TA} (h : PA X e t) (i : ∀ σ H Q, t' σ H Q → t σ H Q) : PA X e t' := ⟨fun pos pins s σ H Q I q => h.run pos pins s σ H Q I (i σ H Q q)⟩
theorem pssImp {X : Cx} {e : List Stmt} {t t' : TS} (h : PSs X e t) (i : ∀ D σ H, t' D σ H → t D σ H) : PSs X e t' := ⟨fun pins s σ H D I q => h.run pins s σ H D I (i D σ H q)⟩
theorem psImp {X : Cx} {e : Stmt} {t t' : TS} (h : PS X e t) (i : ∀ D σ H, t' D σ H → t D σ H) : PS X e t' := ⟨fun pins s σ H D I q => h.run pins s σ H D I (i D σ H q)⟩
/-! data and the library's data -/
mutual
theorem dp_of {F : Fx} {w : Wd} {H : Hp} (fr : ∀ a o, w.G a = some o → H a = some o) : ∀ (d : Dt) {v : V} {p : PyData}, Dn F w d v → toPy d = some p → Dp F.K H v p
  | .non, _, _, h, e => by cases h; cases e; exact .non
  | .bl _, _, _, h, e => by cases h; cases e; exact .bl _
  | .int _, _, _, h, e => by cases h; cases e; exact .int _
  | .str _, _, _, h, e => by cases h; cases e; exact .str _
  | .lst ds, _, p, ⟨a, vs, e1, s, r⟩, e => by
    subst e1
    simp only [toPy] at e
    cases q : toPys ds with
    | none => rw [q] at e; cases e
    | some ps => rw [q] at e; cases e; exact .lst (SqL.of (fr _ _ s)) (dps_of fr ds r q)
  | .tup ds, _, p, ⟨a, vs, e1, s, r⟩, e => by
    subst e1
    simp only [toPy] at e
    cases q : toPys ds with
    | none => rw [q] at e; cases e
    | some ps => rw [q] at e; cases e; exact .tup (sqT_mono fr s) (dps_of fr ds r q)
  | .dct _ _, _, _, _, e | .ins _ _ _, _, _, _, e | .cel _, _, _, _, e | .cls _, _, _, _, e | .ty _, _, _, _, e | .scr _, _, _, _, e => by cases e
theorem dps_of {F : Fx} {w : Wd} {H : Hp} (fr : ∀ a o, w.G a = some o → H a = some o) : ∀ (ds : List Dt) {vs : List V} {ps : List PyData}, Dns F w ds vs → toPys ds = some ps → DpAll F.K H vs ps
  | [], _, _, h, e => by cases h; cases e; exact .nil
  | d :: ds, _, ps, ⟨v, r, e1, h, t⟩, e => by
    subst e1
    simp only [toPys] at e
    cases q : toPy d with
    | none => rw [q] at e; cases e
    | some x =>
      cases q2 : toPys ds with
      | none => rw [q, q2] at e; cases e
      | some xs => rw [q, q2] at e; cases e; exact .cons (dp_of fr d h q) (dps_of fr ds t q2)
end
theorem flat_dn {F : Fx} {w : Wd} : ∀ {d : Dt} {v : V}, flatD d = true → Dn F w d v → v = dtV d ∧ flatV v = true
  | .non, _, _, h | .bl _, _, _, h | .int _, _, _, h | .str _, _, _, h => by cases h; exact ⟨rfl, rfl⟩
  | .lst _, _, e, _ | .tup _, _, e, _ | .dct _ _, _, e, _ | .ins _ _ _, _, e, _ | .cel _, _, e, _ | .cls _, _, e, _ | .ty _, _, e, _ | .scr _, _, e, _ => by cases e
theorem flat_dns {F : Fx} {w : Wd} : ∀ {ds : List Dt} {vs : List V}, ds.all flatD = true → Dns F w ds vs → vs = ds.map dtV ∧ vs.all flatV = true
  | [], _, _, h => by cases h; exact ⟨rfl, rfl⟩
  | d :: ds, _, e, ⟨v, r, e1, h, t⟩ => by
    subst e1
    rw [List.all_cons, Bool.and_eq_true] at e
    obtain ⟨h1, h2⟩ := flat_dn e.1 h
    obtain ⟨h3, h4⟩ := flat_dns e.2 t
    exact ⟨by rw [h1, h3]; rfl, by rw [List.all_cons, h2, h4]; rfl⟩
/-! operators -/
section
variable {X : Cx} {F : Fx} {f : Fm} {W : WX}
def rOp (F : Fx) (f : Fm) (W : WX) (g : Dt → Dt → Option Dt) : R2 := fun x y H Q => ∃ σ w S a b d, Rr F f w σ H S ∧ Dn F w a x ∧ Dn F w b y ∧ g a b = some d ∧ Po F f W σ w (.ok d S) (Dn F) Q
theorem CMul.of {i j : Int} (h : mulOk i j = true) : CMul i j := by
  simp only [mulOk, Bool.or_eq_true, Bool.and_eq_true, decide_eq_true_eq] at h
  exact h
theorem dns_rep {w : Wd} {ds : List Dt} {vs : List V} : ∀ (n : Nat), Dns F w ds vs → Dns F w (List.replicate n ds).flatten (List.replicate n vs).flatten
  | 0, _ => rfl
  | n + 1, h => by
    rw [List.replicate_succ, List.replicate_succ, List.flatten_cons, List.flatten_cons]
    exact h.append (dns_rep n h)
theorem opD_ok (hK : X.K = F.K) (op : Operator) : OpR X (binaryOp op) (rOp F f W (opD op)) := by
  intro pins s σ H x y v u Q I rx ry h
  obtain ⟨τ, w, S, a, b, d, R, da, db, e, q⟩ := h
  have int2 : ∀ {i j : Int} {k : Int}, a = .int i → b = .int j → d = .int k → x = .int i ∧ y = .int j ∧ Q (.int k) H := fun {i j k} h1 h2 h3 => by
    subst h1; subst h2; subst h3
    exact ⟨da, db, q.ok R rfl⟩
  unfold opD at e
  split at e
  · cases e
    obtain ⟨h1, h2, h3⟩ := int2 rfl rfl rfl
    exact op_add pins s σ H x y v u Q I rx ry ⟨_, _, h1, h2, h3⟩
  · rename_i x1 y1
    split at e
    · cases e
      exact op_add_str pins s σ H x y v u Q I rx ry ⟨x1, y1, da, db, by assumption, q.ok R rfl⟩
    · cases e
  · rename_i xs ys
    split at e
    · rename_i hl
      cases e
      obtain ⟨l1, vs, e1, g1, r1⟩ := da
      obtain ⟨l2, us, e2, g2, r2⟩ := db
      refine op_cat pins s σ H x y v u Q I rx ry ⟨l1, l2, vs, us, e1, e2, R.cs.fr _ _ g1, R.cs.fr _ _ g2, ?_, fun p hp => ?_⟩
      · rw [← r1.length, ← r2.length]
        exact hl
      · have l := (R.alloc (o := .lst (vs ++ us)) hp).2
        exact q.new R hp ⟨p, vs ++ us, rfl, upd_same, (Dns.mono l _ r1).append (Dns.mono l _ r2)⟩
    · cases e
  · cases e
    obtain ⟨h1, h2, h3⟩ := int2 rfl rfl rfl
    exact op_sub pins s σ H x y v u Q I rx ry ⟨_, _, h1, h2, h3⟩
  · split at e
    · rename_i hm
      cases e
      obtain ⟨h1, h2, h3⟩ := int2 rfl rfl rfl
      exact op_mul pins s σ H x y v u Q I rx ry ⟨_, _, h1, h2, CMul.of hm, h3⟩
    · cases e
  · rename_i xs k
    split at e
    · rename_i hm
      cases e
      obtain ⟨l1, vs, e1, g1, r1⟩ := da
      refine op_rep pins s σ H x y v u Q I rx ry ⟨l1, k, vs, e1, db, R.cs.fr _ _ g1, hm.1, hm.2.1, ?_, fun p hp => ?_⟩
      · rw [← r1.length]
        exact hm.2.2
      · have l := (R.alloc (o := .lst (List.replicate k.toNat vs).flatten) hp).2
        exact q.new R hp ⟨p, _, rfl, upd_same, dns_rep k.toNat (Dns.mono l _ r1)⟩
    · cases e
  · split at e
    · rename_i hm
      cases e
      obtain ⟨h1, h2, h3⟩ := int2 rfl rfl rfl
      exact op_fdiv pins s σ H x y v u Q I rx ry ⟨_, _, h1, h2, hm, h3⟩
    · cases e
  · split at e
    · rename_i hm
      cases e
      obtain ⟨h1, h2, h3⟩ := int2 rfl rfl rfl
      exact op_mod pins s σ H x y v u Q I rx ry ⟨_, _, h1, h2, hm, h3⟩
    · cases e
  · split at e
    · rename_i hm
      cases e
      obtain ⟨h1, h2, h3⟩ := int2 rfl rfl rfl
      exact op_pow pins s σ H x y v u Q I rx ry ⟨_, _, h1, h2, hm, h3⟩
    · cases e
  · cases e
theorem eqD_ok (hK : X.K = F.K) (hu : X.A.units + 64 < cLine) : OpR X (compareOp .Eq) (rOp F f W fun a b => (eqD a b).map .bl) := by
  intro pins s σ H x y v u Q I rx ry h
  obtain ⟨τ, w, S, a, b, d, R, da, db, e, q⟩ := h
  have e : (eqD a b).map Dt.bl = some d := e
  unfold eqD at e
  split at e
  · rename_i pa pb ea eb
    split at e
    · rename_i hs
      cases e
      rw [Bool.and_eq_true] at hs
      refine op_eqD hu pins s σ H x y v u Q I rx ry ⟨pa, pb, ?_, ?_, hs.1, hs.2, q.ok R rfl⟩
      · rw [hK]; exact dp_of R.cs.fr a da ea
      · rw [hK]; exact dp_of R.cs.fr b db eb
    · cases e
  · cases e
theorem neD_ok (hK : X.K = F.K) (hu : X.A.units + 64 < cLine) : OpR X (compareOp .NotEq) (rOp F f W fun a b => ((eqD a b).map (!·)).map .bl) := by
  intro pins s σ H x y v u Q I rx ry h
  obtain ⟨τ, w, S, a, b, d, R, da, db, e, q⟩ := h
  have e : ((eqD a b).map (!·)).map Dt.bl = some d := e
  unfold eqD at e
  split at e
  · rename_i pa pb ea eb
    split at e
    · rename_i hs
      cases e
      rw [Bool.and_eq_true] at hs
      refine op_neD hu pins s σ H x y v u Q I rx ry ⟨pa, pb, ?_, ?_, hs.1, hs.2, q.ok R rfl⟩
      · rw [hK]; exact dp_of R.cs.fr a da ea
      · rw [hK]; exact dp_of R.cs.fr b db eb
    · cases e
  · cases e
theorem inT_ok (hK : X.K = F.K) (neg : Bool) {w : Wd} {S : Sto} {a : Dt} {ds : List Dt} {k : Bool} {τ σ : L2.St} {H : Hp} {x y : V} {Q : VK} (R : Rr F f w τ H S) (da : Dn F w a x) (db : Dn F w (.tup ds) y) (e : inTD a ds = some k)
    (q : Q (.bl (if neg then !k else k)) H) : rIn X.K neg x y H Q := by
  obtain ⟨p, vs, e2, sq, r⟩ := db
  unfold inTD at e
  split at e
  · rename_i hf
    rw [Bool.and_eq_true] at hf
    cases e
    obtain ⟨h1, h2⟩ := flat_dn hf.1 da
    obtain ⟨h3, h4⟩ := flat_dns hf.2 r
    refine ⟨p, vs, e2, .inr ?_, h2, h4, ?_⟩
    · rw [hK]; exact sqT_mono R.cs.fr sq
    · rw [h1, h3]; exact q
  · cases e
theorem inL_ok (hK : X.K = F.K) {w : Wd} {S : Sto} {a : Dt} {ds : List Dt} {k : Bool} {τ : L2.St} {H : Hp} {x y : V} (R : Rr F f w τ H S) (da : Dn F w a x) (db : Dn F w (.lst ds) y) (e : inLD a ds = some k) :
    ∃ d es, Dp X.K H x d ∧ Dp X.K H y (.list es) ∧ SeqAt.shaped d = true ∧ SeqAt.shaped (.list es) = true ∧ k = es.any fun z => PyData.eqv z d := by
  unfold inLD at e
  split at e
  · rename_i pa pb ea eb
    split at e
    · rename_i hs
      cases e
      rw [Bool.and_eq_true] at hs
      refine ⟨pa, pb, ?_, ?_, hs.1, hs.2, rfl⟩
      · rw [hK]; exact dp_of R.cs.fr a da ea
      · rw [hK]; exact dp_of (p := .list pb) R.cs.fr (.lst ds) db (by simp only [toPy]; rw [eb]; rfl)
    · cases e
  · cases e
theorem cmpD_ok (hK : X.K = F.K) (hu : X.A.units + 65 < cLine) (op : CmpOp) : OpR X (compareOp op) (rOp F f W fun a b => (cmpD op a b).map .bl) := by
  intro pins s σ H x y v u Q I rx ry h
  obtain ⟨τ, w, S, a, b, d, R, da, db, e, q⟩ := h
  replace e : (cmpD op a b).map Dt.bl = some d := e
  unfold cmpD at e
  split at e
  · cases e; exact op_lt pins s σ H x y v u Q I rx ry ⟨_, _, da, db, q.ok R rfl⟩
  · cases e; exact op_le pins s σ H x y v u Q I rx ry ⟨_, _, da, db, q.ok R rfl⟩
  · cases e; exact op_gt pins s σ H x y v u Q I rx ry ⟨_, _, da, db, q.ok R rfl⟩
  · cases e; exact op_ge pins s σ H x y v u Q I rx ry ⟨_, _, da, db, q.ok R rfl⟩
  · exact eqD_ok hK (by omega) pins s σ H x y v u Q I rx ry ⟨τ, w, S, a, b, d, R, da, db, e, q⟩
  · exact neD_ok hK (by omega) pins s σ H x y v u Q I rx ry ⟨τ, w, S, a, b, d, R, da, db, e, q⟩
  · cases e; cases da; exact op_isN pins s σ H .non y v u Q I rx ry ⟨db, q.ok R rfl⟩
  · cases e; cases da; exact op_isN pins s σ H _ y v u Q I rx ry ⟨db, q.ok R rfl⟩
  · cases e; cases da; exact op_isN pins s σ H _ y v u Q I rx ry ⟨db, q.ok R rfl⟩
  · cases e; cases da; exact op_isN pins s σ H _ y v u Q I rx ry ⟨db, q.ok R rfl⟩
  · cases e; cases da; exact op_notN pins s σ H .non y v u Q I rx ry ⟨db, q.ok R rfl⟩
  · cases e; cases da; exact op_notN pins s σ H _ y v u Q I rx ry ⟨db, q.ok R rfl⟩
  · cases e; cases da; exact op_notN pins s σ H _ y v u Q I rx ry ⟨db, q.ok R rfl⟩
  · cases e; cases da; exact op_notN pins s σ H _ y v u Q I rx ry ⟨db, q.ok R rfl⟩
  · cases e; exact op_isBl pins s σ H x y v u Q I rx ry ⟨_, _, da, db, q.ok R rfl⟩
  · cases e; exact op_in_str pins s σ H x y v u Q I rx ry ⟨_, _, da, db, q.ok R rfl⟩
  · cases e; exact op_notin_str pins s σ H x y v u Q I rx ry ⟨_, _, da, db, q.ok R rfl⟩
  · rename_i ds
    cases z : inLD a ds with
    | none => rw [z] at e; cases e
    | some k =>
      rw [z] at e
      cases e
      obtain ⟨pa, es, h1, h2, h3, h4, h5⟩ := inL_ok hK R da db z
      exact op_inD hu pins s σ H x y v u Q I rx ry ⟨pa, es, h1, h2, h3, h4, by rw [← h5]; exact q.ok R rfl⟩
  · rename_i ds
    cases z : inTD a ds with
    | none => rw [z] at e; cases e
    | some k =>
      rw [z] at e
      cases e
      exact op_in_seq pins s σ H x y v u Q I rx ry (inT_ok (σ := σ) hK false R da db z (q.ok R rfl))
  · rename_i ds
    cases z : inLD a ds with
    | none => rw [z] at e; cases e
    | some k =>
      rw [z] at e
      cases e
      obtain ⟨pa, es, h1, h2, h3, h4, h5⟩ := inL_ok hK R da db z
      exact op_notInD hu pins s σ H x y v u Q I rx ry ⟨pa, es, h1, h2, h3, h4, by rw [← h5]; exact q.ok R rfl⟩
  · rename_i ds
    cases z : inTD a ds with
    | none => rw [z] at e; cases e
    | some k =>
      rw [z] at e
      cases e
      exact op_notIn_seq pins s σ H x y v u Q I rx ry (inT_ok (σ := σ) hK true R da db z (q.ok R rfl))
  · cases e
/-! subscripts -/
theorem ixD_ok (hK : X.K = F.K) : IxR X (fun x y H Q => ∃ σ w S a b d, Rr F f w σ H S ∧ Dn F w a x ∧ Dn F w b y ∧ ixD S.m a b = some d ∧ Po F f W σ w (.ok d S) (Dn F) Q) := by
  intro value slice pins s σ H x y v u Q I rx ry h hs
  obtain ⟨τ, w, S, a, b, d, R, da, db, e, q⟩ := h
  have geti : ∀ {ds : List Dt} {vs : List V} {i : Int}, Dns F w ds vs → atI ds i = some d → ∃ z, atI vs i = some z ∧ Dn F w d z := fun {ds vs i} r e => by
    unfold atI at e ⊢
    rw [r.length] at e
    cases z : ixN vs.length i with
    | none => rw [z] at e; cases e
    | some j => rw [z] at e; exact r.get e
  unfold ixD at e
  split at e
  · obtain ⟨p, vs, e1, g1, r1⟩ := da
    obtain ⟨z, h1, h2⟩ := geti r1 e
    exact ix_list value slice pins s σ H x y v u Q I rx ry ⟨p, vs, _, z, e1, db, SqL.of (R.cs.fr _ _ g1), h1, q.ok R h2⟩ hs
  · obtain ⟨p, vs, e1, g1, r1⟩ := da
    obtain ⟨z, h1, h2⟩ := geti r1 e
    exact ix_tup value slice pins s σ H x y v u Q I rx ry ⟨p, vs, _, z, e1, db, by rw [hK]; exact sqT_mono R.cs.fr g1, h1, q.ok R h2⟩ hs
  · rename_i xs i
    obtain ⟨p, e1, g1⟩ := da
    cases z : atI xs i with
    | none => rw [z] at e; cases e
    | some k =>
      rw [z] at e
      cases e
      refine ix_list value slice pins s σ H x y v u Q I rx ry ⟨p, xs.map V.int, i, .int k, e1, db, by rw [hK]; exact sqL_mono R.cs.fr g1, ?_, q.ok R rfl⟩ hs
      unfold atI at z ⊢
      rw [List.length_map]
      cases y : ixN xs.length i with
      | none => rw [y] at z; cases z
      | some j =>
        rw [y] at z
        show (xs.map V.int)[j]? = _
        rw [List.getElem?_map, show xs[j]? = some k from z]
        rfl
  · rename_i k i
    split at e
    · rename_i ds hm
      obtain ⟨p, e1, g1⟩ := da
      obtain ⟨vs, g2, r1⟩ := R.cs.co k p _ g1 hm
      obtain ⟨z, h1, h2⟩ := geti r1 e
      exact ix_list value slice pins s σ H x y v u Q I rx ry ⟨p, vs, _, z, e1, db, SqL.of g2, h1, q.ok R h2⟩ hs
    · cases e
  · rename_i x1 i
    split at e
    · rename_i hl
      cases z : atI x1.cps.toList i with
      | none => rw [z] at e; cases e
      | some c =>
        rw [z] at e
        cases e
        exact ix_str value slice pins s σ H x y v u Q I rx ry ⟨x1, i, c, da, db, hl, z, q.ok R rfl⟩ hs
    · cases e
  · cases e
end
/-! truth of a test -/
section
variable {X : Cx} {F : Fx} {f : Fm} {W : WX}
abbrev RE (F : Fx) (f : Fm) (W : WX) (m : Sto → Rs Dt) : TE := Rd1 F f W m (Dn F)
def BlR (w : Wd) (d : Dt) (b : Bool) : Prop := d = .bl b
abbrev RT (F : Fx) (f : Fm) (W : WX) (m : Sto → Rs Dt) : TT := Rd1 F f W m BlR
abbrev REs (F : Fx) (f : Fm) (W : WX) (m : Sto → Rs (List Dt)) : TA := Rd1 F f W m (Dns F)
variable {a b c : Expr} {pos : Pos} {ma mb mc : Sto → Rs Dt}
theorem se_bin {op : Operator} (hK : X.K = F.K) (ha : PE X a (RE F f W ma)) (hb : PE X b (RE F f W mb)) :
    PE X (.BinOp a op b pos) (RE F f W fun S => (ma S).bind fun x S1 => (mb S1).bind fun y S2 => okD (opD op x y) S2) := by
  refine peImp (pe_op (opD_ok (f := f) (W := W) hK op) ha hb) fun σ H Q ⟨w, S, R, h⟩ => ?_
  refine Rd1.go R h fun d1 x w1 H1 S1 _ R1 l1 r1 h1 => ?_
  refine Rd1.go R1 h1 fun d2 y w2 H2 S2 _ R2 l2 r2 h2 => ?_
  cases e : opD op d1 d2 with
  | none => rw [e] at h2; exact h2.elim
  | some d => rw [e] at h2; exact ⟨σ, w2, S2, d1, d2, d, R2, Dn.mono l2 d1 r1, r2, e, h2⟩
theorem se_cmp {op : CmpOp} (hK : X.K = F.K) (hu : X.A.units + 65 < cLine) (hm : behindInMarks op b = false) (ha : PE X a (RE F f W ma)) (hb : PE X b (RE F f W mb)) :
    PE X (.Compare a [op] [b] pos) (RE F f W fun S => (ma S).bind fun x S1 => (mb S1).bind fun y S2 => okD ((cmpD op x y).map .bl) S2) := by
  refine peImp (pe_cmpR (cmpD_ok (f := f) (W := W) hK hu op) ha hb hm) fun σ H Q ⟨w, S, R, h⟩ => ?_
  refine Rd1.go R h fun d1 x w1 H1 S1 _ R1 l1 r1 h1 => ?_
  refine Rd1.go R1 h1 fun d2 y w2 H2 S2 _ R2 l2 r2 h2 => ?_
  cases e : (cmpD op d1 d2).map Dt.bl with
  | none => rw [e] at h2; exact h2.elim
  | some d => rw [e] at h2; exact ⟨σ, w2, S2, d1, d2, d, R2, Dn.mono l2 d1 r1, r2, e, h2⟩
theorem se_ix (hK : X.K = F.K) (hs : PlainIx b) (ha : PE X a (RE F f W ma)) (hb : PE X b (RE F f W mb)) :
    PE X (.Subscript a b pos) (RE F f W fun S => (ma S).bind fun x S1 => (mb S1).bind fun y S2 => okD (ixD S2.m x y) S2) := by
  refine peImp (pe_ix (ixD_ok (f := f) (W := W) hK) ha hb hs) fun σ H Q ⟨w, S, R, h⟩ => ?_
  refine Rd1.go R h fun d1 x w1 H1 S1 _ R1 l1 r1 h1 => ?_
  refine Rd1.go R1 h1 fun d2 y w2 H2 S2 _ R2 l2 r2 h2 => ?_
  cases e : ixD S2.m d1 d2 with
  | none => rw [e] at h2; exact h2.elim
  | some d => rw [e] at h2; exact ⟨σ, w2, S2, d1, d2, d, R2, Dn.mono l2 d1 r1, r2, e, h2⟩
theorem se_var {i : Nat} {x : Str} (hN : X.N[i]? = some x) (hv : Vis X.env.scope x) (hd : (x == ("__debug__" : Str)) = false) (hcd : (x == ("__classdict__" : Str)) = false) :
    PE X (.Name x pos) (RE F f W fun S => match S.r[i]? with
    | some (some (.p d)) => .ok d S
    | some (some (.o (.lst ds))) => .ok (.lst ds) ⟨S.r.set i (some (.p (.lst ds))), S.m⟩
    | _ => .bad) := by
  refine peImp (pe_var hN hv hd hcd) fun σ H Q ⟨w, S, R, h⟩ => ?_
  dsimp only at h
  split at h
  · rename_i d e
    obtain ⟨v, h1, h2⟩ := R.pu i d e
    exact ⟨v, h1, h.ok R h2⟩
  · rename_i ds e
    obtain ⟨a, w', h1, l, R', dn⟩ := R.freeze e
    exact ⟨.ref a, h1, h _ _ _ R' l dn⟩
  · exact h.elim
theorem se_c {e : Expr} {v : V} {d : Dt} (he : PE X e (tC v)) (hd : ∀ w, Dn F w d v) : PE X e (RE F f W fun S => .ok d S) :=
  peImp he fun σ H Q ⟨w, S, R, h⟩ => h.ok R (hd w)
theorem se_neg (ha : PE X a (RE F f W ma)) : PE X (.UnaryOp .USub a pos) (RE F f W fun S => (ma S).bind fun x S1 => match x with
    | .int i => .ok (.int (-i)) S1
    | _ => .bad) := by
  refine peImp (pe_un un_neg ha) fun σ H Q ⟨w, S, R, h⟩ => ?_
  refine Rd1.go R h fun d1 x w1 H1 S1 _ R1 l1 r1 h1 => ?_
  cases d1 with
  | int i => exact ⟨i, r1, h1.ok R1 rfl⟩
  | _ => exact h1.elim
theorem se_not (ha : PE X a (RE F f W ma)) : PE X (.UnaryOp .Not a pos) (RE F f W fun S => (ma S).bind fun x S1 => match x with
    | .bl k => .ok (.bl (!k)) S1
    | _ => .bad) := by
  refine peImp (pe_not ha) fun σ H Q ⟨w, S, R, h⟩ => ?_
  refine Rd1.go R h fun d1 x w1 H1 S1 _ R1 l1 r1 h1 => ?_
  cases d1 with
  | bl k => exact ⟨k, r1, h1.ok R1 rfl⟩
  | _ => exact h1.elim
end
/-! slices -/
section
variable {X : Cx} {F : Fx} {f : Fm} {W : WX}
theorem Dns.drop {w : Wd} : ∀ {ds : List Dt} {vs : List V} (n : Nat), Dns F w ds vs → Dns F w (ds.drop n) (vs.drop n)
  | _, _, 0, h => h
  | [], _, n + 1, h => by cases h; exact rfl
  | d :: ds, _, n + 1, ⟨v, r, e, _, t⟩ => by subst e; exact Dns.drop n t
theorem Dns.take {w : Wd} : ∀ {ds : List Dt} {vs : List V} (n : Nat), Dns F w ds vs → Dns F w (ds.take n) (vs.take n)
  | _, _, 0, _ => rfl
  | [], _, n + 1, h => by cases h; exact rfl
  | d :: ds, _, n + 1, ⟨v, r, e, h, t⟩ => by subst e; exact ⟨v, r.take n, rfl, h, Dns.take n t⟩
theorem cut_dn {w : Wd} {ds : List Dt} {vs : List V} {lo hi : Option Int} (h : Dns F w ds vs) : Dns F w (cutL ds lo hi) (cutV vs lo hi) := by
  unfold cutL cutV
  rw [h.length]
  exact (h.drop _).take _
theorem slD_ok (hK : X.K = F.K) : SlR X (fun x lo hi H Q => ∃ σ w S a d, Rr F f w σ H S ∧ Dn F w a x ∧ slD a lo hi = some d ∧ Po F f W σ w (.ok d S) (Dn F) Q) := by
  intro pins s σ H x v vl vu lo hi sl Q I rx hs pl pu h
  obtain ⟨τ, w, S, a, d, R, da, e, q⟩ := h
  unfold slD at e
  split at e
  · cases e
    obtain ⟨p, vs, e1, g1, r1⟩ := da
    refine sl_list pins s σ H x v vl vu lo hi sl Q I rx hs pl pu ⟨p, vs, e1, SqL.of (R.cs.fr _ _ g1), fun p2 hp => ?_⟩
    have l := (R.alloc (o := .lst (cutV vs lo hi)) hp).2
    exact q.new R hp ⟨p2, _, rfl, upd_same, cut_dn (Dns.mono l _ r1)⟩
  · rename_i ds
    split at e
    · cases e
    · rename_i hw
      cases e
      obtain ⟨p, vs, e1, g1, r1⟩ := da
      refine sl_tup pins s σ H x v vl vu lo hi sl Q I rx hs pl pu ⟨p, vs, e1, by rw [hK]; exact sqT_mono R.cs.fr g1, by rw [← r1.length]; exact hw, fun p2 hp => ?_⟩
      have l := (R.alloc (o := .tup (cutV vs lo hi)) hp).2
      exact q.new R hp ⟨p2, _, rfl, .inl (.inl upd_same), cut_dn (Dns.mono l _ r1)⟩
  · split at e
    · rename_i hl
      cases e
      exact sl_str pins s σ H x v vl vu lo hi sl Q I rx hs pl pu ⟨_, da, hl, q.ok R rfl⟩
    · cases e
  · cases e
variable {a b c : Expr} {pos p2 : Pos} {ma mb mc : Sto → Rs Dt}
theorem se_slcL (hK : X.K = F.K) (ha : PE X a (RE F f W ma)) (hb : PE X b (RE F f W mb)) : PE X (.Subscript a (.Slice (some b) none none p2) pos) (RE F f W fun S => (ma S).bind fun x S1 => (mb S1).bind fun y S2 => match y with
    | .int i => okD (slD x (some i) none) S2
    | _ => .bad) := by
  refine peImp (pe_slice (slD_ok (f := f) (W := W) hK) ha (po_some hb) po_none) fun σ H Q ⟨w, S, R, h⟩ => ?_
  refine Rd1.go R h fun d1 x w1 H1 S1 _ R1 l1 r1 h1 => ?_
  refine Rd1.go R1 h1 fun d2 y w2 H2 S2 _ R2 l2 r2 h2 => ?_
  cases d2 with
  | int i =>
    refine ⟨i, r2, ?_⟩
    dsimp only at h2
    cases e : slD d1 (some i) none with
    | none => rw [e] at h2; exact h2.elim
    | some d => rw [e] at h2; exact ⟨σ, w2, S2, d1, d, R2, Dn.mono l2 d1 r1, e, h2⟩
  | _ => exact h2.elim
theorem se_slcH (hK : X.K = F.K) (ha : PE X a (RE F f W ma)) (hb : PE X b (RE F f W mb)) : PE X (.Subscript a (.Slice none (some b) none p2) pos) (RE F f W fun S => (ma S).bind fun x S1 => (mb S1).bind fun y S2 => match y with
    | .int i => okD (slD x none (some i)) S2
    | _ => .bad) := by
  refine peImp (pe_slice (slD_ok (f := f) (W := W) hK) ha po_none (po_some hb)) fun σ H Q ⟨w, S, R, h⟩ => ?_
  refine Rd1.go R h fun d1 x w1 H1 S1 _ R1 l1 r1 h1 => ?_
  refine Rd1.go R1 h1 fun d2 y w2 H2 S2 _ R2 l2 r2 h2 => ?_
  cases d2 with
  | int i =>
    refine ⟨i, r2, ?_⟩
    dsimp only at h2
    cases e : slD d1 none (some i) with
    | none => rw [e] at h2; exact h2.elim
    | some d => rw [e] at h2; exact ⟨σ, w2, S2, d1, d, R2, Dn.mono l2 d1 r1, e, h2⟩
  | _ => exact h2.elim
theorem se_slcB (hK : X.K = F.K) (ha : PE X a (RE F f W ma)) (hb : PE X b (RE F f W mb)) (hc : PE X c (RE F f W mc)) : PE X (.Subscript a (.Slice (some b) (some c) none p2) pos) (RE F f W fun S => (ma S).bind fun x S1 => (mb S1).bind fun y S2 => match y with
    | .int i => (mc S2).bind fun z S3 => match z with
      | .int j => okD (slD x (some i) (some j)) S3
      | _ => .bad
    | _ => .bad) := by
  refine peImp (pe_slice (slD_ok (f := f) (W := W) hK) ha (po_some hb) (po_some hc)) fun σ H Q ⟨w, S, R, h⟩ => ?_
  refine Rd1.go R h fun d1 x w1 H1 S1 _ R1 l1 r1 h1 => ?_
  refine Rd1.go R1 h1 fun d2 y w2 H2 S2 _ R2 l2 r2 h2 => ?_
  cases d2 with
  | int i =>
    refine ⟨i, r2, ?_⟩
    dsimp only at h2
    refine Rd1.go R2 h2 fun d3 z w3 H3 S3 _ R3 l3 r3 h3 => ?_
    cases d3 with
    | int j =>
      refine ⟨j, r3, ?_⟩
      dsimp only at h3
      cases e : slD d1 (some i) (some j) with
      | none => rw [e] at h3; exact h3.elim
      | some d => rw [e] at h3; exact ⟨σ, w3, S3, d1, d, R3, Dn.mono (l2.trans l3) d1 r1, e, h3⟩
    | _ => exact h3.elim
  | _ => exact h2.elim
end
end PyI
namespace PyI
open PySem PySem.Spec PyProof.Rows L2
/-! ### what a callee promises -/
section
variable (F : Fx)
/-- a value that is handed back -/
def Vb (w' : Wd) (H H' : Hp) : Bn → V → Prop
  | .p d, v => Dn F w' d v
  | .o d, v => ∃ a, v = .ref a ∧ w'.G a = none ∧ a ∉ w'.A ∧ Mc F w' H' a d ∧ H a = none
def PoC (w : Wd) (H : Hp) (r : Rc) (Q : VK) (E : XK) : Prop := match r with
  | .ok b m' => ∀ v w' H', Cs F w' H' m' → Xt ⟨H, w, [], []⟩ w' H' → Vb F w' H H' b v → Q v H'
  | .ex c ns ds m' => ∀ dx vs w' H', Cs F w' H' m' → Xt ⟨H, w, [], []⟩ w' H' → w'.G dx = some (.xd (ns.zip vs)) → ns.length = vs.length → Dns F w' ds vs → E (.ref (F.ca c)) (some dx) H'
  | .bad => False
/-- the promise of a def, for its given arguments by shape -/
def spS (g : List Dt → List Dt → Rc) (sh : List Ar) : Sp := fun vs H Q E => ∃ w m ds xs, Cs F w H m ∧ Dns F w ds vs ∧ pick ds sh = some xs ∧ PoC F w H (g xs m) Q E
end
/-- a callable thing at f keeps the promise sp when it is given n values by place and the keywords ks -/
def CalG (P : Program) (w : World) (K : PySem.W.Frag) (mg : Str → Option Value) (base : Heap) (k : Nat) (f : Addr) (n : Nat) (ks : List Str) (sp : Sp) : Prop :=
  ∀ (A : Around) (outer : List Env) (s : Shared) (H : Hp) (us ws : List Value) (vs zs : List V) (Q : VK) (E : XK), Room k A → A.guards = some [] → Env0 P w K mg base A outer s H → us.length = n → ws.length = ks.length →
    Vals vs us → Vals zs ws → sp (vs ++ zs) H Q E → codeAny (model P w) A (.call (.ref f) ⟨us, ks.zip ws⟩) (CR (L2.CX P w) outer P w H s Q E) s
section
variable {X : Cx} {W : WX} {k n : Nat} {f : Addr} {ks : List Str} {sp : Sp}
theorem run_G {pins : List (Addr × Obj)} {σ : L2.St} {H : Hp} {s : Shared} {Q : VK} {us ws : List Value} {vs zs : List V} (C : CalG X.prog X.w X.K X.mg X.base k f n ks sp) (hr : Room k X.A) (hg : X.A.guards = some []) (tk : Takes X W)
    (I : Inv X pins σ H s) (h1 : us.length = n) (h2 : ws.length = ks.length) (r : Vals vs us) (rz : Vals zs ws) (h : sp (vs ++ zs) H Q (WE W σ)) :
    wpAny (model X.prog X.w) X.A (PySem.call (.ref f) us (ks.zip ws)) (EP X pins σ Q) X.xe s := by
  refine wpAny_call (codeAny_mono (C X.A X.stack s H us ws vs zs Q (WE W σ) hr hg I.env0 h1 h2 r rz h) fun r s' hq => ?_)
  cases r with
  | error e => exact passAt tk σ pins H s e s' I hq
  | ok fl =>
    cases fl with
    | ret u => exact I.after hq
    | next => exact False.elim hq
    | brk => exact False.elim hq
    | cont => exact False.elim hq
end
/-! ### arguments -/
def plainEs (es : List Expr) : Bool := es.all fun e => match e with
  | .Starred _ _ => false
  | _ => true
def kwName : Keyword → Option Str
  | ⟨n, _, _⟩ => n
def kwExpr : Keyword → Expr
  | ⟨_, e, _⟩ => e
def kwNames (kws : List Keyword) : List Str := kws.filterMap kwName
theorem star_cons {e : Expr} {es : List Expr} {env : Env} (h : plainEs (e :: es) = true) : starEach (e :: es) env = (false, eval e env) :: starEach es env := by
  cases e <;> first | rfl | (simp [plainEs] at h)
theorem plain_tail {e : Expr} {es : List Expr} (h : plainEs (e :: es) = true) : plainEs es = true := by
  unfold plainEs at h ⊢
  rw [List.all_cons, Bool.and_eq_true] at h
  exact h.2
theorem star_any {env : Env} {pos : Pos} : ∀ {es : List Expr}, plainEs es = true → (backTo pos (starEach es env)).any (·.1) = false
  | [], _ => rfl
  | e :: es, h => by
    rw [star_cons h]
    show (false || (backTo pos (starEach es env)).any (·.1)) = false
    rw [star_any (plain_tail h)]
    rfl
theorem kw_all {env : Env} {pos : Pos} : ∀ {kws : List Keyword}, kws.all (fun k => (kwName k).isSome) = true → (backToKw pos (keywordEach kws env)).all (·.1.isSome) = true
  | [], _ => rfl
  | ⟨n, e, p⟩ :: kws, h => by
    rw [List.all_cons, Bool.and_eq_true] at h
    show (n.isSome && (backToKw pos (keywordEach kws env)).all (·.1.isSome)) = true
    rw [kw_all h.2, show n.isSome = true from h.1]
    rfl
theorem kw_none {env : Env} {pos : Pos} : ∀ {kws : List Keyword}, kws.all (fun k => (kwName k).isSome) = true → (backToKw pos (keywordEach kws env)).any (·.1.isNone) = false
  | [], _ => rfl
  | ⟨n, e, p⟩ :: kws, h => by
    rw [List.all_cons, Bool.and_eq_true] at h
    show (n.isNone || (backToKw pos (keywordEach kws env)).any (·.1.isNone)) = false
    rw [kw_none h.2]
    cases n with
    | none => cases h.1
    | some _ => rfl
theorem kw_names {env : Env} {pos : Pos} : ∀ {kws : List Keyword}, (backToKw pos (keywordEach kws env)).filterMap (·.1) = kwNames kws
  | [] => rfl
  | ⟨n, e, p⟩ :: kws => by
    show ((n, _) :: backToKw pos (keywordEach kws env)).filterMap (·.1) = kwNames (⟨n, e, p⟩ :: kws)
    unfold kwNames
    rw [List.filterMap_cons, List.filterMap_cons, kw_names (kws := kws)]
    rfl
section
variable {X : Cx} {pos : Pos} {es : List Expr} {kws : List Keyword} {ta tk : TA}
/-- a call's arguments, then the call -/
theorem call_with {pins : List (Addr × Obj)} {σ : L2.St} {H : Hp} {s : Shared} {fv : Value} {first : List Value} {e : Expr} {Rq : List V → List V → Hp → Prop} {Q : Value → Shared → Prop} (hk : PySem.W.keepIn X.K fv = true) (hp : plainEs (e :: es) = true) (hn : kws.all (fun k => (kwName k).isSome) = true)
    (ha : PA X (e :: es) ta) (hkk : PK X kws tk) (I : Inv X pins σ H s) (h : ta σ H fun vs H1 => tk σ H1 fun zs H2 => Rq vs zs H2)
    (fin : ∀ us ws vs zs s2 H2, Inv X pins σ H2 s2 → Vals vs us → Vals zs ws → Rq vs zs H2 → wpAny (model X.prog X.w) X.A (PySem.call fv (first ++ us) ((kwNames kws).zip ws)) Q X.xe s2) :
    wpAny (model X.prog X.w) X.A (callWith pos fv first (backTo pos (starEach (e :: es) X.env)) (backToKw pos (keywordEach kws X.env))) Q X.xe s := by
  refine PySem.W.callWith_KW (h₀ := X.base) I.ok.mod.kin hk (kw_all hn) (thn (ha.run pos pins s σ H _ I h) fun us s1 hh => ?_) (by rw [star_any hp, kw_none hn]; rfl) (star_cons hp)
  obtain ⟨vs, H1, I1, r1, q1⟩ := hh
  refine thn (hkk.run pos pins s1 σ H1 _ I1 q1) fun ws s2 hh => ?_
  obtain ⟨zs, H2, I2, r2, q2⟩ := hh
  refine ⟨I2.kIn, ?_⟩
  rw [kw_names]
  exact fin us ws vs zs s2 H2 I2 r1 r2 q2
theorem call_with0 {pins : List (Addr × Obj)} {σ : L2.St} {H : Hp} {s : Shared} {fv : Value} {first : List Value} {Rq : List V → Hp → Prop} {Q : Value → Shared → Prop} (hk : PySem.W.keepIn X.K fv = true) (hn : kws.all (fun k => (kwName k).isSome) = true)
    (hkk : PK X kws tk) (I : Inv X pins σ H s) (h : tk σ H fun zs H2 => Rq zs H2)
    (fin : ∀ ws zs s2 H2, Inv X pins σ H2 s2 → Vals zs ws → Rq zs H2 → wpAny (model X.prog X.w) X.A (PySem.call fv (first ++ []) ((kwNames kws).zip ws)) Q X.xe s2) :
    wpAny (model X.prog X.w) X.A (callWith pos fv first (backTo pos (starEach [] X.env)) (backToKw pos (keywordEach kws X.env))) Q X.xe s := by
  refine PySem.W.callWith_KW0 (h₀ := X.base) I.ok.mod.kin hk (kw_all hn) (thn (hkk.run pos pins s σ H _ I h) fun ws s2 hh => ?_) (by rw [kw_none hn]; rfl)
  obtain ⟨zs, H2, I2, r2, q2⟩ := hh
  refine ⟨I2.kIn, ?_⟩
  rw [kw_names]
  exact fin ws zs s2 H2 I2 r2 q2
end
/-- the arguments of a call, all of them -/
structure PArg (X : Cx) (es : List Expr) (kws : List Keyword) (t : TA) : Prop where
  run : ∀ (pos : Pos) (pins : List (Addr × Obj)) (s : Shared) (σ : L2.St) (H : Hp) (fv : Value) (first : List Value) (Rq : List V → Hp → Prop) (Q : Value → Shared → Prop), PySem.W.keepIn X.K fv = true → Inv X pins σ H s → t σ H Rq →
    (∀ us ws vs zs s2 H2, Inv X pins σ H2 s2 → us.length = es.length → ws.length = kws.length → Vals vs us → Vals zs ws → Rq (vs ++ zs) H2 → wpAny (model X.prog X.w) X.A (PySem.call fv (first ++ us) ((kwNames kws).zip ws)) Q X.xe s2) →
    wpAny (model X.prog X.w) X.A (callWith pos fv first (backTo pos (starEach es X.env)) (backToKw pos (keywordEach kws X.env))) Q X.xe s
section
variable {X : Cx} {F : Fx} {f : Fm} {W : WX} {es : List Expr} {kws : List Keyword} {m1 m2 : Sto → Rs (List Dt)}
theorem pArg_of (hp : plainEs es = true) (hn : kws.all (fun k => (kwName k).isSome) = true) (h0 : es = [] → ∀ S, m1 S = .ok [] S) (hl1 : ∀ S ds S1, m1 S = .ok ds S1 → ds.length = es.length) (hl2 : ∀ S ds S1, m2 S = .ok ds S1 → ds.length = kws.length)
    (ha : PA X es (REs F f W m1)) (hk : PK X kws (REs F f W m2)) : PArg X es kws (REs F f W fun S => (m1 S).bind fun ds S1 => (m2 S1).bind fun es S2 => .ok (ds ++ es) S2) := by
  refine ⟨fun pos pins s σ H fv first Rq Q kp I h fin => ?_⟩
  obtain ⟨w, S, R, h⟩ := h
  cases es with
  | nil =>
    dsimp only at h
    rw [h0 rfl] at h
    refine call_with0 (Rq := fun zs H2 => zs.length = kws.length ∧ Rq zs H2) kp hn hk I (Rd1.go (k := fun es S2 => .ok ([] ++ es) S2) R h fun d2 y w2 H2 S2 e2 R2 l2 r2 h2 => ⟨?_, ?_⟩) fun ws zs s2 H2 I2 rz q => ?_
    · rw [← r2.length, hl2 _ _ _ e2]
    · exact h2.ok R2 r2
    · exact fin [] ws [] zs s2 H2 I2 rfl (by rw [← rz.length]; exact q.1) .nil rz q.2
  | cons e es =>
    refine call_with (Rq := fun vs zs H2 => vs.length = (e :: es).length ∧ zs.length = kws.length ∧ Rq (vs ++ zs) H2) kp hp hn ha hk I (Rd1.go R h fun d1 x w1 H1 S1 e1 R1 l1 r1 h1 => Rd1.go R1 h1 fun d2 y w2 H2 S2 e2 R2 l2 r2 h2 => ⟨?_, ?_, ?_⟩) fun us ws vs zs s2 H2 I2 ru rz q => ?_
    · rw [← r1.length, hl1 _ _ _ e1]
    · rw [← r2.length, hl2 _ _ _ e2]
    · exact h2.ok R2 ((Dns.mono l2 _ r1).append r2)
    · exact fin us ws vs zs s2 H2 I2 (by rw [← ru.length]; exact q.1) (by rw [← rz.length]; exact q.2.1) ru rz q.2.2
end
/-! ### from a call back to the frame -/
section
variable {F : Fx} {f : Fm} {W : WX}
theorem Rr.freezeV {w : Wd} {σ : L2.St} {H : Hp} {S : Sto} (R : Rr F f w σ H S) {a : Addr} {d : Dt} (g1 : w.G a = none) (a1 : a ∉ w.A) (m1 : Mc F w H a d) (f0 : f.H0 a = none) (no : ∀ (j : Nat) e, S.r[j]? = some (some (.o e)) → σ[j]? = some (some (.ref a)) → False) :
    ∃ w', Le w w' ∧ Rr F f w' σ H S ∧ Dn F w' d (.ref a) := by
  obtain ⟨o, ho, dn⟩ := m1.dn g1
  have l : Le w ⟨upd w.G a o, w.A⟩ := le_upd g1
  refine ⟨_, l, ⟨⟨fun b u e => ?_, R.cs.nd, R.cs.ln, fun b hb => ?_, fun k b e q1 q2 => (R.cs.co k b e q1 q2).move l (fun _ z => z)⟩, ⟨R.xt.le.trans l, fun b u e => ?_, R.xt.an, R.xt.pr, R.xt.xs⟩, R.sl, fun j e q => ?_, fun j e q => ?_, R.dj⟩, dn⟩
  · have e2 : upd w.G a o b = some u := e
    by_cases z : b = a
    · subst z
      rw [upd_same] at e2
      rw [ho, e2]
    · rw [upd_ne z] at e2
      exact R.cs.fr b u e2
  · show upd w.G a o b = none
    rw [upd_ne (fun z => by subst z; exact a1 hb)]
    exact R.cs.ce b hb
  · have e2 : upd w.G a o b = some u := e
    by_cases z : b = a
    · subst z
      exact .inr (.inl f0)
    · rw [upd_ne z] at e2
      exact R.xt.gn b u e2
  · obtain ⟨v', g1', g2'⟩ := R.pu j e q
    exact ⟨v', g1', Dn.mono l e g2'⟩
  · obtain ⟨b, g1', g2', g3', g4', g5'⟩ := R.ow j e q
    refine ⟨b, g1', ?_, g3', g4'.move l (fun _ z => z), g5'⟩
    show upd w.G a o b = none
    rw [upd_ne (fun y => by subst y; exact no j e q g1')]
    exact g2'
/-- what a call hands back, as shared data of the caller -/
theorem poC_of {w : Wd} {σ : L2.St} {H : Hp} {S : Sto} {r : Rc} {Q : VK} (R : Rr F f w σ H S) (h : Po F f W σ w (upR r S) (Dn F) Q) : PoC F w H r Q (WE W σ) := by
  cases r with
  | ok b m' =>
    intro v w' H' c x vb
    have R' := R.back c x
    cases b with
    | p d => exact h v w' H' R' x.le vb
    | o d =>
      obtain ⟨a, rfl, g1, a1, m1, hn⟩ := vb
      obtain ⟨w2, l2, R2, dn⟩ := R'.freezeV g1 a1 m1 (R.new0 hn) (fun j e q1 q2 => by
        obtain ⟨b, s1, _, _, m4, _⟩ := R.ow j e q1
        rw [q2] at s1
        cases s1
        obtain ⟨o, ho⟩ := m4.there
        rw [hn] at ho
        cases ho)
      exact h (.ref a) w2 H' R2 (x.le.trans l2) dn
  | ex c ns ds m' =>
    intro dx vs w' H' cs x g n r
    exact h dx vs w' H' (R.back cs x) x.le g n r
  | bad => exact h
end
/-! ### calls of defs, of methods, makings -/
section
variable {X : Cx} {F : Fx} {f : Fm} {W : WX} {k : Nat} {es : List Expr} {kws : List Keyword} {m : Sto → Rs (List Dt)} {x : Str} {p pos apos : Pos}
theorem upP_some {o : Option (List Dt)} {g : List Dt → List Dt → Rc} {S : Sto} {σ : L2.St} {w : Wd} {Q : VK} (h : Po F f W σ w (upP o g S) (Dn F) Q) : ∃ xs, o = some xs ∧ Po F f W σ w (upR (g xs S.m) S) (Dn F) Q := by
  cases o with
  | none => exact h.elim
  | some xs => exact ⟨xs, rfl, h⟩
/-- a global name that may be called: a def or a class -/
theorem se_call {g : List Dt → List Dt → Rc} {shl : Nat → Option (List Ar)} {fa : Addr} (C : ∀ sh, shl es.length = some sh → CalG X.prog X.w X.K X.mg X.base k fa es.length (kwNames kws) (spS F g sh)) (hkw : (kwNames kws).length = kws.length) (hr : Room k X.A) (hg : X.A.guards = some []) (tk : Takes X W)
    (hgl : Gl X x) (hm : X.mg x = some (.ref fa)) (hk : PySem.W.keepIn X.K (.ref fa) = true) (hdb : (x == ("__debug__" : Str)) = false) (hlen : ∀ S ds S1, m S = .ok ds S1 → ds.length = es.length + kws.length) (ha : PArg X es kws (REs F f W m)) :
    PE X (.Call (.Name x p) es kws pos) (RE F f W fun S => (m S).bind fun ds S1 => match shl (ds.length - (kwNames kws).length) with
      | some sh => upP (pick ds sh) g S1
      | none => .bad) := by
  refine ⟨fun pins s σ H Q I h => ?_⟩
  obtain ⟨w, S, R, h⟩ := h
  refine wpAny_Call_Name_kw (ld_glob I hgl hm ?_ hdb)
  refine ha.run pos pins s σ H (.ref fa) [] (fun vs H2 => ∃ sh, shl es.length = some sh ∧ spS F g sh vs H2 Q (WE W σ)) (EP X pins σ Q) hk I (Rd1.go R h fun ds vs w1 H1 S1 em R1 l1 r1 h1 => ?_) fun us ws vs zs s2 H2 I2 l1 l2 ru rz q => ?_
  · have hl := hlen _ _ _ em
    have e1 : ds.length - (kwNames kws).length = es.length := by rw [hkw]; omega
    rw [e1] at h1
    cases e : shl es.length with
    | none => rw [e] at h1; exact h1.elim
    | some sh =>
      rw [e] at h1
      obtain ⟨xs, e2, h2⟩ := upP_some h1
      exact ⟨sh, rfl, w1, S1.m, ds, xs, R1.cs, r1, e2, poC_of R1 h2⟩
  · obtain ⟨sh, e, q⟩ := q
    exact run_G (C sh e) hr hg tk I2 l1 (by rw [hkw]; exact l2) ru rz q
theorem look_dn {w : Wd} {f0 : Str} : ∀ {ds : List Dt} {vs : List V} {ns : List Str}, Dns F w ds vs → ns.length = vs.length → (∀ d, lookD f0 ns ds = some d → ∃ v, (ns.zip vs).lookup f0 = some v ∧ Dn F w d v) ∧ (lookD f0 ns ds = none → (ns.zip vs).lookup f0 = none)
  | [], _, ns, h, hl => by
    cases h
    cases ns with
    | nil => exact ⟨fun d e => (by cases e), fun _ => rfl⟩
    | cons _ _ => cases hl
  | d :: ds, _, ns, ⟨v, r, e, h, t⟩, hl => by
    subst e
    cases ns with
    | nil => cases hl
    | cons n ns =>
      have ih := look_dn (f0 := f0) t (ns := ns) (by simpa using hl)
      unfold lookD
      rw [List.zip_cons_cons, List.lookup_cons]
      by_cases q : f0 = n
      · have b : (f0 == n) = true := by simpa using q
        rw [b, if_pos q]
        exact ⟨fun d' e => by cases e; exact ⟨v, rfl, h⟩, fun e => by cases e⟩
      · have b : (f0 == n) = false := by simpa using q
        rw [b, if_neg q]
        exact ih
/-- o.m(..) -/
theorem se_meth {mo : Sto → Rs Dt} {o : Expr} {mt : Str} {P : Pg} {cf : Nat → List Dt → List Dt → Rc} (he : PE X o (RE F f W mo))
    (hC : ∀ c g, P.meth c mt = some g → Cls X.K (F.ca c) ∧ Meth X.K (F.ca c) mt (F.fa g) ∧ ∀ sh, P.shf g (es.length + 1) (kwNames kws) = some sh → CalG X.prog X.w X.K X.mg X.base k (F.fa g) (es.length + 1) (kwNames kws) (spS F (cf g) sh))
    (hkw : (kwNames kws).length = kws.length) (hr : Room k X.A) (hg : X.A.guards = some []) (tk : Takes X W) (hlen : ∀ S ds S1, m S = .ok ds S1 → ds.length = es.length + kws.length) (ha : PArg X es kws (REs F f W m))
    {pl : Sem Bool} (ht : eval (.Call (.Attribute o mt apos) es kws pos) X.env = (do
      let ov ← eval o X.env
      standAt apos.atName
      let (f, first) ← holding [ov] (getMethod ov mt pl)
      callWith pos f first (backTo pos (starEach es X.env)) (backToKw pos (keywordEach kws X.env)))) :
    PE X (.Call (.Attribute o mt apos) es kws pos) (RE F f W fun S => (mo S).bind fun x S1 => match x with
    | .ins c ns vs => match P.meth c mt, lookD mt ns vs with
      | some g, none => (m S1).bind fun ds S2 => match P.shf g (ds.length + 1 - (kwNames kws).length) (kwNames kws) with
        | some sh => upP (pick (.ins c ns vs :: ds) sh) (cf g) S2
        | none => .bad
      | _, _ => .bad
    | _ => .bad) := by
  refine ⟨fun pins s σ H Q I h => ?_⟩
  obtain ⟨w, S, R, h⟩ := h
  refine PySem.W.methodCall_KW (pl := pl) (thn (he.run pins s σ H (fun x H1 => ∃ (c : Nat) (ns : List Str) (vs : List Dt) (g : Nat) (w1 : Wd) (S1 : Sto), P.meth c mt = some g ∧ lookD mt ns vs = none ∧ Rr F f w1 σ H1 S1 ∧ Dn F w1 (.ins c ns vs) x ∧
      Po F f W σ w1 ((m S1).bind fun ds S2 => match P.shf g (ds.length + 1 - (kwNames kws).length) (kwNames kws) with
        | some sh => upP (pick (.ins c ns vs :: ds) sh) (cf g) S2
        | none => .bad) (Dn F) Q) I (Rd1.go R h fun d x w1 H1 S1 _ R1 l1 r1 h1 => ?_)) fun u s1 hh => ?_) ht
  · cases d with
    | ins c ns vs =>
      dsimp only at h1
      cases e1 : P.meth c mt with
      | none => rw [e1] at h1; exact h1.elim
      | some g =>
        cases e2 : lookD mt ns vs with
        | some _ => rw [e1, e2] at h1; exact h1.elim
        | none =>
          rw [e1, e2] at h1
          exact ⟨c, ns, vs, g, w1, S1, e1, e2, R1, r1, h1⟩
    | _ => exact h1.elim
  · obtain ⟨x, H1, I1, rx, c, ns, ds0, g, w1, S1, e1, e2, R1, dx0, h1⟩ := hh
    obtain ⟨a, dx, vs, ex, ga, hl, rs⟩ := id dx0
    subst ex
    obtain rfl : u = Value.ref a := rx
    obtain ⟨cl, mth, cal⟩ := hC c g e1
    refine getmeth_ok I1 (R1.cs.fr _ _ ga) cl mth ((look_dn (ns := ns) (f0 := mt) rs hl).2 e2) ?_
    refine ha.run pos pins s1 σ H1 (.ref (F.fa g)) [.ref a] (fun zs H2 => ∃ sh, P.shf g (es.length + 1) (kwNames kws) = some sh ∧ spS F (cf g) sh (.ref a :: zs) H2 Q (WE W σ)) (EP X pins σ Q) mth.kp I1 (Rd1.go R1 h1 fun ds zs w2 H2 S2 em R2 l2 r2 h2 => ?_) fun us ws vs' zs s2 H2 I2 l1 l2 ru rz q => ?_
    · have hl2 := hlen _ _ _ em
      have e3 : ds.length + 1 - (kwNames kws).length = es.length + 1 := by rw [hkw]; omega
      rw [e3] at h2
      cases e : P.shf g (es.length + 1) (kwNames kws) with
      | none => rw [e] at h2; exact h2.elim
      | some sh =>
        rw [e] at h2
        obtain ⟨xs, e4, h3⟩ := upP_some h2
        exact ⟨sh, rfl, w2, S2.m, .ins c ns ds0 :: ds, xs, R2.cs, ⟨.ref a, zs, rfl, Dn.mono l2 _ dx0, r2⟩, e4, poC_of R2 h3⟩
    · obtain ⟨sh, e, q⟩ := q
      exact run_G (us := .ref a :: us) (vs := .ref a :: vs') (cal sh e) hr hg tk I2 (by rw [List.length_cons, l1]) (by rw [hkw]; exact l2) (.cons rfl ru) rz q
end
end PyI
namespace PyI
open PySem PySem.Spec PyProof.Rows L2
/-! ### tests -/
theorem tst_bind {α : Type} {m : Sto → Rs Dt} {S : Sto} {A B : Sto → Rs α} : ((m S).bind fun x S1 => match x with
    | .bl true => A S1
    | .bl false => B S1
    | _ => .bad) = (tst m S).bind fun k S1 => if k = true then A S1 else B S1 := by
  unfold tst
  cases m S with
  | ok d S1 =>
    cases d with
    | bl b => cases b <;> rfl
    | _ => rfl
  | ex _ _ _ _ => rfl
  | bad => rfl
section
variable {X : Cx} {F : Fx} {f : Fm} {W : WX} {a b c : Expr} {pos : Pos} {ma mb mc : Sto → Rs Dt}
abbrev RB (F : Fx) (f : Fm) (W : WX) (m : Sto → Rs Dt) : TT := Rd1 F f W (tst m) (fun _ (x y : Bool) => x = y)
theorem Po.tst {m : Sto → Rs Dt} {σ : L2.St} {w : Wd} {S : Sto} {Q : Bool → Hp → Prop} (h : Po F f W σ w (tst m S) (fun _ (x y : Bool) => x = y) Q) : Po F f W σ w (m S) (Dn F) (fun x H' => ∃ k, x = .bl k ∧ Q k H') := by
  unfold PyI.tst at h
  cases e : m S with
  | ok d S1 =>
    rw [e] at h
    cases d with
    | bl k => exact fun v w' H' R' l' r' => ⟨k, r', h k w' H' R' l' rfl⟩
    | _ => exact (h : False).elim
  | ex _ _ _ _ => rw [e] at h; exact h
  | bad => rw [e] at h; exact h
/-- an expression whose value is a truth, as a test -/
theorem st_val {e : Expr} (h : PE X e (RE F f W ma)) (he : ∀ whole, isTrue e X.env whole = (do let v ← whole; standAt e.pos; holding [v] (truthy v))) : PT X e (RB F f W ma) := by
  refine ptImp (pt_val h he) fun σ H Q ⟨w, S, R, h⟩ => ?_
  exact ⟨w, S, R, h.tst⟩
theorem st_not (ha : PT X a (RB F f W ma)) : PT X (.UnaryOp .Not a pos) (RB F f W fun S => (ma S).bind fun x S1 => match x with
    | .bl k => .ok (.bl (!k)) S1
    | _ => .bad) := by
  refine ptImp (pt_not ha) fun σ H Q ⟨w, S, R, h⟩ => ?_
  have e : tst (fun S => (ma S).bind fun x S1 => match x with
    | .bl k => .ok (.bl (!k)) S1
    | _ => .bad) S = (tst ma S).bind fun k S1 => .ok (!k) S1 := by
    unfold tst
    dsimp only
    cases ma S with
    | ok d S1 => cases d <;> rfl
    | ex _ _ _ _ => rfl
    | bad => rfl
  rw [e] at h
  refine Rd1.go R h fun d x w1 H1 S1 _ R1 l1 r1 h1 => ?_
  subst r1
  exact h1 _ w1 H1 R1 (Le.refl _) rfl
def mAnd (ma mb : Sto → Rs Dt) (S : Sto) : Rs Dt := (ma S).bind fun x S1 => match x with
    | .bl true => mb S1
    | .bl false => .ok (.bl false) S1
    | _ => .bad
def mOr (ma mb : Sto → Rs Dt) (S : Sto) : Rs Dt := (ma S).bind fun x S1 => match x with
    | .bl true => .ok (.bl true) S1
    | .bl false => mb S1
    | _ => .bad
theorem tst_and {S : Sto} : tst (mAnd ma mb) S = (tst ma S).bind fun k S1 => if k = true then tst mb S1 else .ok false S1 := by
  unfold tst mAnd
  cases ma S with
  | ok d S1 =>
    cases d with
    | bl b => cases b <;> rfl
    | _ => rfl
  | ex _ _ _ _ => rfl
  | bad => rfl
theorem tst_or {S : Sto} : tst (mOr ma mb) S = (tst ma S).bind fun k S1 => if k = true then .ok true S1 else tst mb S1 := by
  unfold tst mOr
  cases ma S with
  | ok d S1 =>
    cases d with
    | bl b => cases b <;> rfl
    | _ => rfl
  | ex _ _ _ _ => rfl
  | bad => rfl
theorem pwImp {e : Expr} {t t' : TT} (h : PW X e t) (i : ∀ σ H Q, t' σ H Q → t σ H Q) : PW X e t' := ⟨fun whole pins s σ H Q I q => h.run whole pins s σ H Q I (i σ H Q q)⟩
theorem sw_and {rest : List Expr} (ha : PT X a (RB F f W ma)) (hb : PW X (.BoolOp .And (b :: rest) pos) (RB F f W mb)) : PW X (.BoolOp .And (a :: b :: rest) pos) (RB F f W (mAnd ma mb)) := by
  refine pwImp (pw_and ha hb) fun σ H Q ⟨w, S, R, h⟩ => ?_
  rw [tst_and] at h
  refine Rd1.go R h fun d x w1 H1 S1 _ R1 l1 r1 h1 => ?_
  subst r1
  cases d with
  | true => exact ⟨w1, S1, R1, h1⟩
  | false => exact h1 _ w1 H1 R1 (Le.refl _) rfl
theorem sw_or {rest : List Expr} (ha : PT X a (RB F f W ma)) (hb : PW X (.BoolOp .Or (b :: rest) pos) (RB F f W mb)) : PW X (.BoolOp .Or (a :: b :: rest) pos) (RB F f W (mOr ma mb)) := by
  refine pwImp (pw_or ha hb) fun σ H Q ⟨w, S, R, h⟩ => ?_
  rw [tst_or] at h
  refine Rd1.go R h fun d x w1 H1 S1 _ R1 l1 r1 h1 => ?_
  subst r1
  cases d with
  | true => exact h1 _ w1 H1 R1 (Le.refl _) rfl
  | false => exact ⟨w1, S1, R1, h1⟩
theorem se_and {rest : List Expr} (ha : PE X a (RE F f W ma)) (hb : PE X (.BoolOp .And (b :: rest) pos) (RE F f W mb)) : PE X (.BoolOp .And (a :: b :: rest) pos) (RE F f W (mAnd ma mb)) := by
  refine peImp (pe_and ha hb) fun σ H Q ⟨w, S, R, h⟩ => ?_
  refine Rd1.go R h fun d x w1 H1 S1 _ R1 l1 r1 h1 => ?_
  cases d with
  | bl k =>
    refine ⟨k, r1, ?_⟩
    cases k with
    | true => exact ⟨w1, S1, R1, h1⟩
    | false => exact h1.ok R1 rfl
  | _ => exact h1.elim
theorem se_or {rest : List Expr} (ha : PE X a (RE F f W ma)) (hb : PE X (.BoolOp .Or (b :: rest) pos) (RE F f W mb)) : PE X (.BoolOp .Or (a :: b :: rest) pos) (RE F f W (mOr ma mb)) := by
  refine peImp (pe_or ha hb) fun σ H Q ⟨w, S, R, h⟩ => ?_
  refine Rd1.go R h fun d x w1 H1 S1 _ R1 l1 r1 h1 => ?_
  cases d with
  | bl k =>
    refine ⟨k, r1, ?_⟩
    cases k with
    | true => exact h1.ok R1 rfl
    | false => exact ⟨w1, S1, R1, h1⟩
  | _ => exact h1.elim
theorem se_ife (hc : PT X c (RB F f W mc)) (ha : PE X a (RE F f W ma)) (hb : PE X b (RE F f W mb)) : PE X (.IfExp c a b pos) (RE F f W fun S => (mc S).bind fun x S1 => match x with
    | .bl true => ma S1
    | .bl false => mb S1
    | _ => .bad) := by
  refine peImp (pe_ifExp hc ha hb) fun σ H Q ⟨w, S, R, h⟩ => ?_
  dsimp only at h
  rw [tst_bind] at h
  refine Rd1.go R h fun d x w1 H1 S1 _ R1 l1 r1 h1 => ?_
  subst r1
  cases d with
  | true => exact ⟨w1, S1, R1, h1⟩
  | false => exact ⟨w1, S1, R1, h1⟩
/-! ### chains -/
theorem se_chn {o1 o2 : CmpOp} (hK : X.K = F.K) (hu : X.A.units + 65 < cLine) (hm : lastMarks [o1, o2] [b, c] = false) (ha : PE X a (RE F f W ma)) (hb : PE X b (RE F f W mb)) (hc : PE X c (RE F f W mc)) :
    PE X (.Compare a [o1, o2] [b, c] pos) (RE F f W fun S => (ma S).bind fun x S1 => (mb S1).bind fun y S2 => (okD ((cmpD o1 x y).map .bl) S2).bind fun k S3 => match k with
    | .bl true => (mc S3).bind fun z S4 => okD ((cmpD o2 y z).map .bl) S4
    | .bl false => .ok (.bl false) S3
    | _ => .bad) ∧
    PT X (.Compare a [o1, o2] [b, c] pos) (RB F f W fun S => (ma S).bind fun x S1 => (mb S1).bind fun y S2 => (okD ((cmpD o1 x y).map .bl) S2).bind fun k S3 => match k with
    | .bl true => (mc S3).bind fun z S4 => okD ((cmpD o2 y z).map .bl) S4
    | .bl false => .ok (.bl false) S3
    | _ => .bad) := by
  have core : ∀ σ H (Q : VK) w S, Rr F f w σ H S → Po F f W σ w ((ma S).bind fun x S1 => (mb S1).bind fun y S2 => (okD ((cmpD o1 x y).map .bl) S2).bind fun k S3 => match k with
    | .bl true => (mc S3).bind fun z S4 => okD ((cmpD o2 y z).map .bl) S4
    | .bl false => .ok (.bl false) S3
    | _ => .bad) (Dn F) Q → tChain (rOp F f W fun a b => (cmpD o1 a b).map .bl) (rOp F f W fun a b => (cmpD o2 a b).map .bl) (RE F f W ma) (RE F f W mb) (RE F f W mc) σ H Q := by
    intro σ H Q w S R h
    refine Rd1.go R h fun d1 x w1 H1 S1 _ R1 l1 r1 h1 => ?_
    refine Rd1.go R1 h1 fun d2 y w2 H2 S2 _ R2 l2 r2 h2 => ?_
    cases e : cmpD o1 d1 d2 with
    | none => rw [e] at h2; exact h2.elim
    | some k =>
      rw [e] at h2
      refine ⟨σ, w2, S2, d1, d2, .bl k, R2, Dn.mono l2 d1 r1, r2, by show (cmpD o1 d1 d2).map Dt.bl = _; rw [e]; rfl, fun z w3 H3 R3 l3 r3 => ⟨k, r3, ?_⟩⟩
      cases k with
      | true =>
        refine Rd1.go (k := fun z S4 => okD ((cmpD o2 d2 z).map .bl) S4) R3 (Po.le l3 h2) fun d3 v w4 H4 S4 _ R4 l4 r4 h4 => ?_
        cases e2 : (cmpD o2 d2 d3).map Dt.bl with
        | none => rw [e2] at h4; exact h4.elim
        | some d => rw [e2] at h4; exact ⟨σ, w4, S4, d2, d3, d, R4, Dn.mono (l3.trans l4) d2 r2, r4, e2, h4⟩
      | false => exact h2 _ w3 H3 R3 l3 rfl
  constructor
  · exact peImp (pe_chain (cmpD_ok (f := f) (W := W) hK hu o1) (cmpD_ok (f := f) (W := W) hK hu o2) ha hb hc hm) fun σ H Q ⟨w, S, R, h⟩ => core σ H Q w S R h
  · refine ptImp (pt_chain (cmpD_ok (f := f) (W := W) hK hu o1) (cmpD_ok (f := f) (W := W) hK hu o2) ha hb hc hm) fun σ H Q ⟨w, S, R, h⟩ => ?_
    exact core σ H _ w S R h.tst
/-! ### lists of expressions, displays -/
theorem sa_nil : PA X [] (REs F f W fun S => .ok [] S) := paImp pa_nil fun σ H Q ⟨w, S, R, h⟩ => h.ok R rfl
theorem sa_cons {es : List Expr} {ms : Sto → Rs (List Dt)} (hp : plainEs (a :: es) = true) (ha : PE X a (RE F f W ma)) (hs : PA X es (REs F f W ms)) :
    PA X (a :: es) (REs F f W fun S => (ma S).bind fun d S1 => (ms S1).bind fun ds S2 => .ok (d :: ds) S2) := by
  refine paImp (pa_cons ha hs (star_cons hp)) fun σ H Q ⟨w, S, R, h⟩ => ?_
  refine Rd1.go R h fun d x w1 H1 S1 _ R1 l1 r1 h1 => ?_
  refine Rd1.go R1 h1 fun ds xs w2 H2 S2 _ R2 l2 r2 h2 => ?_
  exact h2.ok R2 ⟨x, xs, rfl, Dn.mono l2 d r1, r2⟩
theorem pkImp {e : List Keyword} {t t' : TA} (h : PK X e t) (i : ∀ σ H Q, t' σ H Q → t σ H Q) : PK X e t' := ⟨fun pos pins s σ H Q I q => h.run pos pins s σ H Q I (i σ H Q q)⟩
theorem sk_nil : PK X [] (REs F f W fun S => .ok [] S) := pkImp pk_nil fun σ H Q ⟨w, S, R, h⟩ => h.ok R rfl
theorem sk_cons {kws : List Keyword} {nm : Option Str} {kp : Pos} {ms : Sto → Rs (List Dt)} (ha : PE X a (RE F f W ma)) (hs : PK X kws (REs F f W ms)) :
    PK X (⟨nm, a, kp⟩ :: kws) (REs F f W fun S => (ma S).bind fun d S1 => (ms S1).bind fun ds S2 => .ok (d :: ds) S2) := by
  refine pkImp (pk_cons ha hs) fun σ H Q ⟨w, S, R, h⟩ => ?_
  refine Rd1.go R h fun d x w1 H1 S1 _ R1 l1 r1 h1 => ?_
  refine Rd1.go R1 h1 fun ds xs w2 H2 S2 _ R2 l2 r2 h2 => ?_
  exact h2.ok R2 ⟨x, xs, rfl, Dn.mono l2 d r1, r2⟩
theorem se_tup {es : List Expr} {k : Nat} {ms : Sto → Rs (List Dt)} (hs : PA X es (REs F f W ms)) : PE X (.Tuple es k pos) (RE F f W fun S => (ms S).bind fun ds S1 => if ds.length ≤ sizeLine then .ok (.tup ds) S1 else .bad) := by
  refine peImp (pe_tup hs) fun σ H Q ⟨w, S, R, h⟩ => ?_
  refine Rd1.go R h fun ds xs w1 H1 S1 _ R1 l1 r1 h1 => ?_
  split at h1
  · rename_i hl
    refine ⟨by rw [← r1.length]; exact hl, fun p hp => ?_⟩
    exact h1.new R1 hp ⟨p, xs, rfl, SqT.of upd_same, Dns.mono (R1.alloc (o := .tup xs) hp).2 ds r1⟩
  · exact h1.elim
theorem se_lst {es : List Expr} {ms : Sto → Rs (List Dt)} (hs : PA X es (REs F f W ms)) : PE X (.List es pos) (RE F f W fun S => (ms S).bind fun ds S1 => if ds.length ≤ sizeLine then .ok (.lst ds) S1 else .bad) := by
  refine peImp (pe_lst hs) fun σ H Q ⟨w, S, R, h⟩ => ?_
  refine Rd1.go R h fun ds xs w1 H1 S1 _ R1 l1 r1 h1 => ?_
  split at h1
  · rename_i hl
    refine ⟨by rw [← r1.length]; exact hl, fun p hp => ?_⟩
    exact h1.new R1 hp ⟨p, xs, rfl, upd_same, Dns.mono (R1.alloc (o := .lst xs) hp).2 ds r1⟩
  · exact h1.elim
end
end PyI
namespace PyI
open PySem PySem.W PySem.Calls PyProof.Rows
/-! ### own operators -/
section
variable {prog : Program} {w : World} {M : Model} {A : Around} {E : Value → Shared → Prop} {s : Shared} {K : Frag} {x C C2 L f : Addr} {h₀ : Heap} {m : Str → Option Value} {ox : Obj} {od : Option Obj} {nm : String}
def noOpB (K : Frag) (C : Addr) (nm : String) : Bool := (clsIn K C).any fun cd => cd.mro.all fun c => (findIn K c (PySem.dunder nm) == some none) && (findIn K c (dunderR nm) == some none)
theorem fills_no {h : Heap} (X : K.In h) (hn : noOpB K C2 nm = true) : Looks M h (fillsNumberSlot (.ref C2) nm) false := by
  obtain ⟨cd, hcd, hm⟩ := any_some hn
  intro A Q E s k q
  unfold fillsNumberSlot
  refine wpAny_bind ((looks_clsIn X hcd).andThen (f := fun cd => pure cd.mro) .now A _ E s k ?_)
  revert hm
  generalize cd.mro = l
  intro hm
  induction l with
  | nil => exact wpAny_pure q
  | cons c l ih =>
    rw [List.all_cons, Bool.and_eq_true, Bool.and_eq_true] at hm
    obtain ⟨⟨h1, h2⟩, h3⟩ := hm
    have L1 := looks_findIn (M := M) (X.keeps k) (beq_iff_eq.mp h1)
    have L2 := looks_findIn (M := M) (X.keeps k) (beq_iff_eq.mp h2)
    have ih := ih h3
    obtain ⟨hh, g, d, tt, os⟩ := s
    rw [List.anyM_cons]
    refine wpAny_bind ?_
    cases c with
    | type T =>
      repeat lk
      exact ih
    | _ =>
      simp only [List.anyM_cons, List.anyM_nil] at ih ⊢
      repeat lk
      exact ih
/-- what an operator's first part hands back: a value -/
def Op1 (prog : Program) (w : World) (A : Around) (E : Value → Shared → Prop) (s : Shared) (nm : String) (a b : Value) (Q : Value → Shared → Prop) : Prop := wpAny (model prog w) A (binaryOp1 nm a b) (fun r s' => ∃ v, r = some v ∧ Q v s') E s
theorem op1_other {b : Value} {Q : Value → Shared → Prop} (X : K.In s.heap) (I : InstAt s.heap x ox C od) (hb : Looks (model prog w) s.heap (typeOf b) (.ref C2)) (hne : C ≠ C2) (hc : selfFirst K C = true)
    (hs : findIn K (.ref C) (PySem.dunder nm) = some (some (.ref f))) (hf : isFn K (.ref f) = true) (hn : noOpB K C2 nm = true)
    (h : wpAny (model prog w) A (call (.ref f) [.ref x, b]) (W.CmpBack Q) E s) : Op1 prog w A E s nm (.ref x) b Q := by
  obtain ⟨cd, rest, hcd, hm⟩ := ksp_first hc
  have one := ksp_try X I hs hf h
  obtain ⟨hh, g, d, tt, os⟩ := s
  have L1 : Looks (model prog w) hh (typeOf (.ref x)) (.ref C) := I.type
  have L3 : Looks (model prog w) hh (fillsNumberSlot (.ref C) nm) true := fills_K X hcd hm hs
  have L4 : Looks (model prog w) hh (fillsNumberSlot (.ref C2) nm) false := fills_no X hn
  have hne2 : (Value.ref C == Value.ref C2) = false := Bool.eq_false_iff.mpr fun q => hne (by injection (beq_iff_eq.mp q))
  unfold Op1 binaryOp1
  refine wpAny_bind (L1.at (wpAny_bind (hb.at (wpAny_bind (L3.at ?_)))))
  simp only [hne2, Bool.false_eq_true, if_false]
  ksp_lk
  refine wpAny_mono one (fun r s' hr' => ?_) fun _ _ e => e
  obtain ⟨v, rfl, hq⟩ := hr'
  ksp_lk
  exact ⟨v, rfl, hq⟩
theorem op1_same {b : Value} {Q : Value → Shared → Prop} (X : K.In s.heap) (I : InstAt s.heap x ox C od) (hb : Looks (model prog w) s.heap (typeOf b) (.ref C)) (hc : selfFirst K C = true)
    (hs : findIn K (.ref C) (PySem.dunder nm) = some (some (.ref f))) (hf : isFn K (.ref f) = true)
    (h : wpAny (model prog w) A (call (.ref f) [.ref x, b]) (W.CmpBack Q) E s) : Op1 prog w A E s nm (.ref x) b Q := by
  obtain ⟨cd, rest, hcd, hm⟩ := ksp_first hc
  have one := ksp_try X I hs hf h
  obtain ⟨hh, g, d, tt, os⟩ := s
  have L1 : Looks (model prog w) hh (typeOf (.ref x)) (.ref C) := I.type
  have L3 : Looks (model prog w) hh (fillsNumberSlot (.ref C) nm) true := fills_K X hcd hm hs
  unfold Op1 binaryOp1
  refine wpAny_bind (L1.at (wpAny_bind (hb.at (wpAny_bind (L3.at ?_)))))
  simp only [beq_self_eq_true, if_true]
  ksp_lk
  refine wpAny_mono one (fun r s' hr' => ?_) fun _ _ e => e
  obtain ⟨v, rfl, hq⟩ := hr'
  ksp_lk
  exact ⟨v, rfl, hq⟩
theorem op1_ty {T : String} {b : Value} {fo ro rc : Option Value} {Q : Value → Shared → Prop} (X : K.In s.heap) (I : InstAt s.heap x ox C od) (L2 : Looks (model prog w) s.heap (typeOf b) (.type T)) (hc : selfFirst K C = true)
    (hs : findIn K (.ref C) (PySem.dunder nm) = some (some (.ref f))) (hf : isFn K (.ref f) = true) (hr : findIn K (.ref C) (dunderR nm) = some rc) (hp : rc = none ∨ ∃ g : Addr, rc = some (.ref g))
    (h1 : findIn K (.type T) (PySem.dunder nm) = some fo) (h2 : findIn K (.type T) (dunderR nm) = some ro) (hsub : subIn K (.type T) (.ref C) = some false)
    (h : wpAny (model prog w) A (call (.ref f) [.ref x, b]) (W.CmpBack Q) E s) : Op1 prog w A E s nm (.ref x) b Q := by
  obtain ⟨cd, rest, hcd, hm⟩ := ksp_first hc
  have one := ksp_try X I hs hf h
  obtain ⟨hh, g, d, tt, os⟩ := s
  have L1 : Looks (model prog w) hh (typeOf (.ref x)) (.ref C) := I.type
  have L3 : Looks (model prog w) hh (fillsNumberSlot (.ref C) nm) true := fills_K X hcd hm hs
  have L4 : Looks (model prog w) hh (fillsNumberSlot (.type T) nm) ((fo.isSome && !isSeqSlot fo) || (ro.isSome && !isSeqSlot ro)) := ksp_fillsT X h1 h2
  have L5 : Looks (model prog w) hh (isSubtype (.type T) (.ref C)) false := looks_subIn X hsub
  have L6 : Looks (model prog w) hh (numberSlotInPython (.ref C) nm) true := ksp_inPy X hs hr hp
  have L7 : Looks (model prog w) hh (numberSlotInPython (.type T) nm) false := Looks.of_pure rfl
  have L8 : Looks (model prog w) hh (typeLookup (.type T) (dunderR nm)) ro := looks_findIn X h2
  generalize ((fo.isSome && !isSeqSlot fo) || (ro.isSome && !isSeqSlot ro)) = right at L4
  have hne : (Value.ref C == Value.type T) = false := Bool.eq_false_iff.mpr fun q => by cases beq_iff_eq.mp q
  unfold Op1 binaryOp1
  refine wpAny_bind (L1.at (wpAny_bind (L2.at (wpAny_bind (L3.at ?_)))))
  simp only [hne, Bool.false_eq_true, if_false]
  cases right with
  | false =>
    ksp_lk
    refine wpAny_mono one (fun r s' hr' => ?_) fun _ _ e => e
    obtain ⟨v, rfl, hq⟩ := hr'
    ksp_lk
    exact ⟨v, rfl, hq⟩
  | true =>
    ksp_lk
    refine wpAny_mono one (fun r s' hr' => ?_) fun _ _ e => e
    obtain ⟨v, rfl, hq⟩ := hr'
    ksp_lk
    exact ⟨v, rfl, hq⟩
theorem bin_of {op : Operator} {a b : Value} {Q : Value → Shared → Prop} (h : Op1 prog w A E s op.info.2 a b Q) : wpAny (model prog w) A (binaryOp op a b) Q E s := by
  rcases hi : op.info with ⟨sym, nm'⟩
  rw [hi] at h
  simp only [binaryOp, hi]
  refine wpAny_holding (wpAny_bind (wpAny_mono h (fun r s' hr => ?_) fun _ _ e => e))
  obtain ⟨v, rfl, hq⟩ := hr
  exact wpAny_pure hq
/-- no own in-place operator -/
def noInB (K : Frag) (C : Addr) (nm : String) : Bool := (clsIn K C).any fun cd => cd.mro.all fun c => findIn K c (dunderI nm) == some none
theorem fillsI_no {h : Heap} {add : Bool} (X : K.In h) (hn : noInB K C nm = true) : Looks M h (fillsInplaceSlot (.ref C) nm add) false := by
  obtain ⟨cd, hcd, hm⟩ := any_some hn
  intro A Q E s k q
  unfold fillsInplaceSlot
  refine wpAny_bind ((looks_clsIn X hcd).andThen (f := fun cd => pure cd.mro) .now A _ E s k ?_)
  revert hm
  generalize cd.mro = l
  intro hm
  induction l with
  | nil => exact wpAny_pure q
  | cons c l ih =>
    rw [List.all_cons, Bool.and_eq_true] at hm
    obtain ⟨h1, h3⟩ := hm
    have L1 := looks_findIn (M := M) (X.keeps k) (beq_iff_eq.mp h1)
    have ih := ih h3
    obtain ⟨hh, g, d, tt, os⟩ := s
    rw [List.anyM_cons]
    refine wpAny_bind ?_
    repeat lk
    exact ih
theorem inpl_of {op : Operator} {b : Value} {Q : Value → Shared → Prop} (X : K.In s.heap) (I : InstAt s.heap x ox C od) (hi : noInB K C op.info.2 = true) (h : Op1 prog w A E s op.info.2 (.ref x) b Q) : wpAny (model prog w) A (inplaceOp op (.ref x) b) Q E s := by
  unfold inplaceOp
  refine wpAny_holding (wpAny_bind (I.type.here (wpAny_bind ((fillsI_no X hi).here ?_))))
  simp only [Bool.false_eq_true, if_false]
  refine wpAny_bind (wpAny_mono h (fun r s' hr => ?_) fun _ _ e => e)
  obtain ⟨v, rfl, hq⟩ := hr
  exact wpAny_pure hq
end
end PyI
namespace PyI
open PySem PySem.W PySem.Calls PyProof.Rows PySem.SeqAt
open AutoSeq1 (wpAny_loadPart')
section
variable {prog : Program} {w : World} {M : Model} {A : Around} {E : Value → Shared → Prop} {s : Shared} {K : Frag} {x C C2 L f : Addr} {h₀ : Heap} {m : Str → Option Value} {ox : Obj} {od : Option Obj} {nm : String}
theorem eq_back {a : Value} {T id : String} {Q : Value → Shared → Prop} (hu : A.units < cLine) (X : K.In s.heap) (I : InstAt s.heap x ox C od) (ha : s.TypeIs a T) (h1 : Slot T (cmpInfo .Eq).2.1 id) (hsub : subIn K (.ref C) (.type T) = some false)
    (hc1 : ∀ Q' : Value → Shared → Prop, Q' .notImplemented s → wpAny M A (call (.builtin id) [a, .ref x]) Q' E s)
    (hs : findIn K (.ref C) "__eq__" = some (some (.ref f))) (hf : isFn K (.ref f) = true)
    (h : wpAny M A (call (.ref f) [.ref x, a]) (W.CmpBack Q) E s) : wpAny M A (richCompare .Eq a (.ref x)) Q E s := by
  have one : wpAny M A (tryCompare (.ref x) (cmpInfo .Eq).2.2 a) (fun r s' => ∃ v, r = some v ∧ Q v s') E s := by
    unfold tryCompare
    refine wpAny_bind (ifBound_K X I hs hf (wpAny_mono h (fun v s' hv => ?_) fun _ _ e => e))
    cases v <;> first | exact hv.elim | exact wpAny_pure ⟨_, rfl, hv⟩
  have hne : (Value.type T != Value.ref C) = true := by
    have : (Value.type T == Value.ref C) = false := Bool.eq_false_iff.mpr fun q => by cases beq_iff_eq.mp q
    rw [bne, this]
    rfl
  simp only [richCompare, cmpInfo, ha.oneThing_none] at h1 one ⊢
  refine wpAny_holding ?_
  refine wpAny_bind (wpAny_cRoomFor_or (.inr hu) ?_)
  refine wpAny_bind (wpAny_typeOf ha (wpAny_bind (I.type.here ?_)))
  simp only [hne, if_true]
  refine wpAny_bind ((looks_subIn X hsub).here ?_)
  simp only [Bool.false_eq_true, if_false, Bool.not_false, if_true]
  refine wpAny_bind (m := tryCompare a _ _) (wpAny_tryCompare_declines ha h1 (hc1 _ ⟨rfl, ?_⟩))
  refine wpAny_bind (m := tryCompare (.ref x) _ a) (wpAny_mono one (fun r s' hr => ?_) fun _ _ e => e)
  obtain ⟨v, rfl, hq⟩ := hr
  exact wpAny_pure hq
end
theorem int_dec_bool (b : Bool) (l : Addr) (c : Value) (dd : Option Addr) (sl : Array (Option Value)) :
    Meets (Builtin.«int.__eq__» ⟨[.bool b, .ref l], []⟩) (fun _ R s => s.heap.get? l = some { cls := c, dict := dd, data := .plain, slots := sl } ∧ R (.ok (.ret .notImplemented)) s) :=
  .of_wp fun prog w A R s h => by obtain ⟨hp, g, d, tk, os⟩ := s; obtain ⟨hl, h⟩ := h; wp_walk using wpAny_loadPart' hl, wpAny_load hl; exact ⟨_, rfl, h⟩
theorem int_dec_int (b : Int) (u : Tok) (l : Addr) (c : Value) (dd : Option Addr) (sl : Array (Option Value)) :
    Meets (Builtin.«int.__eq__» ⟨[.int b u, .ref l], []⟩) (fun _ R s => s.heap.get? l = some { cls := c, dict := dd, data := .plain, slots := sl } ∧ R (.ok (.ret .notImplemented)) s) :=
  .of_wp fun prog w A R s h => by obtain ⟨hp, g, d, tk, os⟩ := s; obtain ⟨hl, h⟩ := h; wp_walk using wpAny_loadPart' hl, wpAny_load hl; exact ⟨_, rfl, h⟩
theorem str_dec (b : Str) (u : Tok) (l : Addr) (c : Value) (dd : Option Addr) (sl : Array (Option Value)) :
    Meets (Builtin.«str.__eq__» ⟨[.str b u, .ref l], []⟩) (fun _ R s => s.heap.get? l = some { cls := c, dict := dd, data := .plain, slots := sl } ∧ R (.ok (.ret .notImplemented)) s) :=
  .of_wp fun prog w A R s h => by obtain ⟨hp, g, d, tk, os⟩ := s; obtain ⟨hl, h⟩ := h; wp_walk using wpAny_loadPart' hl, wpAny_load hl; exact ⟨_, rfl, h⟩
theorem list_dec (l p C : Addr) (K : Frag) (ox : Obj) (od : Option Obj) (items : Array Value) (n : Nat) (dd : Option Addr) (sl : Array (Option Value)) (hs : subIn K (.ref C) (.type "list") = some false) :
    Meets (Builtin.«list.__eq__» ⟨[.ref l, .ref p], []⟩) (fun _ R s => s.heap.get? l = some { cls := .type "list", dict := dd, data := .seq items n, slots := sl } ∧ K.In s.heap ∧ InstAt s.heap p ox C od ∧ R (.ok (.ret .notImplemented)) s) :=
  .of_wp fun prog w A R s h => by
    obtain ⟨hp, g, d, tk, os⟩ := s
    obtain ⟨hl, hX, hI, h⟩ := h
    have L1 : Looks (model prog w) hp (isInstance (.ref p) (.type "list")) false := hI.type.andThen (looks_subIn hX hs)
    refine wpAny_bind (wpAny_of_eq (a := (Value.ref l, [Value.ref p])) (by first | rfl | kernel_rfl) ?_)
    refine wpAny_bind (L1.at ?_)
    exact wpAny_pure ⟨_, rfl, h⟩
theorem tuple_dec (l p C : Addr) (K : Frag) (ox : Obj) (od : Option Obj) (items : Array Value) (n : Nat) (dd : Option Addr) (sl : Array (Option Value)) (hs : subIn K (.ref C) (.type "tuple") = some false) :
    Meets (Builtin.«tuple.__eq__» ⟨[.ref l, .ref p], []⟩) (fun _ R s => s.heap.get? l = some { cls := .type "tuple", dict := dd, data := .seq items n, slots := sl } ∧ K.In s.heap ∧ InstAt s.heap p ox C od ∧ R (.ok (.ret .notImplemented)) s) :=
  .of_wp fun prog w A R s h => by
    obtain ⟨hp, g, d, tk, os⟩ := s
    obtain ⟨hl, hX, hI, h⟩ := h
    have L1 : Looks (model prog w) hp (isInstance (.ref p) (.type "tuple")) false := hI.type.andThen (looks_subIn hX hs)
    refine wpAny_bind (wpAny_of_eq (a := (Value.ref l, [Value.ref p])) (by first | rfl | kernel_rfl) ?_)
    refine wpAny_bind (L1.at ?_)
    exact wpAny_pure ⟨_, rfl, h⟩
/-- the kinds of values whose own == declines an instance -/
inductive Dcl (s : Shared) : Value → Prop where
  | non : Dcl s .none
  | bl (b : Bool) : Dcl s (.bool b)
  | int (i : Int) (t : Tok) : Dcl s (.int i t)
  | str (x : Str) (t : Tok) : Dcl s (.str x t)
  | lst {l : Addr} {items : Array Value} (h : s.heap.IsList l items) : Dcl s (.ref l)
  | tup {l : Addr} {items : Array Value} (h : s.heap.IsTuple l items) : Dcl s (.ref l)
section
variable {prog : Program} {w : World} {A : Around} {E : Value → Shared → Prop} {s : Shared} {K : Frag} {x C dx f : Addr} {od : Option Obj}
theorem eq_back_of {a : Value} {Q : Value → Shared → Prop} (hu : A.units < cLine) (X : K.In s.heap) (I : InstAt s.heap x (instObj C dx) C od) (ha : Dcl s a) (hsub : ∀ T ∈ ["NoneType", "bool", "int", "str", "list", "tuple"], subIn K (.ref C) (.type T) = some false)
    (hs : findIn K (.ref C) "__eq__" = some (some (.ref f))) (hf : isFn K (.ref f) = true)
    (h : wpAny (model prog w) A (call (.ref f) [.ref x, a]) (W.CmpBack Q) E s) : wpAny (model prog w) A (richCompare .Eq a (.ref x)) Q E s := by
  have hx : s.heap.get? x = some ⟨.ref C, some dx, .plain, #[]⟩ := I.at_
  cases ha with
  | non => exact eq_back hu X I rfl F.slot_NoneType_eq (hsub _ (by decide)) (fun _ hq => call_gives F.slot_NoneType_eq rfl F.entry_NoneType_eq (F.args_NoneType_eq_2 _ _) (NoneType___eq___none_ref_0 x) hq) hs hf h
  | bl b => exact eq_back hu X I rfl F.slot_bool_eq (hsub _ (by decide)) (fun _ hq => call_meets F.slot_bool_eq rfl F.entry_int_eq (F.args_int_eq_2 _ _) (int_dec_bool b x _ _ _) ⟨hx, hq⟩) hs hf h
  | int i t => exact eq_back hu X I (typeIs_int s i t) F.slot_int_eq (hsub _ (by decide)) (fun _ hq => call_meets F.slot_int_eq (typeIs_int s i t) F.entry_int_eq (F.args_int_eq_2 _ _) (int_dec_int i t x _ _ _) ⟨hx, hq⟩) hs hf h
  | str z t => exact eq_back hu X I (typeIs_str s z t) F.slot_str_eq (hsub _ (by decide)) (fun _ hq => call_meets F.slot_str_eq (typeIs_str s z t) F.entry_str_eq (F.args_str_eq_2 _ _) (str_dec z t x _ _ _) ⟨hx, hq⟩) hs hf h
  | @lst l items hl =>
    obtain ⟨⟨cls, dd, data, sl⟩, ho, hc, n, hd⟩ := id hl
    simp only at hc hd
    subst hc hd
    exact eq_back hu X I ⟨_, ho, rfl⟩ F.slot_list_eq (hsub _ (by decide)) (fun _ hq => call_meets F.slot_list_eq ⟨_, ho, rfl⟩ F.entry_list_eq (F.args_list_eq_2 _ _) (list_dec l x C K _ od items n dd sl (hsub _ (by decide))) ⟨ho, X, I, hq⟩) hs hf h
  | @tup l items hl =>
    obtain ⟨⟨cls, dd, data, sl⟩, ho, hc, n, hd⟩ := id hl
    simp only at hc hd
    subst hc hd
    exact eq_back hu X I ⟨_, ho, rfl⟩ F.slot_tuple_eq (hsub _ (by decide)) (fun _ hq => call_meets F.slot_tuple_eq ⟨_, ho, rfl⟩ F.entry_tuple_eq (F.args_tuple_eq_2 _ _) (tuple_dec l x C K _ od items n dd sl (hsub _ (by decide))) ⟨ho, X, I, hq⟩) hs hf h
end
end PyI
namespace PyI
open PySem PySem.Spec PyProof.Rows L2
def bTys : List String := ["NoneType", "bool", "int", "str", "list", "tuple", "dict"]
/-- C.m is a staticmethod around the def at g -/
structure StM (K : PySem.W.Frag) (C : Addr) (m : Str) (g : Addr) : Prop where
  rd : ClX.CRead K C (.type "type")
  at_ : ∃ p, PySem.W.findCls K (.ref C) (.type "type") m = some (.get (.builtin "staticmethod.__get__") (.ref p) .none (.ref C)) ∧ ∃ rest, PySem.W.recIn K p "staticmethod" = some (.ref g :: rest)
  kp : PySem.W.keepIn K (.ref g) = true
/-- an own operator of the class at C -/
structure OpF (K : PySem.W.Frag) (F : Fx) (P : Pg) (C : Addr) (nm : String) : Prop where
  first : PySem.W.selfFirst K C = true
  refl : ∃ rc, PySem.W.findIn K (.ref C) (dunderR nm) = some rc ∧ (rc = none ∨ ∃ g : Addr, rc = some (.ref g))
  ty : ∀ T ∈ bTys, (∃ fo, PySem.W.findIn K (.type T) (PySem.dunder nm) = some fo) ∧ (∃ ro, PySem.W.findIn K (.type T) (dunderR nm) = some ro) ∧ PySem.W.subIn K (.type T) (.ref C) = some false
  cl : ∀ c' x', P.cl[c']? = some x' → F.ca c' = C ∨ (C ≠ F.ca c' ∧ noOpB K (F.ca c') nm = true)
  inp : noInB K C nm = true
structure BareC (K : PySem.W.Frag) (C : Addr) : Prop where
  makes : PySem.W.makesIn K C = true
  init : PySem.W.findIn K (.ref C) "__init__" = some (some (.builtin "object.__init__"))
  kp : PySem.W.keepIn K (.ref C) = true
/-- what the top has written of the class c -/
structure ClT (K : PySem.W.Frag) (F : Fx) (P : Pg) (c : Nat) (x : ClD) : Prop where
  cls : Cls K (F.ca c)
  tc : PySem.W.findIn K (.ref (F.ca c)) "__class__" = some (some (.builtin "object.__class__"))
  tn : PySem.W.specialIn K (.builtin "object.__class__") "__get__" = some (some (.builtin "getset_descriptor.__get__"))
  tt : PySem.W.takesIn K (.builtin "object.__class__") = some true
  tm : PySem.W.mroIn K (F.ca c) (.type "object") = some true
  meth : ∀ m g, x.meth.lookup m = some g → Meth K (F.ca c) m (F.fa g)
  prop : ∀ m g, x.prop.lookup m = some g → ∃ p, PropOf K (F.ca c) m p (F.fa g)
  stat : ∀ m g, x.stat.lookup m = some g → StM K (F.ca c) m (F.fa g)
  noat : ∀ f ∈ x.flds, NoAttr K (F.ca c) f
  nfT : ∀ T ∈ bTys, PySem.W.notFirst K (F.ca c) (.type T) = true
  nfC : ∀ g, x.meth.lookup ("__eq__" : Str) = some g → ∀ c' x', P.cl[c']? = some x' → PySem.W.notFirst K (F.ca c) (.ref (F.ca c')) = true
  kTC : ∀ T ∈ bTys, PySem.W.kitOne K (.type T) (.ref (F.ca c)) = some false
  kCT : ∀ T ∈ bTys, PySem.W.kitOne K (.ref (F.ca c)) (.type T) = some false
  kCC : ∀ c' x', P.cl[c']? = some x' → PySem.W.kitOne K (.ref (F.ca c)) (.ref (F.ca c')) = some (x.up.contains c')
  sT : ∀ T ∈ bTys, PySem.W.subIn K (.ref (F.ca c)) (.type T) = some false
  ops : ∀ op g, (opMeth op).bind (x.meth.lookup ·) = some g → OpF K F P (F.ca c) op.info.2
  bare : x.bare = true → BareC K (F.ca c)
def ClsT (K : PySem.W.Frag) (F : Fx) (P : Pg) : Prop := ∀ c x, P.cl[c]? = some x → ClT K F P c x
/-- a datum's type -/
def tyD (F : Fx) (P : Pg) : Dt → Option Value
  | .non => some (.type "NoneType")
  | .bl _ => some (.type "bool")
  | .int _ => some (.type "int")
  | .str _ => some (.type "str")
  | .lst _ => some (.type "list")
  | .tup _ => some (.type "tuple")
  | .ins c _ _ => (P.cl[c]?).map fun _ => .ref (F.ca c)
  | _ => none
theorem tyD_some {F : Fx} {P : Pg} : ∀ {d : Dt}, typed P d = true → ∃ t, tyD F P d = some t
  | .non, _ | .bl _, _ | .int _, _ | .str _, _ | .lst _, _ | .tup _, _ => ⟨_, rfl⟩
  | .ins c _ _, h => by
    obtain ⟨x, hx⟩ := Option.isSome_iff_exists.mp (show (P.cl[c]?).isSome = true from h)
    exact ⟨_, by simp only [tyD, hx]; rfl⟩
  | .dct _ _, h | .cel _, h | .cls _, h | .ty _, h | .scr _, h => by cases h
theorem tyX_of {K : PySem.W.Frag} {F : Fx} {P : Pg} {w : Wd} {H : Hp} (hK : K = F.K) (T : ClsT K F P) (fr : ∀ a o, w.G a = some o → H a = some o) : ∀ (d : Dt) {v : V} {t : Value}, Dn F w d v → tyD F P d = some t → TyX K H v t
  | .non, _, _, h, e => by cases h; cases e; exact .base .non
  | .bl _, _, _, h, e => by cases h; cases e; exact .base (.bl _)
  | .int _, _, _, h, e => by cases h; cases e; exact .base (.int _)
  | .str _, _, _, h, e => by cases h; cases e; exact .base (.str _)
  | .lst _, _, _, ⟨a, vs, e1, s, _⟩, e => by subst e1; cases e; exact .base (.lst (fr _ _ s))
  | .tup _, _, _, ⟨a, vs, e1, s, _⟩, e => by
    subst e1
    cases e
    rcases s with (s | ⟨o, s⟩) | ⟨o, its, n, hk, hc, _⟩
    · exact .base (.tup (fr _ _ s))
    · exact .fTuple (fr _ _ s)
    · rw [hK]; exact .kTuple hk hc
  | .ins c _ _, _, _, ⟨a, dx, vs, e1, s, _⟩, e => by
    subst e1
    cases q : P.cl[c]? with
    | none => simp only [tyD, q] at e; cases e
    | some x =>
      simp only [tyD, q] at e
      cases e
      have t := T c x q
      exact .base (.ins (fr _ _ s) t.cls t.tc t.tn t.tt t.tm)
  | .dct _ _, _, _, _, e | .cel _, _, _, _, e | .cls _, _, _, _, e | .ty _, _, _, _, e | .scr _, _, _, _, e => by cases e
/-- a class as a value -/
def tyVal (F : Fx) : Ty → Value
  | .int => .type "int"
  | .bool => .type "bool"
  | .str => .type "str"
  | .list => .type "list"
  | .tuple => .type "tuple"
  | .dict => .type "dict"
  | .own c => .ref (F.ca c)
def tyV (F : Fx) : Ty → V
  | .int => .ty "int"
  | .bool => .ty "bool"
  | .str => .ty "str"
  | .list => .ty "list"
  | .tuple => .ty "tuple"
  | .dict => .ty "dict"
  | .own c => .ref (F.ca c)
theorem clsV_of (F : Fx) (t : Ty) : ClsV (tyV F t) (tyVal F t) := by cases t <;> constructor
def tyKnown (P : Pg) : Ty → Bool
  | .own c => (P.cl[c]?).isSome
  | _ => true
theorem kit_of_isB {K : PySem.W.Frag} {F : Fx} {P : Pg} (T : ClsT K F P) {d : Dt} {t : Ty} {b : Bool} (ht : tyKnown P t = true) (e : isB d t = some b) : ∃ u, tyD F P d = some u ∧ PySem.W.kitOne K u (tyVal F t) = some b := by
  have own : ∀ {c : Nat}, tyKnown P (.own c) = true → ∃ x, P.cl[c]? = some x := fun {c} h => Option.isSome_iff_exists.mp h
  unfold isB at e
  split at e <;> cases e <;>
    first
      | exact ⟨_, rfl, kit_ty (by decide +kernel)⟩
      | (obtain ⟨x, hx⟩ := own ht; exact ⟨_, rfl, (T _ x hx).kTC _ (by decide)⟩)
theorem kit_of_isT {K : PySem.W.Frag} {F : Fx} {P : Pg} (T : ClsT K F P) {d : Dt} {t : Ty} {b : Bool} (ht : tyKnown P t = true) (e : isT P d t = some b) : ∃ u, tyD F P d = some u ∧ PySem.W.kitOne K u (tyVal F t) = some b := by
  unfold isT at e
  split at e
  · rename_i c ns vs
    cases q : P.cl[c]? with
    | none => rw [q] at e; cases e
    | some x =>
      rw [q] at e
      have e : some (isC x t) = some b := e
      refine ⟨.ref (F.ca c), by simp only [tyD, q]; rfl, ?_⟩
      rw [← e]
      have tc := T c x q
      cases t with
      | own c' =>
        obtain ⟨x', hx'⟩ := Option.isSome_iff_exists.mp (show (P.cl[c']?).isSome = true from ht)
        exact tc.kCC c' x' hx'
      | int => exact tc.kCT "int" (by decide)
      | bool => exact tc.kCT "bool" (by decide)
      | str => exact tc.kCT "str" (by decide)
      | list => exact tc.kCT "list" (by decide)
      | tuple => exact tc.kCT "tuple" (by decide)
      | dict => exact tc.kCT "dict" (by decide)
  · exact kit_of_isB T ht e
theorem kit_of_isTs {K : PySem.W.Frag} {F : Fx} {P : Pg} (T : ClsT K F P) {d : Dt} {u : Value} (hu : tyD F P d = some u) : ∀ {ts : List Ty} {b : Bool}, ts.all (tyKnown P) = true → isTs P d ts = some b → PySem.W.kitAny K u (ts.map (tyVal F)) = some b
  | [], b, _, e => by cases e; rfl
  | t :: ts, b, ht, e => by
    rw [List.all_cons, Bool.and_eq_true] at ht
    unfold isTs at e
    unfold PySem.W.kitAny
    rw [List.map_cons]
    dsimp only
    cases q : isT P d t with
    | none => rw [q] at e; cases e
    | some k =>
      rw [q] at e
      obtain ⟨u', h1, h2⟩ := kit_of_isT T ht.1 q
      rw [hu] at h1
      cases h1
      rw [h2]
      cases k with
      | true => cases e; rfl
      | false => exact kit_of_isTs T hu ht.2 e
section
variable {X : Cx} {F : Fx} {f : Fm} {W : WX} {P : Pg} {a : Expr} {p pos : Pos} {ma : Sto → Rs Dt}
/-- isinstance(e, T) -/
theorem se_isi1 {c : Expr} {t : Ty} (hK : X.K = F.K) (T : ClsT X.K F P) (ht : tyKnown P t = true) (hgl : Gl X "isinstance") (hm : X.mg "isinstance" = none) (hp : plainEs [a, c] = true) (ha : PE X a (RE F f W ma)) (hc : PE X c (tC (tyV F t))) :
    PE X (.Call (.Name "isinstance" p) [a, c] [] pos) (RE F f W fun S => (ma S).bind fun x S1 => okD ((isTs P x [t]).map .bl) S1) := by
  have hp2 : plainEs [c] = true := plain_tail hp
  refine peImp (pe_callB (r := rIsi X.K) call_isi hgl hm boot_isinstance (pa_cons ha (pa_cons hc pa_nil (star_cons hp2)) (star_cons hp)) (by decide) (by decide) (star_cons hp) (star_any hp2)) fun σ H Q ⟨w, S, R, h⟩ => ?_
  refine Rd1.go R h fun d x w1 H1 S1 _ R1 l1 r1 h1 => ?_
  cases e : isTs P d [t] with
  | none => rw [e] at h1; exact h1.elim
  | some b =>
    rw [e] at h1
    have e2 : isT P d t = some b := by
      unfold isTs at e
      cases q : isT P d t with
      | none => rw [q] at e; cases e
      | some k =>
        rw [q] at e
        cases k with
        | true => cases e; rfl
        | false => cases e; rfl
    obtain ⟨u, hu, hk⟩ := kit_of_isT T ht e2
    exact ⟨x, tyV F t, u, tyVal F t, b, rfl, clsV_of F t, tyX_of hK T R1.cs.fr d r1 hu, hk, h1.ok R1 rfl⟩
end
end PyI
namespace PyI
open PySem PySem.Spec PyProof.Rows L2
/-! ### calls that let nothing out -/
section
variable {X : Cx} {F : Fx} {f : Fm} {W : WX}
theorem run_N {k n : Nat} {fa : Addr} {ks : List Str} {sp : Sp} {A : Around} {pins : List (Addr × Obj)} {σ : L2.St} {H : Hp} {s : Shared} {Q : VK} {E' : Value → Shared → Prop} {us ws : List Value} {vs zs : List V} (C : CalG X.prog X.w X.K X.mg X.base k fa n ks sp) (hr : Room k A) (hg : A.guards = some [])
    (e0 : Env0 X.prog X.w X.K X.mg X.base A X.stack s H) (I : Inv X pins σ H s) (h1 : us.length = n) (h2 : ws.length = ks.length) (r : Vals vs us) (rz : Vals zs ws) (h : sp (vs ++ zs) H Q (fun _ _ _ => False)) :
    wpAny (model X.prog X.w) A (PySem.call (.ref fa) us (ks.zip ws)) (EP X pins σ Q) E' s := by
  refine wpAny_call (codeAny_mono (C A X.stack s H us ws vs zs Q (fun _ _ _ => False) hr hg e0 h1 h2 r rz h) fun r s' hq => ?_)
  cases r with
  | error e =>
    obtain ⟨_, _, _, _, _, _, _, _, _, _, _, _, z⟩ := hq
    exact z.elim
  | ok fl =>
    cases fl with
    | ret u => exact I.after hq
    | next => exact False.elim hq
    | brk => exact False.elim hq
    | cont => exact False.elim hq
theorem poN_of {w : Wd} {σ : L2.St} {H : Hp} {S : Sto} {r : Rc} {Q : VK} (R : Rr F f w σ H S) (h : Po F f W σ w (upN r S) (Dn F) Q) : PoC F w H r Q (fun _ _ _ => False) := by
  cases r with
  | ok b m' =>
    have h' : PoC F w H (.ok b m') Q (WE W σ) := poC_of R (by cases b <;> exact h)
    exact h'
  | ex c ns ds m' => exact h.elim
  | bad => exact h
/-- what the program's table promises of its defs -/
def FnsT (X : Cx) (F : Fx) (P : Pg) (k : Nat) (cf : Nat → List Dt → List Dt → Rc) : Prop := ∀ g n ks sh, P.shf g n ks = some sh → CalG X.prog X.w X.K X.mg X.base k (F.fa g) n ks (spS F (cf g) sh)
def selfSh : List Ar := [.a 0]
variable {P : Pg} {k : Nat} {cf : Nat → List Dt → List Dt → Rc} {a b : Expr} {pos p : Pos} {ma mb : Sto → Rs Dt}
/-- e.f -/
theorem se_fld {fl : Str} (T : ClsT X.K F P) (FT : FnsT X F P k cf) (hsh : ∀ c g, P.prop c fl = some g → P.shf g 1 [] = some selfSh) (hr : Room (k + 1) X.A) (hg : X.A.guards = some []) (hab : attributeBase a fl X.env (eval a X.env) = eval a X.env) (ha : PE X a (RE F f W ma)) :
    PE X (.Attribute a fl pos) (RE F f W fun S => (ma S).bind fun x S1 => match x with
    | .ins c ns vs => match P.prop c fl with
      | some g => upN (cf g [.ins c ns vs] S1.m) S1
      | none => if P.fld c fl then okD (lookD fl ns vs) S1 else .bad
    | _ => .bad) := by
  refine ⟨fun pins s σ H Q I h => ?_⟩
  obtain ⟨w, S, R, h⟩ := h
  refine attr_of hab (thn (ha.run pins s σ H (fun x H1 => ∃ (c : Nat) (ns : List Str) (vs : List Dt) (w1 : Wd) (S1 : Sto), Rr F f w1 σ H1 S1 ∧ Dn F w1 (.ins c ns vs) x ∧ Po F f W σ w1 (match P.prop c fl with
      | some g => upN (cf g [.ins c ns vs] S1.m) S1
      | none => if P.fld c fl then okD (lookD fl ns vs) S1 else .bad) (Dn F) Q) I (Rd1.go R h fun d x w1 H1 S1 _ R1 l1 r1 h1 => ?_)) fun u s1 hh => ?_)
  · cases d with
    | ins c ns vs => exact ⟨c, ns, vs, w1, S1, R1, r1, h1⟩
    | _ => exact h1.elim
  · obtain ⟨x, H1, I1, rx, c, ns, ds, w1, S1, R1, dn, h1⟩ := hh
    obtain ⟨a, dx, vs, ex, ga, hl, rs⟩ := id dn
    subst ex
    obtain rfl : u = Value.ref a := rx
    have ha' := R1.cs.fr _ _ ga
    cases e : P.prop c fl with
    | some g =>
      rw [e] at h1
      unfold Pg.prop at e
      cases q : P.cl[c]? with
      | none => rw [q] at e; cases e
      | some cx =>
        rw [q] at e
        have tc := T c cx q
        obtain ⟨pp, hp⟩ := tc.prop fl g e
        obtain ⟨mA, O, _, _, _, _⟩ := ins_get I1.hok ha'
        obtain ⟨od, J, _⟩ := O.look
        obtain ⟨rest, hrec⟩ := hp.rec_
        have hc : (PySem.W.clsIn X.K (F.ca c)).isSome = true := by
          obtain ⟨cd, hc, _⟩ := PySem.W.any_some tc.cls.hd
          rw [hc]
          rfl
        have I2 := I1.tok (s1.toks + 1)
        have cal := FT g 1 [] selfSh (hsh c g (by unfold Pg.prop; rw [q]; exact e))
        refine PySem.W.get_bind I1.kIn J (PySem.W.plainGet_of (tc.cls.get fl)).1 (PySem.W.findObj_data hc hp.at_ hp.get hp.tak) (PySem.W.plainGet_of (tc.cls.get fl)).2 (wpAny_call (PySem.W.prop_get (s := { s1 with toks := s1.toks + 1 }) I1.kIn hrec ?_))
        have sp : spS F (cf g) selfSh [.ref a] H1 Q (fun _ _ _ => False) := ⟨w1, S1.m, [.ins c ns ds], [.ins c ns ds], R1.cs, ⟨.ref a, [], rfl, dn, rfl⟩, rfl, poN_of R1 h1⟩
        refine codeAny_mono (cal X.A.in1 X.stack { s1 with toks := s1.toks + 1 } H1 [.ref a] [] [.ref a] [] Q (fun _ _ _ => False) hr.in1 hg I2.env0.in1 rfl rfl (.cons rfl .nil) .nil sp) fun r s' hq => ?_
        cases r with
        | error er =>
          obtain ⟨_, _, _, _, _, _, _, _, _, _, _, _, z⟩ := hq
          exact z.elim
        | ok fl =>
          cases fl with
          | ret u =>
            obtain ⟨v, H', I3, rv, q3⟩ := I2.after hq
            show wpAny _ _ (handedOut u) _ _ _
            rw [PySem.W.handedOut_of (handed_of rv)]
            exact wpAny_pure ⟨v, H', I3, rv, q3⟩
          | next => exact False.elim hq
          | brk => exact False.elim hq
          | cont => exact False.elim hq
    | none =>
      rw [e] at h1
      dsimp only at h1
      split at h1
      · rename_i hf
        unfold Pg.fld at hf
        cases q : P.cl[c]? with
        | none => rw [q] at hf; cases hf
        | some cx =>
          rw [q] at hf
          have tc := T c cx q
          cases e2 : lookD fl ns ds with
          | none => rw [e2] at h1; exact h1.elim
          | some d =>
            rw [e2] at h1
            obtain ⟨v, h3, h4⟩ := (look_dn (f0 := fl) rs hl).1 d e2
            exact getattr_ok I1 ha' tc.cls (tc.noat fl (by simpa using hf)) h3 fun u' s' I' ru => ⟨v, H1, I', ru, h1.ok R1 h4⟩
      · exact h1.elim
/-! ### comparisons, own == among them -/
def rCmp (F : Fx) (f : Fm) (W : WX) (g : Dt → Dt → Sto → Rs Dt) : R2 := fun x y H Q => ∃ σ w S a b, Rr F f w σ H S ∧ Dn F w a x ∧ Dn F w b y ∧ Po F f W σ w (g a b S) (Dn F) Q
def eqSh : List Ar := [.a 0, .a 1]
def eqTyped (F : Fx) (P : Pg) (d : Dt) : Bool := (tyD F P d).isSome
theorem notFirst_of {K : PySem.W.Frag} {c g : Nat} {cx : ClD} (tc : ClT K F P c cx) (he : cx.meth.lookup ("__eq__" : Str) = some g) : ∀ {d : Dt} {t : Value}, tyD F P d = some t → PySem.W.notFirst K (F.ca c) t = true
  | .non, _, e => by cases e; exact tc.nfT "NoneType" (by decide)
  | .bl _, _, e => by cases e; exact tc.nfT "bool" (by decide)
  | .int _, _, e => by cases e; exact tc.nfT "int" (by decide)
  | .str _, _, e => by cases e; exact tc.nfT "str" (by decide)
  | .lst _, _, e => by cases e; exact tc.nfT "list" (by decide)
  | .tup _, _, e => by cases e; exact tc.nfT "tuple" (by decide)
  | .ins c' _ _, t, e => by
    cases q : P.cl[c']? with
    | none => simp only [tyD, q] at e; cases e
    | some x' =>
      simp only [tyD, q] at e
      cases e
      exact tc.nfC g he c' x' q
  | .dct _ _, _, e | .cel _, _, e | .cls _, _, e | .ty _, _, e | .scr _, _, e => by cases e
theorem dcl_of {pins : List (Addr × Obj)} {σ τ : L2.St} {H : Hp} {s : Shared} {w : Wd} {S : Sto} (hK : X.K = F.K) (I : Inv X pins σ H s) (R : Rr F f w τ H S) : ∀ {a : Dt} {x : V} {v : Value}, Dn F w a x → RelV x v → eqBk a = true → Dcl s v
  | .non, _, v, h, r, _ => by cases h; cases (show v = Value.none from r); exact .non
  | .bl b, _, v, h, r, _ => by cases h; cases (show v = Value.bool b from r); exact .bl b
  | .int i, _, v, h, r, _ => by
    cases h
    obtain ⟨t, e⟩ := (show ∃ t, v = Value.int i t from r)
    cases e
    exact .int i t
  | .str z, _, v, h, r, _ => by
    cases h
    obtain ⟨t, e⟩ := (show ∃ t, v = Value.str z t from r)
    cases e
    exact .str z t
  | .lst ds, _, v, ⟨p, vs, e1, g1, _⟩, r, _ => by
    subst e1
    cases (show v = Value.ref p from r)
    obtain ⟨its, _, pl, _⟩ := I.list (SqL.of (R.cs.fr _ _ g1))
    exact .lst pl.isList
  | .tup ds, _, v, ⟨p, vs, e1, g1, _⟩, r, _ => by
    subst e1
    cases (show v = Value.ref p from r)
    obtain ⟨its, _, pl, _⟩ := I.tuple (a := p) (xs := vs) (by rw [hK]; exact sqT_mono R.cs.fr g1)
    exact .tup pl
  | .dct _ _, _, _, _, _, e | .ins _ _ _, _, _, _, _, e | .cel _, _, _, _, _, e | .cls _, _, _, _, _, e | .ty _, _, _, _, _, e | .scr _, _, _, _, _, e => by cases e
theorem po_bl {σ : L2.St} {w : Wd} {r : Rs Dt} {Q : VK} (h : Po F f W σ w (r.bind blB) (Dn F) Q) : Po F f W σ w r (Dn F) (fun z H => ∃ k, z = .bl k ∧ Q (.bl k) H) := by
  cases r with
  | ok d S =>
    cases d with
    | bl k => exact fun b w' H' R l rel => ⟨k, rel, h (.bl k) w' H' R l rfl⟩
    | _ => exact h.elim
  | ex c ns ds S => exact h
  | bad => exact h
theorem po_neg {σ : L2.St} {w : Wd} {r : Rs Dt} {Q : VK} (h : Po F f W σ w (r.bind negB) (Dn F) Q) : Po F f W σ w r (Dn F) (fun z H => ∃ k, z = .bl k ∧ Q (.bl (!k)) H) := by
  cases r with
  | ok d S =>
    cases d with
    | bl k => exact fun b w' H' R l rel => ⟨k, rel, h (.bl (!k)) w' H' R l rfl⟩
    | _ => exact h.elim
  | ex c ns ds S => exact h
  | bad => exact h
theorem cmp1_ok (hK : X.K = F.K) (T : ClsT X.K F P) (FT : FnsT X F P k cf) (hsh : ∀ c g m, (m = ("__eq__" : Str) ∨ m = ("__contains__" : Str)) → P.meth c m = some g → P.shf g 2 [] = some eqSh) (hr : Room k X.A) (hg : X.A.guards = some []) (op : CmpOp) : OpR X (compareOp op) (rCmp F f W (cmp1 P cf op)) := by
  intro pins s σ H x y v u Q I rx ry h
  obtain ⟨τ, w, S, a, b, R, da, db, q⟩ := h
  have plain : Po F f W τ w (okD ((cmpD op a b).map .bl) S) (Dn F) Q → wpAny (model X.prog X.w) X.A (compareOp op v u) (EP X pins σ Q) X.xe s := fun q => by
    cases e : (cmpD op a b).map Dt.bl with
    | none => rw [e] at q; exact q.elim
    | some d =>
      rw [e] at q
      exact cmpD_ok (f := f) (W := W) hK (by have := hr.un; omega) op pins s σ H x y v u Q I rx ry ⟨τ, w, S, a, b, d, R, da, db, e, q⟩
  unfold cmp1 at q
  split at q
  · rename_i c ns vs
    cases e : P.meth c "__eq__" with
    | none => rw [e] at q; exact q.elim
    | some g =>
      rw [e] at q
      dsimp only at q
      split at q
      · rename_i ht
        unfold Pg.meth at e
        cases qc : P.cl[c]? with
        | none => rw [qc] at e; cases e
        | some cx =>
          rw [qc] at e
          have tc := T c cx qc
          have mt := tc.meth "__eq__" g e
          obtain ⟨p, dx, vs', ex, ga, hl, rs⟩ := id da
          subst ex
          obtain rfl : v = Value.ref p := rx
          have ha := R.cs.fr _ _ ga
          obtain ⟨t, ht⟩ := tyD_some (F := F) ht
          obtain ⟨Pt, Z, pt, _⟩ := kit_of I ry (tyX_of hK T R.cs.fr b db ht)
          obtain ⟨mA, J, _⟩ := ins_get I.hok ha
          obtain ⟨od, J, _⟩ := J.look
          obtain ⟨m, hF⟩ := I.fr
          show wpAny (model X.prog X.w) X.A (richCompare .Eq (.ref p) u) (EP X pins σ Q) X.xe s
          refine PySem.W.cmp_K (op := .Eq) (tb := t) hr.units0 hF I.ok.mod.kin J (Z.ty _ _ I.kIn pt) (notFirst_of tc e ht) mt.at_ mt.fn ?_
          have sp : spS F (cf g) eqSh ([.ref p, y] ++ []) H Q (fun _ _ _ => False) := ⟨w, S.m, [.ins c ns vs, b], [.ins c ns vs, b], R.cs, ⟨.ref p, [y], rfl, da, y, [], rfl, db, rfl⟩, rfl, poN_of R q⟩
          refine thn (run_N (us := [.ref p, u]) (ws := []) (vs := [.ref p, y]) (zs := []) (FT g 2 [] eqSh (hsh c g _ (.inl rfl) (by unfold Pg.meth; rw [qc]; exact e))) hr hg I.env0 I rfl rfl (.cons rfl (.cons ry .nil)) .nil sp) fun r s' hh => ?_
          obtain ⟨z, H', I', rz, qz⟩ := hh
          exact SlX.cmpback rz ⟨z, H', I', rz, qz⟩
      · exact q.elim
  · rename_i c ns vs hni
    cases e : P.meth c "__eq__" with
    | none => rw [e] at q; exact q.elim
    | some g =>
      rw [e] at q
      dsimp only at q
      split at q
      · rename_i ht
        unfold Pg.meth at e
        cases qc : P.cl[c]? with
        | none => rw [qc] at e; cases e
        | some cx =>
          rw [qc] at e
          have tc := T c cx qc
          have mt := tc.meth "__eq__" g e
          obtain ⟨p, dx, vs', ex, ga, hl, rs⟩ := id db
          subst ex
          obtain rfl : u = Value.ref p := ry
          have ha := R.cs.fr _ _ ga
          obtain ⟨mA, J, _⟩ := ins_get I.hok ha
          obtain ⟨od, J, _⟩ := J.look
          have sp : spS F (cf g) eqSh ([.ref p, x] ++ []) H Q (fun _ _ _ => False) := ⟨w, S.m, [.ins c ns vs, a], [.ins c ns vs, a], R.cs, ⟨.ref p, [x], rfl, db, x, [], rfl, da, rfl⟩, rfl, poN_of R q⟩
          have fin : wpAny (model X.prog X.w) X.A (call (.ref (F.fa g)) [.ref p, v]) (PySem.W.CmpBack (EP X pins σ Q)) X.xe s := by
            refine thn (run_N (us := [.ref p, v]) (ws := []) (vs := [.ref p, x]) (zs := []) (FT g 2 [] eqSh (hsh c g _ (.inl rfl) (by unfold Pg.meth; rw [qc]; exact e))) hr hg I.env0 I rfl rfl (.cons rfl (.cons rx .nil)) .nil sp) fun r s' hh => ?_
            obtain ⟨z, H', I', rz, qz⟩ := hh
            exact SlX.cmpback rz ⟨z, H', I', rz, qz⟩
          show wpAny (model X.prog X.w) X.A (richCompare .Eq v (.ref p)) (EP X pins σ Q) X.xe s
          exact eq_back_of hr.units0 I.kIn J (dcl_of hK I R da rx ht) (fun T hT => tc.sT T (by revert hT; revert T; decide)) mt.at_ mt.fn fin
      · exact q.elim
  · rename_i c ns vs
    cases e : P.meth c "__contains__" with
    | none => rw [e] at q; exact q.elim
    | some g =>
      rw [e] at q
      dsimp only at q
      unfold Pg.meth at e
      cases qc : P.cl[c]? with
      | none => rw [qc] at e; cases e
      | some cx =>
        rw [qc] at e
        have tc := T c cx qc
        have mt := tc.meth "__contains__" g e
        obtain ⟨p, dx, vs', ex, ga, hl, rs⟩ := id db
        subst ex
        obtain rfl : u = Value.ref p := ry
        have ha := R.cs.fr _ _ ga
        obtain ⟨mA, J, _⟩ := ins_get I.hok ha
        obtain ⟨od, J, _⟩ := J.look
        obtain ⟨m, hF⟩ := I.fr
        have sp : spS F (cf g) eqSh ([.ref p, x] ++ []) H (fun z H => ∃ k, z = .bl k ∧ Q (.bl (k)) H) (fun _ _ _ => False) := ⟨w, S.m, [.ins c ns vs, a], [.ins c ns vs, a], R.cs, ⟨.ref p, [x], rfl, db, x, [], rfl, da, rfl⟩, rfl, poN_of R (po_bl q)⟩
        refine PySem.W.in_K hF I.ok.mod.kin J mt.at_ mt.fn ?_
        refine thn (run_N (us := [.ref p, v]) (ws := []) (vs := [.ref p, x]) (zs := []) (FT g 2 [] eqSh (hsh c g _ (.inr rfl) (by unfold Pg.meth; rw [qc]; exact e))) hr hg I.env0 I rfl rfl (.cons rfl (.cons rx .nil)) .nil sp) fun r s' hh => ?_
        obtain ⟨z, H', I', rz, k0, ez, qz⟩ := hh
        subst ez
        cases (show r = Value.bool k0 from rz)
        exact wpAny_truthy_bool ⟨.bl k0, H', I', rfl, qz⟩
  · rename_i c ns vs
    cases e : P.meth c "__contains__" with
    | none => rw [e] at q; exact q.elim
    | some g =>
      rw [e] at q
      dsimp only at q
      unfold Pg.meth at e
      cases qc : P.cl[c]? with
      | none => rw [qc] at e; cases e
      | some cx =>
        rw [qc] at e
        have tc := T c cx qc
        have mt := tc.meth "__contains__" g e
        obtain ⟨p, dx, vs', ex, ga, hl, rs⟩ := id db
        subst ex
        obtain rfl : u = Value.ref p := ry
        have ha := R.cs.fr _ _ ga
        obtain ⟨mA, J, _⟩ := ins_get I.hok ha
        obtain ⟨od, J, _⟩ := J.look
        obtain ⟨m, hF⟩ := I.fr
        have sp : spS F (cf g) eqSh ([.ref p, x] ++ []) H (fun z H => ∃ k, z = .bl k ∧ Q (.bl (!k)) H) (fun _ _ _ => False) := ⟨w, S.m, [.ins c ns vs, a], [.ins c ns vs, a], R.cs, ⟨.ref p, [x], rfl, db, x, [], rfl, da, rfl⟩, rfl, poN_of R (po_neg q)⟩
        refine PySem.W.notIn_K hF I.ok.mod.kin J mt.at_ mt.fn ?_
        refine thn (run_N (us := [.ref p, v]) (ws := []) (vs := [.ref p, x]) (zs := []) (FT g 2 [] eqSh (hsh c g _ (.inr rfl) (by unfold Pg.meth; rw [qc]; exact e))) hr hg I.env0 I rfl rfl (.cons rfl (.cons rx .nil)) .nil sp) fun r s' hh => ?_
        obtain ⟨z, H', I', rz, k0, ez, qz⟩ := hh
        subst ez
        cases (show r = Value.bool k0 from rz)
        exact wpAny_truthy_bool ⟨.bl (!k0), H', I', rfl, qz⟩
  · exact plain q
theorem se_cmp1 {op : CmpOp} (ho : OpR X (compareOp op) (rCmp F f W (cmp1 P cf op))) (hm : behindInMarks op b = false) (ha : PE X a (RE F f W ma)) (hb : PE X b (RE F f W mb)) :
    PE X (.Compare a [op] [b] pos) (RE F f W fun S => (ma S).bind fun x S1 => (mb S1).bind fun y S2 => cmp1 P cf op x y S2) ∧
    PT X (.Compare a [op] [b] pos) (RB F f W fun S => (ma S).bind fun x S1 => (mb S1).bind fun y S2 => cmp1 P cf op x y S2) := by
  constructor
  · refine peImp (pe_cmpR ho ha hb hm) fun σ H Q ⟨w, S, R, h⟩ => ?_
    refine Rd1.go R h fun d1 x w1 H1 S1 _ R1 l1 r1 h1 => ?_
    refine Rd1.go R1 h1 fun d2 y w2 H2 S2 _ R2 l2 r2 h2 => ?_
    exact ⟨σ, w2, S2, d1, d2, R2, Dn.mono l2 d1 r1, r2, h2⟩
  · refine ptImp (pt_cmpR ho ha hb hm) fun σ H Q ⟨w, S, R, h⟩ => ?_
    have h := h.tst
    refine Rd1.go R h fun d1 x w1 H1 S1 _ R1 l1 r1 h1 => ?_
    refine Rd1.go R1 h1 fun d2 y w2 H2 S2 _ R2 l2 r2 h2 => ?_
    exact ⟨σ, w2, S2, d1, d2, R2, Dn.mono l2 d1 r1, r2, h2⟩
/-! ### operators, own ones among them -/
def OpSh (P : Pg) : Prop := ∀ op c g, (opMeth op).bind (P.meth c) = some g → P.shf g 2 [] = some eqSh
theorem opMeth_is {op : Operator} {nm : Str} (h : opMeth op = some nm) : nm = PySem.dunder op.info.2 := by
  cases op <;> cases h <;> decide +kernel
theorem op1_own {pins : List (Addr × Obj)} {σ τ : L2.St} {H : Hp} {s : Shared} {w : Wd} {S : Sto} {c g : Nat} {cx : ClD} {ns : List Str} {vs : List Dt} {b : Dt} {x y : V} {v u : Value} {op : Operator} {Q : VK} {f0 : Fm} (hK : X.K = F.K) (T : ClsT X.K F P) (FT : FnsT X F P k cf) (hr : Room k X.A) (hg : X.A.guards = some []) (tk : Takes X W)
    (hsh : OpSh P) (I : Inv X pins σ H s) (R : Rr F f w σ H S) (da : Dn F w (.ins c ns vs) x) (db : Dn F w b y) (rx : RelV x v) (ry : RelV y u) (qc : P.cl[c]? = some cx) (e : (opMeth op).bind (cx.meth.lookup ·) = some g) (ht : typed P b = true)
    (q : Po F f W σ w (upR (cf g [.ins c ns vs, b] S.m) S) (Dn F) Q) : ∃ p dx od, v = Value.ref p ∧ PySem.W.InstAt s.heap p (PySem.W.instObj (F.ca c) dx) (F.ca c) (some od) ∧ noInB X.K (F.ca c) op.info.2 = true ∧ Op1 X.prog X.w X.A X.xe s op.info.2 v u (EP X pins σ Q) := by
  have tc := T c cx qc
  have of := tc.ops op g e
  have e0 := e
  obtain ⟨nm, e1, e2⟩ := Option.bind_eq_some_iff.mp e
  have hn := opMeth_is e1
  subst hn
  have mt := tc.meth _ g e2
  obtain ⟨p, dx, vs', ex, ga, hl, rs⟩ := id da
  subst ex
  obtain rfl : v = Value.ref p := rx
  have ha := R.cs.fr _ _ ga
  obtain ⟨t, ht⟩ := tyD_some (F := F) ht
  obtain ⟨Pt, Z, pt, _⟩ := kit_of I ry (tyX_of hK T R.cs.fr b db ht)
  obtain ⟨mA, J, _⟩ := ins_get I.hok ha
  obtain ⟨od, J, _⟩ := J.look
  refine ⟨p, dx, od, rfl, J, of.inp, ?_⟩
  have sp : spS F (cf g) eqSh ([.ref p, y] ++ []) H Q (WE W σ) := ⟨w, S.m, [.ins c ns vs, b], [.ins c ns vs, b], R.cs, ⟨.ref p, [y], rfl, da, y, [], rfl, db, rfl⟩, rfl, poC_of R q⟩
  have fin : wpAny (model X.prog X.w) X.A (call (.ref (F.fa g)) [.ref p, u]) (PySem.W.CmpBack (EP X pins σ Q)) X.xe s := by
    refine thn (run_G (us := [.ref p, u]) (ws := []) (vs := [.ref p, y]) (zs := []) (FT g 2 [] eqSh (hsh op c g (by unfold Pg.meth; rw [qc]; exact e0))) hr hg tk I rfl rfl (.cons rfl (.cons ry .nil)) .nil sp) fun r s' hh => ?_
    obtain ⟨z, H', I', rz, qz⟩ := hh
    exact SlX.cmpback rz ⟨z, H', I', rz, qz⟩
  have zt : PySem.W.Looks (model X.prog X.w) s.heap (typeOf u) t := Z.ty _ _ I.kIn pt
  obtain ⟨rc, hrc, hp⟩ := of.refl
  have ty : ∀ T0 : String, T0 ∈ bTys → t = .type T0 → Op1 X.prog X.w X.A X.xe s op.info.2 (.ref p) u (EP X pins σ Q) := fun T0 h1 h2 => by
    subst h2
    obtain ⟨⟨fo, t1⟩, ⟨ro, t2⟩, t3⟩ := of.ty T0 h1
    exact op1_ty I.kIn J zt of.first mt.at_ mt.fn hrc hp t1 t2 t3 fin
  cases b with
  | non => cases ht; exact ty "NoneType" (by decide) rfl
  | bl _ => cases ht; exact ty "bool" (by decide) rfl
  | int _ => cases ht; exact ty "int" (by decide) rfl
  | str _ => cases ht; exact ty "str" (by decide) rfl
  | lst _ => cases ht; exact ty "list" (by decide) rfl
  | tup _ => cases ht; exact ty "tuple" (by decide) rfl
  | ins c' _ _ =>
    cases q2 : P.cl[c']? with
    | none => simp only [tyD, q2] at ht; cases ht
    | some x' =>
      simp only [tyD, q2] at ht
      cases ht
      rcases of.cl c' x' q2 with z | ⟨z1, z2⟩
      · rw [z] at zt
        exact op1_same I.kIn J zt of.first mt.at_ mt.fn fin
      · exact op1_other I.kIn J zt z1 of.first mt.at_ mt.fn z2 fin
  | dct _ _ => cases ht
  | cel _ => cases ht
  | cls _ => cases ht
  | ty _ => cases ht
  | scr _ => cases ht
theorem bin1_own {op : Operator} {a b : Dt} {S : Sto} {σ : L2.St} {w : Wd} {Q : VK} (q : Po F f W σ w (bin1 P cf op a b S) (Dn F) Q) : (∃ c ns vs cx g, a = .ins c ns vs ∧ P.cl[c]? = some cx ∧ (opMeth op).bind (cx.meth.lookup ·) = some g ∧ typed P b = true ∧ Po F f W σ w (upR (cf g [.ins c ns vs, b] S.m) S) (Dn F) Q) ∨ ((∀ c ns vs, a ≠ .ins c ns vs) ∧ ∃ d, opD op a b = some d ∧ Po F f W σ w (.ok d S) (Dn F) Q) := by
  unfold bin1 at q
  split at q
  · rename_i c ns vs
    left
    cases e : (opMeth op).bind (P.meth c) with
    | none => rw [e] at q; exact q.elim
    | some g =>
      rw [e] at q
      dsimp only at q
      split at q
      · rename_i ht
        obtain ⟨nm, e1, e2⟩ := Option.bind_eq_some_iff.mp e
        unfold Pg.meth at e2
        cases qc : P.cl[c]? with
        | none => rw [qc] at e2; cases e2
        | some cx =>
          rw [qc] at e2
          exact ⟨c, ns, vs, cx, g, rfl, qc, by rw [e1]; exact e2, ht, q⟩
      · exact q.elim
  · rename_i hne
    right
    refine ⟨fun c ns vs e => hne c ns vs e, ?_⟩
    cases e : opD op a b with
    | none => rw [e] at q; exact q.elim
    | some d => rw [e] at q; exact ⟨d, rfl, q⟩
theorem se_bin1 {op : Operator} (hK : X.K = F.K) (T : ClsT X.K F P) (FT : FnsT X F P k cf) (hr : Room k X.A) (hg : X.A.guards = some []) (tk : Takes X W) (hsh : OpSh P) (ha : PE X a (RE F f W ma)) (hb : PE X b (RE F f W mb)) :
    PE X (.BinOp a op b pos) (RE F f W fun S => (ma S).bind fun x S1 => (mb S1).bind fun y S2 => bin1 P cf op x y S2) := by
  refine ⟨fun pins s σ H Q I h => ?_⟩
  obtain ⟨w, S, R, h⟩ := h
  refine wpAny_BinOp (binT (R := fun x y H2 => ∃ w S a b, Rr F f w σ H2 S ∧ Dn F w a x ∧ Dn F w b y ∧ Po F f W σ w (bin1 P cf op a b S) (Dn F) Q) ha hb I ?_ fun v u s2 x y H2 I2 rx ry q => ?_)
  · refine Rd1.go R h fun d1 x w1 H1 S1 _ R1 l1 r1 h1 => ?_
    refine Rd1.go R1 h1 fun d2 y w2 H2 S2 _ R2 l2 r2 h2 => ?_
    exact ⟨w2, S2, d1, d2, R2, Dn.mono l2 d1 r1, r2, h2⟩
  · obtain ⟨w2, S2, a2, b2, R2, da, db, q⟩ := q
    rcases bin1_own q with ⟨c, ns, vs, cx, g, rfl, qc, e, ht, q⟩ | ⟨_, d, e, q⟩
    · obtain ⟨p, dx, od, _, _, _, z⟩ := op1_own (f0 := f) (τ := σ) hK T FT hr hg tk hsh I2 R2 da db rx ry qc e ht q
      exact bin_of z
    · exact opD_ok (f := f) (W := W) hK op pins s2 σ H2 x y v u Q I2 rx ry ⟨σ, w2, S2, a2, b2, d, R2, da, db, e, q⟩
end
end PyI
namespace PyI
open PySem PySem.Spec PyProof.Rows L2
/-! ### built-ins -/
def biN : Bi → Str
  | .len => "len" | .abs => "abs" | .max => "max" | .min => "min" | .int => "int" | .str => "str" | .repr => "repr" | .all => "all" | .divmod => "divmod" | .list => "list" | .tuple => "tuple"
def biV : Bi → Value
  | .len => .builtin "len" | .abs => .builtin "abs" | .max => .builtin "max" | .min => .builtin "min" | .int => .type "int" | .str => .type "str" | .repr => .builtin "repr" | .all => .builtin "all" | .divmod => .builtin "divmod" | .list => .type "list" | .tuple => .type "tuple"
theorem bools_dn {F : Fx} {w : Wd} : ∀ {ds : List Dt} {vs : List V} {bs : List Bool}, Dns F w ds vs → boolsD ds = some bs → vs = bs.map V.bl
  | [], _, _, h, e => by cases h; cases e; rfl
  | d :: ds, _, bs, ⟨v, r, e1, h, t⟩, e => by
    subst e1
    cases d with
    | bl b =>
      cases h
      simp only [boolsD] at e
      cases q : boolsD ds with
      | none => rw [q] at e; cases e
      | some cs =>
        rw [q] at e
        cases e
        rw [bools_dn t q]
        rfl
    | _ => cases e
mutual
theorem noDict_py : ∀ (d : Dt) {x : PyData}, toPy d = some x → x.hasDict = false
  | .non, _, e | .bl _, _, e | .int _, _, e | .str _, _, e => by cases e; rfl
  | .lst ds, x, e => by
    simp only [toPy] at e
    cases q : toPys ds with
    | none => rw [q] at e; cases e
    | some ps => rw [q] at e; cases e; simpa [PyData.hasDict] using noDict_pys ds q
  | .tup ds, x, e => by
    simp only [toPy] at e
    cases q : toPys ds with
    | none => rw [q] at e; cases e
    | some ps => rw [q] at e; cases e; simpa [PyData.hasDict] using noDict_pys ds q
  | .dct _ _, _, e | .ins _ _ _, _, e | .cel _, _, e | .cls _, _, e | .ty _, _, e | .scr _, _, e => by cases e
theorem noDict_pys : ∀ (ds : List Dt) {xs : List PyData}, toPys ds = some xs → PyData.hasDictAll xs = false
  | [], _, e => by cases e; rfl
  | d :: ds, xs, e => by
    simp only [toPys] at e
    cases q : toPy d with
    | none => rw [q] at e; cases e
    | some x =>
      cases q2 : toPys ds with
      | none => rw [q, q2] at e; cases e
      | some ys =>
        rw [q, q2] at e
        cases e
        simp [PyData.hasDictAll, noDict_py d q, noDict_pys ds q2]
end
section
variable {X : Cx} {F : Fx} {f : Fm} {W : WX} {P : Pg} {k : Nat} {cf : Nat → List Dt → List Dt → Rc}
def rBi (F : Fx) (f : Fm) (W : WX) (g : List Dt → Sto → Rs Dt) : List V → Hp → VK → Prop := fun vs H Q => ∃ σ w S ds, Rr F f w σ H S ∧ Dns F w ds vs ∧ Po F f W σ w (g ds S) (Dn F) Q
theorem one_dn {w : Wd} {d : Dt} {vs : List V} (h : Dns F w [d] vs) : ∃ v, vs = [v] ∧ Dn F w d v := by
  obtain ⟨v, r, e, h1, h2⟩ := h
  cases h2
  exact ⟨v, e, h1⟩
theorem two_dn {w : Wd} {d e : Dt} {vs : List V} (h : Dns F w [d, e] vs) : ∃ v u, vs = [v, u] ∧ Dn F w d v ∧ Dn F w e u := by
  obtain ⟨v, r, e1, h1, u, r2, e2, h2, h3⟩ := h
  cases h3
  subst e2
  exact ⟨v, u, e1, h1, h2⟩
theorem biD_ok (hK : X.K = F.K) (hc : X.calm = true) (hr : Room k X.A) (hg : X.A.guards = some []) (b : Bi) : CallR X (biV b) (rBi F f W fun ds S => okD (biD b ds) S) := by
  intro pins s σ H xs us Q I r h
  obtain ⟨τ, w, S, ds, R, rd, q⟩ := h
  dsimp only at q
  cases e : biD b ds with
  | none => rw [e] at q; exact q.elim
  | some d =>
    rw [e] at q
    have q : Po F f W τ w (.ok d S) (Dn F) Q := q
    unfold biD at e
    split at e
    · rename_i x
      split at e
      · rename_i hl
        cases e
        obtain ⟨v, rfl, h1⟩ := one_dn rd
        exact call_len pins s σ H _ us Q I r ⟨v, x.length, rfl, by cases h1; exact ⟨hl, rfl⟩, q.ok R rfl⟩
      · cases e
    · cases e
      obtain ⟨v, rfl, h1⟩ := one_dn rd
      obtain ⟨a, vs, rfl, g1, r1⟩ := h1
      exact call_len_seq pins s σ H _ us Q I r ⟨a, vs, rfl, .inl (SqL.of (R.cs.fr _ _ g1)), q.ok R (by rw [← r1.length]; rfl)⟩
    · cases e
      obtain ⟨v, rfl, h1⟩ := one_dn rd
      obtain ⟨a, vs, rfl, g1, r1⟩ := h1
      exact call_len_seq pins s σ H _ us Q I r ⟨a, vs, rfl, .inr (by rw [hK]; exact sqT_mono R.cs.fr g1), q.ok R (by rw [← r1.length]; rfl)⟩
    · cases e
      obtain ⟨v, rfl, h1⟩ := one_dn rd
      obtain ⟨a, rfl, g1⟩ := h1
      exact call_len_seq pins s σ H _ us Q I r ⟨a, _, rfl, .inl (by rw [hK]; exact sqL_mono R.cs.fr g1), q.ok R (by rw [List.length_map]; rfl)⟩
    · cases e
      obtain ⟨v, rfl, h1⟩ := one_dn rd
      cases h1
      exact call_abs pins s σ H _ us Q I r ⟨_, rfl, q.ok R rfl⟩
    · cases e
      obtain ⟨v, u, rfl, h1, h2⟩ := two_dn rd
      cases h1
      cases h2
      exact call_max2 hc pins s σ H _ us Q I r ⟨_, _, rfl, q.ok R rfl⟩
    · cases e
      obtain ⟨v, u, rfl, h1, h2⟩ := two_dn rd
      cases h1
      cases h2
      exact call_min2 hc pins s σ H _ us Q I r ⟨_, _, rfl, q.ok R rfl⟩
    · cases e
      obtain ⟨v, rfl, h1⟩ := one_dn rd
      cases h1
      exact call_int1 pins s σ H _ us Q I r (.inl ⟨_, rfl, q.ok R rfl⟩)
    · rename_i x
      split at e
      · rename_i hl
        obtain ⟨v, rfl, h1⟩ := one_dn rd
        cases h1
        cases e2 : PySem.intText? x with
        | none => rw [e2] at e; cases e
        | some n =>
          rw [e2] at e
          cases e
          exact call_int_str pins s σ H _ us Q I r ⟨x, n, rfl, e2, hl, q.ok R rfl⟩
      · cases e
    · split at e
      · rename_i hl
        cases e
        obtain ⟨v, rfl, h1⟩ := one_dn rd
        cases h1
        exact call_str_int pins s σ H _ us Q I r ⟨_, rfl, hl, q.ok R rfl⟩
      · cases e
    · rename_i a
      split at e
      · rename_i x ea
        split at e
        · rename_i hs
          cases e
          rw [Bool.and_eq_true, Bool.and_eq_true] at hs
          obtain ⟨⟨s1, s2⟩, s3⟩ := hs
          obtain ⟨v, rfl, h1⟩ := one_dn rd
          obtain ⟨u, rfl, ru⟩ := vals1 r
          have dp : Dp X.K H v x := by rw [hK]; exact dp_of R.cs.fr a h1 ea
          have s2 := of_decide_eq_true s2
          have s3 := of_decide_eq_true s3
          have hun := hr.un
          have fin : ∀ tk, ∃ v' H', Inv X pins σ H' { s with toks := tk } ∧ Q v' H' ∧ v' = .str x.shown := fun tk => ⟨.str x.shown, H, I.tok tk, q.ok R rfl, rfl⟩
          have rf : ∀ (p : Addr) (as : List Addr), Reads s.heap (.ref p) x as → x.hasDict = false → wpAny (model X.prog X.w) X.A (PySem.call (.builtin "repr") [.ref p]) (EP X pins σ Q) X.xe s := fun p as rd hd =>
            repr_of_reads' rd s1 (PyData.noDict_hsm hd) hg (by omega) (fun _ _ z => z) (fun h' u tk hk => ⟨.str x.shown, H, I.kept (t' := tk) hk, ⟨_, rfl⟩, q.ok R rfl⟩) s2
          obtain ⟨as, rds⟩ := Dp.reads I x v u dp ru
          cases dp with
          | non =>
            cases ru
            exact PySem.P.repr_of_none ⟨.str _, H, I.tok _, ⟨_, rfl⟩, q.ok R rfl⟩
          | bl b =>
            cases ru
            exact PySem.P.repr_of_bool ⟨.str _, H, I.tok _, ⟨_, rfl⟩, q.ok R (by cases b <;> rfl)⟩
          | int i =>
            obtain ⟨t, rfl⟩ := ru
            exact PySem.P.repr_of_int (by simpa [PyData.showable] using s1) ⟨.str _, H, I.tok _, ⟨_, rfl⟩, q.ok R rfl⟩
          | str x =>
            obtain ⟨t, rfl⟩ := ru
            exact PySem.P.repr_of_str ⟨.str _, H, I.tok _, ⟨_, rfl⟩, q.ok R rfl⟩ s2
          | lst _ _ =>
            cases ru
            exact rf _ _ rds (noDict_py a ea)
          | tup _ _ =>
            cases ru
            exact rf _ _ rds (noDict_py a ea)
        · cases e
      · cases e
    · rename_i ds'
      obtain ⟨v, rfl, h1⟩ := one_dn rd
      obtain ⟨a, vs, rfl, g1, r1⟩ := h1
      cases e2 : boolsD ds' with
      | none => rw [e2] at e; cases e
      | some bs =>
        rw [e2] at e
        cases e
        have ev := bools_dn r1 e2
        subst ev
        exact cr_all hc pins s σ H _ us Q I r ⟨a, bs, rfl, SqL.of (R.cs.fr _ _ g1), q.ok R rfl⟩
    · split at e
      · rename_i hl
        cases e
        obtain ⟨v, u, rfl, h1, h2⟩ := two_dn rd
        cases h1
        cases h2
        exact call_divmod pins s σ H _ us Q I r ⟨_, _, rfl, hl, fun p hp => q.new R hp ⟨p, _, rfl, SqT.of upd_same, _, _, rfl, rfl, _, _, rfl, rfl, rfl⟩⟩
      · cases e
    · cases e
      obtain ⟨v, rfl, h1⟩ := one_dn rd
      obtain ⟨a, vs, rfl, g1, r1⟩ := h1
      exact call_list_of pins s σ H _ us Q I r ⟨a, vs, rfl, .inl (SqL.of (R.cs.fr _ _ g1)), fun p hp => q.new R hp ⟨p, vs, rfl, upd_same, Dns.mono (R.alloc (o := .lst vs) hp).2 _ r1⟩⟩
    · cases e
      obtain ⟨v, rfl, h1⟩ := one_dn rd
      obtain ⟨a, vs, rfl, g1, r1⟩ := h1
      exact call_list_of pins s σ H _ us Q I r ⟨a, vs, rfl, .inr (by rw [hK]; exact sqT_mono R.cs.fr g1), fun p hp => q.new R hp ⟨p, vs, rfl, upd_same, Dns.mono (R.alloc (o := .lst vs) hp).2 _ r1⟩⟩
    · cases e
theorem meth_at {c g : Nat} {m : Str} (T : ClsT X.K F P) (e : P.meth c m = some g) : ∃ cx, ClT X.K F P c cx ∧ Meth X.K (F.ca c) m (F.fa g) := by
  unfold Pg.meth at e
  cases q : P.cl[c]? with
  | none => rw [q] at e; cases e
  | some cx =>
    rw [q] at e
    exact ⟨cx, T c cx q, (T c cx q).meth m g e⟩
theorem po_str {r : Rc} {S : Sto} {σ : L2.St} {w : Wd} {Q : VK} (h : Po F f W σ w ((upN r S).bind strB) (Dn F) Q) : ∃ y, Po F f W σ w (upN r S) (Dn F) (fun v H' => v = .str y ∧ Q v H') := by
  cases e : upN r S with
  | ok d S' =>
    rw [e] at h
    cases d with
    | str y => exact ⟨y, fun v w' H' R l dn => ⟨dn, h v w' H' R l dn⟩⟩
    | _ => exact (h : False).elim
  | ex _ _ _ _ =>
    cases r with
    | ok b m => cases b <;> cases e
    | ex _ _ _ _ => cases e
    | bad => cases e
  | bad => rw [e] at h; exact (h : False).elim
theorem po_len {r : Rc} {S : Sto} {σ : L2.St} {w : Wd} {Q : VK} (h : Po F f W σ w ((upN r S).bind lenB') (Dn F) Q) : ∃ n : Int, (0 ≤ n ∧ n < 2 ^ 63) ∧ Po F f W σ w (upN r S) (Dn F) (fun v H' => v = .int n ∧ Q v H') := by
  cases e : upN r S with
  | ok d S' =>
    rw [e] at h
    cases d with
    | int n =>
      have h : Po F f W σ w (if 0 ≤ n ∧ n < 2 ^ 63 then .ok (.int n) S' else .bad) (Dn F) Q := h
      split at h
      · rename_i hn
        exact ⟨n, hn, fun v w' H' R l dn => ⟨dn, h v w' H' R l dn⟩⟩
      · exact h.elim
    | _ => exact (h : False).elim
  | ex _ _ _ _ =>
    cases r with
    | ok b m => cases b <;> cases e
    | ex _ _ _ _ => cases e
    | bad => cases e
  | bad => rw [e] at h; exact (h : False).elim
theorem bi1_ok (hK : X.K = F.K) (T : ClsT X.K F P) (FT : FnsT X F P k cf) (hsh : ∀ c g m, (m = ("__len__" : Str) ∨ m = ("__str__" : Str) ∨ m = ("__repr__" : Str)) → P.meth c m = some g → P.shf g 1 [] = some selfSh) (hc : X.calm = true) (hr : Room (k + 2) X.A) (hg : X.A.guards = some []) (b : Bi) :
    CallR X (biV b) (rBi F f W (bi1 P cf b)) := by
  intro pins s σ H xs us Q I r h
  obtain ⟨τ, w, S, ds, R, rd, q⟩ := h
  unfold bi1 at q
  have hr1 : Room (k + 1) X.A.in1 := hr.in1
  have hr2 : Room k X.A.in1.in1 := hr1.in1
  have go : ∀ {c g : Nat} {ns : List Str} {vs : List Dt} {m : Str} {Q' : VK} {p : Addr} {A : Around}, Room k A → A.guards = some [] → Env0 X.prog X.w X.K X.mg X.base A X.stack s H → (m = ("__len__" : Str) ∨ m = ("__str__" : Str) ∨ m = ("__repr__" : Str)) → P.meth c m = some g → Dn F w (.ins c ns vs) (.ref p) →
      Po F f W τ w (upN (cf g [.ins c ns vs] S.m) S) (Dn F) Q' → wpAny (model X.prog X.w) A (PySem.call (.ref (F.fa g)) [.ref p]) (EP X pins σ Q') X.xe s := by
    intro c g ns vs m Q' p A h1 h2 h3 hm e dn h
    exact run_N (us := [.ref p]) (ws := []) (vs := [.ref p]) (zs := []) (FT g 1 [] selfSh (hsh c g m hm e)) h1 h2 h3 I rfl rfl (.cons rfl .nil) .nil ⟨w, S.m, [.ins c ns vs], [.ins c ns vs], R.cs, ⟨.ref p, [], rfl, dn, rfl⟩, rfl, poN_of R h⟩
  split at q
  · rename_i c ns vs
    obtain ⟨v, rfl, dn⟩ := one_dn rd
    obtain ⟨u, rfl, ru⟩ := vals1 r
    obtain ⟨p, dx, vs', ex, ga, hl, rs⟩ := id dn
    subst ex
    obtain rfl : u = Value.ref p := ru
    cases e : P.meth c "__len__" with
    | none => rw [e] at q; exact q.elim
    | some g =>
      rw [e] at q
      obtain ⟨n, hn, q⟩ := po_len q
      obtain ⟨cx, tc, mt⟩ := meth_at T e
      obtain ⟨mA, J, _⟩ := ins_get I.hok (R.cs.fr _ _ ga)
      obtain ⟨od, J, _⟩ := J.look
      obtain ⟨m, hF⟩ := I.fr
      refine PySem.W.len_K hF I.ok.mod.kin J mt.at_ mt.fn (thn (go (hr1.mono (Nat.le_succ k)) hg I.env0.in1 (.inl rfl) e dn q) fun z s' hh => ?_)
      obtain ⟨v, H', I', rv, rfl, qv⟩ := hh
      obtain ⟨t, rfl⟩ := rv
      exact ⟨hn, .int n, H', I'.tok _, ⟨_, rfl⟩, qv⟩
  · rename_i c ns vs
    obtain ⟨v, rfl, dn⟩ := one_dn rd
    obtain ⟨u, rfl, ru⟩ := vals1 r
    obtain ⟨p, dx, vs', ex, ga, hl, rs⟩ := id dn
    subst ex
    obtain rfl : u = Value.ref p := ru
    cases e : P.meth c "__str__" with
    | none => rw [e] at q; exact q.elim
    | some g =>
      rw [e] at q
      obtain ⟨y, q⟩ := po_str q
      obtain ⟨cx, tc, mt⟩ := meth_at T e
      obtain ⟨mA, J, _⟩ := ins_get I.hok (R.cs.fr _ _ ga)
      obtain ⟨od, J, _⟩ := J.look
      refine PySem.W.kso_call hr2.units0 I.kIn J mt.at_ mt.fn (thn (go hr2 hg I.env0.in1.in1 (.inr (.inl rfl)) e dn q) fun z s' hh => ?_)
      obtain ⟨v, H', I', rv, rfl, qv⟩ := hh
      obtain ⟨t, rfl⟩ := rv
      exact ⟨.str y, H', I', ⟨t, rfl⟩, qv⟩
  · rename_i c ns vs
    obtain ⟨v, rfl, dn⟩ := one_dn rd
    obtain ⟨u, rfl, ru⟩ := vals1 r
    obtain ⟨p, dx, vs', ex, ga, hl, rs⟩ := id dn
    subst ex
    obtain rfl : u = Value.ref p := ru
    cases e : P.meth c "__repr__" with
    | none => rw [e] at q; exact q.elim
    | some g =>
      rw [e] at q
      obtain ⟨y, q⟩ := po_str q
      obtain ⟨cx, tc, mt⟩ := meth_at T e
      obtain ⟨mA, J, _⟩ := ins_get I.hok (R.cs.fr _ _ ga)
      obtain ⟨od, J, _⟩ := J.look
      obtain ⟨m, hF⟩ := I.fr
      refine PySem.W.repr_K hr1.units0 hF I.ok.mod.kin J mt.at_ mt.fn (thn (go (hr1.mono (Nat.le_succ k)) hg I.env0.in1 (.inr (.inr rfl)) e dn q) fun z s' hh => ?_)
      obtain ⟨v, H', I', rv, rfl, qv⟩ := hh
      obtain ⟨t, rfl⟩ := rv
      exact ⟨.str y, H', I', ⟨t, rfl⟩, qv⟩
  · exact biD_ok (f := f) (W := W) hK hc hr hg b pins s σ H xs us Q I r ⟨τ, w, S, ds, R, rd, q⟩
/-- b(e, ..), a built-in -/
theorem se_bi {b : Bi} {e : Expr} {es : List Expr} {ms : Sto → Rs (List Dt)} {p pos : Pos} (ho : CallR X (biV b) (rBi F f W (bi1 P cf b))) (hgl : Gl X (biN b)) (hm : X.mg (biN b) = none) (hp : plainEs (e :: es) = true) (ha : PA X (e :: es) (REs F f W ms)) :
    PE X (.Call (.Name (biN b) p) (e :: es) [] pos) (RE F f W fun S => (ms S).bind fun ds S1 => bi1 P cf b ds S1) := by
  have h : PE X (.Call (.Name (biN b) p) (e :: es) [] pos) (tCB (rBi F f W (bi1 P cf b)) (REs F f W ms)) := by
    have s1 := star_cons (env := X.env) hp
    have s2 := star_any (env := X.env) (pos := pos) (plain_tail hp)
    cases b with
    | len => exact pe_callB ho hgl hm PySem.boot_len ha (by decide) (by decide) s1 s2
    | abs => exact pe_callB ho hgl hm boot_abs ha (by decide) (by decide) s1 s2
    | max => exact pe_callB ho hgl hm boot_max ha (by decide) (by decide) s1 s2
    | min => exact pe_callB ho hgl hm boot_min ha (by decide) (by decide) s1 s2
    | int => exact pe_callTy ho hgl hm boot_int ha (by decide) (by decide) s1 s2
    | str => exact pe_callTy ho hgl hm boot_str ha (by decide) (by decide) s1 s2
    | repr => exact pe_callB ho hgl hm boot_repr ha (by decide) (by decide) s1 s2
    | all => exact pe_callB ho hgl hm boot_all ha (by decide) (by decide) s1 s2
    | divmod => exact pe_callB ho hgl hm boot_divmod ha (by decide) (by decide) s1 s2
    | list => exact pe_callTy ho hgl hm boot_list ha (by decide) (by decide) s1 s2
    | tuple => exact pe_callTy ho hgl hm boot_tuple ha (by decide) (by decide) s1 s2
  refine peImp h fun σ H Q ⟨w, S, R, h⟩ => ?_
  exact Rd1.go R h fun ds xs w1 H1 S1 _ R1 l1 r1 h1 => ⟨σ, w1, S1, ds, R1, r1, h1⟩
/-! ### texts -/
theorem strs_dn (w : Wd) : ∀ ys : List Str, Dns F w (ys.map .str) (ys.map V.str)
  | [] => rfl
  | y :: ys => ⟨.str y, ys.map V.str, rfl, rfl, strs_dn w ys⟩
variable {a b : Expr} {pos p apos : Pos} {ma mb : Sto → Rs Dt}
theorem se_fms (ha : PE X a (RE F f W ma)) : PE X (.FormattedValue a (-1) none pos) (RE F f W fun S => (ma S).bind fun x S1 => match x with
    | .str y => if y.length ≤ sizeLine then .ok (.str y) S1 else .bad
    | .int i => if i.natAbs.log2 < 1920 then .ok (.str (toString i)) S1 else .bad
    | _ => .bad) := by
  refine peImp (pe_fmt ha) fun σ H Q ⟨w, S, R, h⟩ => ?_
  refine Rd1.go R h fun d x w1 H1 S1 _ R1 l1 r1 h1 => ?_
  cases d with
  | str y =>
    dsimp only at h1
    split at h1
    · exact .inl ⟨y, r1, by assumption, h1.ok R1 rfl⟩
    · exact h1.elim
  | int i =>
    dsimp only at h1
    split at h1
    · exact .inr ⟨i, r1, by assumption, h1.ok R1 rfl⟩
    · exact h1.elim
  | _ => exact h1.elim
theorem se_fmr (ha : PE X a (RE F f W ma)) : PE X (.FormattedValue a 114 none pos) (RE F f W fun S => (ma S).bind fun x S1 => match x with
    | .str y => if (reprText y).length ≤ sizeLine then .ok (.str (reprText y)) S1 else .bad
    | .int i => if i.natAbs.log2 < 1920 then .ok (.str (toString i)) S1 else .bad
    | _ => .bad) := by
  refine peImp (pe_fmtR ha) fun σ H Q ⟨w, S, R, h⟩ => ?_
  refine Rd1.go R h fun d x w1 H1 S1 _ R1 l1 r1 h1 => ?_
  cases d with
  | str y =>
    dsimp only at h1
    split at h1
    · exact .inl ⟨y, r1, by assumption, h1.ok R1 rfl⟩
    · exact h1.elim
  | int i =>
    dsimp only at h1
    split at h1
    · exact .inr ⟨i, r1, by assumption, h1.ok R1 rfl⟩
    · exact h1.elim
  | _ => exact h1.elim
theorem se_split (hbase : attributeBase a "split" X.env (eval a X.env) = eval a X.env) (hline : (apos.endLine == pos.line) = true) (hp : plainEs [b] = true) (ha : PE X a (RE F f W ma)) (hb : PE X b (RE F f W mb)) :
    PE X (.Call (.Attribute a "split" apos) [b] [] pos) (RE F f W fun S => (ma S).bind fun x S1 => match x with
    | .str s => (mb S1).bind fun y S2 => match y with
      | .str t => if (t.length == 0) = false ∧ s.length + 2 ≤ sizeLine then .ok (.lst ((Txt.split s t).map .str)) S2 else .bad
      | _ => .bad
    | _ => .bad) := by
  refine peImp (pe_split ha hb (star_cons hp) hbase hline) fun σ H Q ⟨w, S, R, h⟩ => ?_
  refine Rd1.go R h fun d x w1 H1 S1 _ R1 l1 r1 h1 => ?_
  cases d with
  | str s =>
    cases r1
    refine ⟨⟨s, rfl⟩, ?_⟩
    refine Rd1.go R1 h1 fun d2 y w2 H2 S2 _ R2 l2 r2 h2 => ?_
    cases d2 with
    | str t =>
      cases r2
      dsimp only at h2
      split at h2
      · rename_i hh
        exact ⟨s, t, rfl, rfl, hh.1, hh.2, fun q hq => h2.new R2 hq ⟨q, _, rfl, upd_same, strs_dn _ _⟩⟩
      · exact h2.elim
    | _ => exact h2.elim
  | _ => exact h1.elim
theorem strsD_dn {w : Wd} : ∀ {ds : List Dt} {vs : List V} {ts : List Str}, strsD ds = some ts → Dns F w ds vs → vs = ts.map V.str
  | [], _, _, e, h => by cases e; cases h; rfl
  | d :: ds, _, ts, e, ⟨v, r, e1, h, t⟩ => by
    subst e1
    cases d with
    | str x =>
      simp only [strsD] at e
      cases q : strsD ds with
      | none => rw [q] at e; cases e
      | some us =>
        rw [q] at e
        cases e
        cases h
        rw [strsD_dn q t]
        rfl
    | _ => simp [strsD] at e
theorem se_join (hbase : attributeBase a "join" X.env (eval a X.env) = eval a X.env) (hline : (apos.endLine == pos.line) = true) (hp : plainEs [b] = true) (ha : PE X a (RE F f W ma)) (hb : PE X b (RE F f W mb)) :
    PE X (.Call (.Attribute a "join" apos) [b] [] pos) (RE F f W fun S => (ma S).bind fun x S1 => match x with
    | .str s => (mb S1).bind (joinD s)
    | _ => .bad) := by
  refine peImp (pe_join ha hb (star_cons hp) hbase hline) fun σ H Q ⟨w, S, R, h⟩ => ?_
  refine Rd1.go R h fun d x w1 H1 S1 _ R1 l1 r1 h1 => ?_
  cases d with
  | str s =>
    cases r1
    refine ⟨⟨s, rfl⟩, ?_⟩
    refine Rd1.go R1 h1 fun d2 y w2 H2 S2 _ R2 l2 r2 h2 => ?_
    cases d2 with
    | lst ds =>
      unfold joinD at h2
      dsimp only at h2
      cases e : strsD ds with
      | none => rw [e] at h2; exact h2.elim
      | some ts =>
        rw [e] at h2
        dsimp only at h2
        split at h2
        · rename_i hh
          obtain ⟨p, vs, e1, g1, rs⟩ := r2
          subst e1
          rw [strsD_dn e rs] at g1
          exact ⟨s, p, ts, rfl, rfl, .inl (SqL.of (R2.cs.fr _ _ g1)), of_decide_eq_true hh, h2.ok R2 rfl⟩
        · exact h2.elim
    | _ => exact h2.elim
  | _ => exact h1.elim
end
end PyI
namespace PyI
open PySem PySem.Spec PyProof.Rows L2
section
variable {X : Cx} {F : Fx} {f : Fm} {W : WX} {P : Pg} {k : Nat} {cf ci : Nat → List Dt → List Dt → Rc} {a b : Expr} {pos p apos : Pos} {ma mb : Sto → Rs Dt}
/-! ### f-strings -/
theorem str_empty_app (x : Str) : Str.empty ++ x = x := by
  obtain ⟨a⟩ := x
  show (⟨#[] ++ a⟩ : Str) = ⟨a⟩
  rw [Array.empty_append]
theorem tJs_of {σ : L2.St} {Q : VK} : ∀ (cs : List Tm) {acc : Str} {H : Hp} {w : Wd} {S : Sto}, Rr F f w σ H S → Po F f W σ w ((evJ P cf ci cs acc S).bind fun x S1 => .ok (.str x) S1) (Dn F) Q → tJs (cs.map fun c => RE F f W (evE P cf ci c)) acc σ H (fun out H1 => Q (.str out) H1)
  | [], acc, H, w, S, R, h => by
    unfold evJ at h
    exact h.ok R rfl
  | c :: cs, acc, H, w, S, R, h => by
    unfold evJ at h
    rw [Rs.bind_assoc] at h
    refine Rd1.go R h fun d x w1 H1 S1 _ R1 l1 r1 h1 => ?_
    cases d with
    | str y =>
      dsimp only at h1
      split at h1
      · rename_i hl
        exact ⟨y, r1, hl, tJs_of cs R1 h1⟩
      · exact h1.elim
    | _ => exact h1.elim
theorem se_fst1 {c : Tm} (ha : PE X a (RE F f W (evE P cf ci c))) : PE X (.JoinedStr [a] pos) (RE F f W (evE P cf ci (.fst [c]))) := by
  refine peImp (pe_joined1 ha) fun σ H Q ⟨w, S, R, h⟩ => ?_
  refine ⟨w, S, R, ?_⟩
  unfold evE evJ at h
  cases e : evE P cf ci c S with
  | ok d S1 =>
    rw [e] at h
    cases d with
    | str y =>
      have h : Po F f W σ w ((if (Str.empty ++ y).length ≤ sizeLine then evJ P cf ci [] (Str.empty ++ y) S1 else .bad).bind fun x S1 => .ok (.str x) S1) (Dn F) Q := h
      split at h
      · unfold evJ at h
        rw [str_empty_app] at h
        exact h
      · exact h.elim
    | _ => exact (h : False).elim
  | ex _ _ _ _ => rw [e] at h; exact h
  | bad => rw [e] at h; exact h
theorem se_fst {v1 v2 : Expr} {rest : List Expr} {cs : List Tm} (h : PJ X (v1 :: v2 :: rest) (cs.map fun c => RE F f W (evE P cf ci c))) : PE X (.JoinedStr (v1 :: v2 :: rest) pos) (RE F f W (evE P cf ci (.fst cs))) := by
  refine peImp (pe_joined h) fun σ H Q ⟨w, S, R, h⟩ => ?_
  unfold evE at h
  exact tJs_of cs R h
/-! ### objects of the frame's own, looked at -/
theorem se_lenB {i : Nat} {x : Str} (hN : X.N[i]? = some x) (hv : Vis X.env.scope x) (hd : (x == ("__debug__" : Str)) = false) (hcd : (x == ("__classdict__" : Str)) = false) (hgl : Gl X "len") (hm : X.mg "len" = none) :
    PE X (.Call (.Name "len" p) [.Name x apos] [] pos) (RE F f W fun S => match S.r[i]? with
    | some (some (.o (.lst ds))) => .ok (.int ds.length) S
    | _ => .bad) := by
  refine peImp (pe_callB call_len_seq hgl hm PySem.boot_len (pa_cons (pe_var hN hv hd hcd) pa_nil) (by decide) (by decide)) fun σ H Q ⟨w, S, R, h⟩ => ?_
  dsimp only at h
  split at h
  · rename_i ds e
    obtain ⟨a, s1, _, _, ⟨vs, h1, r1⟩, _⟩ := R.ow i _ e
    exact ⟨.ref a, s1, a, vs, rfl, .inl (SqL.of h1), h.ok R (by rw [← r1.length]; rfl)⟩
  · exact h.elim
theorem at_dn {w : Wd} {ds : List Dt} {vs : List V} {i : Int} {d : Dt} (r : Dns F w ds vs) (e : atI ds i = some d) : ∃ z, atI vs i = some z ∧ Dn F w d z := by
  unfold atI at e ⊢
  rw [r.length] at e
  cases z : ixN vs.length i with
  | none => rw [z] at e; cases e
  | some j => rw [z] at e; exact r.get e
theorem se_ixB {i : Nat} {x : Str} (hN : X.N[i]? = some x) (hv : Vis X.env.scope x) (hd : (x == ("__debug__" : Str)) = false) (hcd : (x == ("__classdict__" : Str)) = false) (hs : PlainIx b) (hb : PE X b (RE F f W mb)) :
    PE X (.Subscript (.Name x apos) b pos) (RE F f W fun S => match S.r[i]? with
    | some (some (.o _)) => (mb S).bind fun y S1 => match S1.r[i]?, y with
      | some (some (.o (.lst ds))), .int j => okD (atI ds j) S1
      | _, _ => .bad
    | _ => .bad) := by
  refine peImp (pe_ix ix_list (pe_var hN hv hd hcd) hb hs) fun σ H Q ⟨w, S, R, h⟩ => ?_
  dsimp only at h
  split at h
  · rename_i d0 e0
    obtain ⟨a0, s0, _⟩ := R.ow i _ e0
    refine ⟨.ref a0, s0, ?_⟩
    refine Rd1.go R h fun d y w1 H1 S1 em R1 l1 r1 h1 => ?_
    clear em
    split at h1
    · rename_i ds j e1
      obtain ⟨a, s1, _, _, ⟨vs, g1, r2⟩, _⟩ := R1.ow i _ e1
      rw [s0] at s1
      cases s1
      cases e2 : atI ds j with
      | none => rw [e2] at h1; exact h1.elim
      | some d =>
        rw [e2] at h1
        obtain ⟨z, h3, h4⟩ := at_dn r2 e2
        exact ⟨a0, vs, j, z, rfl, r1, SqL.of g1, h3, h1.ok R1 h4⟩
    · exact h1.elim
  · exact h.elim
end
end PyI
namespace PyI
open PySem PySem.W PySem.Calls PyProof.Rows
/-! ### list(range(a, b)) of great ints -/
section
variable {prog : Program} {w : World} {A : Around} {E : Value → Shared → Prop} {s : Shared} {r : Addr} {a b c : Int} {t u v : Tok} {n : Nat}
abbrev ItL (a c : Int) (n : Nat) : Array Value → Prop := fun acc => ItemsOf (fun i x => ∃ k, x = .int (a + i * c) k) acc n
theorem ext_long {R : Result → Shared → Prop} (hq : A.handled = none) (hr : IsRange s.heap r a b c t u v) (big : Builtin.Range.small a b c = false) (size : Builtin.Range.rangeSize a b c = n) (few : n ≤ 2 ^ 24) (L : Addr) (res : Value) (c0 : Nat) (hL : s.heap.get? L = some { cls := .type "list", data := .seq #[] c0 })
    (go : ∀ h' tk acc c', (∀ p o, p ≠ L → s.heap.get? p = some o → h'.get? p = some o) → h'.get? L = some { cls := .type "list", dict := none, data := .seq acc c', slots := #[] } → ItL a c n acc → R (.ok (.ret res)) { s with heap := h', toks := tk }) :
    wpAny (model prog w) A.in1 (Builtin.List.listExtendWith (.ref L) (.ref r) res) (fun fin s' => match fin with
      | .done f => R (.ok f) s'
      | .again c' => c'.quiet = true ∧ codeAny (model prog w) A c' R s') (fun e s' => R (.error e) s') s := by
  have ne1 : L ≠ r := fun e => by rw [e, hr] at hL; simp at hL
  have lt1 := Heap.lt_size hL
  have ne2 : L ≠ s.heap.objs.size := Nat.ne_of_lt lt1
  have out : L ∉ [s.heap.objs.size] := fun z => ne2 (List.mem_singleton.mp z)
  have wk := (Walks.longrange (prog := prog) (w := w) (A := A.in1) hq s.heap.objs.size a c n).toS
  have loop : ∀ (h : Heap) (c1 tk : Nat), IsLongIter h s.heap.objs.size (a + ((0 : Nat) : Int) * c) ((n : Int) - ((0 : Nat) : Int)) c → (∀ p o, p ≠ L → s.heap.get? p = some o → h.get? p = some o) → h.get? L = some { cls := .type "list", data := .seq #[] c1 } →
      codeAny (model prog w) A (.builtin "list.extend.loop" ⟨[.ref L, .ref s.heap.objs.size, res], []⟩) R { s with heap := h, toks := tk } := by
    intro h c1 tk it kp at1
    refine codeAny_extend_loopS wk (by rw [sizeLine_eq]; omega) L out res n 0 _ #[] c1 rfl (Nat.zero_le _) it at1 (ItemsOf.nil _) fun s2 acc c2 mv at2 its => ?_
    rw [Moved.eq_with mv]
    refine go s2.heap s2.toks acc c2 (fun p o hp e => mv.heap p o (fun z => ?_) (kp p o hp e)) at2 its
    rcases List.mem_cons.mp z with y | y
    · exact hp y
    · rw [List.mem_singleton.mp y] at e
      exact absurd (Heap.lt_size e) (Nat.lt_irrefl _)
  unfold Builtin.List.listExtendWith
  refine wpAny_bind (wpAny_typeOf (T := "range") ⟨_, hr, rfl⟩ ?_)
  have e1 : Builtin.List.listSameRef (.ref L) (.ref r) = false := by simp [Builtin.List.listSameRef, ne1]
  have e2 : (Value.type "range" == Value.type "list") = false := by decide
  have e3 : (Value.type "range" == Value.type "tuple") = false := by decide
  simp only [e1, e2, e3, Bool.or_false, Bool.false_eq_true, if_false]
  refine wpAny_bind (wpAny_pyIter_longrange hr big ?_)
  refine wpAny_bind (wpAny_holding (wpAny_hint_range (n := n) (Heap.get?_push_of_some _ hr) size few ?_))
  have it1 : IsLongIter (s.heap.push { cls := .type "longrange_iterator", data := .fields #[rawInt a, rawInt (Builtin.Range.rangeSize a b c), rawInt c] }) s.heap.objs.size (a + ((0 : Nat) : Int) * c) ((n : Int) - ((0 : Nat) : Int)) c := by
    show Heap.get? _ _ = _
    rw [size]
    simpa using Heap.get?_push_size _ rfl
  have at1 := Heap.get?_push_of_some { cls := .type "longrange_iterator", data := .fields #[rawInt a, rawInt (Builtin.Range.rangeSize a b c), rawInt c] } hL
  refine wpAny_ite_split (fun _ => ?_) (fun _ => wpAny_pure ⟨plainId_quiet F.plain_extend_loop _, loop _ c0 _ it1 (fun p o _ e => Heap.get?_push_of_some _ e) at1⟩)
  refine wpAny_bind (wpAny_rule (wpAny_bind ?_))
  show wpAny _ _ (updateSeq L (·.push .none) >>= fun _ => updateSeq L (·.pop)) _ _ _
  refine wpAny_bind (wpAny_updateSeq at1 rfl ?_)
  have at2 := Heap.get?_update_self (Obj.mapSeq (·.push Value.none)) at1 rfl
  refine wpAny_updateSeq (hz := by seq_fits) at2 rfl ?_
  have at3 := Heap.get?_update_self (Obj.mapSeq (·.pop)) at2 rfl
  refine wpAny_pure ⟨plainId_quiet F.plain_extend_loop _, loop _ _ _ ?_ (fun p o hp e => ?_) at3⟩
  · exact (Heap.get?_update_other _ _ ne2).trans ((Heap.get?_update_other _ _ ne2).trans it1)
  · exact (Heap.get?_update_other _ _ (Ne.symm hp)).trans ((Heap.get?_update_other _ _ (Ne.symm hp)).trans (Heap.get?_push_of_some _ e))
theorem list_long {Q : Value → Shared → Prop} (hq : A.handled = none) (hr : IsRange s.heap r a b c t u v) (big : Builtin.Range.small a b c = false) (size : Builtin.Range.rangeSize a b c = n) (few : n ≤ 2 ^ 24)
    (go : ∀ h' tk acc c', (∀ p o, s.heap.get? p = some o → h'.get? p = some o) → h'.get? s.heap.objs.size = some { cls := .type "list", dict := none, data := .seq acc c', slots := #[] } → ItL a c n acc → Q (.ref s.heap.objs.size) { s with heap := h', toks := tk }) :
    wpAny (model prog w) A (call (.type "list") [.ref r]) Q E s := by
  refine callType_codes (Q₁ := fun o s1 => o = .ref s.heap.objs.size ∧ s1 = { s with heap := s.heap.push { cls := .type "list", data := .seq #[] } }) F.called_list (F.typeCall_list_1 _) F.entry_list_init (code_list_new _ ⟨rfl, rfl⟩) fun o s1 z => ?_
  obtain ⟨rfl, rfl⟩ := z
  have at0 : (s.heap.push { cls := .type "list", data := .seq #[] }).get? s.heap.objs.size = some { cls := .type "list", data := .seq #[] } := Heap.get?_push_size _ rfl
  have rg := Heap.get?_push_of_some { cls := .type "list", data := .seq #[] } hr
  have ne : s.heap.objs.size ≠ r := fun e => by rw [← e] at hr; exact absurd (Heap.lt_size hr) (Nat.lt_irrefl _)
  refine ⟨⟨_, at0, rfl⟩, F.args_list_init_2 _ _, ?_⟩
  show wpAny _ _ (do let old ← Builtin.List.listItems (.ref s.heap.objs.size); Builtin.List.listUpdate (.ref s.heap.objs.size) (fun _ => #[]); letGo old.toList.reverse; Builtin.List.listExtendWith (.ref s.heap.objs.size) (.ref r) .none) _ _ _
  refine wpAny_bind ?_
  unfold Builtin.List.listItems
  refine wpAny_bind (wpAny_seqItems at0 rfl (wpAny_pure ?_))
  show wpAny _ _ (updateSeq s.heap.objs.size (fun _ => #[]) >>= fun _ => letGo (#[] : Array Value).toList.reverse >>= fun _ => Builtin.List.listExtendWith (.ref s.heap.objs.size) (.ref r) .none) _ _ _
  refine wpAny_bind (wpAny_updateSeq at0 rfl ?_)
  have at1 := Heap.get?_update_self (Obj.mapSeq (fun _ => (#[] : Array Value))) at0 rfl
  have keep : ∀ p o, p ≠ s.heap.objs.size → (s.heap.push { cls := .type "list", data := .seq #[] }).get? p = some o → ((s.heap.push { cls := .type "list", data := .seq #[] }).update s.heap.objs.size (Obj.mapSeq (fun _ => (#[] : Array Value)))).get? p = some o :=
    fun p o hp e => (Heap.get?_update_other _ _ (Ne.symm hp)).trans e
  refine wpAny_bind (wpAny_letGo ?_)
  refine ext_long (A := A.in1) hq (keep r _ (Ne.symm ne) rg) big size few s.heap.objs.size .none _ at1 fun h' tk acc c' hk at2 its => ?_
  exact ⟨rfl, go h' tk acc c' (fun p o e => hk p o (Nat.ne_of_lt (Heap.lt_size e)) (keep p o (Nat.ne_of_lt (Heap.lt_size e)) (Heap.get?_push_of_some _ e))) at2 its⟩
theorem list_any {Q : Value → Shared → Prop} (hq : A.handled = none) (hr : IsRange s.heap r a b c t u v) (size : Builtin.Range.rangeSize a b c = n) (few : n ≤ 2 ^ 24)
    (go : ∀ h' tk acc c', (∀ p o, s.heap.get? p = some o → h'.get? p = some o) → h'.get? s.heap.objs.size = some { cls := .type "list", dict := none, data := .seq acc c', slots := #[] } → ItL a c n acc → Q (.ref s.heap.objs.size) { s with heap := h', toks := tk }) :
    wpAny (model prog w) A (call (.type "list") [.ref r]) Q E s := by
  cases e : Builtin.Range.small a b c with
  | true => exact call_list_range hq hr e size few go
  | false => exact list_long hq hr e size few go
end
end PyI
namespace PyI
open PySem PySem.Spec PyProof.Rows L2
/-- list(range(..)), of ints of any size -/
theorem pe_listAny {X : Cx} {e : Expr} {te : L2.St → Hp → (Int → Int → Hp → Prop) → Prop} {p pos : Pos} (hc : X.calm = true) (hg : Gl X "list") (hm : X.mg "list" = none) (he : PRg X e te) (na : starEach [e] X.env = (false, eval e X.env) :: starEach [] X.env) :
    PE X (.Call (.Name "list" p) [e] [] pos) (fun σ H Q => te σ H fun a b H1 => (b - a).toNat ≤ 2 ^ 24 ∧ ∀ q, H1 q = none → Q (.ref q) (upd H1 q (.lst (rgV a b)))) := by
  refine ⟨fun pins s σ H Q I h => ?_⟩
  refine Call_ (ld_blt I hg hm boot_list (PyProof.Rows.callWith_type1 (args_cons (thn (he pins s σ H _ I h) fun x s1 ⟨r, a, b, t, u, v, H1, ex, hr, I1, few, q⟩ => args_nil ?_) na) na))
  subst ex
  refine list_any (n := (b - a).toNat) (I1.ok.hd hc) hr (rangeSize_nat a b) few fun h' tk acc c' hk e' hi => ?_
  refine ⟨.ref s1.heap.objs.size, upd H1 s1.heap.objs.size (.lst (rgV a b)), I1.laid hk (Nat.le_refl _) (show ObjOk X.prog X.w _ _ _ (.lst (rgV a b)) from ⟨?_, acc.toList, c', vals_rg hi, ?_⟩), rfl, q _ (I1.hok.fresh (Nat.le_refl _))⟩
  · rw [rgV_length, sizeLine_eq]
    omega
  · rw [Array.toArray_toList]
    exact e'
end PyI
namespace PyI
open PySem PySem.Spec PyProof.Rows L2
/-! ### what is walked -/
/-- the i-th of ds comes: as it stands, or as a new tuple -/
def Yd (F : Fx) (w : Wd) (ds : List Dt) : Nat → Hp → V → Hp → Prop := fun i H x H' => ∃ d, ds[i]? = some d ∧ ((H' = H ∧ Dn F w d x) ∨ ∃ T vs es, d = .tup es ∧ x = .ref T ∧ H T = none ∧ H' = upd H T (.tup vs) ∧ Dns F w es vs)
def ItW (F : Fx) (w : Wd) (J : It) (ds : List Dt) : Prop := Walk J ds.length (fun H => ∀ a o, w.G a = some o → H a = some o) (Yd F w ds)
theorem ItW.mono {F : Fx} {w w' : Wd} {J : It} {ds : List Dt} (l : Le w w') (h : ItW F w J ds) : ItW F w' J ds := by
  refine Walk.mono h (fun H g a o e => g a o (l.g a o e)) fun i H x H' hi g y => ?_
  obtain ⟨d, e, q⟩ := y
  refine ⟨d, e, ?_⟩
  rcases q with ⟨e1, e2⟩ | ⟨T, vs, es, e1, e2, e3, e4, e5⟩
  · exact .inl ⟨e1, Dn.mono l d e2⟩
  · exact .inr ⟨T, vs, es, e1, e2, e3, e4, Dns.mono l es e5⟩
section
variable {X : Cx} {F : Fx} {f : Fm} {W : WX}
def PoI (F : Fx) (f : Fm) (W : WX) (σ : L2.St) (w : Wd) (r : Rs Dt) (R : It → Hp → Prop) : Prop := match r with
  | .ok d S' => ∃ ds, itemsD d = some ds ∧ ∀ w' H' J, Rr F f w' σ H' S' → Le w w' → ItW F w' J ds → R J H'
  | .ex c ns ds S' => ∀ dx vs w' H', Rr F f w' σ H' S' → Le w w' → w'.G dx = some (.xd (ns.zip vs)) → ns.length = vs.length → Dns F w' ds vs → W (.ref (F.ca c)) (some dx) σ H'
  | .bad => False
def RI (F : Fx) (f : Fm) (W : WX) (m : Sto → Rs Dt) : TI := fun σ H R => ∃ w S, Rr F f w σ H S ∧ PoI F f W σ w (m S) R
theorem piImp {tg e : Expr} {t : TI} (h : ∀ σ H R, t σ H R → ∃ t', PI X tg e t' ∧ t' σ H R) : PI X tg e t := ⟨fun pins s σ H R I q => let ⟨t', h1, h2⟩ := h σ H R q; h1.run pins s σ H R I h2⟩
theorem se_it {tg e : Expr} {m : Sto → Rs Dt} (hK : X.K = F.K) (he : PE X e (RE F f W m)) : PI X tg e (RI F f W m) := by
  refine piImp fun σ H R ⟨w, S, Rw, h⟩ => ?_
  cases q : m S with
  | bad => rw [q] at h; exact h.elim
  | ex c ns ds S' =>
    rw [q] at h
    refine ⟨_, pi_list he, w, S, Rw, ?_⟩
    rw [q]
    exact h
  | ok d S' =>
    rw [q] at h
    obtain ⟨ds, ei, h⟩ := h
    unfold itemsD at ei
    split at ei
    · cases ei
      refine ⟨_, pi_list he, w, S, Rw, ?_⟩
      rw [q]
      intro v w' H' R' l dn
      obtain ⟨a, vs, rfl, g1, r1⟩ := dn
      refine ⟨a, rfl, ⟨vs, SqL.of (R'.cs.fr _ _ g1)⟩, h w' H' _ R' l ?_⟩
      have wk := walk_list (K := X.K) (a := a) (xs := vs)
      rw [← r1.length] at wk
      refine Walk.mono wk (fun H g => SqL.of (g _ _ g1)) fun i H x H' hi g y => ?_
      obtain ⟨e1, e2⟩ := y
      obtain ⟨z, h1, h2⟩ := r1.get (List.getElem?_eq_getElem hi)
      rw [e2] at h1
      cases h1
      exact ⟨_, List.getElem?_eq_getElem hi, .inl ⟨e1, h2⟩⟩
    · cases ei
      refine ⟨_, pi_tup he, w, S, Rw, ?_⟩
      rw [q]
      intro v w' H' R' l dn
      obtain ⟨a, vs, rfl, g1, r1⟩ := dn
      refine ⟨a, rfl, ⟨vs, by rw [hK]; exact sqT_mono R'.cs.fr g1⟩, h w' H' _ R' l ?_⟩
      have wk := walk_tup (K := X.K) (a := a) (xs := vs)
      rw [← r1.length] at wk
      refine Walk.mono wk (fun H g => by rw [hK]; exact sqT_mono g g1) fun i H x H' hi g y => ?_
      obtain ⟨e1, e2⟩ := y
      obtain ⟨z, h1, h2⟩ := r1.get (List.getElem?_eq_getElem hi)
      rw [e2] at h1
      cases h1
      exact ⟨_, List.getElem?_eq_getElem hi, .inl ⟨e1, h2⟩⟩
    · rename_i z
      cases ei
      refine ⟨_, pi_str he, w, S, Rw, ?_⟩
      rw [q]
      intro v w' H' R' l dn
      refine ⟨z, dn, h w' H' _ R' l ?_⟩
      have wk := walk_str (z := z)
      rw [show z.cps.size = (z.cps.toList.map fun c => Dt.str ⟨#[c]⟩).length by simp] at wk
      refine Walk.mono wk (fun _ _ => True.intro) fun i H x H' hi g y => ?_
      obtain ⟨e1, c, e2, e3⟩ := y
      refine ⟨.str ⟨#[c]⟩, ?_, .inl ⟨e1, e3⟩⟩
      rw [List.getElem?_map, show z.cps.toList[i]? = some c by simpa using e2]
      rfl
    · rename_i xs
      cases ei
      refine ⟨_, pi_list he, w, S, Rw, ?_⟩
      rw [q]
      intro v w' H' R' l dn
      obtain ⟨a, rfl, g1⟩ := dn
      refine ⟨a, rfl, ⟨_, by rw [hK]; exact sqL_mono R'.cs.fr g1⟩, h w' H' _ R' l ?_⟩
      have wk := walk_list (K := X.K) (a := a) (xs := xs.map V.int)
      rw [show (xs.map V.int).length = (xs.map Dt.int).length by simp] at wk
      refine Walk.mono wk (fun H g => by rw [hK]; exact sqL_mono g g1) fun i H x H' hi g y => ?_
      obtain ⟨e1, e2⟩ := y
      rw [List.getElem?_map] at e2
      cases e3 : xs[i]? with
      | none => rw [e3] at e2; cases e2
      | some n =>
        rw [e3] at e2
        cases e2
        exact ⟨.int n, by rw [List.getElem?_map, e3]; rfl, .inl ⟨e1, rfl⟩⟩
    · cases ei
theorem range_itw {w : Wd} {lo hi : Int} : ItW F w (Itr lo (hi - lo).toNat) (rangeD lo hi) := by
  have wk := walk_range (lo := lo) (n := (hi - lo).toNat)
  rw [show (hi - lo).toNat = (rangeD lo hi).length by simp [rangeD]] at wk
  have e0 : (hi - lo).toNat = (rangeD lo hi).length := by simp [rangeD]
  unfold ItW
  rw [show Itr lo (hi - lo).toNat = Itr lo (rangeD lo hi).length by rw [← e0]]
  refine Walk.mono wk (fun _ _ => True.intro) fun i H x H' hi' g y => ?_
  obtain ⟨e1, e2⟩ := y
  refine ⟨.int (lo + (i : Nat)), ?_, .inl ⟨e1, e2⟩⟩
  have hi2 : i < (hi - lo).toNat := by rw [e0]; exact hi'
  unfold rangeD
  rw [List.getElem?_map, List.getElem?_range hi2]
  rfl
theorem smallI_iff {i : Int} (h : smallI i = true) : -(2 ^ 62) ≤ i ∧ i < 2 ^ 62 := by
  unfold smallI at h
  rw [Bool.and_eq_true, decide_eq_true_eq, decide_eq_true_eq] at h
  exact h
theorem se_rng1 {tg a : Expr} {p pos : Pos} {m : Sto → Rs Dt} (hgl : Gl X "range") (hm : X.mg "range" = none) (hp : plainEs [a] = true) (ha : PE X a (RE F f W m)) : PI X tg (.Call (.Name "range" p) [a] [] pos) (RI F f W fun S => (m S).bind rng1D) := by
  refine piImp fun σ H R ⟨w, S, Rw, h⟩ => ⟨_, pi_range1 hgl hm (pa_cons ha pa_nil (star_cons hp)) (star_cons hp), w, S, Rw, ?_⟩
  dsimp only at h
  cases q : m S with
  | bad => rw [q] at h; exact h.elim
  | ex c ns ds S' => rw [q] at h; exact h
  | ok d S' =>
    rw [q] at h
    cases d with
    | int i =>
      have h : PoI F f W σ w (if smallI i = true then .ok (.lst (rangeD 0 i)) S' else .bad) R := h
      split at h
      · rename_i hs
        obtain ⟨ds, ei, h⟩ := h
        cases ei
        obtain ⟨h1, h2⟩ := smallI_iff hs
        exact fun v w' H' R' l dn => ⟨i, by rw [dn], h1, h2, h w' H' _ R' l (by have := range_itw (F := F) (w := w') (lo := 0) (hi := i); rwa [Int.sub_zero] at this)⟩
      · exact h.elim
    | _ => exact (h : False).elim
theorem se_rng2 {tg a b : Expr} {p pos : Pos} {ma mb : Sto → Rs Dt} (hgl : Gl X "range") (hm : X.mg "range" = none) (hp : plainEs [a, b] = true) (ha : PE X a (RE F f W ma)) (hb : PE X b (RE F f W mb)) : PI X tg (.Call (.Name "range" p) [a, b] [] pos) (RI F f W fun S => (ma S).bind fun x S1 => (mb S1).bind (rng2D x)) := by
  have hp2 : plainEs [b] = true := plain_tail hp
  refine piImp fun σ H R ⟨w, S, Rw, h⟩ => ⟨_, pi_range2 hgl hm (pa_cons ha (pa_cons hb pa_nil (star_cons hp2)) (star_cons hp)) (by rw [star_cons hp, star_cons hp2]; rfl) (star_cons hp2), w, S, Rw, ?_⟩
  dsimp only at h
  cases q : ma S with
  | bad => rw [q] at h; exact h.elim
  | ex c ns ds S' => rw [q] at h; exact h
  | ok d S1 =>
    rw [q] at h
    have h : PoI F f W σ w ((mb S1).bind (rng2D d)) R := h
    intro v1 w1 H1 R1 l1 dn1
    refine ⟨w1, S1, R1, ?_⟩
    cases q2 : mb S1 with
    | bad => rw [q2] at h; exact h.elim
    | ex c ns ds S' => rw [q2] at h; exact fun dx vs w' H' R' l' => h dx vs w' H' R' (l1.trans l')
    | ok d2 S2 =>
      rw [q2] at h
      cases d with
      | int i =>
        cases d2 with
        | int j =>
          have h : PoI F f W σ w (if (smallI i && smallI j) = true then .ok (.lst (rangeD i j)) S2 else .bad) R := h
          split at h
          · rename_i hs
            rw [Bool.and_eq_true] at hs
            obtain ⟨ds, ei, h⟩ := h
            cases ei
            obtain ⟨h1, h2⟩ := smallI_iff hs.1
            obtain ⟨h3, h4⟩ := smallI_iff hs.2
            exact fun v w' H' R' l dn => ⟨i, j, by rw [dn1, dn], ⟨h1, h2, h3, h4⟩, h w' H' _ R' (l1.trans l) range_itw⟩
          · exact h.elim
        | _ => exact (h : False).elim
      | _ => exact (h : False).elim
theorem enmL_len : ∀ {ds : List Dt} {n : Nat}, (enmL n ds).length = ds.length
  | [], _ => rfl
  | d :: ds, n => by
    unfold enmL
    rw [List.length_cons, List.length_cons, enmL_len]
theorem enmL_get : ∀ {ds : List Dt} {n i : Nat} {d : Dt}, ds[i]? = some d → (enmL n ds)[i]? = some (.tup [.int ((n + i : Nat) : Int), d])
  | [], _, _, _, h => by simp at h
  | d :: ds, n, 0, _, h => by
    simp at h
    subst h
    rfl
  | d :: ds, n, i + 1, d', h => by
    have := enmL_get (n := n + 1) (i := i) (show ds[i]? = some d' by simpa using h)
    unfold enmL
    rw [List.getElem?_cons_succ, this, show n + 1 + i = n + (i + 1) by omega]
theorem enum_itw {K : PySem.W.Frag} {w : Wd} {a : Addr} {ds : List Dt} {vs : List V} (g1 : w.G a = some (.lst vs)) (r1 : Dns F w ds vs) : ItW F w (Ite K a) (enmL 0 ds) := by
  have wk := walk_enum (K := K) (a := a) (xs := vs)
  unfold ItW
  rw [enmL_len, r1.length]
  refine Walk.mono wk (fun H g => SqL.of (g _ _ g1)) fun i H x H' hi g y => ?_
  obtain ⟨T, x1, y1, e1, e2, e3, e4, e5⟩ := y
  cases e4
  have e5 : vs[i]? = some y1 := e5
  have hl : i < ds.length := by rw [r1.length]; exact hi
  obtain ⟨z, h1, h2⟩ := r1.get (List.getElem?_eq_getElem hl)
  rw [e5] at h1
  cases h1
  refine ⟨_, enmL_get (List.getElem?_eq_getElem hl), .inr ⟨T, [.int (i : Nat), y1], _, rfl, e1, e2, e3, ?_⟩⟩
  exact ⟨_, _, rfl, by rw [Nat.zero_add]; exact rfl, y1, [], rfl, h2, rfl⟩
theorem se_enm {elts : List Expr} {kk : Nat} {tpos : Pos} {a : Expr} {p pos : Pos} {m : Sto → Rs Dt} (hgl : Gl X "enumerate") (hm : X.mg "enumerate" = none) (hp : plainEs [a] = true) (ha : PE X a (RE F f W m)) : PI X (.Tuple elts kk tpos) (.Call (.Name "enumerate" p) [a] [] pos) (RI F f W fun S => (m S).bind fun x S1 => okD ((enmD x).map .lst) S1) := by
  refine piImp fun σ H R ⟨w, S, Rw, h⟩ => ⟨_, pi_enum hgl hm (pa_cons ha pa_nil (star_cons hp)) (star_cons hp), w, S, Rw, ?_⟩
  dsimp only at h
  cases q : m S with
  | bad => rw [q] at h; exact h.elim
  | ex c ns ds S' => rw [q] at h; exact h
  | ok d S' =>
    rw [q] at h
    cases d with
    | lst ds =>
      have h : PoI F f W σ w (.ok (.lst (enmL 0 ds)) S') R := h
      obtain ⟨es, ei, h⟩ := h
      cases ei
      intro v w' H' R' l dn
      obtain ⟨a0, vs, e0, g1, r1⟩ := dn
      subst e0
      exact ⟨a0, vs, rfl, SqL.of (R'.cs.fr _ _ g1), h w' H' _ R' l (enum_itw g1 r1)⟩
    | _ => exact (h : False).elim
theorem rg_dn {w : Wd} {i j : Int} : Dns F w (rangeD i j) (rgV i j) := by
  unfold rangeD rgV
  generalize List.range (j - i).toNat = l
  induction l with
  | nil => rfl
  | cons a l ih => exact ⟨_, _, rfl, rfl, ih⟩
theorem se_lrg2 {a b : Expr} {p pos p2 pos2 : Pos} {ma mb : Sto → Rs Dt} (hc : X.calm = true) (hg : Gl X "list") (hm : X.mg "list" = none) (hgl : Gl X "range") (hmr : X.mg "range" = none) (hp : plainEs [a, b] = true) (ha : PE X a (RE F f W ma)) (hb : PE X b (RE F f W mb)) :
    PE X (.Call (.Name "list" p) [.Call (.Name "range" p2) [a, b] [] pos2] [] pos) (RE F f W fun S => (ma S).bind fun x S1 => match x with
    | .int i => (mb S1).bind (lrgD i)
    | _ => .bad) := by
  have hp2 : plainEs [b] = true := plain_tail hp
  refine peImp (pe_listAny hc hg hm (prg_2 hgl hmr ha hb (star_cons hp) (star_cons hp2) (star_any hp2)) (star_cons rfl)) fun σ H Q ⟨w, S, R, h⟩ => ?_
  refine Rd1.go R h fun d x w1 H1 S1 _ R1 l1 r1 h1 => ?_
  cases d with
  | int i =>
    cases r1
    dsimp only at h1
    refine Rd1.go R1 h1 fun d2 y w2 H2 S2 _ R2 l2 r2 h2 => ?_
    cases d2 with
    | int j =>
      cases r2
      unfold lrgD at h2
      dsimp only at h2
      split at h2
      · rename_i hs
        exact ⟨i, j, rfl, rfl, Nat.le_trans hs (by decide), fun q hq => h2.new R2 hq ⟨q, _, rfl, upd_same, rg_dn⟩⟩
      · exact h2.elim
    | _ => exact h2.elim
  | _ => exact h1.elim
end
end PyI
namespace PyI
open PySem PySem.Spec PyProof.Rows L2
/-! ### targets -/
mutual
def tgSl : Tg → List Nat
  | .nm i => [i]
  | .tp ts => tgsSl ts
def tgsSl : List Tg → List Nat
  | [] => []
  | t :: ts => tgSl t ++ tgsSl ts
end
mutual
def gT (K : PySem.W.Frag) : Tg → TG
  | .nm i => gName i
  | .tp ts => gTup K ts.length (gTs K ts)
def gTs (K : PySem.W.Frag) : List Tg → TGs
  | [] => gNil
  | t :: ts => gCons (gT K t) (gTs K ts)
end
theorem wipe_set {σ : L2.St} {i : Nat} {x : Option V} : ∀ {vs : List Nat}, i ∈ vs → wipe (σ.set i x) vs = wipe σ vs
  | [], h => by cases h
  | v :: vs, h => by
    unfold wipe
    by_cases e : i ∈ vs
    · rw [wipe_set e]
    · have e2 : i = v := by
        rcases List.mem_cons.mp h with z | z
        · exact z
        · exact absurd z e
      subst e2
      have aux : ∀ (vs : List Nat) (σ : L2.St), i ∉ vs → wipe (σ.set i x) vs = (wipe σ vs).set i x := by
        intro vs
        induction vs with
        | nil => intro σ _; rfl
        | cons v vs ih =>
          intro σ hn
          unfold wipe
          rw [ih σ (fun z => hn (List.mem_cons_of_mem _ z)), List.set_comm _ _ (fun z => hn (by rw [z]; exact List.mem_cons_self))]
      rw [aux vs σ e, List.set_set]
section
variable {F : Fx} {f : Fm}
mutual
theorem gT_ok {K : PySem.W.Frag} (hK : K = F.K) : ∀ (tg : Tg) {w : Wd} {σ : L2.St} {H : Hp} {S : Sto} {d : Dt} {v : V} {r' : List (Option Bn)} {Q : L2.St → Hp → Prop}, Rr F f w σ H S → Dn F w d v → tgD tg d S.r = some r' →
    (∀ σ', Rr F f w σ' H ⟨r', S.m⟩ → (∀ vs, (∀ i ∈ tgSl tg, i ∈ vs) → wipe σ' vs = wipe σ vs) → Q σ' H) → gT K tg v σ H Q
  | .nm i, w, σ, H, S, d, v, r', Q, R, dn, e, q => by
    simp only [tgD] at e
    split at e
    · cases e
      exact q _ (R.setP dn) fun vs hv => wipe_set (hv i (by simp [tgSl]))
    · cases e
  | .tp ts, w, σ, H, S, d, v, r', Q, R, dn, e, q => by
    cases d with
    | tup ds =>
      simp only [tgD] at e
      split at e
      · rename_i hl
        obtain ⟨a, vs, e1, sq, rs⟩ := dn
        refine ⟨a, vs, e1, by rw [hK]; exact sqT_mono R.cs.fr sq, by rw [← rs.length, hl], gTs_ok hK ts R rs e fun σ' R' hw => q σ' R' fun vs hv => hw vs (by simpa [tgSl] using hv)⟩
      · cases e
    | _ => simp [tgD] at e
theorem gTs_ok {K : PySem.W.Frag} (hK : K = F.K) : ∀ (ts : List Tg) {w : Wd} {σ : L2.St} {H : Hp} {S : Sto} {ds : List Dt} {vs : List V} {r' : List (Option Bn)} {Q : L2.St → Hp → Prop}, Rr F f w σ H S → Dns F w ds vs → tgsD ts ds S.r = some r' →
    (∀ σ', Rr F f w σ' H ⟨r', S.m⟩ → (∀ vs, (∀ i ∈ tgsSl ts, i ∈ vs) → wipe σ' vs = wipe σ vs) → Q σ' H) → gTs K ts vs σ H Q
  | [], w, σ, H, S, ds, vs, r', Q, R, dn, e, q => by
    cases ds with
    | nil =>
      simp only [tgsD] at e
      cases e
      cases dn
      exact ⟨rfl, q σ R fun _ _ => rfl⟩
    | cons _ _ => simp [tgsD] at e
  | t :: ts, w, σ, H, S, ds, vs, r', Q, R, dn, e, q => by
    cases ds with
    | nil => simp [tgsD] at e
    | cons d ds =>
      obtain ⟨v, r, e1, h1, h2⟩ := dn
      simp only [tgsD] at e
      cases e2 : tgD t d S.r with
      | none => rw [e2] at e; cases e
      | some r1 =>
        rw [e2] at e
        refine ⟨v, r, e1, gT_ok hK t R h1 e2 fun σ1 R1 w1 => ?_⟩
        refine gTs_ok hK ts (S := ⟨r1, S.m⟩) R1 h2 e fun σ2 R2 w2 => q σ2 R2 fun vs hv => ?_
        rw [w2 vs (fun i hi => hv i (by simp [tgsSl, hi])), w1 vs (fun i hi => hv i (by simp [tgsSl, hi]))]
end
end
theorem assign_cons {e : Expr} {es : List Expr} {env : Env} (h : plainEs (e :: es) = true) : assignEach (e :: es) env = (false, assign e env) :: assignEach es env := by
  cases e <;> first | rfl | (simp [plainEs] at h)
theorem assign_len {env : Env} : ∀ {es : List Expr}, plainEs es = true → (assignEach es env).length = es.length ∧ (assignEach es env).findIdx? (·.1) = none
  | [], _ => ⟨rfl, rfl⟩
  | e :: es, h => by
    obtain ⟨h1, h2⟩ := assign_len (env := env) (plain_tail h)
    rw [assign_cons h]
    refine ⟨by rw [List.length_cons, h1, List.length_cons], ?_⟩
    rw [List.findIdx?_cons, h2]
    rfl
/-- a target of the text and its slots -/
def locB (sc : Scope) (x : Str) : Bool := sc.names.lookup x == some .local || sc.names.lookup x == some .cell
mutual
def mT (N : List Str) (sc : Scope) (lc : Bool) : Tg → Expr → Bool
  | .nm i, .Name x _ => decide (N[i]? = some x) && (if lc then decide (sc.names.lookup x = some .local) else locB sc x)
  | .tp ts, .Tuple es _ _ => mTs N sc lc ts es && plainEs es
  | _, _ => false
def mTs (N : List Str) (sc : Scope) (lc : Bool) : List Tg → List Expr → Bool
  | [], [] => true
  | t :: ts, e :: es => mT N sc lc t e && mTs N sc lc ts es
  | _, _ => false
end
theorem mTs_len {N : List Str} {sc : Scope} {lc : Bool} : ∀ {ts : List Tg} {es : List Expr}, mTs N sc lc ts es = true → ts.length = es.length
  | [], [], _ => rfl
  | [], _ :: _, h => by simp [mTs] at h
  | _ :: _, [], h => by simp [mTs] at h
  | t :: ts, e :: es, h => by
    simp only [mTs, Bool.and_eq_true] at h
    simp [mTs_len h.2]
section
variable {X : Cx}
mutual
theorem pg_of (hN : X.N.Nodup) (hc : X.calm = true) {lc : Bool} (hf : lc = false → ∀ x, X.fn x = true) : ∀ (tg : Tg) (e : Expr), mT X.N X.env.scope lc tg e = true → PG X e (gT X.K tg)
  | .nm i, e, h => by
    cases e with
    | Name x p =>
      simp only [mT, Bool.and_eq_true, decide_eq_true_eq] at h
      obtain ⟨h1, h2⟩ := h
      simp only [gT]
      cases lc with
      | true =>
        have h2 : X.env.scope.names.lookup x = some .local := by simpa using h2
        exact pg_name hN h1 (.inl h2) (.inr h2)
      | false =>
        have h2 : locB X.env.scope x = true := by simpa using h2
        simp only [locB, Bool.or_eq_true, beq_iff_eq] at h2
        exact pg_name hN h1 h2 (.inl (hf rfl x))
    | _ => simp [mT] at h
  | .tp ts, e, h => by
    cases e with
    | Tuple es k p =>
      simp only [mT, Bool.and_eq_true] at h
      obtain ⟨a1, a2⟩ := assign_len (env := X.env) h.2
      have g := pg_tup (k := k) (pos := p) (n := ts.length) hc (pgs_of hN hc hf ts es h.1 h.2) (by rw [a1, mTs_len h.1]) a2
      simpa only [gT] using g
    | _ => simp [mT] at h
theorem pgs_of (hN : X.N.Nodup) (hc : X.calm = true) {lc : Bool} (hf : lc = false → ∀ x, X.fn x = true) : ∀ (ts : List Tg) (es : List Expr), mTs X.N X.env.scope lc ts es = true → plainEs es = true → PGs X es (gTs X.K ts)
  | [], es, h, _ => by
    cases es with
    | nil => simpa only [gTs] using pgs_nil
    | cons _ _ => simp [mTs] at h
  | t :: ts, es, h, hp => by
    cases es with
    | nil => simp [mTs] at h
    | cons e es =>
      simp only [mTs, Bool.and_eq_true] at h
      have g := pgs_cons (pg_of hN hc hf t e h.1) (pgs_of hN hc hf ts es h.2 (plain_tail hp)) (by rw [assign_cons hp]; rfl)
      simpa only [gTs] using g
end
end
/-! ### comprehensions -/
theorem wipe_get {σ : L2.St} {vs : List Nat} {i : Nat} (h : i ∉ vs) : (wipe σ vs)[i]? = σ[i]? := by
  induction vs with
  | nil => rfl
  | cons v vs ih =>
    unfold wipe
    rw [List.getElem?_set_ne (fun z => h (by rw [z]; exact List.mem_cons_self)), ih (fun z => h (List.mem_cons_of_mem _ z))]
theorem wipeB_len (r : List (Option Bn)) : ∀ vs : List Nat, (wipeB r vs).length = r.length
  | [] => rfl
  | v :: vs => by unfold wipeB; rw [List.length_set, wipeB_len r vs]
theorem wipeB_some {r : List (Option Bn)} {i : Nat} {b : Bn} : ∀ {vs : List Nat}, (wipeB r vs)[i]? = some (some b) → r[i]? = some (some b) ∧ i ∉ vs
  | [], h => ⟨h, by simp⟩
  | v :: vs, h => by
    unfold wipeB at h
    rcases get_set h with ⟨_, z⟩ | ⟨n, z⟩
    · cases z
    · obtain ⟨h1, h2⟩ := wipeB_some z
      exact ⟨h1, fun q => by
        rcases List.mem_cons.mp q with y | y
        · exact n y
        · exact h2 y⟩
section
variable {F : Fx} {f : Fm}
theorem Rr.wipe {w : Wd} {σ : L2.St} {H : Hp} {S : Sto} (R : Rr F f w σ H S) (vs : List Nat) : Rr F f w (wipe σ vs) H ⟨wipeB S.r vs, S.m⟩ := by
  refine ⟨R.cs, R.xt, by rw [wipe_length, wipeB_len, R.sl], fun i d h => ?_, fun i d h => ?_, fun i j a d e h1 h2 h3 h4 => ?_⟩
  · obtain ⟨h1, h2⟩ := wipeB_some h
    obtain ⟨v, e1, e2⟩ := R.pu i d h1
    exact ⟨v, by rw [wipe_get h2]; exact e1, e2⟩
  · obtain ⟨h1, h2⟩ := wipeB_some h
    obtain ⟨a, e1, e2⟩ := R.ow i d h1
    exact ⟨a, by rw [wipe_get h2]; exact e1, e2⟩
  · obtain ⟨g1, n1⟩ := wipeB_some h1
    obtain ⟨g2, n2⟩ := wipeB_some h2
    rw [wipe_get n1] at h3
    rw [wipe_get n2] at h4
    exact R.dj i j a d e g1 g2 h3 h4
end
end PyI
namespace PyI
open PySem PySem.Spec PyProof.Rows L2
section
variable {F : Fx} {f : Fm}
/-- an object that is nobody's is changed -/
theorem Rr.put {w : Wd} {σ : L2.St} {H : Hp} {S : Sto} {D : Addr} {o : HO} (R : Rr F f w σ H S) (g : w.G D = none) (a : D ∉ w.A) (no : ∀ (j : Nat) e, S.r[j]? = some (some (.o e)) → σ[j]? = some (some (.ref D)) → False) (h0 : f.H0 D = none) : Rr F f w σ (upd H D o) S := by
  have ne : ∀ b, b ≠ D → upd H D o b = H b := fun b h => upd_ne h
  refine ⟨⟨fun b u e => ?_, R.cs.nd, R.cs.ln, R.cs.ce, fun k b d q1 q2 => (R.cs.co k b d q1 q2).move (Le.refl w) (fun o z => ?_)⟩, ⟨R.xt.le, R.xt.gn, R.xt.an, fun b u q1 q2 q3 => ?_, fun b hb => ?_⟩, R.sl, R.pu, fun i d q => ?_, R.dj⟩
  · rw [ne b (fun z => by subst z; rw [g] at e; cases e)]
    exact R.cs.fr b u e
  · rw [ne b (fun y => by subst y; exact a (List.mem_of_getElem? q1))]
    exact z
  · rw [ne b (fun y => by subst y; rw [h0] at q1; cases q1)]
    exact R.xt.pr b u q1 q2 q3
  · by_cases y : b = D
    · subst y
      exact ⟨o, upd_same⟩
    · rw [ne b y]
      exact R.xt.xs b hb
  · obtain ⟨b, g1, g2, g3, g4, g5⟩ := R.ow i d q
    refine ⟨b, g1, g2, g3, g4.move (Le.refl w) (fun o z => ?_), g5⟩
    rw [ne b (fun y => by subst y; exact no i d q g1)]
    exact z
theorem Rr.leave {w w' : Wd} {σ σ' : L2.St} {H H' : Hp} {S S' : Sto} (R : Rr F f w σ H S) (R' : Rr F ⟨H, w, owns σ S.r, f.xi⟩ w' σ' H' S') : Rr F f w' σ' H' S' := by
  have x := Xt.leave R R'.xt (fun a ha => R'.cs.some (R'.xt.mem ha))
  refine ⟨R'.cs, x, R'.sl, R'.pu, fun i d h => ?_, R'.dj⟩
  obtain ⟨a, s1, g1, a1, m1, f1⟩ := R'.ow i d h
  refine ⟨a, s1, g1, a1, m1, ?_, f1.2⟩
  rcases f1.1 with z | z
  · exact .inl (R.new0 z)
  · obtain ⟨j, e, h1, h2⟩ := mem_owns.mp z
    obtain ⟨a', s2, _, _, _, q⟩ := R.ow j e h2
    rw [h1] at s2
    cases s2
    exact q.1
theorem backB_get {r0 r : List (Option Bn)} {i : Nat} {b : Bn} : ∀ {vs : List Nat}, (backB r0 vs r)[i]? = some (some b) → (i ∈ vs ∧ r0[i]? = some (some b)) ∨ (i ∉ vs ∧ r[i]? = some (some b))
  | [], h => .inr ⟨by simp, h⟩
  | v :: vs, h => by
    unfold backB at h
    rcases get_set h with ⟨e, z⟩ | ⟨n, z⟩
    · subst e
      refine .inl ⟨List.mem_cons_self, ?_⟩
      cases q : r0[i]? with
      | none => rw [q] at z; cases z
      | some x => rw [q] at z; rw [z]; rfl
    · rcases backB_get z with ⟨h1, h2⟩ | ⟨h1, h2⟩
      · exact .inl ⟨List.mem_cons_of_mem _ h1, h2⟩
      · exact .inr ⟨fun q => by
          rcases List.mem_cons.mp q with y | y
          · exact n y
          · exact h1 y, h2⟩
theorem backB_len (r0 r : List (Option Bn)) : ∀ vs : List Nat, (backB r0 vs r).length = r.length
  | [] => rfl
  | v :: vs => by unfold backB; rw [List.length_set, backB_len r0 r vs]
theorem wipeB_get {r : List (Option Bn)} {vs : List Nat} {i : Nat} (h : i ∉ vs) : (wipeB r vs)[i]? = r[i]? := by
  induction vs with
  | nil => rfl
  | cons v vs ih =>
    unfold wipeB
    rw [List.getElem?_set_ne (fun z => h (by rw [z]; exact List.mem_cons_self)), ih (fun z => h (List.mem_cons_of_mem _ z))]
theorem pureAt_not {r : List (Option Bn)} {vs : List Nat} {i : Nat} {d : Dt} (h : vs.all (pureAt r) = true) (hi : i ∈ vs) (e : r[i]? = some (some (.o d))) : False := by
  have := List.all_eq_true.mp h i hi
  unfold pureAt at this
  rw [e] at this
  cases this
/-- behind a comprehension: the slots of its names are as they were -/
theorem Rr.unwipe {w w' : Wd} {σ : L2.St} {H H' : Hp} {S S2 : Sto} {vs : List Nat} (R : Rr F f w σ H S) (hp : vs.all (pureAt S.r) = true) (R2 : Rr F ⟨H, w, owns σ S.r, f.xi⟩ w' (L2.wipe σ vs) H' ⟨wipeB S2.r vs, S2.m⟩) : Rr F f w' σ H' ⟨backB S.r vs S2.r, S2.m⟩ := by
  have x := Xt.leave R R2.xt (fun a ha => R2.cs.some (R2.xt.mem ha))
  have l : Le w w' := R2.xt.le
  refine ⟨R2.cs, x, ?_, fun i d h => ?_, fun i d h => ?_, fun i j a d e h1 h2 h3 h4 => ?_⟩
  · show σ.length = (backB S.r vs S2.r).length
    rw [backB_len]
    have := R2.sl
    rw [wipe_length] at this
    rw [this]
    show (wipeB S2.r vs).length = S2.r.length
    exact wipeB_len _ _
  · rcases backB_get h with ⟨_, h2⟩ | ⟨h1, h2⟩
    · obtain ⟨v, e1, e2⟩ := R.pu i d h2
      exact ⟨v, e1, Dn.mono l d e2⟩
    · obtain ⟨v, e1, e2⟩ := R2.pu i d (by show (wipeB S2.r vs)[i]? = _; rw [wipeB_get h1]; exact h2)
      rw [wipe_get h1] at e1
      exact ⟨v, e1, e2⟩
  · rcases backB_get h with ⟨h1, h2⟩ | ⟨h1, h2⟩
    · exact (pureAt_not hp h1 h2).elim
    · obtain ⟨a, e1, g1, a1, m1, f1⟩ := R2.ow i d (by show (wipeB S2.r vs)[i]? = _; rw [wipeB_get h1]; exact h2)
      rw [wipe_get h1] at e1
      refine ⟨a, e1, g1, a1, m1, ?_, f1.2⟩
      rcases f1.1 with z | z
      · exact .inl (R.new0 z)
      · obtain ⟨j, e, q1, q2⟩ := mem_owns.mp z
        obtain ⟨a', s2, _, _, _, q⟩ := R.ow j e q2
        rw [q1] at s2
        cases s2
        exact q.1
  · rcases backB_get h1 with ⟨g1, g2⟩ | ⟨g1, g2⟩
    · exact (pureAt_not hp g1 g2).elim
    · rcases backB_get h2 with ⟨g3, g4⟩ | ⟨g3, g4⟩
      · exact (pureAt_not hp g3 g4).elim
      · exact R2.dj i j a d e (by show (wipeB S2.r vs)[i]? = _; rw [wipeB_get g1]; exact g2) (by show (wipeB S2.r vs)[j]? = _; rw [wipeB_get g3]; exact g4) (by rw [wipe_get g1]; exact h3) (by rw [wipe_get g3]; exact h4)
end
abbrev W0 : WX := fun _ _ _ _ => False
section
variable {X : Cx} {F : Fx} {f : Fm} {W : WX}
/-- the state of a comprehension at a turn -/
structure Lc (F : Fx) (f1 : Fm) (σ : L2.St) (vs : List Nat) (D : Addr) (me mc : Sto → Rs Dt) (tg : Tg) (all : List Dt) (acc : List Dt) (S2 : Sto) (i : Nat) (H : Hp) : Prop where
  st : ∃ (w : Wd) (S : Sto) (ai : List Dt) (av : List V), Rr F f1 w (wipe σ vs) H ⟨wipeB S.r vs, S.m⟩ ∧ w.G D = none ∧ D ∉ w.A ∧ H D = some (.lst av) ∧ Dns F w ai av ∧ ai.length ≤ i ∧
    (∀ (j : Nat) e, (wipeB S.r vs)[j]? = some (some (.o e)) → (wipe σ vs)[j]? = some (some (.ref D)) → False) ∧ compL me mc tg vs (all.drop i) ai S = .ok acc S2
theorem wipe_mk (r : List (Option Bn)) (m : List Dt) : (⟨r, m⟩ : Sto).r = r := rfl
/-- what is known of the source and of the run of a comprehension -/
def CompIn (F : Fx) (f : Fm) (W : WX) (σ : L2.St) (w : Wd) (me mc : Sto → Rs Dt) (tg : Tg) (vs : List Nat) (Q : VK) (r : Rs Dt) : Prop := match r with
  | .bad => False
  | .ex c ns ds S' => ∀ dx us w' H', Rr F f w' σ H' S' → Le w w' → w'.G dx = some (.xd (ns.zip us)) → ns.length = us.length → Dns F w' ds us → W (.ref (F.ca c)) (some dx) σ H'
  | .ok d S1 => ∃ ds acc S2, itemsD d = some ds ∧ ds.length ≤ sizeLine ∧ vs.all (pureAt S1.r) = true ∧ compL me mc tg vs ds [] S1 = .ok acc S2 ∧
      ∀ D w' H', Rr F f w' σ H' ⟨backB S1.r vs S2.r, S2.m⟩ → Le w w' → w'.G D = none → D ∉ w'.A → Mc F w' H' D (.lst acc) → f.H0 D = none → (∀ (j : Nat) e, (backB S1.r vs S2.r)[j]? = some (some (.o e)) → σ[j]? = some (some (.ref D)) → False) → Q (.ref D) H'
theorem comp_core {tg : Tg} {mi me mc : Sto → Rs Dt} {vs : List Nat} {σ : L2.St} {H : Hp} {w : Wd} {S : Sto} {Q : VK} (hK : X.K = F.K) (hsl : ∀ i ∈ tgSl tg, i ∈ vs) (R : Rr F f w σ H S) (h : CompIn F f W σ w me mc tg vs Q (mi S)) :
    tLc (RI F f W mi) (gT X.K tg) (fun σ H Q => ∃ f', RB F f' W0 mc σ H Q) (fun σ H Q => ∃ f', RE F f' W0 me σ H Q) vs σ H Q := by
  refine ⟨w, S, R, ?_⟩
  cases q : mi S with
  | bad => rw [q] at h; exact h.elim
  | ex c ns ds S' => rw [q] at h; exact h
  | ok d S1 =>
          rw [q] at h
          obtain ⟨ds, acc, S2, ei, hlen, hpure, ec, h⟩ := h
          refine ⟨ds, ei, fun w' H' J R' l itw D hD => ?_⟩
          have R1 := R'.enter
          obtain ⟨gD, aD⟩ := R'.cs.new hD
          have ownD : D ∉ owns σ S1.r := fun z => by
            obtain ⟨o, ho⟩ := R1.xt.xs D z
            rw [hD] at ho
            cases ho
          refine lc_it (g := gT X.K tg) (tt := fun σ H Q => ∃ f', RB F f' W0 mc σ H Q) (te := fun σ H Q => ∃ f', RE F f' W0 me σ H Q) (vs := vs) (σ := σ) (H1 := H') (D := D) (Qd := Q (.ref D)) itw (fun i H2 => Lc F ⟨H', w', owns σ S1.r, f.xi⟩ σ vs D me mc tg ds acc S2 i H2) ?_ ?_ ?_ ?_
          · have R2 := (R1.wipe vs).fresh (o := .lst []) hD
            refine ⟨w', S1, [], [], R2, gD, aD, upd_same, rfl, Nat.zero_le _, fun j e q1 q2 => ?_, by rw [List.drop_zero]; exact ec⟩
            obtain ⟨a, s1, _, _, m1, _⟩ := (R1.wipe vs).ow j e q1
            rw [q2] at s1
            cases s1
            obtain ⟨o, ho⟩ := m1.there
            rw [hD] at ho
            cases ho
          · rintro i H2 _ ⟨w2, Si, ai, av, R2, _⟩ a o e
            exact R2.cs.fr a o (R2.xt.le.g a o e)
          · rintro i x H2 H3 hi ⟨w2, Si, ai, av, R2, g2, a2, hDv, rA, hai, noD, hL⟩ y
            obtain ⟨dx, edx, yq⟩ := y
            have edrop : ds.drop i = dx :: ds.drop (i + 1) := by
              rw [List.drop_eq_getElem_cons hi]
              rw [List.getElem?_eq_getElem hi] at edx
              cases edx
              rfl
            rw [edrop] at hL
            unfold compL at hL
            -- the item
            have Rin := R2.enter
            have noO : D ∉ owns (wipe σ vs) (wipeB Si.r vs) := fun z => by
              obtain ⟨j, e, h1, h2⟩ := mem_owns.mp z
              exact noD j e h2 h1
            obtain ⟨w3, R3, l3, dn3, ext3⟩ : ∃ w3, Rr F ⟨H2, w2, owns (wipe σ vs) (wipeB Si.r vs), f.xi⟩ w3 (wipe σ vs) H3 ⟨wipeB Si.r vs, Si.m⟩ ∧ Le w2 w3 ∧ Dn F w3 dx x ∧ True := by
              rcases yq with ⟨e1, e2⟩ | ⟨T, tv, es, e1, e2, e3, e4, e5⟩
              · subst e1
                exact ⟨w2, Rin, Le.refl _, Dn.mono R2.xt.le _ e2, trivial⟩
              · subst e1
                subst e2
                subst e4
                have al := Rin.alloc (o := .tup tv) e3
                exact ⟨_, al.1, al.2, ⟨T, tv, rfl, SqT.of upd_same, Dns.mono (R2.xt.le.trans al.2) es e5⟩, trivial⟩
            cases et : tgD tg dx (wipeB Si.r vs) with
            | none => rw [et] at hL; cases hL
            | some r' =>
              rw [et] at hL
              have ww : wipe (wipe σ vs) vs = wipe σ vs := by
                have : ∀ (us : List Nat), (∀ i ∈ us, i ∈ vs) → wipe (wipe σ us) vs = wipe σ vs := by
                  intro us
                  induction us with
                  | nil => intro _; rfl
                  | cons u us ih =>
                    intro hu
                    show wipe ((wipe σ us).set u none) vs = wipe σ vs
                    rw [wipe_set (hu u List.mem_cons_self), ih (fun i hi => hu i (List.mem_cons_of_mem _ hi))]
                exact this vs (fun _ z => z)
              refine gT_ok hK tg R3 dn3 et fun σ2 R4 hw => ?_
              have hw2 := hw vs hsl
              rw [ww] at hw2
              refine ⟨hw2, ?_⟩
              dsimp only at hL
              refine ⟨⟨H2, w2, owns (wipe σ vs) (wipeB Si.r vs), f.xi⟩, w3, ⟨r', Si.m⟩, R4, ?_⟩
              -- what holds of D behind anything that runs in this turn
              have keepD : ∀ {w5 : Wd} {σ5 : L2.St} {H5 : Hp} {S5 : Sto}, Rr F ⟨H2, w2, owns (wipe σ vs) (wipeB Si.r vs), f.xi⟩ w5 σ5 H5 S5 → H5 D = some (.lst av) ∧ w5.G D = none ∧ D ∉ w5.A ∧ (∀ (j : Nat) e, S5.r[j]? = some (some (.o e)) → σ5[j]? = some (some (.ref D)) → False) := by
                intro w5 σ5 H5 S5 R5
                refine ⟨R5.xt.pr D _ hDv a2 noO, ?_, fun z => ?_, fun j e q1 q2 => ?_⟩
                · cases e : w5.G D with
                  | none => rfl
                  | some o =>
                    rcases R5.xt.gn D o e with z | z | z
                    · rw [show w2.G D = some o from z] at g2; cases g2
                    · rw [show H2 D = none from z] at hDv; cases hDv
                    · exact (noO z).elim
                · rcases R5.xt.an D z with y | y
                  · exact a2 y
                  · rw [show H2 D = none from y] at hDv; cases hDv
                · obtain ⟨a, s1, _, _, _, z⟩ := R5.ow j e q1
                  rw [q2] at s1
                  cases s1
                  rcases z.1 with z | z
                  · rw [show H2 D = none from z] at hDv; cases hDv
                  · exact noO z
              have step : ∀ {w5 : Wd} {H5 : Hp} {S5 : Sto} {aj : List Dt} {avj : List V}, Rr F ⟨H2, w2, owns (wipe σ vs) (wipeB Si.r vs), f.xi⟩ w5 σ2 H5 S5 → Dns F w5 aj avj → aj.length ≤ i + 1 → compL me mc tg vs (ds.drop (i + 1)) aj S5 = .ok acc S2 → Lc F ⟨H', w', owns σ S1.r, f.xi⟩ σ vs D me mc tg ds acc S2 (i + 1) (upd H5 D (.lst avj)) := by
                intro w5 H5 S5 aj avj R5 rj hj hL5
                obtain ⟨k1, k2, k3, k4⟩ := keepD R5
                have R6 := R2.leave R5
                have R7 := R6.wipe vs
                rw [hw2] at R7
                have noW : ∀ (j : Nat) e, (wipeB S5.r vs)[j]? = some (some (.o e)) → (wipe σ vs)[j]? = some (some (.ref D)) → False := fun j e q1 q2 => by
                  obtain ⟨y1, y2⟩ := wipeB_some q1
                  rw [← hw2, wipe_get y2] at q2
                  exact k4 j e y1 q2
                exact ⟨w5, S5, aj, avj, R7.put k2 k3 noW hD, k2, k3, upd_same, rj, hj, noW, hL5⟩
              have id5 : ∀ {H5 : Hp}, H5 D = some (.lst av) → upd H5 D (.lst av) = H5 := fun {H5} e => by
                funext b
                by_cases z : b = D
                · subst z; rw [upd_same, e]
                · rw [upd_ne z]
              cases eb : mc ⟨r', Si.m⟩ with
              | bad => rw [eb] at hL; cases hL
              | ex _ _ _ _ => rw [eb] at hL; cases hL
              | ok b S5 =>
                rw [eb] at hL
                unfold tst
                rw [eb]
                cases b with
                | bl k =>
                  cases k with
                  | true =>
                    intro b5 w5 H5 R5 l5 e5
                    subst e5
                    have hL : (match me S5 with
                      | .ok d S3 => compL me mc tg vs (ds.drop (i + 1)) (ai ++ [d]) S3
                      | _ => .bad) = .ok acc S2 := hL
                    cases em : me S5 with
                    | bad => rw [em] at hL; cases hL
                    | ex _ _ _ _ => rw [em] at hL; cases hL
                    | ok d6 S6 =>
                      rw [em] at hL
                      refine ⟨_, w5, S5, R5, ?_⟩
                      rw [em]
                      intro y w6 H6 R6 l6 dn6
                      obtain ⟨k1, k2, k3, k4⟩ := keepD R6
                      have hla := rA.length
                      refine ⟨av, k1, by rw [← hla]; omega, step R6 ((Dns.mono (l3.trans (l5.trans l6)) ai rA).append (show Dns F w6 [d6] [y] from ⟨y, [], rfl, dn6, rfl⟩)) (by rw [List.length_append]; exact Nat.succ_le_succ hai) hL⟩
                  | false =>
                    intro b5 w5 H5 R5 l5 e5
                    subst e5
                    show Lc F _ σ vs D me mc tg ds acc S2 (i + 1) H5
                    obtain ⟨k1, _⟩ := keepD R5
                    have := step R5 (Dns.mono (l3.trans l5) ai rA) (Nat.le_succ_of_le hai) hL
                    rw [id5 k1] at this
                    exact this
                | _ => cases hL
          · rintro Hn ⟨wn, Sn, an, av, Rn, gn, aDn, hDv, rA, _, noD, hL⟩
            rw [List.drop_length] at hL
            unfold compL at hL
            cases hL
            have Rf := R'.unwipe hpure Rn
            have noF : ∀ (j : Nat) e, (backB S1.r vs S2.r)[j]? = some (some (.o e)) → σ[j]? = some (some (.ref D)) → False := fun j e q1 q2 => by
              rcases backB_get q1 with ⟨h1, h2⟩ | ⟨h1, h2⟩
              · exact pureAt_not hpure h1 h2
              · exact noD j e (by rw [wipeB_get h1]; exact h2) (by rw [wipe_get h1]; exact q2)
            exact h D wn Hn Rf (l.trans Rn.xt.le) gn aDn ⟨av, hDv, rA⟩ (R'.new0 hD) noF
theorem compR_ok {me mc : Sto → Rs Dt} {tg : Tg} {vs : List Nat} {x : Dt} {S1 : Sto} : compR me mc tg vs x S1 = .bad ∨ ∃ ds acc S2, itemsD x = some ds ∧ ds.length ≤ sizeLine ∧ vs.all (pureAt S1.r) = true ∧ compL me mc tg vs ds [] S1 = .ok acc S2 ∧ compR me mc tg vs x S1 = .ok (.lst acc) ⟨backB S1.r vs S2.r, S2.m⟩ := by
  unfold compR
  cases itemsD x with
  | none => exact .inl rfl
  | some ds =>
    dsimp only
    by_cases hc : ds.length ≤ sizeLine ∧ vs.all (pureAt S1.r) = true
    · rw [if_pos hc]
      cases e : compL me mc tg vs ds [] S1 with
      | ok acc S2 => exact .inr ⟨ds, acc, S2, rfl, hc.1, hc.2, e, rfl⟩
      | ex _ _ _ _ => exact .inl rfl
      | bad => exact .inl rfl
    · rw [if_neg hc]
      exact .inl rfl
theorem compIn_of {me mc mi : Sto → Rs Dt} {tg : Tg} {vs : List Nat} {σ : L2.St} {w : Wd} {S : Sto} {Q : VK} (h : Po F f W σ w ((mi S).bind (compR me mc tg vs)) (Dn F) Q) : CompIn F f W σ w me mc tg vs Q (mi S) := by
  cases q : mi S with
  | bad => rw [q] at h; exact h
  | ex c ns ds S' => rw [q] at h; exact h
  | ok d S1 =>
    rw [q] at h
    have h : Po F f W σ w (compR me mc tg vs d S1) (Dn F) Q := h
    rcases compR_ok (me := me) (mc := mc) (tg := tg) (vs := vs) (x := d) (S1 := S1) with e | ⟨ds, acc, S2, e1, e2, e3, e4, e5⟩
    · rw [e] at h; exact h.elim
    · rw [e5] at h
      refine ⟨ds, acc, S2, e1, e2, e3, e4, fun D w' H' R' l g a m0 h0 no => ?_⟩
      obtain ⟨wf, lf, Rff, dnf⟩ := R'.freezeV (d := .lst acc) g a m0 h0 no
      exact h _ wf H' Rff (l.trans lf) dnf
section
variable {own : List (Str × Nat)} {tg : Tg} {tgE iter elt : Expr} {ifs : List Expr} {scope : Scope} {pos : Pos} {mi me mc : Sto → Rs Dt}
theorem se_comp (hK : X.K = F.K) (hc : X.calm = true) (hN : X.N.Nodup) (hi : PI X tgE iter (RI F f W mi)) (ok : BlkOk X.N X.env.scope scope own)
    (hg : ∀ (s : Shared) (H : Hp) (C : Addr) (cl : List (Str × Addr)) (fp : List Addr), PG (X.blk s H scope (compEnvC scope cl C X.env) fp) tgE (gT X.K tg))
    (ht : ∀ (s : Shared) (H : Hp) (C : Addr) (cl : List (Str × Addr)) (fp : List Addr), PTs (X.blk s H scope (compEnvC scope cl C X.env) fp) ifs (fun σ H Q => ∃ f', RB F f' W0 mc σ H Q))
    (he : ∀ (s : Shared) (H : Hp) (C : Addr) (cl : List (Str × Addr)) (fp : List Addr), PE (X.blk s H scope (compEnvC scope cl C X.env) fp) elt (fun σ H Q => ∃ f', RE F f' W0 me σ H Q))
    (hs : ∀ x, foldedSetIterable iter X.env x = pure x) (hsl : ∀ i ∈ tgSl tg, i ∈ own.map (·.2)) :
    PE X (.ListComp elt [⟨tgE, iter, ifs, 0⟩] scope pos) (RE F f W fun S => (mi S).bind (compR me mc tg (own.map (·.2)))) :=
  peImp (pe_lc (own := own) (tt := fun σ H Q => ∃ f', RB F f' W0 mc σ H Q) (te := fun σ H Q => ∃ f', RE F f' W0 me σ H Q) (pos := pos) hc hN hi ok hg ht he hs) fun σ H Q ⟨w, S, R, h⟩ => comp_core hK hsl R (compIn_of h)
end
end
end PyI
namespace PyI
open PySem PySem.Spec PyProof.Rows L2
/-! ### statements -/
section
variable (F : Fx) (f : Fm) (W : WX)
/-- what a frame hands back -/
def Vr (w' : Wd) (H' : Hp) : Bn → V → Prop
  | .p d, v => Dn F w' d v
  | .o d, v => ∃ a, v = .ref a ∧ w'.G a = none ∧ a ∉ w'.A ∧ Mc F w' H' a d ∧ f.H0 a = none
def PoS (w : Wd) (r : Rt) (D : Ends) : Prop := match r with
  | .nx S' => ∀ σ' w' H', Rr F f w' σ' H' S' → Le w w' → D.nx σ' H'
  | .rt b S' => ∀ v σ' w' H', Rr F f w' σ' H' S' → Le w w' → Vr F f w' H' b v → D.rt v H'
  | .bk S' => ∀ σ' w' H', Rr F f w' σ' H' S' → Le w w' → D.bk σ' H'
  | .ct S' => ∀ σ' w' H', Rr F f w' σ' H' S' → Le w w' → D.ct σ' H'
  | .ex c ns ds S' => ∀ dx vs σ' w' H', Rr F f w' σ' H' S' → Le w w' → w'.G dx = some (.xd (ns.zip vs)) → ns.length = vs.length → Dns F w' ds vs → W (.ref (F.ca c)) (some dx) σ' H'
  | .bad => False
def RS (m : Sto → Rt) : TS := fun D σ H => ∃ w S, Rr F f w σ H S ∧ PoS F f W w (m S) D
end
section
variable {X : Cx} {F : Fx} {f : Fm} {W : WX} {a b c : Expr} {pos pos' : Pos} {ma mb mc : Sto → Rs Dt}
theorem PoS.le {w w1 : Wd} {r : Rt} {D : Ends} (l : Le w w1) (h : PoS F f W w r D) : PoS F f W w1 r D := by
  cases r with
  | nx S => exact fun σ' w' H' R l' => h σ' w' H' R (l.trans l')
  | rt b S => exact fun v σ' w' H' R l' => h v σ' w' H' R (l.trans l')
  | bk S => exact fun σ' w' H' R l' => h σ' w' H' R (l.trans l')
  | ct S => exact fun σ' w' H' R l' => h σ' w' H' R (l.trans l')
  | ex c ns ds S => exact fun dx vs σ' w' H' R l' => h dx vs σ' w' H' R (l.trans l')
  | bad => exact h
theorem Po.goS {α β : Type} {m : Sto → Rs α} {k : α → Sto → Rt} {Rel1 : Wd → α → β → Prop} {σ : L2.St} {w : Wd} {S : Sto} {D : Ends} {Q1 : β → Hp → Prop} (h : PoS F f W w (toRt (m S) k) D)
    (hk : ∀ a b w1 H1 S1, m S = .ok a S1 → Rr F f w1 σ H1 S1 → Le w w1 → Rel1 w1 a b → PoS F f W w1 (k a S1) D → Q1 b H1) : Po F f W σ w (m S) Rel1 Q1 := by
  cases e : m S with
  | ok a S1 =>
    rw [e] at h
    exact fun b w1 H1 R1 l1 r1 => hk a b w1 H1 S1 e R1 l1 r1 (PoS.le l1 h)
  | ex c ns ds S1 =>
    rw [e] at h
    exact fun dx vs w' H' R' l' => h dx vs σ w' H' R' l'
  | bad =>
    rw [e] at h
    exact h
theorem Rd1.goS {α β : Type} {m : Sto → Rs α} {k : α → Sto → Rt} {Rel1 : Wd → α → β → Prop} {σ : L2.St} {H : Hp} {w : Wd} {S : Sto} {D : Ends} {Q1 : β → Hp → Prop}
    (R : Rr F f w σ H S) (h : PoS F f W w (toRt (m S) k) D)
    (hk : ∀ a b w1 H1 S1, m S = .ok a S1 → Rr F f w1 σ H1 S1 → Le w w1 → Rel1 w1 a b → PoS F f W w1 (k a S1) D → Q1 b H1) : Rd1 F f W m Rel1 σ H Q1 := ⟨w, S, R, Po.goS h hk⟩
theorem ss_pas : PS X (.Pass pos) (RS F f W fun S => .nx S) := psImp ps_pass fun D σ H ⟨w, S, R, h⟩ => h σ w H R (Le.refl _)
theorem ss_brk : PS X (.Break pos) (RS F f W fun S => .bk S) := psImp ps_break fun D σ H ⟨w, S, R, h⟩ => h σ w H R (Le.refl _)
theorem ss_cnt : PS X (.Continue pos) (RS F f W fun S => .ct S) := psImp ps_continue fun D σ H ⟨w, S, R, h⟩ => h σ w H R (Le.refl _)
theorem ss_retN : PS X (.Return none pos) (RS F f W fun S => .rt (.p .non) S) := psImp ps_retN fun D σ H ⟨w, S, R, h⟩ => h .non σ w H R (Le.refl _) rfl
theorem ss_nev {st : Stmt} : PS X st (RS F f W fun _ => .bad) := psImp ps_never fun D σ H ⟨w, S, R, h⟩ => h
theorem ss_ret (ha : PE X a (RE F f W ma)) : PS X (.Return (some a) pos) (RS F f W fun S => toRt (ma S) fun d S1 => .rt (.p d) S1) :=
  psImp (ps_ret ha) fun D σ H ⟨w, S, R, h⟩ => Rd1.goS R h fun d v w1 H1 S1 _ R1 l1 r1 h1 => h1 v σ w1 H1 R1 (Le.refl _) r1
theorem ss_exp (ha : PE X a (RE F f W ma)) (hs : swapsWith a none pos.line X.env = pure false) : PS X (.Expr a pos) (RS F f W fun S => toRt (ma S) fun _ S1 => .nx S1) :=
  psImp (ps_expr ha hs) fun D σ H ⟨w, S, R, h⟩ => Rd1.goS R h fun d v w1 H1 S1 _ R1 l1 r1 h1 => h1 σ w1 H1 R1 (Le.refl _)
theorem ss_nil : PSs X [] (RS F f W fun S => .nx S) := pssImp pss_nil fun D σ H ⟨w, S, R, h⟩ => h σ w H R (Le.refl _)
theorem ss_cons {st : Stmt} {rest : List Stmt} {m1 m2 : Sto → Rt} (h1 : PS X st (RS F f W m1)) (h2 : PSs X rest (RS F f W m2)) : PSs X (st :: rest) (RS F f W fun S => match m1 S with
    | .nx S1 => m2 S1
    | r => r) := by
  refine pssImp (pss_cons h1 h2) fun D σ H ⟨w, S, R, h⟩ => ⟨w, S, R, ?_⟩
  dsimp only at h
  cases e : m1 S with
  | nx S1 =>
    rw [e] at h
    exact fun σ' w' H' R' l' => ⟨w', S1, R', PoS.le l' h⟩
  | rt b S1 => rw [e] at h; exact h
  | bk S1 => rw [e] at h; exact h
  | ct S1 => rw [e] at h; exact h
  | ex _ _ _ _ => rw [e] at h; exact h
  | bad => rw [e] at h; exact h
theorem ss_iff {s1 s2 : List Stmt} {m1 m2 : Sto → Rt} (hc : PT X c (RB F f W mc)) (h1 : PSs X s1 (RS F f W m1)) (h2 : PSs X s2 (RS F f W m2)) :
    PS X (.If c s1 s2 pos) (RS F f W fun S => toRt (tst mc S) fun k S1 => if k = true then m1 S1 else m2 S1) := by
  refine psImp (ps_if hc h1 h2) fun D σ H ⟨w, S, R, h⟩ => ?_
  refine Rd1.goS (m := tst mc) R h fun k v w1 H1 S1 _ R1 l1 r1 h1 => ?_
  subst r1
  cases k with
  | true => exact ⟨w1, S1, R1, h1⟩
  | false => exact ⟨w1, S1, R1, h1⟩
/-- target = e -/
theorem ss_asg {tg : Tg} {tgE : Expr} (hK : X.K = F.K) (ha : PE X a (RE F f W ma)) (hg : PG X tgE (gT X.K tg)) (hs : swapsWithSole [tgE] a pos.line X.env = pure false) (hw : swappedStores [tgE] a X.env = pure none) (h1 : plainEs [tgE] = true) :
    PS X (.Assign [tgE] a pos) (RS F f W fun S => toRt (ma S) fun d S1 => match tgD tg d S1.r with
    | some r' => .nx ⟨r', S1.m⟩
    | none => .bad) := by
  refine psImp (ps_asg ha hg hs hw (by rw [assign_cons h1]; rfl)) fun D σ H ⟨w, S, R, h⟩ => ?_
  refine Rd1.goS R h fun d v w1 H1 S1 _ R1 l1 r1 h2 => ?_
  cases e : tgD tg d S1.r with
  | none => rw [e] at h2; exact h2.elim
  | some r' =>
    rw [e] at h2
    exact gT_ok hK tg R1 r1 e fun σ' R' _ => h2 σ' w1 H1 R' (Le.refl _)
theorem ss_asgC {i : Nat} {te : TE} {st : Stmt} (hb : PS X st (tAsg te (gName i))) (hi : ∀ (σ : L2.St) (H : Hp) (w : Wd) (S : Sto) (Q : VK), Rr F f w σ H S → Po F f W σ w (ma S) (Dn F) Q → te σ H Q) :
    PS X st (RS F f W fun S => toRt (ma S) fun d S1 => match tgD (.nm i) d S1.r with
    | some r' => .nx ⟨r', S1.m⟩
    | none => .bad) := by
  refine psImp hb fun D σ H ⟨w, S, R, h⟩ => hi σ H w S _ R ?_
  refine Po.goS h fun d v w1 H1 S1 _ R1 l1 r1 h2 => ?_
  cases e : tgD (.nm i) d S1.r with
  | none => rw [e] at h2; exact h2.elim
  | some r' =>
    rw [e] at h2
    have g := gT_ok (K := F.K) (Q := D.nx) rfl (.nm i) R1 r1 e fun σ' R' _ => h2 σ' w1 H1 R' (Le.refl _)
    simpa only [gT] using g
/-! ### objects that are the frame's own -/
/-- a new list that nobody else has -/
structure New (F : Fx) (f : Fm) (w : Wd) (σ : L2.St) (H : Hp) (S : Sto) (d : Dt) (a : Addr) : Prop where
  g : w.G a = none
  na : a ∉ w.A
  m : Mc F w H a d
  h : f.H0 a = none
  k : ¬ insB d = true
  n : ∀ (j : Nat) e, S.r[j]? = some (some (.o e)) → σ[j]? = some (some (.ref a)) → False
def PoN (F : Fx) (f : Fm) (W : WX) (σ : L2.St) (w : Wd) (r : Rs Dt) (Q : VK) : Prop := match r with
  | .ok d S' => ∀ a w' H', Rr F f w' σ H' S' → Le w w' → New F f w' σ H' S' d a → Q (.ref a) H'
  | .ex c ns ds S' => ∀ dx vs w' H', Rr F f w' σ H' S' → Le w w' → w'.G dx = some (.xd (ns.zip vs)) → ns.length = vs.length → Dns F w' ds vs → W (.ref (F.ca c)) (some dx) σ H'
  | .bad => False
def RN (F : Fx) (f : Fm) (W : WX) (m : Sto → Rs Dt) : TE := fun σ H Q => ∃ w S, Rr F f w σ H S ∧ PoN F f W σ w (m S) Q
theorem Rr.newL {w : Wd} {σ : L2.St} {H : Hp} {S : Sto} {p : Addr} {vs : List V} {ds : List Dt} (R : Rr F f w σ H S) (hp : H p = none) (r : Dns F w ds vs) : Rr F f w σ (upd H p (.lst vs)) S ∧ New F f w σ (upd H p (.lst vs)) S (.lst ds) p := by
  obtain ⟨g, a⟩ := R.cs.new hp
  refine ⟨R.fresh hp, ⟨g, a, ⟨vs, upd_same, r⟩, R.new0 hp, by simp [insB], fun j e q1 q2 => ?_⟩⟩
  obtain ⟨b, s1, _, _, m1, _⟩ := R.ow j e q1
  rw [q2] at s1
  cases s1
  obtain ⟨o, ho⟩ := m1.there
  rw [hp] at ho
  cases ho
theorem sn_lst {es : List Expr} {ms : Sto → Rs (List Dt)} (hs : PA X es (REs F f W ms)) : PE X (.List es pos) (RN F f W fun S => (ms S).bind fun ds S1 => if ds.length ≤ sizeLine then .ok (.lst ds) S1 else .bad) := by
  refine peImp (pe_lst hs) fun σ H Q ⟨w, S, R, h⟩ => ⟨w, S, R, ?_⟩
  dsimp only at h
  cases q : ms S with
  | bad => rw [q] at h; exact h
  | ex c ns ds S' => rw [q] at h; exact h
  | ok ds S1 =>
    rw [q] at h
    have h : PoN F f W σ w (if ds.length ≤ sizeLine then .ok (.lst ds) S1 else .bad) Q := h
    split at h
    · rename_i hl
      intro vs w' H' R' l' r'
      refine ⟨by rw [← r'.length]; exact hl, fun p hp => ?_⟩
      obtain ⟨R2, n2⟩ := R'.newL hp r'
      exact h p w' _ R2 l' n2
    · exact h.elim
theorem sn_comp {own : List (Str × Nat)} {tg : Tg} {mi me mc : Sto → Rs Dt} (hK : X.K = F.K) (hsl : ∀ i ∈ tgSl tg, i ∈ own.map (·.2)) {σ : L2.St} {H : Hp} {w : Wd} {S : Sto} {Q : VK} (R : Rr F f w σ H S) (h : PoN F f W σ w ((mi S).bind (compR me mc tg (own.map (·.2)))) Q) :
    tLc (RI F f W mi) (gT X.K tg) (fun σ H Q => ∃ f', RB F f' W0 mc σ H Q) (fun σ H Q => ∃ f', RE F f' W0 me σ H Q) (own.map (·.2)) σ H Q := by
  refine comp_core hK hsl R ?_
  cases q : mi S with
  | bad => rw [q] at h; exact h
  | ex c ns ds S' => rw [q] at h; exact h
  | ok d S1 =>
    rw [q] at h
    have h : PoN F f W σ w (compR me mc tg (own.map (·.2)) d S1) Q := h
    rcases compR_ok (me := me) (mc := mc) (tg := tg) (vs := own.map (·.2)) (x := d) (S1 := S1) with e | ⟨ds, acc, S2, e1, e2, e3, e4, e5⟩
    · rw [e] at h; exact h.elim
    · rw [e5] at h
      exact ⟨ds, acc, S2, e1, e2, e3, e4, fun D w' H' R' l g a m0 h0 no => h D w' H' R' l ⟨g, a, m0, h0, by simp [insB], no⟩⟩
theorem sn_list {P : Pg} {cf : Nat → List Dt → List Dt → Rc} {p : Pos} (hK : X.K = F.K) (hgl : Gl X "list") (hm : X.mg "list" = none) (hp : plainEs [a] = true) (ha : PE X a (RE F f W ma)) :
    PE X (.Call (.Name "list" p) [a] [] pos) (RN F f W fun S => ((ma S).bind fun d S1 => .ok [d] S1).bind fun ds S1 => bi1 P cf .list ds S1) := by
  refine peImp (pe_callTy call_list_of hgl hm boot_list (pa_cons ha pa_nil (star_cons hp)) (by decide) (by decide) (star_cons hp) (star_any (plain_tail hp))) fun σ H Q ⟨w, S, R, h⟩ => ⟨w, S, R, ?_⟩
  dsimp only at h
  cases q : ma S with
  | bad => rw [q] at h; exact h
  | ex c ns ds S' => rw [q] at h; exact h
  | ok d S1 =>
    rw [q] at h
    intro v w' H' R' l' dn
    cases d with
    | lst ds =>
      obtain ⟨a, vs, rfl, g1, r1⟩ := dn
      refine ⟨a, vs, rfl, .inl (SqL.of (R'.cs.fr _ _ g1)), fun p hp => ?_⟩
      obtain ⟨R2, n2⟩ := R'.newL hp r1
      exact h p w' _ R2 l' n2
    | tup ds =>
      obtain ⟨a, vs, rfl, g1, r1⟩ := dn
      refine ⟨a, vs, rfl, .inr (by rw [hK]; exact sqT_mono R'.cs.fr g1), fun p hp => ?_⟩
      obtain ⟨R2, n2⟩ := R'.newL hp r1
      exact h p w' _ R2 l' n2
    | _ => exact (h : False).elim
theorem PoN.goS {m : Sto → Rs Dt} {k : Dt → Sto → Rt} {σ : L2.St} {w : Wd} {S : Sto} {D : Ends} {Q1 : VK} (h : PoS F f W w (toRt (m S) k) D)
    (hk : ∀ d a w1 H1 S1, m S = .ok d S1 → Rr F f w1 σ H1 S1 → Le w w1 → New F f w1 σ H1 S1 d a → PoS F f W w1 (k d S1) D → Q1 (.ref a) H1) : PoN F f W σ w (m S) Q1 := by
  cases e : m S with
  | ok a S1 =>
    rw [e] at h
    exact fun b w1 H1 R1 l1 r1 => hk a b w1 H1 S1 e R1 l1 r1 (PoS.le l1 h)
  | ex c ns ds S1 =>
    rw [e] at h
    exact fun dx vs w' H' R' l' => h dx vs σ w' H' R' l'
  | bad =>
    rw [e] at h
    exact h
/-- x = a new list -/
theorem ss_asgO {i : Nat} {te : TE} {st : Stmt} (hb : PS X st (tAsg te (gName i))) (hi : ∀ (σ : L2.St) (H : Hp) (w : Wd) (S : Sto) (Q : VK), Rr F f w σ H S → PoN F f W σ w (ma S) Q → te σ H Q) :
    PS X st (RS F f W fun S => toRt (ma S) fun d S1 => if i < S1.r.length then .nx ⟨S1.r.set i (some (.o d)), S1.m⟩ else .bad) := by
  refine psImp hb fun D σ H ⟨w, S, R, h⟩ => hi σ H w S _ R ?_
  refine PoN.goS h fun d a w1 H1 S1 _ R1 l1 n1 h2 => ?_
  split at h2
  · exact h2 _ w1 H1 (R1.setO n1.g n1.na n1.m ⟨.inl n1.h, fun z => absurd z n1.k⟩ n1.n) (Le.refl _)
  · exact h2.elim
theorem ss_retF (ha : PE X a (RN F f W ma)) : PS X (.Return (some a) pos) (RS F f W fun S => toRt (ma S) fun d S1 => .rt (.o d) S1) :=
  psImp (ps_ret ha) fun D σ H ⟨w, S, R, h⟩ => ⟨w, S, R, PoN.goS h fun d a w1 H1 S1 _ R1 l1 n1 h1 => h1 (.ref a) σ w1 H1 R1 (Le.refl _) ⟨a, rfl, n1.g, n1.na, n1.m, n1.h⟩⟩
theorem ss_retO {i : Nat} {x : Str} (hN : X.N[i]? = some x) (hv : Vis X.env.scope x) (hd : (x == ("__debug__" : Str)) = false) (hcd : (x == ("__classdict__" : Str)) = false) (hx : f.ex = []) :
    PS X (.Return (some (.Name x pos')) pos) (RS F f W fun S => match S.r[i]? with
    | some (some (.o (.lst ds))) => .rt (.o (.lst ds)) S
    | _ => .bad) := by
  refine psImp (ps_ret (pe_var hN hv hd hcd)) fun D σ H ⟨w, S, R, h⟩ => ?_
  dsimp only at h
  split at h
  · rename_i ds e
    obtain ⟨a, s1, g1, a1, m1, f1⟩ := R.ow i _ e
    refine ⟨.ref a, s1, h (.ref a) σ w H R (Le.refl _) ⟨a, rfl, g1, a1, m1, ?_⟩⟩
    rcases f1.1 with z | z
    · exact z
    · rw [hx] at z; cases z
  · exact h.elim
end
end PyI
namespace PyI
open PySem PySem.Spec PyProof.Rows L2
section
variable {X : Cx} {F : Fx} {f : Fm} {W : WX} {a b c : Expr} {pos pos' apos : Pos} {ma mb mc mo mi me : Sto → Rs Dt}
/-- a, b = e1, e2 with plain local names -/
theorem ss_par {i j : Nat} {x y : Str} {px py pt pt2 : Pos} {kt k2 : Nat} (hc : X.calm = true) (hN : X.N.Nodup) (hi : X.N[i]? = some x) (hj : X.N[j]? = some y) (hij : i ≠ j) (hx : X.env.scope.names.lookup x = some .local) (hy : X.env.scope.names.lookup y = some .local) (hp : plainEs [a, b] = true)
    (ha : PE X a (RE F f W ma)) (hb : PE X b (RE F f W mb)) (hw : swappedStores [.Tuple [.Name x px, .Name y py] kt pt] (.Tuple [a, b] k2 pt2) X.env = pure (some [x, y])) :
    PS X (.Assign [.Tuple [.Name x px, .Name y py] kt pt] (.Tuple [a, b] k2 pt2) pos) (RS F f W fun S => toRt (ma S) fun x S1 => toRt (mb S1) fun y S2 => if i < S2.r.length ∧ j < S2.r.length then .nx ⟨(S2.r.set i (some (.p x))).set j (some (.p y)), S2.m⟩ else .bad) := by
  have hp2 := plain_tail hp
  refine psImp (ps_par hc hN hi hj hij hx hy (pa_cons ha (pa_cons hb pa_nil (star_cons hp2)) (star_cons hp)) hw) fun D σ H ⟨w, S, R, h⟩ => ?_
  refine Rd1.goS R h fun d v w1 H1 S1 _ R1 l1 r1 h1 => ?_
  refine Rd1.goS R1 h1 fun e u w2 H2 S2 _ R2 l2 r2 h2 => ?_
  split at h2
  · exact ⟨v, u, rfl, h2 _ w2 H2 ((R2.setP (Dn.mono l2 d r1)).setP r2) (Le.refl _)⟩
  · exact h2.elim
/-! ### stores into cells -/
theorem setC_ok {w : Wd} {σ : L2.St} {H : Hp} {S : Sto} {o i d : Dt} {x y z : V} {m' : List Dt} {Q : Hp → Prop} (R : Rr F f w σ H S) (hx : Dn F w o x) (hy : Dn F w i y) (hz : Dn F w d z) (e : setC S.m o i d = some m') (q : ∀ H', Rr F f w σ H' ⟨S.r, m'⟩ → Q H') : rSetL x y z H Q := by
  unfold setC at e
  split at e
  · rename_i k j
    split at e
    · rename_i ds hm
      obtain ⟨a, rfl, ha⟩ := hx
      obtain ⟨vs, hv, rv⟩ := R.cs.co k a _ ha hm
      cases e2 : ixN ds.length j with
      | none => rw [e2] at e; cases e
      | some n =>
        rw [e2] at e
        cases e
        refine ⟨a, vs, j, n, rfl, hy, hv, by rw [← rv.length]; exact e2, q _ ?_⟩
        exact R.cell ha (fun b hb => upd_ne hb) ⟨vs.set n z, upd_same, Dns.set hz n rv⟩
    · cases e
  · cases e
/-- o[i] = e, o a cell -/
theorem ss_put {o i e : Expr} (ho : PE X o (RE F f W mo)) (hi : PE X i (RE F f W mi)) (he : PE X e (RE F f W me)) (hs : swapsWithSole [.Subscript o i apos] e pos.line X.env = pure false) (hw : swappedStores [.Subscript o i apos] e X.env = pure none)
    (hA : ∀ v, assign (.Subscript o i apos) X.env v = (do
      let ov ← holding [v] (eval o X.env)
      let iv ← holding [v, ov] (eval i X.env)
      standAt apos
      holding [v, ov, iv] (setItem ov iv v)
      release [v, ov, iv] [])) :
    PS X (.Assign [.Subscript o i apos] e pos) (RS F f W fun S => toRt (me S) fun d S1 => toRt (mo S1) fun x S2 => toRt (mi S2) fun y S3 => match setC S3.m x y d with
    | some m' => .nx ⟨S3.r, m'⟩
    | none => .bad) := by
  refine psImp (ps_asg he (pg_sub ho hi set_list hA) hs hw) fun D σ H ⟨w, S, R, h⟩ => ?_
  refine Rd1.goS R h fun d z w1 H1 S1 _ R1 l1 r1 h1 => ?_
  refine Rd1.goS R1 h1 fun d2 x w2 H2 S2 _ R2 l2 r2 h2 => ?_
  refine Rd1.goS R2 h2 fun d3 y w3 H3 S3 _ R3 l3 r3 h3 => ?_
  cases e : setC S3.m d2 d3 d with
  | none => rw [e] at h3; exact h3.elim
  | some m' =>
    rw [e] at h3
    exact setC_ok R3 (Dn.mono l3 _ r2) r3 (Dn.mono (l2.trans l3) _ r1) e fun H' R' => h3 σ w3 H' R' (Le.refl _)
/-- o[i], x = e -/
theorem ss_tsub {o i e : Expr} {j : Nat} {x : Str} {kt : Nat} {px pt : Pos} (hK : X.K = F.K) (hc : X.calm = true) (hN : X.N.Nodup) (hj : X.N[j]? = some x) (hl : Loc X.env.scope x) (hf : X.fn x = true ∨ X.env.scope.names.lookup x = some .local)
    (ho : PE X o (RE F f W mo)) (hi : PE X i (RE F f W mi)) (he : PE X e (RE F f W me)) (hs : swapsWithSole [.Tuple [.Subscript o i apos, .Name x px] kt pt] e pos.line X.env = pure false) (hw : swappedStores [.Tuple [.Subscript o i apos, .Name x px] kt pt] e X.env = pure none)
    (hA : ∀ v, assign (.Subscript o i apos) X.env v = (do
      let ov ← holding [v] (eval o X.env)
      let iv ← holding [v, ov] (eval i X.env)
      standAt apos
      holding [v, ov, iv] (setItem ov iv v)
      release [v, ov, iv] [])) :
    PS X (.Assign [.Tuple [.Subscript o i apos, .Name x px] kt pt] e pos) (RS F f W fun S => toRt (me S) fun t S1 => match t with
    | .tup [d1, d2] => toRt (mo S1) fun x S2 => toRt (mi S2) fun y S3 => match setC S3.m x y d1 with
      | some m' => if j < S3.r.length then .nx ⟨S3.r.set j (some (.p d2)), m'⟩ else .bad
      | none => .bad
    | _ => .bad) := by
  refine psImp (ps_asg he (pg_tup (n := 2) hc (pgs_cons (pg_sub ho hi set_list hA) (pgs_cons (pg_name hN hj hl hf) pgs_nil))) hs hw) fun D σ H ⟨w, S, R, h⟩ => ?_
  refine Rd1.goS R h fun t z w1 H1 S1 em R1 l1 r1 h1 => ?_
  clear em
  split at h1
  · rename_i d1 d2
    obtain ⟨p, vs, rfl, sq, v1, r', rfl, k1, v2, r'', rfl, k2, k3⟩ := r1
    cases k3
    refine ⟨p, [v1, v2], rfl, by rw [hK]; exact sqT_mono R1.cs.fr sq, rfl, v1, [v2], rfl, ?_⟩
    refine Rd1.goS R1 h1 fun dx x w2 H2 S2 _ R2 l2 r2 h2 => ?_
    refine Rd1.goS R2 h2 fun dy y w3 H3 S3 _ R3 l3 r3 h3 => ?_
    cases e : setC S3.m dx dy d1 with
    | none => rw [e] at h3; exact h3.elim
    | some m' =>
      rw [e] at h3
      dsimp only at h3
      split at h3
      · refine setC_ok R3 (Dn.mono l3 _ r2) r3 (Dn.mono (l2.trans l3) _ k1) e fun H' R' => ⟨v2, [], rfl, rfl, ?_⟩
        exact h3 _ w3 H' (R'.setP (Dn.mono (l2.trans l3) _ k2)) (Le.refl _)
      · exact h3.elim
  · exact h1.elim
/-! ### stores into the frame's own objects -/
theorem ss_putB {n : Nat} {x : Str} {i e : Expr} (hN : X.N[n]? = some x) (hv : Vis X.env.scope x) (hd : (x == ("__debug__" : Str)) = false) (hcd : (x == ("__classdict__" : Str)) = false) (hi : PE X i (RE F f W mi)) (he : PE X e (RE F f W me))
    (hs : swapsWithSole [.Subscript (.Name x pos') i apos] e pos.line X.env = pure false) (hw : swappedStores [.Subscript (.Name x pos') i apos] e X.env = pure none)
    (hA : ∀ v, assign (.Subscript (.Name x pos') i apos) X.env v = (do
      let ov ← holding [v] (eval (.Name x pos') X.env)
      let iv ← holding [v, ov] (eval i X.env)
      standAt apos
      holding [v, ov, iv] (setItem ov iv v)
      release [v, ov, iv] [])) :
    PS X (.Assign [.Subscript (.Name x pos') i apos] e pos) (RS F f W fun S => toRt (me S) fun d S1 => match S1.r[n]? with
    | some (some (.o _)) => toRt (mi S1) fun y S2 => match S2.r[n]?, y with
      | some (some (.o (.lst ds))), .int j => match ixN ds.length j with
        | some k => .nx ⟨S2.r.set n (some (.o (.lst (ds.set k d)))), S2.m⟩
        | none => .bad
      | _, _ => .bad
    | _ => .bad) := by
  refine psImp (ps_asg he (pg_sub (pe_var hN hv hd hcd) hi set_list hA) hs hw) fun D σ H ⟨w, S, R, h⟩ => ?_
  refine Rd1.goS R h fun d z w1 H1 S1 em R1 l1 r1 h1 => ?_
  clear em
  split at h1
  · rename_i d0 e0
    obtain ⟨a0, s0, _⟩ := R1.ow n _ e0
    refine ⟨.ref a0, s0, ?_⟩
    refine Rd1.goS R1 h1 fun dy y w2 H2 S2 em R2 l2 r2 h2 => ?_
    clear em
    split at h2
    · rename_i ds j e1
      obtain ⟨a, s1, _, _, ⟨vs, g1, rv⟩, _⟩ := R2.ow n _ e1
      rw [s0] at s1
      cases s1
      cases e2 : ixN ds.length j with
      | none => rw [e2] at h2; exact h2.elim
      | some k =>
        rw [e2] at h2
        refine ⟨a0, vs, j, k, rfl, r2, g1, by rw [← rv.length]; exact e2, h2 σ w2 _ (R2.write e1 s0 (fun b hb => upd_ne hb) ⟨vs.set k z, upd_same, Dns.set (Dn.mono l2 _ r1) k rv⟩ rfl) (Le.refl _)⟩
    · exact h2.elim
  · exact h1.elim
/-- x.append(e) -/
theorem ss_app {n : Nat} {x : Str} {e : Expr} {cpos : Pos} (hN : X.N[n]? = some x) (hv : Vis X.env.scope x) (hd : (x == ("__debug__" : Str)) = false) (hcd : (x == ("__classdict__" : Str)) = false) (hp : plainEs [e] = true) (he : PE X e (RE F f W me)) (hline : (apos.endLine == cpos.line) = true) (hcalm : X.calm = true) :
    PS X (.Expr (.Call (.Attribute (.Name x pos') "append" apos) [e] [] cpos) pos) (RS F f W fun S => match S.r[n]? with
    | some (some (.o (.lst _))) => toRt (me S) fun d S1 => match S1.r[n]? with
      | some (some (.o (.lst ds))) => if ds.length < sizeLine then .nx ⟨S1.r.set n (some (.o (.lst (ds ++ [d])))), S1.m⟩ else .bad
      | _ => .bad
    | _ => .bad) := by
  refine psImp (ps_expr (pe_bm PySem.F.plainAttrs_list PySem.F.slot_list_append PySem.F.type_list_append mt_append (pe_var hN hv hd hcd) (pa_cons he pa_nil (star_cons hp)) rfl (by rw [star_cons hp]; rfl) hline (star_cons hp) (star_any (plain_tail hp)))) fun D σ H ⟨w, S, R, h⟩ => ?_
  dsimp only at h
  split at h
  · rename_i d0 e0
    obtain ⟨a0, s0, _, _, ⟨vs0, g0, _⟩, _⟩ := R.ow n _ e0
    refine ⟨.ref a0, s0, .inl ⟨rfl, vs0, SqL.of g0⟩, ?_⟩
    refine Rd1.goS R h fun d z w1 H1 S1 em R1 l1 r1 h1 => ?_
    clear em
    split at h1
    · rename_i ds e1
      obtain ⟨a, s1, _, _, ⟨vs, g1, rv⟩, _⟩ := R1.ow n _ e1
      rw [s0] at s1
      cases s1
      split at h1
      · rename_i hl
        refine ⟨a0, vs, z, rfl, rfl, g1, by rw [← rv.length]; exact hl, ?_⟩
        exact h1 σ w1 _ (R1.write e1 s0 (fun b hb => upd_ne hb) ⟨vs ++ [z], upd_same, rv.append (show Dns F w1 [d] [z] from ⟨z, [], rfl, r1, rfl⟩)⟩ rfl) (Le.refl _)
      · exact h1.elim
    · exact h1.elim
  · exact h.elim
theorem putF_zip {f0 : Str} {d : Dt} {y : V} {w : Wd} (hd : Dn F w d y) : ∀ {ns : List Str} {ds : List Dt} {vs : List V}, Dns F w ds vs → ns.length = vs.length → ∃ us, putF f0 y (ns.zip vs) = (putD f0 d ns ds).1.zip us ∧ (putD f0 d ns ds).1.length = us.length ∧ Dns F w (putD f0 d ns ds).2 us
  | [], [], vs, h, _ => by
    cases h
    exact ⟨[y], rfl, rfl, y, [], rfl, hd, rfl⟩
  | [], _ :: _, _, ⟨_, _, e, _, _⟩, hl => by subst e; cases hl
  | _ :: _, [], _, h, hl => by cases h; cases hl
  | n :: ns, d0 :: ds, _, ⟨v, r, e, h1, h2⟩, hl => by
    subst e
    unfold putD
    rw [List.zip_cons_cons]
    unfold putF
    by_cases q : f0 = n
    · rw [if_pos q, if_pos q.symm]
      exact ⟨y :: r, rfl, by simpa using hl, y, r, rfl, hd, h2⟩
    · rw [if_neg q, if_neg (fun z => q z.symm)]
      obtain ⟨us, k1, k2, k3⟩ := putF_zip hd (ns := ns) h2 (by simpa using hl)
      exact ⟨v :: us, by rw [k1]; rfl, by simp [k2], v, us, rfl, h1, k3⟩
/-- self.f = e -/
theorem ss_fld {x fl : Str} {e : Expr} {P : Pg} (T : ClsT X.K F P) (hN : X.N[0]? = some x) (hv : Vis X.env.scope x) (hd : (x == ("__debug__" : Str)) = false) (hcd : (x == ("__classdict__" : Str)) = false) (he : PE X e (RE F f W me))
    (hs : swapsWith e (some (.Attribute (.Name x pos') fl apos)) pos.line X.env = pure false) :
    PS X (.Assign [.Attribute (.Name x pos') fl apos] e pos) (RS F f W fun S => toRt (me S) fun d S1 => match S1.r[(0 : Nat)]? with
    | some (some (Bn.o (Dt.ins c ns vs))) => if P.fld c fl = true ∧ ns.length < 1000 then .nx ⟨S1.r.set 0 (some (.o (.ins c (putD fl d ns vs).1 (putD fl d ns vs).2))), S1.m⟩ else .bad
    | _ => .bad) := by
  refine psImp (ps_fld (pe_var hN hv hd hcd) he hs) fun D σ H ⟨w, S, R, h⟩ => ?_
  refine Rd1.goS R h fun d z w1 H1 S1 em R1 l1 r1 h1 => ?_
  clear em
  split at h1
  · rename_i c ns ds e1
    obtain ⟨a, s1, g1, a1, ⟨dx, vs, hh, hl, rv⟩, f1⟩ := R1.ow 0 _ e1
    split at h1
    · rename_i hc
      obtain ⟨hf, hn⟩ := hc
      unfold Pg.fld at hf
      cases q : P.cl[c]? with
      | none => rw [q] at hf; cases hf
      | some cx =>
        rw [q] at hf
        have tc := T c cx q
        refine ⟨.ref a, s1, a, F.ca c, dx, ns.zip vs, rfl, hh, tc.cls, tc.noat fl (by simpa using hf), by rw [List.length_zip, ← hl, Nat.min_self]; exact hn, ?_⟩
        obtain ⟨us, k1, k2, k3⟩ := putF_zip (f0 := fl) r1 rv hl
        rw [k1]
        exact h1 σ w1 _ (R1.write e1 s1 (fun b hb => upd_ne hb) ⟨dx, us, upd_same, k2, k3⟩ rfl) (Le.refl _)
    · exact h1.elim
  · exact h1.elim
/-! ### loops -/
/-- the state of a for at a turn -/
structure Fo (F : Fx) (f : Fm) (W : WX) (w0 : Wd) (mb : Sto → Rt) (tg : Tg) (all : List Dt) (D : Ends) (i : Nat) (σ : L2.St) (H : Hp) : Prop where
  st : ∃ w S, Le w0 w ∧ Rr F f w σ H S ∧ PoS F f W w (forL mb tg (all.drop i) S) D
theorem ss_for {tg : Tg} {tgE iter : Expr} {body : List Stmt} {mb : Sto → Rt} (hK : X.K = F.K) (hown : PassesOwn (model X.prog X.w) X.A X.env X.xe) (hc : X.calm = true) (hi : PI X tgE iter (RI F f W mi)) (hg : PG X tgE (gT X.K tg)) (hb : PSs X body (RS F f W mb)) (hs : ∀ x, foldedSetIterable iter X.env x = pure x) :
    PS X (.For tgE iter body [] pos) (RS F f W fun S => toRt (mi S) fun d S1 => match itemsD d with
    | some ds => forL mb tg ds S1
    | none => .bad) := by
  refine psImp (ps_for hown hc hi hg hb hs) fun D σ H ⟨w, S, R, h⟩ => ⟨w, S, R, ?_⟩
  dsimp only at h
  cases q : mi S with
  | bad => rw [q] at h; exact h
  | ex c ns ds S' => rw [q] at h; exact fun dx vs w' H' R' l' => h dx vs σ w' H' R' l'
  | ok d S1 =>
    rw [q] at h
    have h : PoS F f W w (match itemsD d with
      | some ds => forL mb tg ds S1
      | none => .bad) D := h
    cases ei : itemsD d with
    | none => rw [ei] at h; exact h.elim
    | some ds =>
      rw [ei] at h
      refine ⟨ds, ei, fun w' H' J R' l itw => ?_⟩
      refine for_it itw (fun i σ H => Fo F f W w' mb tg ds D i σ H) ⟨w', S1, Le.refl _, R', by rw [List.drop_zero]; exact PoS.le l h⟩ ?_ ?_ ?_
      · rintro i σ2 H2 _ ⟨w2, S2, l2, R2, _⟩ a o e
        exact R2.cs.fr a o (l2.g a o e)
      · rintro i x σ2 H2 H3 hi ⟨w2, S2, l2, R2, h2⟩ ⟨dx, edx, yq⟩
        have edrop : ds.drop i = dx :: ds.drop (i + 1) := by
          rw [List.drop_eq_getElem_cons hi]
          rw [List.getElem?_eq_getElem hi] at edx
          cases edx
          rfl
        rw [edrop] at h2
        unfold forL at h2
        obtain ⟨w3, R3, l3, dn3⟩ : ∃ w3, Rr F f w3 σ2 H3 S2 ∧ Le w2 w3 ∧ Dn F w3 dx x := by
          rcases yq with ⟨e1, e2⟩ | ⟨T, tv, es, e1, e2, e3, e4, e5⟩
          · subst e1
            exact ⟨w2, R2, Le.refl _, Dn.mono l2 _ e2⟩
          · subst e1
            subst e2
            subst e4
            have al := R2.alloc (o := .tup tv) e3
            exact ⟨_, al.1, al.2, ⟨T, tv, rfl, SqT.of upd_same, Dns.mono (l2.trans al.2) es e5⟩⟩
        cases et : tgD tg dx S2.r with
        | none => rw [et] at h2; exact h2.elim
        | some r' =>
          rw [et] at h2
          refine gT_ok hK tg R3 dn3 et fun σ4 R4 _ => ⟨w3, ⟨r', S2.m⟩, R4, ?_⟩
          dsimp only at h2
          have h2 := PoS.le l3 h2
          cases eb : mb ⟨r', S2.m⟩ with
          | nx S5 => rw [eb] at h2; exact fun σ' w' H' R' l' => ⟨w', S5, l2.trans (l3.trans l'), R', PoS.le l' h2⟩
          | ct S5 => rw [eb] at h2; exact fun σ' w' H' R' l' => ⟨w', S5, l2.trans (l3.trans l'), R', PoS.le l' h2⟩
          | bk S5 => rw [eb] at h2; exact h2
          | rt b S5 => rw [eb] at h2; exact h2
          | ex _ _ _ _ => rw [eb] at h2; exact h2
          | bad => rw [eb] at h2; exact h2
      · rintro σ2 H2 ⟨w2, S2, l2, R2, h2⟩
        rw [List.drop_length] at h2
        unfold forL at h2
        exact h2 σ2 w2 H2 R2 (Le.refl _)
theorem ss_whl {body : List Stmt} {mb : Sto → Rt} {n : Nat} (hown : PassesOwn (model X.prog X.w) X.A X.env X.xe) (hc : PT X c (RB F f W mc)) (hb : PSs X body (RS F f W mb)) :
    PS X (.While c body [] pos) (RS F f W fun S => whL (tst mc) mb n S) := by
  refine psImp (ps_while hown hc hb) fun D σ H ⟨w, S, R, h⟩ => ?_
  refine ⟨fun m σ H => ∃ w S, Rr F f w σ H S ∧ PoS F f W w (whL (tst mc) mb m S) D, ⟨n, w, S, R, h⟩, ?_⟩
  rintro m σ2 H2 ⟨w2, S2, R2, h2⟩
  cases m with
  | zero => exact h2.elim
  | succ m =>
    unfold whL at h2
    refine Rd1.goS (m := tst mc) R2 h2 fun k v w3 H3 S3 _ R3 l3 r3 h3 => ?_
    subst r3
    cases k with
    | false => exact h3 σ2 w3 H3 R3 (Le.refl _)
    | true =>
      refine ⟨fun σ' H' => ∃ m', m' < m + 1 ∧ ∃ w S, Rr F f w σ' H' S ∧ PoS F f W w (whL (tst mc) mb m' S) D, fun _ _ q => q, w3, S3, R3, ?_⟩
      have h3 : PoS F f W w3 (match mb S3 with
        | .nx S' => whL (tst mc) mb m S'
        | .ct S' => whL (tst mc) mb m S'
        | .bk S' => .nx S'
        | r => r) D := h3
      cases eb : mb S3 with
      | nx S5 => rw [eb] at h3; exact fun σ' w' H' R' l' => ⟨m, Nat.lt_succ_self m, w', S5, R', PoS.le l' h3⟩
      | ct S5 => rw [eb] at h3; exact fun σ' w' H' R' l' => ⟨m, Nat.lt_succ_self m, w', S5, R', PoS.le l' h3⟩
      | bk S5 => rw [eb] at h3; exact h3
      | rt b S5 => rw [eb] at h3; exact h3
      | ex _ _ _ _ => rw [eb] at h3; exact h3
      | bad => rw [eb] at h3; exact h3
/-- x op= e, x an instance of an own class -/
theorem ss_aug {i k : Nat} {x : Str} {e : Expr} {op : Operator} {pos' : Pos} {P : Pg} {cf : Nat → List Dt → List Dt → Rc} (hK : X.K = F.K) (T : ClsT X.K F P) (FT : FnsT X F P k cf) (hr : Room k X.A) (hg : X.A.guards = some []) (tk : Takes X W) (hsh : OpSh P)
    (hN : X.N.Nodup) (hi : X.N[i]? = some x) (hx : Loc X.env.scope x) (hf : X.fn x = true) (he : PE X e (RE F f W me)) :
    PS X (.AugAssign (.Name x pos') op e pos) (RS F f W fun S => match S.r[i]? with
    | some (some (.p x)) => toRt (me S) fun y S1 => toRt (aug1 P cf op x y S1) fun z S2 => if i < S2.r.length then .nx ⟨S2.r.set i (some (.p z)), S2.m⟩ else .bad
    | _ => .bad) := by
  refine ⟨fun pins s σ H D I h => ?_⟩
  obtain ⟨w, S, R, h⟩ := h
  dsimp only at h
  split at h
  · rename_i a ea
    obtain ⟨v, e1, dn⟩ := R.pu i a ea
    obtain ⟨m, hn, hl⟩ := I.loc
    have vis : Vis X.env.scope x := by
      rcases hx with z | z
      · exact .inl z
      · exact .inr (.inl z)
    obtain ⟨u, ru, l⟩ := hl i x v hi e1 vis
    refine wpAny_AugAssign_Name ?_
    have go : wpAny (model X.prog X.w) X.A (eval e X.env) (fun y s2 => wpAny (model X.prog X.w) X.A (inplaceOp op u y) (fun z s3 => wpAny (model X.prog X.w) X.A (storeName X.env x z) (fun _ => SP X pins D .next) X.xe s3) X.xe s2) X.xe s := by
      refine thn (he.run pins s σ H (fun y H1 => ∃ w1 S1 d2, Rr F f w1 σ H1 S1 ∧ Le w w1 ∧ Dn F w1 d2 y ∧ PoS F f W w1 (toRt (aug1 P cf op a d2 S1) fun z S2 => if i < S2.r.length then .nx ⟨S2.r.set i (some (.p z)), S2.m⟩ else .bad) D) I (Rd1.goS R h fun d y w1 H1 S1 _ R1 l1 r1 h2 => ⟨w1, S1, d, R1, l1, r1, h2⟩)) fun y s1 ⟨yv, H1, I1, ry, w1, S1, d2, R1, l1, dn2, h2⟩ => ?_
      cases a with
      | ins c ns vs =>
        have h2 : PoS F f W w1 (toRt (bin1 P cf op (.ins c ns vs) d2 S1) fun z S2 => if i < S2.r.length then .nx ⟨S2.r.set i (some (.p z)), S2.m⟩ else .bad) D := h2
        have po := Po.goS (m := fun S => bin1 P cf op (.ins c ns vs) d2 S) (Rel1 := Dn F) (σ := σ) (Q1 := fun z H2 => ∃ w2 S2 d3, Rr F f w2 σ H2 S2 ∧ Dn F w2 d3 z ∧ PoS F f W w2 (if i < S2.r.length then .nx ⟨S2.r.set i (some (.p d3)), S2.m⟩ else .bad) D) h2 fun d3 z w2 H2 S2 _ R2 _ r3 h3 => ⟨w2, S2, d3, R2, r3, h3⟩
        rcases bin1_own po with ⟨c', ns', vs', cx, g, ec, qc, e2, ht, q⟩ | ⟨hne, _⟩
        · cases ec
          obtain ⟨p, dx, od, ev, J, hin, z⟩ := op1_own (f0 := f) (τ := σ) hK T FT hr hg tk hsh I1 R1 (Dn.mono l1 _ dn) dn2 ru ry qc e2 ht q
          subst ev
          refine thn (inpl_of I1.kIn J hin z) fun zv s2 ⟨zz, H2, I2, rz, w2, S2, d3, R2, dn3, h3⟩ => ?_
          split at h3
          · exact store_ok I2 hN hi hx rz (fun s3 I3 => ⟨_, H2, I3, h3 (σ.set i (some zz)) w2 H2 (R2.setP dn3) (Le.refl _)⟩) (.inl hf)
          · exact h3.elim
        · exact absurd rfl (hne c ns vs)
      | _ => exact h2.elim
    rcases l with ⟨hk, hm⟩ | ⟨hk, c, hc, hcell⟩
    · exact wpAny_loadName_local I.ok.kind hk hn hm go
    · rcases hk with hk | hk
      · exact wpAny_loadName_cell I.ok.kind hk hc hcell go
      · have hk : X.env.scope.names.lookup x = some .free := hk
        rcases hx with z | z <;> (rw [z] at hk; cases hk)
  · exact h.elim
end
end PyI
namespace PyI
open PySem PySem.Spec PyProof.Rows L2
/-! side checks -/
def visB (sc : Scope) (x : Str) : Bool := match sc.names.lookup x with
  | some .local => true
  | some .cell => true
  | some .free => true
  | _ => false
theorem vis_of {sc : Scope} {x : Str} (h : visB sc x = true) : Vis sc x := by
  unfold visB at h
  split at h
  · exact .inl (by assumption)
  · exact .inr (.inl (by assumption))
  · exact .inr (.inr (by assumption))
  · cases h
def glB (sc : Scope) (x : Str) : Bool := match sc.names.lookup x with
  | some .globalImplicit => true
  | _ => false
theorem gl_of {X : Cx} {x : Str} (h : glB X.env.scope x = true) : Gl X x := by
  unfold glB at h
  split at h
  · assumption
  · cases h
def loB (sc : Scope) (x : Str) : Bool := match sc.names.lookup x with
  | some .local => true
  | _ => false
theorem lo_of {sc : Scope} {x : Str} (h : loB sc x = true) : sc.names.lookup x = some .local := by
  unfold loB at h
  split at h
  · assumption
  · cases h
def nmB (x : Str) : Bool := !(x == ("__debug__" : Str)) && !(x == ("__classdict__" : Str))
theorem nm_of {x : Str} (h : nmB x = true) : (x == ("__debug__" : Str)) = false ∧ (x == ("__classdict__" : Str)) = false := by
  simpa [nmB] using h
def baseB : Expr → Bool
  | .Call (.Name id _) [] [] _ => !(id == ("super" : Str))
  | _ => true
theorem base_of {e : Expr} {fl : Str} {env : Env} {whole : Sem Value} (h : baseB e = true) : attributeBase e fl env whole = whole := by
  unfold attributeBase
  split
  · rename_i id p pos
    have h : (id == ("super" : Str)) = false := by simpa [baseB] using h
    have h2 : (id != ("super" : Str)) = true := by simp [bne, h]
    simp only [h2, Bool.true_or, if_true]
  · rfl
def ixPB : Expr → Bool
  | .Slice _ _ none _ => false
  | _ => true
theorem ix_of {b : Expr} (h : ixPB b = true) : PlainIx b := by
  intro o i
  unfold subscripted
  split
  · simp [ixPB] at h
  · rename_i h2; cases h2
  · rfl
theorem asgSub_of {o i : Expr} {apos : Pos} {env : Env} {v : Value} (h : ixPB i = true) : assign (.Subscript o i apos) env v = (do
      let ov ← holding [v] (eval o env)
      let iv ← holding [v, ov] (eval i env)
      standAt apos
      holding [v, ov, iv] (setItem ov iv v)
      release [v, ov, iv] []) := by
  cases i with
  | Slice l u s p => cases s with
    | none => simp [ixPB] at h
    | some _ => rfl
  | _ => rfl
def setFB : Expr → Bool
  | .Set _ _ _ => false
  | _ => true
theorem setF_of {e : Expr} {env : Env} {x : Value} (h : setFB e = true) : foldedSetIterable e env x = pure x := by
  unfold foldedSetIterable
  split
  · simp [setFB] at h
  · rfl
def compB : Expr → Bool
  | .ListComp _ _ _ _ => true
  | .SetComp _ _ _ _ => true
  | .DictComp _ _ _ _ _ => true
  | _ => false
theorem sw_of {e : Expr} {t : Option Expr} {l : Nat} {env : Env} (h : compB e = false) : swapsWith e t l env = pure false := by
  unfold swapsWith
  split
  · rename_i h2
    split at h2
    · simp [compB] at h
    · simp [compB] at h
    · simp [compB] at h
    · cases h2
  · rfl
theorem sws_of {e t : Expr} {l : Nat} {env : Env} (h : compB e = false) : swapsWithSole [t] e l env = pure false := sw_of h
def tupB : Expr → Bool
  | .Tuple _ _ _ => true
  | .List _ _ => true
  | _ => false
/-- the target is no tuple of names, or the value is no tuple -/
def noSwB : Expr → Expr → Bool
  | t, .Tuple _ _ _ => !tupB t
  | _, _ => true
theorem noSw_of {t e : Expr} {env : Env} (h : noSwB t e = true) : swappedStores [t] e env = pure none := by
  unfold swappedStores
  split
  · rename_i h2
    split at h2
    · rename_i he
      cases he
      simp [noSwB, tupB] at h
    · rename_i he
      cases he
      simp [noSwB, tupB] at h
    · cases h2
  · rfl
/-- tuple to tuple, a target is no plain local: the stores are not swapped -/
def noSwC (sc : Scope) : Expr → Expr → Bool
  | .Tuple ts _ _, .Tuple _ _ _ => ts.any fun t => match t with
    | .Name id _ => !(sc.names.lookup id == some .local)
    | _ => true
  | _, _ => false
theorem fm_short {α β : Type} {g : α → Option β} : ∀ {l : List α}, (∃ a ∈ l, g a = none) → (l.filterMap g).length < l.length
  | [], h => by obtain ⟨_, h, _⟩ := h; cases h
  | a :: l, h => by
    obtain ⟨b, hb, e⟩ := h
    rw [List.filterMap_cons]
    cases q : g a with
    | none => exact Nat.lt_succ_of_le (List.length_filterMap_le g l)
    | some c =>
      rcases List.mem_cons.mp hb with z | z
      · rw [z, q] at e
        cases e
      · exact Nat.succ_lt_succ (fm_short ⟨b, z, e⟩)
theorem noSwC_of {t e : Expr} {env : Env} (h : noSwC env.scope t e = true) : swappedStores [t] e env = pure none := by
  cases t with
  | Tuple ts k p =>
    cases e with
    | Tuple vs k2 p2 =>
      have h : (ts.any fun t => match t with
        | .Name id _ => !(env.scope.names.lookup id == some .local)
        | _ => true) = true := h
      rw [List.any_eq_true] at h
      obtain ⟨t0, ht, hq⟩ := h
      have short : ∀ l : Nat, (ts.filterMap fun
          | .Name id pos => if env.kindOf id == some .local && pos.line == l then some id else none
          | _ => none).length < ts.length := fun l => by
        refine fm_short ⟨t0, ht, ?_⟩
        cases t0 with
        | Name id pos =>
          have hq : (!(env.scope.names.lookup id == some .local)) = true := hq
          have hq : (env.scope.names.lookup id == some NameKind.local) = false := by simpa using hq
          have hq : (env.kindOf id == some NameKind.local) = false := hq
          simp only [hq, Bool.false_and, Bool.false_eq_true, if_false]
        | _ => rfl
      have gen : ∀ (names : List Str) (u : Sem (Option (List Str))), names.length < ts.length → (if (names.length != ts.length || names.eraseDups.length != names.length) = true then (pure none : Sem (Option (List Str))) else u) = pure none := by
        intro names u hl
        have c : (names.length != ts.length) = true := by
          rw [bne_iff_ne]
          omega
        rw [c, Bool.true_or, if_pos rfl]
      unfold swappedStores
      dsimp only
      split
      · rfl
      · split
        · rfl
        · exact gen _ _ (short _)
    | _ => simp [noSwC] at h
  | _ => simp [noSwC] at h
theorem par_of {x y : Str} {px py pt pt2 : Pos} {kt k2 : Nat} {a b : Expr} {env : Env} (hk : env.scope.kind = .function) (hx : env.scope.names.lookup x = some .local) (hy : env.scope.names.lookup y = some .local) (hl : (py.line == px.line) = true) (hxy : (x == y) = false) (hp : plainEs [a, b] = true)
    (hf : [a, b].all (foldedForSure 8) = false) (hc : [a, b].all (constantsAlone 8) = false) :
    swappedStores [.Tuple [.Name x px, .Name y py] kt pt] (.Tuple [a, b] k2 pt2) env = pure (some [x, y]) := by
  have kx : env.kindOf x = some .local := hx
  have ky : env.kindOf y = some .local := hy
  have hb : env.blockKind = .function := by unfold Env.blockKind; rw [hk]; rfl
  have key : ∀ e : Expr, plainEs [e] = true → (match e with | .Starred .. => true | _ => false) = false := by
    intro e h
    cases e <;> first | rfl | (simp [plainEs] at h)
  have ha : plainEs [a] = true := by simp only [plainEs, List.all_cons, Bool.and_eq_true] at hp ⊢; exact ⟨hp.1, rfl⟩
  have hs : ([a, b].any fun | .Starred .. => true | _ => false) = false := by
    rw [List.any_cons, List.any_cons, List.any_nil, key a ha, key b (plain_tail hp)]
    rfl
  have hd : ([x, y] : List Str).eraseDups = [x, y] := by
    have hyx : (y == x) = false := by rw [beq_eq_false_iff_ne] at hxy ⊢; exact fun e => hxy e.symm
    simp [List.eraseDups_cons, hxy, hyx]
  have hfm : ([Expr.Name x px, Expr.Name y py].filterMap fun
    | .Name id pos => if env.kindOf id == some .local && pos.line == px.line then some id else none
    | _ => none) = [x, y] := by
    have e1 : (px.line == px.line) = true := beq_self_eq_true _
    rw [List.filterMap_cons, List.filterMap_cons]
    simp only [kx, ky, hl, e1]
    rfl
  have hd2 : (([x, y] : List Str).length != [Expr.Name x px, Expr.Name y py].length || ([x, y] : List Str).eraseDups.length != ([x, y] : List Str).length) = false := by
    rw [hd]
    rfl
  have hbk : ((!([Expr.Name x px, Expr.Name y py].length == 2 || [Expr.Name x px, Expr.Name y py].length == 3) || [a, b].length != [Expr.Name x px, Expr.Name y py].length || env.blockKind != .function)) = false := by
    rw [hb]
    rfl
  have gen : ∀ names : List Str, names = [x, y] → (if (names.length != [Expr.Name x px, Expr.Name y py].length || names.eraseDups.length != names.length) = true then (pure none : Sem (Option (List Str))) else if [a, b].all (foldedForSure 8) = true then pure none else
      (have jp := fun (_ : Unit) => (pure (some names) : Sem (Option (List Str)))
      if [a, b].all (constantsAlone 8) = true then do
        let r ← unsupported "assign.tuple-of-constant-expressions:order-of-the-stores"
        jp r
      else jp ())) = pure (some [x, y]) := by
    intro names e
    subst e
    rw [if_neg (by rw [hd2]; simp), if_neg (by rw [hf]; simp)]
    dsimp only
    rw [if_neg (by rw [hc]; simp)]
  unfold swappedStores
  dsimp only
  rw [if_neg (by rw [hbk]; simp)]
  refine (if_neg fun h => absurd (hs.symm.trans h) (by decide)).trans ?_
  exact gen _ hfm
theorem meth_eval {o : Expr} {m : Str} {es : List Expr} {kws : List Keyword} {apos pos : Pos} {env : Env} (hb : baseB o = true) (hl : (apos.endLine == pos.line) = true) (hp : plainEs es = true) (hn : kws.all (fun k => (kwName k).isSome) = true) (h30 : es.length + kws.length + 1 < 30) :
    eval (.Call (.Attribute o m apos) es kws pos) env = (do
      let ov ← eval o env
      standAt apos.atName
      let (f, first) ← holding [ov] (getMethod ov m (do return (← importBound o env).getD true))
      callWith pos f first (backTo pos (starEach es env)) (backToKw pos (keywordEach kws env))) := by
  have e1 : methodCallForm (es.length + kws.length) (backTo pos (starEach es env)) (backToKw pos (keywordEach kws env)) = true := by
    unfold methodCallForm
    rw [kw_all hn]
    have h1 : (backTo pos (starEach es env)).all (fun x => !x.1) = true := by
      have := star_any (env := env) (pos := pos) hp
      rw [List.all_eq_true]
      intro x hx
      rw [List.any_eq_false] at this
      simpa using this x hx
    rw [h1]
    have : es.length + kws.length + (if (backToKw pos (keywordEach kws env)).isEmpty = true then 0 else 1) < 30 := by split <;> omega
    simp only [Bool.true_and, decide_eq_true_eq]
    exact this
  show (do
    let ov ← attributeBase o m env (eval o env)
    standAt apos.atName
    methodCall o m apos pos env ov (es.length + kws.length) (backTo pos (starEach es env)) (backToKw pos (keywordEach kws env))) = _
  rw [base_of hb]
  unfold methodCall calleeOf methodCallPos
  simp [e1, hl]
/-! ### makings -/
/-- the promise of a class's __init__, given a new instance and the arguments by shape -/
def spI (F : Fx) (c : Nat) (g : List Dt → List Dt → Rc) (sh : List Ar) : Sp := fun vs H Q E => ∃ (x dx : Addr) (vs1 : List V) (H1 : Hp), vs = .ref x :: vs1 ∧ H = upd (upd H1 dx (.own x)) x (.ins (F.ca c) dx []) ∧ H1 x = none ∧ H1 dx = none ∧ dx ≠ x ∧
  ∃ (w : Wd) (m ds xs : List Dt) (QQ : VK), Cs F w H1 m ∧ Dns F w ds vs1 ∧ pick ds sh = some xs ∧ PoC F w H1 (g xs m) QQ E ∧ ∀ H2, QQ (.ref x) H2 → Q .non H2
section
variable {X : Cx} {F : Fx} {f : Fm} {W : WX} {k : Nat} {es : List Expr} {kws : List Keyword} {m : Sto → Rs (List Dt)} {x : Str} {p pos apos : Pos}
theorem run_I {c : Nat} {fi : Addr} {n : Nat} {ks : List Str} {g : List Dt → List Dt → Rc} {sh : List Ar} {pins : List (Addr × Obj)} {σ : L2.St} {H : Hp} {s : Shared} {Q : VK} {us ws : List Value} {vs zs : List V} (M : Mk X.K (F.ca c) fi) (C : CalG X.prog X.w X.K X.mg X.base k fi (n + 1) ks (spI F c g sh)) (hr : Room (k + 1) X.A) (hg : X.A.guards = some []) (tk : Takes X W)
    (I : Inv X pins σ H s) (h1 : us.length = n) (h2 : ws.length = ks.length) (r : Vals vs us) (rz : Vals zs ws) (h : spS F g sh (vs ++ zs) H Q (WE W σ)) :
    wpAny (model X.prog X.w) X.A (PySem.call (.ref (F.ca c)) us (ks.zip ws)) (EP X pins σ Q) X.xe s := by
  have I2 := Inv.made (C := F.ca c) I
  obtain ⟨w, m, ds, xs, cs, dn, pk, po⟩ := h
  have hq : spI F c g sh ((V.ref (s.heap.objs.size + 1) :: vs) ++ zs) (upd (upd H s.heap.objs.size (.own (s.heap.objs.size + 1))) (s.heap.objs.size + 1) (.ins (F.ca c) s.heap.objs.size [])) (fun v H2 => v = .non ∧ Q (.ref (s.heap.objs.size + 1)) H2) (WE W σ) :=
    ⟨s.heap.objs.size + 1, s.heap.objs.size, vs ++ zs, H, rfl, rfl, I.hok.fresh (Nat.le_succ _), I.hok.fresh (Nat.le_refl _), Nat.ne_of_lt (Nat.lt_succ_self _), w, m, ds, xs, Q, cs, dn, pk, po, fun H2 q => ⟨rfl, q⟩⟩
  have gu : (X.A.under (.builtin "type.__call__" ⟨.ref (F.ca c) :: us, ks.zip ws⟩)).guards = some [] := by
    first
      | exact hg
      | (simpa [Around.under, Code.isGuard, guardIds] using hg)
  refine wpAny_call (make_map (f := fi) I.kIn M.makes M.init (beq_iff_eq.mp M.fn) (codeAny_mono (C _ X.stack _ _ (Value.ref (s.heap.objs.size + 1) :: us) ws (V.ref (s.heap.objs.size + 1) :: vs) zs _ (WE W σ) (hr.make (F.ca c) us (ks.zip ws)) gu
    (I2.env0.make (F.ca c) us (ks.zip ws)) (by rw [List.length_cons, h1]) h2 (.cons rfl r) rz hq) fun r s' hq' => ?_))
  cases r with
  | error e => exact passAt tk σ pins _ _ e s' I2 hq'
  | ok fl =>
    cases fl with
    | ret u =>
      obtain ⟨v, H', I3, rv, ev, q3⟩ := I2.after hq'
      subst ev
      exact ⟨rv, ⟨V.ref (s.heap.objs.size + 1), H', I3, rfl, q3⟩⟩
    | next => exact False.elim hq'
    | brk => exact False.elim hq'
    | cont => exact False.elim hq'
/-- C(..) -/
theorem se_make {c : Nat} {fi : Addr} {g : List Dt → List Dt → Rc} {shl : Nat → Option (List Ar)} (M : ∀ sh, shl es.length = some sh → Mk X.K (F.ca c) fi ∧ CalG X.prog X.w X.K X.mg X.base k fi (es.length + 1) (kwNames kws) (spI F c g sh)) (hkw : (kwNames kws).length = kws.length) (hr : Room (k + 1) X.A) (hg : X.A.guards = some []) (tk : Takes X W)
    (hgl : Gl X x) (hm : X.mg x = some (.ref (F.ca c))) (hk : PySem.W.keepIn X.K (.ref (F.ca c)) = true) (hdb : (x == ("__debug__" : Str)) = false) (hlen : ∀ S ds S1, m S = .ok ds S1 → ds.length = es.length + kws.length) (ha : PArg X es kws (REs F f W m)) :
    PE X (.Call (.Name x p) es kws pos) (RE F f W fun S => (m S).bind fun ds S1 => match shl (ds.length - (kwNames kws).length) with
      | some sh => upP (pick ds sh) g S1
      | none => .bad) := by
  refine ⟨fun pins s σ H Q I h => ?_⟩
  obtain ⟨w, S, R, h⟩ := h
  refine wpAny_Call_Name_kw (ld_glob I hgl hm ?_ hdb)
  refine ha.run pos pins s σ H (.ref (F.ca c)) [] (fun vs H2 => ∃ sh, shl es.length = some sh ∧ spS F g sh vs H2 Q (WE W σ)) (EP X pins σ Q) hk I (Rd1.go R h fun ds vs w1 H1 S1 em R1 l1 r1 h1 => ?_) fun us ws vs zs s2 H2 I2 l1 l2 ru rz q => ?_
  · have hl := hlen _ _ _ em
    have e1 : ds.length - (kwNames kws).length = es.length := by rw [hkw]; omega
    rw [e1] at h1
    cases e : shl es.length with
    | none => rw [e] at h1; exact h1.elim
    | some sh =>
      rw [e] at h1
      obtain ⟨xs, e2, h2⟩ := upP_some h1
      exact ⟨sh, rfl, w1, S1.m, ds, xs, R1.cs, r1, e2, poC_of R1 h2⟩
  · obtain ⟨sh, e, q⟩ := q
    exact run_I (M sh e).1 (M sh e).2 hr hg tk I2 l1 (by rw [hkw]; exact l2) ru rz q
/-! ### a class without an own __init__ -/
theorem se_mk0 {c : Nat} (B : BareC X.K (F.ca c)) (top : PySem.W.mroIn X.K (F.ca c) (.type "object") = some true) (hgl : Gl X x) (hm : X.mg x = some (.ref (F.ca c))) (hdb : (x == ("__debug__" : Str)) = false) :
    PE X (.Call (.Name x p) [] [] pos) (RE F f W fun S => .ok (.ins c [] []) S) := by
  refine ⟨fun pins s σ H Q I h => ?_⟩
  obtain ⟨w, S, R, h⟩ := h
  refine wpAny_Call_Name_kw (ld_glob I hgl hm ?_ hdb)
  refine PySem.W.callWith_K0 I.kIn B.kp ?_
  have I2 := Inv.made (C := F.ca c) I
  have hx : H (s.heap.objs.size + 1) = none := I.hok.fresh (Nat.le_succ _)
  have hd : H s.heap.objs.size = none := I.hok.fresh (Nat.le_refl _)
  have ne : s.heap.objs.size ≠ s.heap.objs.size + 1 := Nat.ne_of_lt (Nat.lt_succ_self _)
  have hx2 : upd H s.heap.objs.size (.own (s.heap.objs.size + 1)) (s.heap.objs.size + 1) = none := by rw [upd_ne (Ne.symm ne)]; exact hx
  have R1 := R.fresh (o := .own (s.heap.objs.size + 1)) hd
  have q := h.new R1 hx2 (o := .ins (F.ca c) s.heap.objs.size []) ⟨_, _, [], rfl, upd_same, rfl, rfl⟩
  refine wpAny_call (make_map0 I.kIn B.makes B.init (fun self => PySem.W.Looks.of_pure (PySem.W.oi_bind self)) ?_)
  have at1 : ((s.heap.push PySem.W.emptyDict).push (PySem.W.instObj (F.ca c) s.heap.objs.size)).get? (s.heap.objs.size + 1) = some (PySem.W.instObj (F.ca c) s.heap.objs.size) := by
    have := Heap.get?_push_size (s.heap.push PySem.W.emptyDict) (o := PySem.W.instObj (F.ca c) s.heap.objs.size) rfl
    rwa [Heap.size_push] at this
  have t1 : PySem.W.Looks (model X.prog X.w) ((s.heap.push PySem.W.emptyDict).push (PySem.W.instObj (F.ca c) s.heap.objs.size)) (typeOf (.ref (s.heap.objs.size + 1))) (.ref (F.ca c)) := NwA.type_at at1 rfl
  have t2 : PySem.W.Looks (model X.prog X.w) ((s.heap.push PySem.W.emptyDict).push (PySem.W.instObj (F.ca c) s.heap.objs.size)) (isInstance (.ref (s.heap.objs.size + 1)) (.type "object")) true := t1.andThen (PySem.W.looks_mroIn I2.kIn top)
  refine codeAny_call_builtin PySem.W.oi_plain PySem.W.entry_oi (@PySem.W.check_slot (model X.prog X.w) _ _ _ "object.__init__" "object" "__init__" (.ref (s.heap.objs.size + 1)) [] [] _ PySem.W.oi_kind PySem.W.oi_split t2 (NwA.oi_args_any _ [] []) ?_)
  rw [PySem.W.oi_run]
  exact wpAny_pure ⟨rfl, ⟨.ref (s.heap.objs.size + 1), _, I2, rfl, q⟩⟩
/-! ### static methods -/
theorem getst_ok {pins : List (Addr × Obj)} {σ : L2.St} {H : Hp} {s : Shared} {C g : Addr} {mt : Str} {A : Around} {E : Value → Shared → Prop} {pl : Sem Bool} {Q : Value × List Value → Shared → Prop} (I : Inv X pins σ H s) (r : StM X.K C mt g) (h : ∀ s', Inv X pins σ H s' → Q (.ref g, []) s') : wpAny (model X.prog X.w) A (getMethod (.ref C) mt pl) Q E s := by
  obtain ⟨q, at_, rest, hp⟩ := r.at_
  refine PySem.W.method_cls I.kIn r.rd.ga (PySem.W.cls_bind I.kIn r.rd.rd at_ ?_)
  refine wpAny_call (PySem.W.sm_get (s := { s with toks := s.toks + 1 }) I.kIn hp (PySem.W.handed_on rfl ?_))
  exact h _ (I.tok _)
/-- C.m(..), m a static method -/
theorem se_smeth {C fa : Addr} {mt : Str} {g : List Dt → List Dt → Rc} {shl : Nat → Option (List Ar)} (st : StM X.K C mt fa) (Cl : ∀ sh, shl es.length = some sh → CalG X.prog X.w X.K X.mg X.base k fa es.length (kwNames kws) (spS F g sh)) (hkw : (kwNames kws).length = kws.length) (hr : Room k X.A) (hg : X.A.guards = some []) (tk : Takes X W)
    (hgl : Gl X x) (hm : X.mg x = some (.ref C)) (hdb : (x == ("__debug__" : Str)) = false) (hlen : ∀ S ds S1, m S = .ok ds S1 → ds.length = es.length + kws.length) (ha : PArg X es kws (REs F f W m))
    {pl : Sem Bool} (ht : eval (.Call (.Attribute (.Name x p) mt apos) es kws pos) X.env = (do
      let ov ← eval (.Name x p) X.env
      standAt apos.atName
      let (f, first) ← holding [ov] (getMethod ov mt pl)
      callWith pos f first (backTo pos (starEach es X.env)) (backToKw pos (keywordEach kws X.env)))) :
    PE X (.Call (.Attribute (.Name x p) mt apos) es kws pos) (RE F f W fun S => (m S).bind fun ds S1 => match shl (ds.length - (kwNames kws).length) with
      | some sh => upP (pick ds sh) g S1
      | none => .bad) := by
  refine ⟨fun pins s σ H Q I h => ?_⟩
  obtain ⟨w, S, R, h⟩ := h
  refine PySem.W.methodCall_KW (pl := pl) (ld_glob I hgl hm ?_ hdb) ht
  refine getst_ok I st fun s1 I1 => ?_
  refine ha.run pos pins s1 σ H (.ref fa) [] (fun vs H2 => ∃ sh, shl es.length = some sh ∧ spS F g sh vs H2 Q (WE W σ)) (EP X pins σ Q) st.kp I1 (Rd1.go R h fun ds vs w1 H1 S1 em R1 l1 r1 h1 => ?_) fun us ws vs zs s2 H2 I2 l1 l2 ru rz q => ?_
  · have hl := hlen _ _ _ em
    have e1 : ds.length - (kwNames kws).length = es.length := by rw [hkw]; omega
    rw [e1] at h1
    cases e : shl es.length with
    | none => rw [e] at h1; exact h1.elim
    | some sh =>
      rw [e] at h1
      obtain ⟨xs, e2, h2⟩ := upP_some h1
      exact ⟨sh, rfl, w1, S1.m, ds, xs, R1.cs, r1, e2, poC_of R1 h2⟩
  · obtain ⟨sh, e, q⟩ := q
    exact run_G (Cl sh e) hr hg tk I2 l1 (by rw [hkw]; exact l2) ru rz q
end
end PyI
namespace PyI
open PySem PySem.Spec PyProof.Rows L2
/-! what a text's checker knows -/
structure Nf where
  N : List Str
  P : Pg
  gf : List (Str × Nat)
  gc : List (Str × Nat)
  gd : List (Str × Dt)
  bn : List Str
structure PgOk (P : Pg) : Prop where
  pr : ∀ c fl g, P.prop c fl = some g → P.shf g 1 [] = some selfSh
  sp : ∀ c g m, (m = ("__len__" : Str) ∨ m = ("__str__" : Str) ∨ m = ("__repr__" : Str)) → P.meth c m = some g → P.shf g 1 [] = some selfSh
  eq : ∀ c g m, (m = ("__eq__" : Str) ∨ m = ("__contains__" : Str)) → P.meth c m = some g → P.shf g 2 [] = some eqSh
  ops : OpSh P
structure Good (X : Cx) (F : Fx) (I : Nf) (k : Nat) (cf ci : Nat → List Dt → List Dt → Rc) : Prop where
  K : X.K = F.K
  N : X.N = I.N
  nod : X.N.Nodup
  calm : X.calm = true
  gd : X.A.guards = some []
  room : Room (k + 4) X.A
  cls : ClsT X.K F I.P
  fns : FnsT X F I.P k cf
  cis : ∀ c n ks sh, I.P.shc c n ks = some sh → ∃ fi, Mk X.K (F.ca c) fi ∧ CalG X.prog X.w X.K X.mg X.base k fi (n + 1) ks (spI F c (ci c) sh)
  pok : PgOk I.P
  gf : ∀ x i, I.gf.lookup x = some i → X.mg x = some (.ref (F.fa i)) ∧ PySem.W.keepIn X.K (.ref (F.fa i)) = true
  gc : ∀ x i, I.gc.lookup x = some i → X.mg x = some (.ref (F.ca i)) ∧ PySem.W.keepIn X.K (.ref (F.ca i)) = true
  gl : ∀ x d, I.gd.lookup x = some d → ∃ u v, X.mg x = some u ∧ RelV v u ∧ ∀ w, Dn F w d v
  bn : ∀ x, x ∈ I.bn → X.mg x = none
theorem Good.blk {X : Cx} {F : Fx} {I : Nf} {k : Nat} {cf ci : Nat → List Dt → List Dt → Rc} (g : Good X F I k cf ci) (s : Shared) (H : Hp) (scope : Scope) (cenv : Env) (fp : List Addr) : Good (X.blk s H scope cenv fp) F I k cf ci :=
  ⟨g.K, g.N, g.nod, g.calm, g.gd, g.room, g.cls, g.fns, g.cis, g.pok, g.gf, g.gc, g.gl, g.bn⟩
/-! the scope of a comprehension's block -/
def relS (scope sc : Scope) : Scope :=
  { scope with names := scope.names.map fun (n, k) => if (k == .free && sc.kind == .function && sc.names.lookup n == some .cell) then (n, .cell) else (n, k) }
theorem relS_of (scope : Scope) (env : Env) : relabel scope env = relS scope env.scope := rfl
/-! lists of terms -/
section
variable {P : Pg} {cf ci : Nat → List Dt → List Dt → Rc}
theorem evEs_len : ∀ {es : List Tm} {S : Sto} {ds : List Dt} {S1 : Sto}, evEs P cf ci es S = .ok ds S1 → ds.length = es.length
  | [], S, ds, S1, h => by
    unfold evEs at h
    cases h
    rfl
  | c :: es, S, ds, S1, h => by
    unfold evEs at h
    cases e1 : evE P cf ci c S with
    | ok d S2 =>
      rw [e1] at h
      simp only [Rs.bind] at h
      cases e2 : evEs P cf ci es S2 with
      | ok ds2 S3 =>
        rw [e2] at h
        cases h
        simp [evEs_len e2]
      | ex _ _ _ _ => rw [e2] at h; cases h
      | bad => rw [e2] at h; cases h
    | ex _ _ _ _ => rw [e1] at h; cases h
    | bad => rw [e1] at h; cases h
theorem evEs_append : ∀ (xs ys : List Tm) (S : Sto), evEs P cf ci (xs ++ ys) S = (evEs P cf ci xs S).bind fun ds S1 => (evEs P cf ci ys S1).bind fun es S2 => .ok (ds ++ es) S2
  | [], ys, S => by
    rw [List.nil_append]
    show _ = (evEs P cf ci [] S).bind _
    rw [evEs]
    simp only [Rs.bind, List.nil_append]
    cases evEs P cf ci ys S <;> rfl
  | x :: xs, ys, S => by
    rw [List.cons_append, evEs, evEs, Rs.bind_assoc]
    congr 1
    funext d S1
    rw [evEs_append xs ys S1, Rs.bind_assoc, Rs.bind_assoc]
    congr 1
    funext ds S2
    rw [Rs.bind_assoc]
    show _ = (Rs.ok (d :: ds) S2).bind _
    simp only [Rs.bind]
    cases evEs P cf ci ys S2 <;> rfl
end
section
variable {X : Cx} {F : Fx} {f : Fm} {W : WX} {P : Pg} {cf ci : Nat → List Dt → List Dt → Rc}
/-- pointwise -/
def PEs (X : Cx) (F : Fx) (f : Fm) (W : WX) (P : Pg) (cf ci : Nat → List Dt → List Dt → Rc) : List Tm → List Expr → Prop
  | [], [] => True
  | c :: cs, e :: es => PE X e (RE F f W (evE P cf ci c)) ∧ PEs X F f W P cf ci cs es
  | _, _ => False
theorem PEs.len : ∀ {cs : List Tm} {es : List Expr}, PEs X F f W P cf ci cs es → cs.length = es.length
  | [], [], _ => rfl
  | [], _ :: _, h => h.elim
  | _ :: _, [], h => h.elim
  | _ :: _, _ :: _, h => by simp [PEs.len h.2]
theorem PEs.pa : ∀ {cs : List Tm} {es : List Expr}, PEs X F f W P cf ci cs es → plainEs es = true → PA X es (REs F f W (evEs P cf ci cs))
  | [], [], _, _ => by
    have : evEs P cf ci [] = fun S => .ok [] S := by funext S; rw [evEs]
    rw [this]
    exact sa_nil
  | [], _ :: _, h, _ => h.elim
  | _ :: _, [], h, _ => h.elim
  | c :: cs, e :: es, h, hp => by
    have : evEs P cf ci (c :: cs) = fun S => (evE P cf ci c S).bind fun d S1 => (evEs P cf ci cs S1).bind fun ds S2 => .ok (d :: ds) S2 := by funext S; rw [evEs]
    rw [this]
    exact sa_cons hp h.1 (PEs.pa h.2 (plain_tail hp))
theorem PEs.pk : ∀ {cs : List Tm} {kws : List Keyword}, PEs X F f W P cf ci cs (kws.map kwExpr) → PK X kws (REs F f W (evEs P cf ci cs))
  | [], [], _ => by
    have : evEs P cf ci [] = fun S => .ok [] S := by funext S; rw [evEs]
    rw [this]
    exact sk_nil
  | [], _ :: _, h => h.elim
  | _ :: _, [], h => h.elim
  | c :: cs, ⟨n, e, p⟩ :: es, h => by
    have : evEs P cf ci (c :: cs) = fun S => (evE P cf ci c S).bind fun d S1 => (evEs P cf ci cs S1).bind fun ds S2 => .ok (d :: ds) S2 := by funext S; rw [evEs]
    rw [this]
    exact sk_cons h.1 (PEs.pk h.2)
theorem PEs.pj : ∀ {cs : List Tm} {es : List Expr}, PEs X F f W P cf ci cs es → PJ X es (cs.map fun c => RE F f W (evE P cf ci c))
  | [], [], _ => .nil
  | [], _ :: _, h => h.elim
  | _ :: _, [], h => h.elim
  | c :: cs, e :: es, h => .cons h.1 (PEs.pj h.2)
theorem PEs.split : ∀ {cs : List Tm} {xs ys : List Expr}, PEs X F f W P cf ci cs (xs ++ ys) → PEs X F f W P cf ci (cs.take xs.length) xs ∧ PEs X F f W P cf ci (cs.drop xs.length) ys
  | cs, [], ys, h => ⟨by simp [PEs], by simpa using h⟩
  | [], _ :: _, _, h => h.elim
  | c :: cs, x :: xs, ys, h => by
    have := PEs.split (cs := cs) (xs := xs) (ys := ys) h.2
    exact ⟨⟨h.1, by simpa using this.1⟩, by simpa using this.2⟩
theorem PEs.parg {cs : List Tm} {es : List Expr} {kws : List Keyword} (h : PEs X F f W P cf ci cs (es ++ kws.map kwExpr)) (hp : plainEs es = true) (hn : kws.all (fun k => (kwName k).isSome) = true) : PArg X es kws (REs F f W (evEs P cf ci cs)) := by
  obtain ⟨h1, h2⟩ := h.split
  have l1 := h1.len
  have l2 := h2.len
  rw [List.length_map] at l2
  have e : evEs P cf ci cs = fun S => (evEs P cf ci (cs.take es.length) S).bind fun ds S1 => (evEs P cf ci (cs.drop es.length) S1).bind fun es S2 => .ok (ds ++ es) S2 := by
    funext S
    rw [← evEs_append, List.take_append_drop]
  rw [e]
  refine pArg_of hp hn (fun e0 S => ?_) (fun S ds S1 q => (evEs_len q).trans l1) (fun S ds S1 q => (evEs_len q).trans l2) (h1.pa hp) h2.pk
  subst e0
  rw [List.length_nil, List.take_zero, evEs]
end
theorem kwN_len : ∀ {kws : List Keyword}, kws.all (fun k => (kwName k).isSome) = true → (kwNames kws).length = kws.length
  | [], _ => rfl
  | ⟨n, e, p⟩ :: kws, h => by
    rw [List.all_cons, Bool.and_eq_true] at h
    cases n with
    | none => cases h.1
    | some x =>
      show (kwNames (⟨some x, e, p⟩ :: kws)).length = _
      unfold kwNames
      rw [List.filterMap_cons]
      simp only [kwName, List.length_cons]
      have := kwN_len h.2
      unfold kwNames at this
      rw [this]
/-! the checker -/
def mC : Dt → Const → Bool
  | .int i, .int j => decide (i = j)
  | .str x, .str y => x == y
  | .bl b, .bool c => b == c
  | .non, .none => true
  | _, _ => false
def mTy (I : Nf) (sc : Scope) : Ty → Expr → Bool
  | .int, .Name x _ => x == ("int" : Str) && glB sc "int" && I.bn.contains "int"
  | .bool, .Name x _ => x == ("bool" : Str) && glB sc "bool" && I.bn.contains "bool"
  | .str, .Name x _ => x == ("str" : Str) && glB sc "str" && I.bn.contains "str"
  | .list, .Name x _ => x == ("list" : Str) && glB sc "list" && I.bn.contains "list"
  | .tuple, .Name x _ => x == ("tuple" : Str) && glB sc "tuple" && I.bn.contains "tuple"
  | .dict, .Name x _ => x == ("dict" : Str) && glB sc "dict" && I.bn.contains "dict"
  | .own c, .Name x _ => I.gc.lookup x == some c && glB sc x && nmB x && (I.P.cl[c]?).isSome
  | _, _ => false
/-! equal constants -/
mutual
def dtB : Dt → Dt → Bool
  | .int i, .int j => decide (i = j)
  | .str a, .str b => a == b
  | .bl a, .bl b => a == b
  | .non, .non => true
  | .tup as, .tup bs => dtsB as bs
  | _, _ => false
def dtsB : List Dt → List Dt → Bool
  | [], [] => true
  | a :: as, b :: bs => dtB a b && dtsB as bs
  | _, _ => false
end
mutual
theorem dtB_of : ∀ (a b : Dt), dtB a b = true → a = b
  | .non, b, h => by cases b <;> simp_all [dtB]
  | .bl _, b, h => by cases b <;> simp_all [dtB]
  | .int _, b, h => by cases b <;> simp_all [dtB]
  | .str _, b, h => by cases b <;> simp_all [dtB]
  | .tup as, b, h => by
    cases b with
    | tup bs =>
      simp only [dtB] at h
      rw [dtsB_of as bs h]
    | _ => simp [dtB] at h
  | .lst _, b, h => by cases b <;> simp [dtB] at h
  | .dct _ _, b, h => by cases b <;> simp [dtB] at h
  | .ins _ _ _, b, h => by cases b <;> simp [dtB] at h
  | .cel _, b, h => by cases b <;> simp [dtB] at h
  | .cls _, b, h => by cases b <;> simp [dtB] at h
  | .ty _, b, h => by cases b <;> simp [dtB] at h
  | .scr _, b, h => by cases b <;> simp [dtB] at h
theorem dtsB_of : ∀ (as bs : List Dt), dtsB as bs = true → as = bs
  | [], bs, h => by cases bs <;> simp_all [dtsB]
  | a :: as, bs, h => by
    cases bs with
    | nil => simp [dtsB] at h
    | cons b bs =>
      simp only [dtsB, Bool.and_eq_true] at h
      rw [dtB_of a b h.1, dtsB_of as bs h.2]
end
def itMd : Expr → Nat
  | .Tuple _ _ _ => 3
  | _ => 2
def bareB (P : Pg) (c : Nat) : Bool := match P.cl[c]? with
  | some x => x.bare
  | none => false
def varB (I : Nf) (sc : Scope) (i : Nat) (x : Str) : Bool := I.N[i]? == some x && visB sc x && nmB x
def sub1 (md : Nat) : Nat := if md = 1 then 1 else 0
def isYes : Tm → Bool
  | .cst (.bl true) => true
  | _ => false
def ownNs (N : List Str) (own : List Nat) : List (Str × Nat) := own.map fun i => ((N[i]?).getD "", i)
def statB (P : Pg) (c : Nat) (m : Str) (g : Nat) : Bool := match P.cl[c]? with
  | some x => x.stat.lookup m == some g
  | none => false
mutual
def mm (I : Nf) (sc : Scope) (md : Nat) : Tm → Expr → Bool
  | .var i, .Name x _ => varB I sc i x
  | .cst d, .Constant c _ _ => mC d c
  | .glo y d, .Name x _ => x == y && glB sc x && nmB x && (match I.gd.lookup x with
    | some d' => dtB d d'
    | none => false)
  | .bin op a b, .BinOp e1 op' e2 _ => decide (op = op') && mm I sc 0 a e1 && mm I sc 0 b e2
  | .neg a, .UnaryOp .USub e _ => mm I sc 0 a e
  | .not1 a, .UnaryOp .Not e _ => mm I sc (sub1 md) a e
  | .cmp op a b, .Compare e1 [op'] [e2] _ => decide (op = op') && !behindInMarks op e2 && mm I sc 0 a e1 && mm I sc 0 b e2
  | .chn o1 o2 a b c, .Compare e1 [o1', o2'] [e2, e3] _ => decide (o1 = o1') && decide (o2 = o2') && !lastMarks [o1, o2] [e2, e3] && mm I sc 0 a e1 && mm I sc 0 b e2 && mm I sc 0 c e3
  | .and2 a b, .BoolOp .And [e1, e2] _ => mm I sc (sub1 md) a e1 && mm I sc (sub1 md) b e2
  | .and2 a b, .BoolOp .And (e1 :: e2 :: e3 :: r) p => mm I sc (sub1 md) a e1 && mm I sc (sub1 md) b (.BoolOp .And (e2 :: e3 :: r) p)
  | .or2 a b, .BoolOp .Or [e1, e2] _ => mm I sc (sub1 md) a e1 && mm I sc (sub1 md) b e2
  | .or2 a b, .BoolOp .Or (e1 :: e2 :: e3 :: r) p => mm I sc (sub1 md) a e1 && mm I sc (sub1 md) b (.BoolOp .Or (e2 :: e3 :: r) p)
  | .ife c a b, .IfExp ec ea eb _ => md != 1 && mm I sc 1 c ec && mm I sc 0 a ea && mm I sc 0 b eb
  | .tup cs, .Tuple es _ _ => plainEs es && mms I sc cs es
  | .lst cs, .List es _ => plainEs es && mms I sc cs es
  | .ix a b, .Subscript e1 e2 _ => ixPB e2 && mm I sc 0 a e1 && mm I sc 0 b e2
  | .fld a fl, .Attribute e fl' _ => fl == fl' && baseB e && mm I sc 0 a e
  | .bi b cs, .Call (.Name x _) (e :: es) [] _ => x == biN b && glB sc x && I.bn.contains x && plainEs (e :: es) && mms I sc cs (e :: es)
  | .isi a [t], .Call (.Name x _) [e, ec] [] _ => x == ("isinstance" : Str) && glB sc x && I.bn.contains x && plainEs [e, ec] && mTy I sc t ec && mm I sc 0 a e
  | .call g ks cs, .Call (.Name x _) es kws _ => I.gf.lookup x == some g && ks == kwNames kws && glB sc x && nmB x && plainEs es && kws.all (fun k => (kwName k).isSome) && mms I sc cs (es ++ kws.map kwExpr)
  | .make c ks cs, .Call (.Name x _) es kws _ => I.gc.lookup x == some c && ks == kwNames kws && glB sc x && nmB x && plainEs es && kws.all (fun k => (kwName k).isSome) && mms I sc cs (es ++ kws.map kwExpr)
  | .meth a m ks cs, .Call (.Attribute o m' apos) es kws pos => m == m' && ks == kwNames kws && baseB o && (apos.endLine == pos.line) && decide (es.length + kws.length + 1 < 30) && plainEs es && kws.all (fun k => (kwName k).isSome) && mm I sc 0 a o && mms I sc cs (es ++ kws.map kwExpr)
  | .smeth c m g ks cs, .Call (.Attribute (.Name x _) m' apos) es kws pos => I.gc.lookup x == some c && statB I.P c m g && m == m' && ks == kwNames kws && glB sc x && nmB x && baseB (.Name x apos) && (apos.endLine == pos.line) && decide (es.length + kws.length + 1 < 30) && plainEs es && kws.all (fun k => (kwName k).isSome) && mms I sc cs (es ++ kws.map kwExpr)
  | .comp e own tg it c, .ListComp elt [⟨tgE, iter, ifs, 0⟩] scope _ => blkC I.N sc scope (ownNs I.N own) && own.all (fun i => (I.N[i]?).isSome) && mT I.N (relS scope sc) true tg tgE && (tgSl tg).all (fun i => own.contains i) && setFB iter && mm I sc (itMd tgE) it iter && mm I (relS scope sc) 0 e elt && (match ifs with
    | [] => isYes c
    | [e1] => mm I (relS scope sc) 1 c e1
    | _ => false)
  | .rng1 a, .Call (.Name x _) [e] [] _ => decide (md = 2) && x == ("range" : Str) && glB sc x && I.bn.contains x && plainEs [e] && mm I sc 0 a e
  | .rng2 a b, .Call (.Name x _) [e1, e2] [] _ => decide (md = 2) && x == ("range" : Str) && glB sc x && I.bn.contains x && plainEs [e1, e2] && mm I sc 0 a e1 && mm I sc 0 b e2
  | .fst cs, .JoinedStr es _ => decide (0 < es.length) && mms I sc cs es
  | .fms a, .FormattedValue e c none _ => decide (c = -1) && mm I sc 0 a e
  | .fmr a, .FormattedValue e c none _ => decide (c = 114) && mm I sc 0 a e
  | .split a b, .Call (.Attribute o m apos) [e] [] pos => m == ("split" : Str) && baseB o && (apos.endLine == pos.line) && plainEs [e] && mm I sc 0 a o && mm I sc 0 b e
  | .lenB i, .Call (.Name y _) [.Name x _] [] _ => y == ("len" : Str) && glB sc y && I.bn.contains y && varB I sc i x
  | .ixB i b, .Subscript (.Name x _) e _ => varB I sc i x && ixPB e && mm I sc 0 b e
  | .slcL a b, .Subscript e1 (.Slice (some e2) none none _) _ => mm I sc 0 a e1 && mm I sc 0 b e2
  | .slcH a b, .Subscript e1 (.Slice none (some e2) none _) _ => mm I sc 0 a e1 && mm I sc 0 b e2
  | .slcB a b c, .Subscript e1 (.Slice (some e2) (some e3) none _) _ => mm I sc 0 a e1 && mm I sc 0 b e2 && mm I sc 0 c e3
  | .enm a, .Call (.Name x _) [e] [] _ => decide (md = 3) && x == ("enumerate" : Str) && glB sc x && I.bn.contains x && plainEs [e] && mm I sc 0 a e
  | .lrg2 a b, .Call (.Name x _) [.Call (.Name y _) [e1, e2] [] _] [] _ => x == ("list" : Str) && y == ("range" : Str) && glB sc x && glB sc y && I.bn.contains x && I.bn.contains y && plainEs [e1, e2] && mm I sc 0 a e1 && mm I sc 0 b e2
  | .join a b, .Call (.Attribute o m apos) [e] [] pos => m == ("join" : Str) && baseB o && (apos.endLine == pos.line) && plainEs [e] && mm I sc 0 a o && mm I sc 0 b e
  | .mk0 c, .Call (.Name x _) [] [] _ => I.gc.lookup x == some c && glB sc x && nmB x && bareB I.P c
  | _, _ => false
def mms (I : Nf) (sc : Scope) : List Tm → List Expr → Bool
  | [], [] => true
  | c :: cs, e :: es => mm I sc 0 c e && mms I sc cs es
  | _, _ => false
end
/-! soundness, by mode -/
def Sd (X : Cx) (F : Fx) (f : Fm) (W : WX) (md : Nat) (e : Expr) (m : Sto → Rs Dt) : Prop :=
  if md = 1 then PT X e (RB F f W m) else if md = 2 then ∀ tg, PI X tg e (RI F f W m) else if md = 3 then ∀ elts kk tpos, PI X (.Tuple elts kk tpos) e (RI F f W m) else PE X e (RE F f W m)
section
variable {X : Cx} {F : Fx} {f : Fm} {W : WX} {m : Sto → Rs Dt} {e : Expr}
theorem sd_sub {md : Nat} (hK : X.K = F.K) (h : md ≠ 1 → PE X e (RE F f W m)) (ht : md = 1 → PT X e (RB F f W m)) : Sd X F f W md e m := by
  unfold Sd
  split
  · exact ht (by assumption)
  · split
    · exact fun tg => se_it hK (h (by assumption))
    · split
      · exact fun _ _ _ => se_it hK (h (by assumption))
      · exact h (by assumption)
theorem sd_both {md : Nat} (hK : X.K = F.K) (h : PE X e (RE F f W m)) (ht : PT X e (RB F f W m)) : Sd X F f W md e m := sd_sub hK (fun _ => h) fun _ => ht
theorem sd_val {md : Nat} (hK : X.K = F.K) (h : PE X e (RE F f W m)) (hp : ∀ whole, isTrue e X.env whole = (do let v ← whole; standAt e.pos; holding [v] (truthy v))) : Sd X F f W md e m := sd_both hK h (st_val h hp)
theorem sd0 (h : Sd X F f W 0 e m) : PE X e (RE F f W m) := by
  unfold Sd at h
  rwa [if_neg (by decide), if_neg (by decide), if_neg (by decide)] at h
theorem sd1 (h : Sd X F f W 1 e m) : PT X e (RB F f W m) := by
  unfold Sd at h
  rwa [if_pos rfl] at h
theorem sd2 (h : Sd X F f W 2 e m) : ∀ tg, PI X tg e (RI F f W m) := by
  unfold Sd at h
  rwa [if_neg (by decide), if_pos rfl] at h
theorem sd3 (h : Sd X F f W 3 e m) : ∀ elts kk tpos, PI X (.Tuple elts kk tpos) e (RI F f W m) := by
  unfold Sd at h
  rwa [if_neg (by decide), if_neg (by decide), if_pos rfl] at h
theorem sdI {tg : Expr} (h : Sd X F f W (itMd tg) e m) : PI X tg e (RI F f W m) := by
  cases tg with
  | Tuple elts kk tpos => exact sd3 h elts kk tpos
  | _ => exact sd2 h _
end
end PyI
namespace PyI
open PySem PySem.Spec PyProof.Rows L2
section
variable {X : Cx} {F : Fx} {f : Fm} {W : WX}
theorem peOf {e : Expr} {m m' : Sto → Rs Dt} (h : PE X e (RE F f W m)) (q : ∀ S, m' S = m S) : PE X e (RE F f W m') := by
  have : m' = m := funext q
  rw [this]
  exact h
theorem ptOf {e : Expr} {m m' : Sto → Rs Dt} (h : PT X e (RB F f W m)) (q : ∀ S, m' S = m S) : PT X e (RB F f W m') := by
  have : m' = m := funext q
  rw [this]
  exact h
theorem piOf {tg e : Expr} {m m' : Sto → Rs Dt} (h : PI X tg e (RI F f W m)) (q : ∀ S, m' S = m S) : PI X tg e (RI F f W m') := by
  have : m' = m := funext q
  rw [this]
  exact h
theorem takes_blk {s : Shared} {H : Hp} {scope : Scope} {cenv : Env} {fp : List Addr} : Takes (X.blk s H scope cenv fp) W0 := by
  rintro u s' ⟨_, _, _, _, _, _, _, _, _, _, _, _, _, _, _, _, w⟩
  exact w
theorem dn_flat {d : Dt} (h : flatD d = true) (w : Wd) : Dn F w d (dtV d) := by
  cases d <;> first | rfl | (simp [flatD] at h)
theorem pw_b {o : BoolOp} {es : List Expr} {p : Pos} {t : TT} (h : PT X (.BoolOp o es p) t) : PW X (.BoolOp o es p) t := ⟨fun wh pins s σ H Q I q => h.run pins s σ H Q I q⟩
theorem meth_cl {P : Pg} {c g : Nat} {m : Str} (h : P.meth c m = some g) : ∃ x, P.cl[c]? = some x ∧ x.meth.lookup m = some g := by
  unfold Pg.meth at h
  cases e : P.cl[c]? with
  | none => rw [e] at h; cases h
  | some x => rw [e] at h; exact ⟨x, rfl, h⟩
theorem stat_cl {P : Pg} {c g : Nat} {m : Str} (h : statB P c m g = true) : ∃ x, P.cl[c]? = some x ∧ x.stat.lookup m = some g := by
  unfold statB at h
  cases e : P.cl[c]? with
  | none => rw [e] at h; cases h
  | some x => rw [e] at h; exact ⟨x, rfl, by simpa using h⟩
theorem sub1_ne {md : Nat} (h : md ≠ 1) : sub1 md = 0 := if_neg h
theorem sub1_eq {md : Nat} (h : md = 1) : sub1 md = 1 := if_pos h
theorem ty_pe {I : Nf} {k : Nat} {cf ci : Nat → List Dt → List Dt → Rc} (G : Good X F I k cf ci) : ∀ {t : Ty} {e : Expr}, mTy I X.env.scope t e = true → PE X e (tC (tyV F t)) ∧ tyKnown I.P t = true := by
  intro t e h
  cases e with
  | Name x p =>
    cases t with
    | own c =>
      simp only [mTy, Bool.and_eq_true, beq_iff_eq] at h
      obtain ⟨⟨⟨h1, h2⟩, h3⟩, h4⟩ := h
      exact ⟨pe_glob (gl_of h2) (G.gc x c h1).1 rfl (nm_of h3).1, h4⟩
    | int =>
      simp only [mTy, Bool.and_eq_true, beq_iff_eq] at h
      obtain ⟨⟨h1, h2⟩, h3⟩ := h
      subst h1
      exact ⟨pe_bltn (u := .type "int") (gl_of h2) (G.bn _ (List.contains_iff_mem.mp h3)) (by rfl) rfl, rfl⟩
    | bool =>
      simp only [mTy, Bool.and_eq_true, beq_iff_eq] at h
      obtain ⟨⟨h1, h2⟩, h3⟩ := h
      subst h1
      exact ⟨pe_bltn (u := .type "bool") (gl_of h2) (G.bn _ (List.contains_iff_mem.mp h3)) (by rfl) rfl, rfl⟩
    | str =>
      simp only [mTy, Bool.and_eq_true, beq_iff_eq] at h
      obtain ⟨⟨h1, h2⟩, h3⟩ := h
      subst h1
      exact ⟨pe_bltn (u := .type "str") (gl_of h2) (G.bn _ (List.contains_iff_mem.mp h3)) (by rfl) rfl, rfl⟩
    | list =>
      simp only [mTy, Bool.and_eq_true, beq_iff_eq] at h
      obtain ⟨⟨h1, h2⟩, h3⟩ := h
      subst h1
      exact ⟨pe_bltn (u := .type "list") (gl_of h2) (G.bn _ (List.contains_iff_mem.mp h3)) (by rfl) rfl, rfl⟩
    | tuple =>
      simp only [mTy, Bool.and_eq_true, beq_iff_eq] at h
      obtain ⟨⟨h1, h2⟩, h3⟩ := h
      subst h1
      exact ⟨pe_bltn (u := .type "tuple") (gl_of h2) (G.bn _ (List.contains_iff_mem.mp h3)) (by rfl) rfl, rfl⟩
    | dict =>
      simp only [mTy, Bool.and_eq_true, beq_iff_eq] at h
      obtain ⟨⟨h1, h2⟩, h3⟩ := h
      subst h1
      exact ⟨pe_bltn (u := .type "dict") (gl_of h2) (G.bn _ (List.contains_iff_mem.mp h3)) (by rfl) rfl, rfl⟩
  | _ => cases t <;> simp [mTy] at h
theorem var_of {I : Nf} {k : Nat} {cf ci : Nat → List Dt → List Dt → Rc} (G : Good X F I k cf ci) {i : Nat} {x : Str} (h : varB I X.env.scope i x = true) : X.N[i]? = some x ∧ Vis X.env.scope x ∧ (x == ("__debug__" : Str)) = false ∧ (x == ("__classdict__" : Str)) = false := by
  unfold varB at h
  simp only [Bool.and_eq_true, beq_iff_eq] at h
  obtain ⟨⟨h1, h2⟩, h3⟩ := h
  rw [G.N]
  exact ⟨h1, vis_of h2, nm_of h3⟩
theorem ownNs_map {N : List Str} {own : List Nat} : (ownNs N own).map (·.2) = own := by
  unfold ownNs
  rw [List.map_map]
  exact List.map_id _
end
mutual
theorem sd {I : Nf} {F : Fx} {k : Nat} {cf ci : Nat → List Dt → List Dt → Rc} : ∀ (c : Tm) {X : Cx} {f : Fm} {W : WX} {md : Nat} {e : Expr}, Good X F I k cf ci → Takes X W → mm I X.env.scope md c e = true → Sd X F f W md e (evE I.P cf ci c)
  | .var i, X, f, W, md, e, G, T, h => by
    cases e with
    | Name x p =>
      simp only [mm, Bool.and_eq_true, beq_iff_eq, decide_eq_true_eq, Bool.not_eq_true'] at h
      obtain ⟨h1, h2, h3, h4⟩ := var_of G h
      exact sd_val G.K (peOf (se_var h1 h2 h3 h4) fun S => by rw [evE] <;> rfl) fun _ => rfl
    | _ => simp [mm] at h
  | .cst d, X, f, W, md, e, G, T, h => by
    cases e with
    | Constant c j p =>
      have q : PE X (.Constant c j p) (RE F f W fun S => .ok d S) := by
        simp only [mm] at h
        cases d <;> cases c <;> first | (simp [mC] at h; done) | skip
        · exact se_c pe_non fun _ => rfl
        · simp only [mC, beq_iff_eq] at h; subst h; exact se_c pe_bl fun _ => rfl
        · simp only [mC, decide_eq_true_eq] at h; subst h; exact se_c pe_int fun _ => rfl
        · simp only [mC, beq_iff_eq] at h; subst h; exact se_c pe_str fun _ => rfl
      exact sd_val G.K (peOf q fun S => by rw [evE] <;> rfl) fun _ => rfl
    | _ => simp [mm] at h
  | .glo y d, X, f, W, md, e, G, T, h => by
    cases e with
    | Name x p =>
      simp only [mm, Bool.and_eq_true, beq_iff_eq] at h
      obtain ⟨⟨⟨h1, h2⟩, h3⟩, h4⟩ := h
      split at h4
      · rename_i d' e'
        have ed : d = d' := dtB_of d d' h4
        subst ed
        obtain ⟨u, v, g2, g3, g4⟩ := G.gl x d e'
        exact sd_val G.K (peOf (se_c (pe_glob (gl_of h2) g2 g3 (nm_of h3).1) g4) fun S => by rw [evE] <;> rfl) fun _ => rfl
      · cases h4
    | _ => simp [mm] at h
  | .bin op a b, X, f, W, md, e, G, T, h => by
    cases e with
    | BinOp e1 op2 e2 p =>
      simp only [mm, Bool.and_eq_true, beq_iff_eq, decide_eq_true_eq, Bool.not_eq_true'] at h
      obtain ⟨⟨h1, h2⟩, h3⟩ := h
      subst h1
      exact sd_val G.K (peOf (se_bin1 G.K G.cls G.fns (G.room.mono (by omega)) G.gd T G.pok.ops (sd0 (sd a G T h2)) (sd0 (sd b G T h3))) fun S => by rw [evE] <;> rfl) fun _ => rfl
    | _ => simp [mm] at h
  | .neg a, X, f, W, md, e, G, T, h => by
    cases e with
    | UnaryOp o e p =>
      cases o with
      | USub =>
        simp only [mm] at h
        exact sd_val G.K (peOf (se_neg (sd0 (sd a G T h))) fun S => by rw [evE] <;> rfl) fun _ => rfl
      | _ => simp [mm] at h
    | _ => simp [mm] at h
  | .not1 a, X, f, W, md, e, G, T, h => by
    cases e with
    | UnaryOp o e p =>
      cases o with
      | Not =>
        simp only [mm] at h
        refine sd_sub G.K (fun m => ?_) fun m => ?_
        · rw [sub1_ne m] at h
          exact peOf (se_not (sd0 (sd a G T h))) fun S => by rw [evE] <;> rfl
        · rw [sub1_eq m] at h
          exact ptOf (st_not (sd1 (sd a G T h))) fun S => by rw [evE] <;> rfl
      | _ => simp [mm] at h
    | _ => simp [mm] at h
  | .cmp op a b, X, f, W, md, e, G, T, h => by
    cases e with
    | Compare e1 ops es p =>
      cases ops with
      | cons op2 ops =>
        cases ops with
        | nil =>
          cases es with
          | cons e2 es =>
            cases es with
            | nil =>
              simp only [mm, Bool.and_eq_true, beq_iff_eq, decide_eq_true_eq, Bool.not_eq_true'] at h
              obtain ⟨⟨⟨h1, h2⟩, h3⟩, h4⟩ := h
              subst h1
              have q := se_cmp1 (pos := p) (cmp1_ok (f := f) (W := W) G.K G.cls G.fns G.pok.eq (G.room.mono (by omega)) G.gd op) h2 (sd0 (sd a G T h3)) (sd0 (sd b G T h4))
              exact sd_both G.K (peOf q.1 fun S => by rw [evE] <;> rfl) (ptOf q.2 fun S => by rw [evE] <;> rfl)
            | _ => simp [mm] at h
          | _ => simp [mm] at h
        | _ => simp [mm] at h
      | _ => simp [mm] at h
    | _ => simp [mm] at h
  | .chn o1 o2 a b c, X, f, W, md, e, G, T, h => by
    cases e with
    | Compare e1 ops es p =>
      cases ops with
      | cons op1 ops =>
        cases ops with
        | cons op2 ops =>
          cases ops with
          | nil =>
            cases es with
            | cons e2 es =>
              cases es with
              | cons e3 es =>
                cases es with
                | nil =>
                  simp only [mm, Bool.and_eq_true, beq_iff_eq, decide_eq_true_eq, Bool.not_eq_true'] at h
                  obtain ⟨⟨⟨⟨⟨h1, h2⟩, h3⟩, h4⟩, h5⟩, h6⟩ := h
                  subst h1
                  subst h2
                  have hu : X.A.units + 65 < cLine := by have := G.room.un; omega
                  have q := se_chn (pos := p) G.K hu h3 (sd0 (sd (f := f) a G T h4)) (sd0 (sd b G T h5)) (sd0 (sd c G T h6))
                  exact sd_both G.K (peOf q.1 fun S => by rw [evE] <;> rfl) (ptOf q.2 fun S => by rw [evE] <;> rfl)
                | _ => simp [mm] at h
              | _ => simp [mm] at h
            | _ => simp [mm] at h
          | _ => simp [mm] at h
        | _ => simp [mm] at h
      | _ => simp [mm] at h
    | _ => simp [mm] at h
  | .and2 a b, X, f, W, md, e, G, T, h => by
    cases e with
    | BoolOp o es p =>
      cases o with
      | And =>
        cases es with
        | nil => simp [mm] at h
        | cons e1 es =>
          cases es with
          | nil => simp [mm] at h
          | cons e2 es =>
            cases es with
            | nil =>
              simp only [mm, Bool.and_eq_true] at h
              refine sd_sub G.K (fun m => ?_) fun m => ?_
              · rw [sub1_ne m] at h
                exact peOf (se_and (sd0 (sd a G T h.1)) (pe_one (sd0 (sd b G T h.2)))) fun S => by rw [evE] <;> rfl
              · rw [sub1_eq m] at h
                exact ptOf (sw_and (sd1 (sd a G T h.1)) (pw_and1 (sd1 (sd b G T h.2)))).pt fun S => by rw [evE] <;> rfl
            | cons e3 r =>
              simp only [mm, Bool.and_eq_true] at h
              refine sd_sub G.K (fun m => ?_) fun m => ?_
              · rw [sub1_ne m] at h
                exact peOf (se_and (sd0 (sd a G T h.1)) (sd0 (sd b G T h.2))) fun S => by rw [evE] <;> rfl
              · rw [sub1_eq m] at h
                exact ptOf (sw_and (sd1 (sd a G T h.1)) (pw_b (sd1 (sd b G T h.2)))).pt fun S => by rw [evE] <;> rfl
      | _ => simp [mm] at h
    | _ => simp [mm] at h
  | .or2 a b, X, f, W, md, e, G, T, h => by
    cases e with
    | BoolOp o es p =>
      cases o with
      | Or =>
        cases es with
        | nil => simp [mm] at h
        | cons e1 es =>
          cases es with
          | nil => simp [mm] at h
          | cons e2 es =>
            cases es with
            | nil =>
              simp only [mm, Bool.and_eq_true] at h
              refine sd_sub G.K (fun m => ?_) fun m => ?_
              · rw [sub1_ne m] at h
                exact peOf (se_or (sd0 (sd a G T h.1)) (pe_one (sd0 (sd b G T h.2)))) fun S => by rw [evE] <;> rfl
              · rw [sub1_eq m] at h
                exact ptOf (sw_or (sd1 (sd a G T h.1)) (pw_or1 (sd1 (sd b G T h.2)))).pt fun S => by rw [evE] <;> rfl
            | cons e3 r =>
              simp only [mm, Bool.and_eq_true] at h
              refine sd_sub G.K (fun m => ?_) fun m => ?_
              · rw [sub1_ne m] at h
                exact peOf (se_or (sd0 (sd a G T h.1)) (sd0 (sd b G T h.2))) fun S => by rw [evE] <;> rfl
              · rw [sub1_eq m] at h
                exact ptOf (sw_or (sd1 (sd a G T h.1)) (pw_b (sd1 (sd b G T h.2)))).pt fun S => by rw [evE] <;> rfl
      | _ => simp [mm] at h
    | _ => simp [mm] at h
  | .ife c a b, X, f, W, md, e, G, T, h => by
    cases e with
    | IfExp ec ea eb p =>
      simp only [mm, Bool.and_eq_true, bne_iff_ne, ne_eq] at h
      obtain ⟨⟨⟨h1, h2⟩, h3⟩, h4⟩ := h
      exact sd_sub G.K (fun _ => peOf (se_ife (sd1 (sd c G T h2)) (sd0 (sd a G T h3)) (sd0 (sd b G T h4))) fun S => by rw [evE] <;> rfl) fun m => absurd m h1
    | _ => simp [mm] at h
  | .tup cs, X, f, W, md, e, G, T, h => by
    cases e with
    | Tuple es kk p =>
      simp only [mm, Bool.and_eq_true, beq_iff_eq, decide_eq_true_eq, Bool.not_eq_true'] at h
      exact sd_val G.K (peOf (se_tup ((sds cs G T h.2).pa h.1)) fun S => by rw [evE] <;> rfl) fun _ => rfl
    | _ => simp [mm] at h
  | .lst cs, X, f, W, md, e, G, T, h => by
    cases e with
    | List es p =>
      simp only [mm, Bool.and_eq_true, beq_iff_eq, decide_eq_true_eq, Bool.not_eq_true'] at h
      exact sd_val G.K (peOf (se_lst ((sds cs G T h.2).pa h.1)) fun S => by rw [evE] <;> rfl) fun _ => rfl
    | _ => simp [mm] at h
  | .ix a b, X, f, W, md, e, G, T, h => by
    cases e with
    | Subscript e1 e2 p =>
      simp only [mm, Bool.and_eq_true, beq_iff_eq, decide_eq_true_eq, Bool.not_eq_true'] at h
      obtain ⟨⟨h1, h2⟩, h3⟩ := h
      exact sd_val G.K (peOf (se_ix G.K (ix_of h1) (sd0 (sd a G T h2)) (sd0 (sd b G T h3))) fun S => by rw [evE] <;> rfl) fun _ => rfl
    | _ => simp [mm] at h
  | .fld a fl, X, f, W, md, e, G, T, h => by
    cases e with
    | Attribute e1 fl2 p =>
      simp only [mm, Bool.and_eq_true, beq_iff_eq, decide_eq_true_eq, Bool.not_eq_true'] at h
      obtain ⟨⟨h1, h2⟩, h3⟩ := h
      subst h1
      exact sd_val G.K (peOf (se_fld G.cls G.fns (fun c g q => G.pok.pr c fl g q) (G.room.mono (by omega)) G.gd (base_of h2) (sd0 (sd a G T h3))) fun S => by rw [evE] <;> rfl) fun _ => rfl
    | _ => simp [mm] at h
  | .bi b cs, X, f, W, md, e, G, T, h => by
    cases e with
    | Call fn es kws p =>
      cases fn with
      | Name x px =>
        cases es with
        | cons e es =>
          cases kws with
          | nil =>
            simp only [mm, Bool.and_eq_true, beq_iff_eq, decide_eq_true_eq, Bool.not_eq_true'] at h
            obtain ⟨⟨⟨⟨h1, h2⟩, h3⟩, h4⟩, h5⟩ := h
            subst h1
            exact sd_val G.K (peOf (se_bi (bi1_ok G.K G.cls G.fns G.pok.sp G.calm (G.room.mono (by omega)) G.gd b) (gl_of h2) (G.bn _ (List.contains_iff_mem.mp h3)) h4 ((sds cs G T h5).pa h4)) fun S => by rw [evE] <;> rfl) fun _ => rfl
          | _ => simp [mm] at h
        | _ => simp [mm] at h
      | _ => simp [mm] at h
    | _ => simp [mm] at h
  | .isi a ts, X, f, W, md, e, G, T, h => by
    cases ts with
    | nil => simp [mm] at h
    | cons t ts =>
      cases ts with
      | cons _ _ => simp [mm] at h
      | nil =>
        cases e with
        | Call fn es kws p =>
          cases fn with
          | Name x px =>
            cases es with
            | cons e es =>
              cases es with
              | cons ec es =>
                cases es with
                | nil =>
                  cases kws with
                  | nil =>
                    simp only [mm, Bool.and_eq_true, beq_iff_eq, decide_eq_true_eq, Bool.not_eq_true'] at h
                    obtain ⟨⟨⟨⟨⟨h1, h2⟩, h3⟩, h4⟩, h5⟩, h6⟩ := h
                    subst h1
                    obtain ⟨q1, q2⟩ := ty_pe G h5
                    exact sd_val G.K (peOf (se_isi1 G.K G.cls q2 (gl_of h2) (G.bn _ (List.contains_iff_mem.mp h3)) h4 (sd0 (sd a G T h6)) q1) fun S => by rw [evE] <;> rfl) fun _ => rfl
                  | _ => simp [mm] at h
                | _ => simp [mm] at h
              | _ => simp [mm] at h
            | _ => simp [mm] at h
          | _ => simp [mm] at h
        | _ => simp [mm] at h
  | .call g ks cs, X, f, W, md, e, G, T, h => by
    cases e with
    | Call fn es kws p =>
      cases fn with
      | Name x px =>
        simp only [mm, Bool.and_eq_true, beq_iff_eq, decide_eq_true_eq, Bool.not_eq_true'] at h
        obtain ⟨⟨⟨⟨⟨⟨h1, h2⟩, h3⟩, h4⟩, h5⟩, h6⟩, h7⟩ := h
        subst h2
        have q := sds (f := f) (W := W) cs G T h7
        have gg := G.gf x g h1
        exact sd_val G.K (peOf (se_call (k := k) (shl := fun n => I.P.shf g n (kwNames kws)) (fun sh e => G.fns g _ _ sh e) (kwN_len h6) (G.room.mono (by omega)) G.gd T (gl_of h3) gg.1 gg.2 (nm_of h4).1 (fun S ds S1 z => (evEs_len z).trans (q.len.trans (by rw [List.length_append, List.length_map]))) (q.parg h5 h6)) fun S => by rw [evE] <;> rfl) fun _ => rfl
      | _ => simp [mm] at h
    | _ => simp [mm] at h
  | .make g ks cs, X, f, W, md, e, G, T, h => by
    cases e with
    | Call fn es kws p =>
      cases fn with
      | Name x px =>
        simp only [mm, Bool.and_eq_true, beq_iff_eq, decide_eq_true_eq, Bool.not_eq_true'] at h
        obtain ⟨⟨⟨⟨⟨⟨h1, h2⟩, h3⟩, h4⟩, h5⟩, h6⟩, h7⟩ := h
        subst h2
        have q := sds (f := f) (W := W) cs G T h7
        have gg := G.gc x g h1
        have cc : ∀ fi, (∀ sh, I.P.shc g es.length (kwNames kws) = some sh → Mk X.K (F.ca g) fi ∧ CalG X.prog X.w X.K X.mg X.base k fi (es.length + 1) (kwNames kws) (spI F g (ci g) sh)) → Sd X F f W md (.Call (.Name x px) es kws p) (evE I.P cf ci (.make g (kwNames kws) cs)) := fun fi M =>
          sd_val G.K (peOf (se_make (k := k) (shl := fun n => I.P.shc g n (kwNames kws)) M (kwN_len h6) (G.room.mono (by omega)) G.gd T (gl_of h3) gg.1 gg.2 (nm_of h4).1 (fun S ds S1 z => (evEs_len z).trans (q.len.trans (by rw [List.length_append, List.length_map]))) (q.parg h5 h6)) fun S => by rw [evE] <;> rfl) fun _ => rfl
        cases e : I.P.shc g es.length (kwNames kws) with
        | none => exact cc 0 fun sh e2 => by rw [e] at e2; cases e2
        | some sh =>
          obtain ⟨fi, m1, m2⟩ := G.cis g _ _ sh e
          exact cc fi fun sh2 e2 => by rw [e] at e2; cases e2; exact ⟨m1, m2⟩
      | _ => simp [mm] at h
    | _ => simp [mm] at h
  | .meth a m ks cs, X, f, W, md, e, G, T, h => by
    cases e with
    | Call fn es kws p =>
      cases fn with
      | Attribute o m2 apos =>
        simp only [mm, Bool.and_eq_true, beq_iff_eq, decide_eq_true_eq, Bool.not_eq_true'] at h
        obtain ⟨⟨⟨⟨⟨⟨⟨⟨h1, h2⟩, h3⟩, h4⟩, h5⟩, h6⟩, h7⟩, h8⟩, h9⟩ := h
        subst h1
        subst h2
        have q := sds (f := f) (W := W) cs G T h9
        refine sd_val G.K (peOf (se_meth (k := k) (P := I.P) (cf := cf) (sd0 (sd a G T h8)) (fun c g e => ?_) (kwN_len h7) (G.room.mono (by omega)) G.gd T (fun S ds S1 z => (evEs_len z).trans (q.len.trans (by rw [List.length_append, List.length_map]))) (q.parg h6 h7) (meth_eval h3 (by rw [h4]; exact beq_self_eq_true _) h6 h7 h5)) fun S => by rw [evE] <;> rfl) fun _ => rfl
        obtain ⟨x, e1, e2⟩ := meth_cl e
        exact ⟨(G.cls c x e1).cls, (G.cls c x e1).meth m g e2, fun sh e => G.fns g _ _ sh e⟩
      | _ => simp [mm] at h
    | _ => simp [mm] at h
  | .smeth c m g ks cs, X, f, W, md, e, G, T, h => by
    cases e with
    | Call fn es kws p =>
      cases fn with
      | Attribute o m2 apos =>
        cases o with
        | Name x px =>
          simp only [mm, Bool.and_eq_true, beq_iff_eq, decide_eq_true_eq, Bool.not_eq_true'] at h
          obtain ⟨⟨⟨⟨⟨⟨⟨⟨⟨⟨⟨h1, h2⟩, h3⟩, h4⟩, h5⟩, h6⟩, h7⟩, h8⟩, h9⟩, h10⟩, h11⟩, h12⟩ := h
          subst h3
          subst h4
          have q := sds (f := f) (W := W) cs G T h12
          have gg := G.gc x c h1
          obtain ⟨cx, e1, e2⟩ := stat_cl h2
          exact sd_val G.K (peOf (se_smeth (k := k) (g := cf g) (shl := fun n => I.P.shf g n (kwNames kws)) ((G.cls c cx e1).stat m g e2) (fun sh e => G.fns g _ _ sh e) (kwN_len h11) (G.room.mono (by omega)) G.gd T (gl_of h5) gg.1 (nm_of h6).1 (fun S ds S1 z => (evEs_len z).trans (q.len.trans (by rw [List.length_append, List.length_map]))) (q.parg h10 h11) (meth_eval (by rfl) (by rw [h8]; exact beq_self_eq_true _) h10 h11 h9)) fun S => by rw [evE] <;> rfl) fun _ => rfl
        | _ => simp [mm] at h
      | _ => simp [mm] at h
    | _ => simp [mm] at h
  | .comp ce own tg it cc, X, f, W, md, e, G, T, h => by
    cases e with
    | ListComp elt gens scope p =>
      cases gens with
      | nil => simp [mm] at h
      | cons gn gens =>
        cases gens with
        | cons _ _ => simp [mm] at h
        | nil =>
          obtain ⟨tgE, iter, ifs, as⟩ := gn
          by_cases h0 : as = 0
          case neg => simp [mm, h0] at h
          case pos =>
            subst h0
            have core : blkC I.N X.env.scope scope (ownNs I.N own) = true → mT I.N (relS scope X.env.scope) true tg tgE = true → (tgSl tg).all (fun i => own.contains i) = true → setFB iter = true → mm I X.env.scope (itMd tgE) it iter = true → mm I (relS scope X.env.scope) 0 ce elt = true →
                (∀ (s : Shared) (H : Hp) (C : Addr) (cl : List (Str × Addr)) (fp : List Addr), PTs (X.blk s H scope (compEnvC scope cl C X.env) fp) ifs (fun σ H Q => ∃ f', RB F f' W0 (evE I.P cf ci cc) σ H Q)) → Sd X F f W md (.ListComp elt [⟨tgE, iter, ifs, 0⟩] scope p) (evE I.P cf ci (.comp ce own tg it cc)) := by
              intro h1 h3 h4 h5 h6 h7 ht
              refine sd_val G.K (peOf (se_comp (own := ownNs I.N own) (tg := tg) (mc := evE I.P cf ci cc) (me := evE I.P cf ci ce) (mi := evE I.P cf ci it) G.K G.calm G.nod (sdI (sd it G T h6)) (by rw [G.N]; exact blkOk_by h1) (fun s H C cl fp => ?_) ht (fun s H C cl fp => ?_) (fun x => setF_of h5) ?_) fun S => by rw [evE, ownNs_map]) fun _ => rfl
              · refine pg_of (X := X.blk s H scope (compEnvC scope cl C X.env) fp) (lc := true) G.nod G.calm (fun z => by cases z) tg tgE ?_
                show mT X.N _ true tg tgE = true
                rw [G.N]
                exact h3
              · exact ⟨fun pins s σ H Q Iv ⟨f', hq⟩ => (sd0 (sd (f := f') (W := W0) ce (G.blk _ _ _ _ _) takes_blk h7)).run pins s σ H Q Iv hq⟩
              · intro i hi
                rw [ownNs_map]
                rw [List.all_eq_true] at h4
                exact List.contains_iff_mem.mp (h4 i hi)
            cases ifs with
            | nil =>
              simp only [mm, Bool.and_eq_true] at h
              obtain ⟨⟨⟨⟨⟨⟨⟨h1, h2⟩, h3⟩, h4⟩, h5⟩, h6⟩, h7⟩, h8⟩ := h
              refine core h1 h3 h4 h5 h6 h7 fun s H C cl fp => ⟨fun pins s σ H Q Iv hq => pts_nil.run pins s σ H Q Iv ?_⟩
              obtain ⟨f', w, S, R, hq⟩ := hq
              have ec : cc = .cst (.bl true) := by
                unfold isYes at h8
                split at h8
                · rfl
                · cases h8
              subst ec
              unfold tst at hq
              rw [evE] at hq
              exact hq true w H R (Le.refl _) rfl
            | cons e1 r =>
              cases r with
              | cons _ _ => simp [mm] at h
              | nil =>
                simp only [mm, Bool.and_eq_true] at h
                obtain ⟨⟨⟨⟨⟨⟨⟨h1, h2⟩, h3⟩, h4⟩, h5⟩, h6⟩, h7⟩, h8⟩ := h
                exact core h1 h3 h4 h5 h6 h7 fun s H C cl fp => ⟨fun pins s σ H Q Iv ⟨f', hq⟩ => (pts_one (sd1 (sd (f := f') (W := W0) cc (G.blk _ _ _ _ _) takes_blk h8))).run pins s σ H Q Iv hq⟩
    | _ => simp [mm] at h
  | .rng1 a, X, f, W, md, e, G, T, h => by
    cases e with
    | Call fn es kws p =>
      cases fn with
      | Name x px =>
        cases es with
        | cons e es =>
          cases es with
          | nil =>
            cases kws with
            | nil =>
              simp only [mm, Bool.and_eq_true, beq_iff_eq, decide_eq_true_eq, Bool.not_eq_true'] at h
              obtain ⟨⟨⟨⟨⟨h1, h2⟩, h3⟩, h4⟩, h5⟩, h6⟩ := h
              subst h1
              subst h2
              exact fun tg => piOf (se_rng1 (gl_of h3) (G.bn _ (List.contains_iff_mem.mp h4)) h5 (sd0 (sd a G T h6))) fun S => by rw [evE] <;> rfl
            | _ => simp [mm] at h
          | _ => simp [mm] at h
        | _ => simp [mm] at h
      | _ => simp [mm] at h
    | _ => simp [mm] at h
  | .rng2 a b, X, f, W, md, e, G, T, h => by
    cases e with
    | Call fn es kws p =>
      cases fn with
      | Name x px =>
        cases es with
        | cons e es =>
          cases es with
          | cons e2 es =>
            cases es with
            | nil =>
              cases kws with
              | nil =>
                simp only [mm, Bool.and_eq_true, beq_iff_eq, decide_eq_true_eq, Bool.not_eq_true'] at h
                obtain ⟨⟨⟨⟨⟨⟨h1, h2⟩, h3⟩, h4⟩, h5⟩, h6⟩, h7⟩ := h
                subst h1
                subst h2
                exact fun tg => piOf (se_rng2 (gl_of h3) (G.bn _ (List.contains_iff_mem.mp h4)) h5 (sd0 (sd a G T h6)) (sd0 (sd b G T h7))) fun S => by rw [evE] <;> rfl
              | _ => simp [mm] at h
            | _ => simp [mm] at h
          | _ => simp [mm] at h
        | _ => simp [mm] at h
      | _ => simp [mm] at h
    | _ => simp [mm] at h
  | .fst cs, X, f, W, md, e, G, T, h => by
    cases e with
    | JoinedStr es p =>
      simp only [mm, Bool.and_eq_true, decide_eq_true_eq] at h
      have q := sds (f := f) (W := W) cs G T h.2
      cases es with
      | nil => exact absurd h.1 (by simp)
      | cons e1 es =>
        cases cs with
        | nil => exact q.elim
        | cons c cs =>
          cases es with
          | nil =>
            cases cs with
            | nil => exact sd_val G.K (se_fst1 q.1) fun _ => rfl
            | cons _ _ => exact q.2.elim
          | cons e2 r => exact sd_val G.K (se_fst q.pj) fun _ => rfl
    | _ => simp [mm] at h
  | .fms a, X, f, W, md, e, G, T, h => by
    cases e with
    | FormattedValue e1 cv sp p =>
      cases sp with
      | none =>
        simp only [mm, Bool.and_eq_true, beq_iff_eq, decide_eq_true_eq, Bool.not_eq_true'] at h
        obtain ⟨h1, h2⟩ := h
        subst h1
        exact sd_val G.K (peOf (se_fms (sd0 (sd a G T h2))) fun S => by rw [evE] <;> rfl) fun _ => rfl
      | _ => simp [mm] at h
    | _ => simp [mm] at h
  | .fmr a, X, f, W, md, e, G, T, h => by
    cases e with
    | FormattedValue e1 cv sp p =>
      cases sp with
      | none =>
        simp only [mm, Bool.and_eq_true, beq_iff_eq, decide_eq_true_eq, Bool.not_eq_true'] at h
        obtain ⟨h1, h2⟩ := h
        subst h1
        exact sd_val G.K (peOf (se_fmr (sd0 (sd a G T h2))) fun S => by rw [evE] <;> rfl) fun _ => rfl
      | _ => simp [mm] at h
    | _ => simp [mm] at h
  | .split a b, X, f, W, md, e, G, T, h => by
    cases e with
    | Call fn es kws p =>
      cases fn with
      | Attribute o m2 apos =>
        cases es with
        | cons e es =>
          cases es with
          | nil =>
            cases kws with
            | nil =>
              simp only [mm, Bool.and_eq_true, beq_iff_eq, decide_eq_true_eq, Bool.not_eq_true'] at h
              obtain ⟨⟨⟨⟨⟨h1, h2⟩, h3⟩, h4⟩, h5⟩, h6⟩ := h
              subst h1
              exact sd_val G.K (peOf (se_split (base_of h2) (by rw [h3]; exact beq_self_eq_true _) h4 (sd0 (sd a G T h5)) (sd0 (sd b G T h6))) fun S => by rw [evE] <;> rfl) fun _ => rfl
            | _ => simp [mm] at h
          | _ => simp [mm] at h
        | _ => simp [mm] at h
      | _ => simp [mm] at h
    | _ => simp [mm] at h
  | .lenB i, X, f, W, md, e, G, T, h => by
    cases e with
    | Call fn es kws p =>
      cases fn with
      | Name x px =>
        cases es with
        | cons e es =>
          cases e with
          | Name y py =>
            cases es with
            | nil =>
              cases kws with
              | nil =>
                simp only [mm, Bool.and_eq_true, beq_iff_eq, decide_eq_true_eq, Bool.not_eq_true'] at h
                obtain ⟨⟨⟨h1, h2⟩, h3⟩, h4⟩ := h
                subst h1
                obtain ⟨q1, q2, q3, q4⟩ := var_of G h4
                exact sd_val G.K (peOf (se_lenB q1 q2 q3 q4 (gl_of h2) (G.bn _ (List.contains_iff_mem.mp h3))) fun S => by rw [evE] <;> rfl) fun _ => rfl
              | _ => simp [mm] at h
            | _ => simp [mm] at h
          | _ => simp [mm] at h
        | _ => simp [mm] at h
      | _ => simp [mm] at h
    | _ => simp [mm] at h
  | .ixB i b, X, f, W, md, e, G, T, h => by
    cases e with
    | Subscript e1 e2 p =>
      cases e1 with
      | Name x px =>
        simp only [mm, Bool.and_eq_true, beq_iff_eq, decide_eq_true_eq, Bool.not_eq_true'] at h
        obtain ⟨⟨h1, h2⟩, h3⟩ := h
        obtain ⟨q1, q2, q3, q4⟩ := var_of G h1
        exact sd_val G.K (peOf (se_ixB q1 q2 q3 q4 (ix_of h2) (sd0 (sd b G T h3))) fun S => by rw [evE] <;> rfl) fun _ => rfl
      | _ => simp [mm] at h
    | _ => simp [mm] at h
  | .slcL a b, X, f, W, md, e, G, T, h => by
    cases e with
    | Subscript e1 es p =>
      cases es with
      | Slice lo hi st p2 =>
        cases lo with
        | some e2 =>
          cases hi with
          | none =>
            cases st with
            | none =>
              simp only [mm, Bool.and_eq_true, beq_iff_eq, decide_eq_true_eq, Bool.not_eq_true'] at h
              exact sd_val G.K (peOf (se_slcL G.K (sd0 (sd a G T h.1)) (sd0 (sd b G T h.2))) fun S => by rw [evE] <;> rfl) fun _ => rfl
            | _ => simp [mm] at h
          | _ => simp [mm] at h
        | _ => simp [mm] at h
      | _ => simp [mm] at h
    | _ => simp [mm] at h
  | .slcH a b, X, f, W, md, e, G, T, h => by
    cases e with
    | Subscript e1 es p =>
      cases es with
      | Slice lo hi st p2 =>
        cases lo with
        | none =>
          cases hi with
          | some e2 =>
            cases st with
            | none =>
              simp only [mm, Bool.and_eq_true, beq_iff_eq, decide_eq_true_eq, Bool.not_eq_true'] at h
              exact sd_val G.K (peOf (se_slcH G.K (sd0 (sd a G T h.1)) (sd0 (sd b G T h.2))) fun S => by rw [evE] <;> rfl) fun _ => rfl
            | _ => simp [mm] at h
          | _ => simp [mm] at h
        | _ => simp [mm] at h
      | _ => simp [mm] at h
    | _ => simp [mm] at h
  | .slcB a b c, X, f, W, md, e, G, T, h => by
    cases e with
    | Subscript e1 es p =>
      cases es with
      | Slice lo hi st p2 =>
        cases lo with
        | some e2 =>
          cases hi with
          | some e3 =>
            cases st with
            | none =>
              simp only [mm, Bool.and_eq_true, beq_iff_eq, decide_eq_true_eq, Bool.not_eq_true'] at h
              obtain ⟨⟨h1, h2⟩, h3⟩ := h
              exact sd_val G.K (peOf (se_slcB G.K (sd0 (sd a G T h1)) (sd0 (sd b G T h2)) (sd0 (sd c G T h3))) fun S => by rw [evE] <;> rfl) fun _ => rfl
            | _ => simp [mm] at h
          | _ => simp [mm] at h
        | _ => simp [mm] at h
      | _ => simp [mm] at h
    | _ => simp [mm] at h
  | .enm a, X, f, W, md, e, G, T, h => by
    cases e with
    | Call fn es kws p =>
      cases fn with
      | Name x px =>
        cases es with
        | cons e es =>
          cases es with
          | nil =>
            cases kws with
            | nil =>
              simp only [mm, Bool.and_eq_true, beq_iff_eq, decide_eq_true_eq, Bool.not_eq_true'] at h
              obtain ⟨⟨⟨⟨⟨h1, h2⟩, h3⟩, h4⟩, h5⟩, h6⟩ := h
              subst h1
              subst h2
              exact fun elts kk tpos => piOf (se_enm (gl_of h3) (G.bn _ (List.contains_iff_mem.mp h4)) h5 (sd0 (sd a G T h6))) fun S => by rw [evE] <;> rfl
            | _ => simp [mm] at h
          | _ => simp [mm] at h
        | _ => simp [mm] at h
      | _ => simp [mm] at h
    | _ => simp [mm] at h
  | .lrg2 a b, X, f, W, md, e, G, T, h => by
    cases e with
    | Call fn es kws p =>
      cases fn with
      | Name x px =>
        cases es with
        | cons e es =>
          cases e with
          | Call fn2 es2 kws2 p2 =>
            cases fn2 with
            | Name y py =>
              cases es2 with
              | cons e1 es2 =>
                cases es2 with
                | cons e2 es2 =>
                  cases es2 with
                  | nil =>
                    cases kws2 with
                    | nil =>
                      cases es with
                      | nil =>
                        cases kws with
                        | nil =>
                          simp only [mm, Bool.and_eq_true, beq_iff_eq, decide_eq_true_eq, Bool.not_eq_true'] at h
                          obtain ⟨⟨⟨⟨⟨⟨⟨⟨h1, h2⟩, h3⟩, h4⟩, h5⟩, h6⟩, h7⟩, h8⟩, h9⟩ := h
                          subst h1
                          subst h2
                          exact sd_val G.K (peOf (se_lrg2 G.calm (gl_of h3) (G.bn _ (List.contains_iff_mem.mp h5)) (gl_of h4) (G.bn _ (List.contains_iff_mem.mp h6)) h7 (sd0 (sd a G T h8)) (sd0 (sd b G T h9))) fun S => by rw [evE] <;> rfl) fun _ => rfl
                        | _ => simp [mm] at h
                      | _ => simp [mm] at h
                    | _ => simp [mm] at h
                  | _ => simp [mm] at h
                | _ => simp [mm] at h
              | _ => simp [mm] at h
            | _ => simp [mm] at h
          | _ => simp [mm] at h
        | _ => simp [mm] at h
      | _ => simp [mm] at h
    | _ => simp [mm] at h
  | .join a b, X, f, W, md, e, G, T, h => by
    cases e with
    | Call fn es kws p =>
      cases fn with
      | Attribute o m2 apos =>
        cases es with
        | cons e es =>
          cases es with
          | nil =>
            cases kws with
            | nil =>
              simp only [mm, Bool.and_eq_true, beq_iff_eq, decide_eq_true_eq, Bool.not_eq_true'] at h
              obtain ⟨⟨⟨⟨⟨h1, h2⟩, h3⟩, h4⟩, h5⟩, h6⟩ := h
              subst h1
              exact sd_val G.K (peOf (se_join (base_of h2) (by rw [h3]; exact beq_self_eq_true _) h4 (sd0 (sd a G T h5)) (sd0 (sd b G T h6))) fun S => by rw [evE] <;> rfl) fun _ => rfl
            | _ => simp [mm] at h
          | _ => simp [mm] at h
        | _ => simp [mm] at h
      | _ => simp [mm] at h
    | _ => simp [mm] at h
  | .mk0 c, X, f, W, md, e, G, T, h => by
    cases e with
    | Call fn es kws p =>
      cases fn with
      | Name x px =>
        cases es with
        | nil =>
          cases kws with
          | nil =>
            simp only [mm, Bool.and_eq_true, beq_iff_eq, decide_eq_true_eq, Bool.not_eq_true'] at h
            obtain ⟨⟨⟨h1, h2⟩, h3⟩, h4⟩ := h
            unfold bareB at h4
            split at h4
            · rename_i cx ec
              have tc := G.cls c cx ec
              exact sd_val G.K (peOf (se_mk0 (tc.bare h4) tc.tm (gl_of h2) (G.gc x c h1).1 (nm_of h3).1) fun S => by rw [evE, ec]; simp only [h4, if_true]) fun _ => rfl
            · cases h4
          | _ => simp [mm] at h
        | _ => simp [mm] at h
      | _ => simp [mm] at h
    | _ => simp [mm] at h
theorem sds {I : Nf} {F : Fx} {k : Nat} {cf ci : Nat → List Dt → List Dt → Rc} : ∀ (cs : List Tm) {X : Cx} {f : Fm} {W : WX} {es : List Expr}, Good X F I k cf ci → Takes X W → mms I X.env.scope cs es = true → PEs X F f W I.P cf ci cs es
  | [], X, f, W, es, G, T, h => by
    cases es with
    | nil => trivial
    | cons _ _ => simp [mms] at h
  | c :: cs, X, f, W, es, G, T, h => by
    cases es with
    | nil => simp [mms] at h
    | cons e es =>
      simp only [mms, Bool.and_eq_true] at h
      exact ⟨sd0 (sd c G T h.1), sds cs G T h.2⟩
end
end PyI
set_option maxHeartbeats 4000000
namespace PyI
open PySem PySem.Spec PyProof.Rows L2
/-- the store of a list comprehension is not swapped -/
def swFB (sc : Scope) : Expr → Bool
  | .Name y _ => !loB sc y
  | _ => true
theorem swF_of {elt t : Expr} {gs : List Comprehension} {scope : Scope} {pos : Pos} {l : Nat} {env : Env} (h : swFB env.scope t = true) : swapsWithSole [t] (.ListComp elt gs scope pos) l env = pure false := by
  show swapsWith (.ListComp elt gs scope pos) (some t) l env = pure false
  unfold swapsWith
  cases t with
  | Name y py =>
    have h1 : loB env.scope y = false := by simpa [swFB] using h
    have h2 : (env.kindOf y == some NameKind.local) = false := by
      rw [beq_eq_false_iff_ne]
      intro e
      have e : env.scope.names.lookup y = some .local := e
      unfold loB at h1
      rw [e] at h1
      cases h1
    simp [h2]
  | _ => rfl
/-- the value is no comprehension, or its store is not swapped -/
def swOk (sc : Scope) (t v : Expr) : Bool := match v with
  | .ListComp _ _ _ _ => swFB sc t
  | v => !compB v
theorem swOk_of {t v : Expr} {l : Nat} {env : Env} (h : swOk env.scope t v = true) : swapsWithSole [t] v l env = pure false := by
  unfold swOk at h
  split at h
  · exact swF_of h
  · exact sws_of (by simpa using h)
/-- name = [comp] on one line, the name local: the store is swapped -/
def swYes (sc : Scope) (x : Str) (px : Pos) : Expr → Bool
  | .ListComp _ _ scope p => loB sc x && (px.line == p.line) && !(scope.names.any fun (n, k) => n == x && (k == .local || k == .cell))
  | _ => false
def isComp : Expr → Bool
  | .ListComp _ _ _ _ => true
  | _ => false
def swTg (N : List Str) (sc : Scope) (v : Expr) : Tg → Expr → Bool
  | .nm i, .Name x px => N[i]? == some x && swYes sc x px v
  | _, _ => false
def fresh1 : Tm → Bool
  | .lst _ => true
  | .bi .list [_] => true
  | .comp _ _ _ _ _ => true
  | _ => false
structure DAsg where
  t : Expr
  v : Expr
  pos : Pos
def DAsg.st (d : DAsg) : Stmt := .Assign [d.t] d.v d.pos
def DAsg.of : Stmt → Option DAsg
  | .Assign [t] v pos => some ⟨t, v, pos⟩
  | _ => none
theorem DAsg.eq {st : Stmt} {d : DAsg} (h : DAsg.of st = some d) : st = d.st := by
  unfold DAsg.of at h
  split at h
  · cases h
    rfl
  · cases h
structure DAsN where
  x : Str
  px : Pos
  v : Expr
  pos : Pos
def DAsN.st (d : DAsN) : Stmt := .Assign [.Name d.x d.px] d.v d.pos
def DAsN.of : Stmt → Option DAsN
  | .Assign [.Name x px] v pos => some ⟨x, px, v, pos⟩
  | _ => none
theorem DAsN.eq {st : Stmt} {d : DAsN} (h : DAsN.of st = some d) : st = d.st := by
  unfold DAsN.of at h
  split at h
  · cases h
    rfl
  · cases h
structure DPar where
  x : Str
  px : Pos
  y : Str
  py : Pos
  kt : Nat
  pt : Pos
  ea : Expr
  eb : Expr
  kv : Nat
  pv : Pos
  pos : Pos
def DPar.st (d : DPar) : Stmt := .Assign [.Tuple [.Name d.x d.px, .Name d.y d.py] d.kt d.pt] (.Tuple [d.ea, d.eb] d.kv d.pv) d.pos
def DPar.of : Stmt → Option DPar
  | .Assign [.Tuple [.Name x px, .Name y py] kt pt] (.Tuple [ea, eb] kv pv) pos => some ⟨x, px, y, py, kt, pt, ea, eb, kv, pv, pos⟩
  | _ => none
theorem DPar.eq {st : Stmt} {d : DPar} (h : DPar.of st = some d) : st = d.st := by
  unfold DPar.of at h
  split at h
  · cases h
    rfl
  · cases h
structure DPut where
  eo : Expr
  ei : Expr
  ap : Pos
  v : Expr
  pos : Pos
def DPut.st (d : DPut) : Stmt := .Assign [.Subscript d.eo d.ei d.ap] d.v d.pos
def DPut.of : Stmt → Option DPut
  | .Assign [.Subscript eo ei ap] v pos => some ⟨eo, ei, ap, v, pos⟩
  | _ => none
theorem DPut.eq {st : Stmt} {d : DPut} (h : DPut.of st = some d) : st = d.st := by
  unfold DPut.of at h
  split at h
  · cases h
    rfl
  · cases h
structure DPuB where
  x : Str
  px : Pos
  ei : Expr
  ap : Pos
  v : Expr
  pos : Pos
def DPuB.st (d : DPuB) : Stmt := .Assign [.Subscript (.Name d.x d.px) d.ei d.ap] d.v d.pos
def DPuB.of : Stmt → Option DPuB
  | .Assign [.Subscript (.Name x px) ei ap] v pos => some ⟨x, px, ei, ap, v, pos⟩
  | _ => none
theorem DPuB.eq {st : Stmt} {d : DPuB} (h : DPuB.of st = some d) : st = d.st := by
  unfold DPuB.of at h
  split at h
  · cases h
    rfl
  · cases h
structure DFld where
  x : Str
  px : Pos
  fl : Str
  ap : Pos
  v : Expr
  pos : Pos
def DFld.st (d : DFld) : Stmt := .Assign [.Attribute (.Name d.x d.px) d.fl d.ap] d.v d.pos
def DFld.of : Stmt → Option DFld
  | .Assign [.Attribute (.Name x px) fl ap] v pos => some ⟨x, px, fl, ap, v, pos⟩
  | _ => none
theorem DFld.eq {st : Stmt} {d : DFld} (h : DFld.of st = some d) : st = d.st := by
  unfold DFld.of at h
  split at h
  · cases h
    rfl
  · cases h
structure DTsb where
  eo : Expr
  ei : Expr
  ap : Pos
  x : Str
  px : Pos
  kt : Nat
  pt : Pos
  v : Expr
  pos : Pos
def DTsb.st (d : DTsb) : Stmt := .Assign [.Tuple [.Subscript d.eo d.ei d.ap, .Name d.x d.px] d.kt d.pt] d.v d.pos
def DTsb.of : Stmt → Option DTsb
  | .Assign [.Tuple [.Subscript eo ei ap, .Name x px] kt pt] v pos => some ⟨eo, ei, ap, x, px, kt, pt, v, pos⟩
  | _ => none
theorem DTsb.eq {st : Stmt} {d : DTsb} (h : DTsb.of st = some d) : st = d.st := by
  unfold DTsb.of at h
  split at h
  · cases h
    rfl
  · cases h
structure DIff where
  ec : Expr
  sa : List Stmt
  sb : List Stmt
  pos : Pos
def DIff.st (d : DIff) : Stmt := .If d.ec d.sa d.sb d.pos
def DIff.of : Stmt → Option DIff
  | .If ec sa sb pos => some ⟨ec, sa, sb, pos⟩
  | _ => none
theorem DIff.eq {st : Stmt} {d : DIff} (h : DIff.of st = some d) : st = d.st := by
  unfold DIff.of at h
  split at h
  · cases h
    rfl
  · cases h
structure DFor where
  te : Expr
  ie : Expr
  be : List Stmt
  pos : Pos
def DFor.st (d : DFor) : Stmt := .For d.te d.ie d.be [] d.pos
def DFor.of : Stmt → Option DFor
  | .For te ie be [] pos => some ⟨te, ie, be, pos⟩
  | _ => none
theorem DFor.eq {st : Stmt} {d : DFor} (h : DFor.of st = some d) : st = d.st := by
  unfold DFor.of at h
  split at h
  · cases h
    rfl
  · cases h
structure DWhl where
  ec : Expr
  be : List Stmt
  pos : Pos
def DWhl.st (d : DWhl) : Stmt := .While d.ec d.be [] d.pos
def DWhl.of : Stmt → Option DWhl
  | .While ec be [] pos => some ⟨ec, be, pos⟩
  | _ => none
theorem DWhl.eq {st : Stmt} {d : DWhl} (h : DWhl.of st = some d) : st = d.st := by
  unfold DWhl.of at h
  split at h
  · cases h
    rfl
  · cases h
structure DRet where
  v : Expr
  pos : Pos
def DRet.st (d : DRet) : Stmt := .Return (some d.v) d.pos
def DRet.of : Stmt → Option DRet
  | .Return (some v) pos => some ⟨v, pos⟩
  | _ => none
theorem DRet.eq {st : Stmt} {d : DRet} (h : DRet.of st = some d) : st = d.st := by
  unfold DRet.of at h
  split at h
  · cases h
    rfl
  · cases h
structure DReO where
  x : Str
  px : Pos
  pos : Pos
def DReO.st (d : DReO) : Stmt := .Return (some (.Name d.x d.px)) d.pos
def DReO.of : Stmt → Option DReO
  | .Return (some (.Name x px)) pos => some ⟨x, px, pos⟩
  | _ => none
theorem DReO.eq {st : Stmt} {d : DReO} (h : DReO.of st = some d) : st = d.st := by
  unfold DReO.of at h
  split at h
  · cases h
    rfl
  · cases h
structure DReN where
  pos : Pos
def DReN.st (d : DReN) : Stmt := .Return none d.pos
def DReN.of : Stmt → Option DReN
  | .Return none pos => some ⟨pos⟩
  | _ => none
theorem DReN.eq {st : Stmt} {d : DReN} (h : DReN.of st = some d) : st = d.st := by
  unfold DReN.of at h
  split at h
  · cases h
    rfl
  · cases h
structure DExp where
  v : Expr
  pos : Pos
def DExp.st (d : DExp) : Stmt := .Expr d.v d.pos
def DExp.of : Stmt → Option DExp
  | .Expr v pos => some ⟨v, pos⟩
  | _ => none
theorem DExp.eq {st : Stmt} {d : DExp} (h : DExp.of st = some d) : st = d.st := by
  unfold DExp.of at h
  split at h
  · cases h
    rfl
  · cases h
structure DApp where
  x : Str
  px : Pos
  m : Str
  ap : Pos
  v : Expr
  cp : Pos
  pos : Pos
def DApp.st (d : DApp) : Stmt := .Expr (.Call (.Attribute (.Name d.x d.px) d.m d.ap) [d.v] [] d.cp) d.pos
def DApp.of : Stmt → Option DApp
  | .Expr (.Call (.Attribute (.Name x px) m ap) [v] [] cp) pos => some ⟨x, px, m, ap, v, cp, pos⟩
  | _ => none
theorem DApp.eq {st : Stmt} {d : DApp} (h : DApp.of st = some d) : st = d.st := by
  unfold DApp.of at h
  split at h
  · cases h
    rfl
  · cases h
structure DPas where
  pos : Pos
def DPas.st (d : DPas) : Stmt := .Pass d.pos
def DPas.of : Stmt → Option DPas
  | .Pass pos => some ⟨pos⟩
  | _ => none
theorem DPas.eq {st : Stmt} {d : DPas} (h : DPas.of st = some d) : st = d.st := by
  unfold DPas.of at h
  split at h
  · cases h
    rfl
  · cases h
structure DBrk where
  pos : Pos
def DBrk.st (d : DBrk) : Stmt := .Break d.pos
def DBrk.of : Stmt → Option DBrk
  | .Break pos => some ⟨pos⟩
  | _ => none
theorem DBrk.eq {st : Stmt} {d : DBrk} (h : DBrk.of st = some d) : st = d.st := by
  unfold DBrk.of at h
  split at h
  · cases h
    rfl
  · cases h
structure DCnt where
  pos : Pos
def DCnt.st (d : DCnt) : Stmt := .Continue d.pos
def DCnt.of : Stmt → Option DCnt
  | .Continue pos => some ⟨pos⟩
  | _ => none
theorem DCnt.eq {st : Stmt} {d : DCnt} (h : DCnt.of st = some d) : st = d.st := by
  unfold DCnt.of at h
  split at h
  · cases h
    rfl
  · cases h
structure DAug where
  x : Str
  px : Pos
  op : Operator
  v : Expr
  pos : Pos
def DAug.st (d : DAug) : Stmt := .AugAssign (.Name d.x d.px) d.op d.v d.pos
def DAug.of : Stmt → Option DAug
  | .AugAssign (.Name x px) op v pos => some ⟨x, px, op, v, pos⟩
  | _ => none
theorem DAug.eq {st : Stmt} {d : DAug} (h : DAug.of st = some d) : st = d.st := by
  unfold DAug.of at h
  split at h
  · cases h
    rfl
  · cases h
mutual
def ms (I : Nf) (sc : Scope) (ini : Bool) : Sm → Stmt → Bool
  | .asg tg e, st => match DAsg.of st with
    | some d => plainEs [d.t] && mm I sc 0 e d.v && ((mT I.N sc false tg d.t && (noSwB d.t d.v || noSwC sc d.t d.v) && swOk sc d.t d.v) || swTg I.N sc d.v tg d.t)
    | none => false
  | .asgO i e, st => match DAsN.of st with
    | some d => fresh1 e && mm I sc 0 e d.v && I.N[i]? == some d.x && ((swOk sc (.Name d.x d.px) d.v && (!isComp d.v) && locB sc d.x) || swYes sc d.x d.px d.v)
    | none => false
  | .par i j a b, st => match DPar.of st with
    | some d => I.N[i]? == some d.x && I.N[j]? == some d.y && i != j && loB sc d.x && loB sc d.y && (d.py.line == d.px.line) && !(d.x == d.y) && plainEs [d.ea, d.eb] && !([d.ea, d.eb].all (foldedForSure 8)) && !([d.ea, d.eb].all (constantsAlone 8)) && mm I sc 0 a d.ea && mm I sc 0 b d.eb
    | none => false
  | .put o i e, st => match DPut.of st with
    | some d => ixPB d.ei && !compB d.v && mm I sc 0 o d.eo && mm I sc 0 i d.ei && mm I sc 0 e d.v
    | none => false
  | .putB o i e, st => match DPuB.of st with
    | some d => ixPB d.ei && !compB d.v && varB I sc o d.x && mm I sc 0 i d.ei && mm I sc 0 e d.v
    | none => false
  | .fld fl e, st => match DFld.of st with
    | some d => fl == d.fl && !compB d.v && varB I sc 0 d.x && mm I sc 0 e d.v
    | none => false
  | .tsub o i j e, st => match DTsb.of st with
    | some d => ixPB d.ei && !compB d.v && !tupB d.v && I.N[j]? == some d.x && locB sc d.x && mm I sc 0 o d.eo && mm I sc 0 i d.ei && mm I sc 0 e d.v
    | none => false
  | .iff c a b, st => match DIff.of st with
    | some d => mm I sc 1 c d.ec && mss I sc ini a d.sa && mss I sc ini b d.sb
    | none => false
  | .for_ tg it b, st => match DFor.of st with
    | some d => setFB d.ie && mT I.N sc false tg d.te && mm I sc (itMd d.te) it d.ie && mss I sc ini b d.be
    | none => false
  | .whl _ c b, st => match DWhl.of st with
    | some d => mm I sc 1 c d.ec && mss I sc ini b d.be
    | none => false
  | .ret e, st => match DRet.of st with
    | some d => mm I sc 0 e d.v
    | none => false
  | .retO i, st => match DReO.of st with
    | some d => !ini && varB I sc i d.x
    | none => false
  | .retF e, st => match DRet.of st with
    | some d => fresh1 e && mm I sc 0 e d.v && !isComp d.v
    | none => false
  | .retN, st => match DReN.of st with
    | some d => true
    | none => false
  | .exp e, st => match DExp.of st with
    | some d => !compB d.v && mm I sc 0 e d.v
    | none => false
  | .pas, st => match DPas.of st with
    | some d => true
    | none => false
  | .brk, st => match DBrk.of st with
    | some d => true
    | none => false
  | .cnt, st => match DCnt.of st with
    | some d => true
    | none => false
  | .app i e, st => match DApp.of st with
    | some d => d.m == ("append" : Str) && (d.ap.endLine == d.cp.line) && plainEs [d.v] && varB I sc i d.x && mm I sc 0 e d.v
    | none => false
  | .rai _ _, _ => false
  | .aug i op e, st => match DAug.of st with
    | some d => decide (op = d.op) && I.N[i]? == some d.x && locB sc d.x && mm I sc 0 e d.v
    | none => false
  | .nev, _ => true
def mss (I : Nf) (sc : Scope) (ini : Bool) : List Sm → List Stmt → Bool
  | [], [] => true
  | c :: cs, s :: ss => ms I sc ini c s && mss I sc ini cs ss
  | _, _ => false
end
section
variable {X : Cx} {F : Fx} {f : Fm} {W : WX} {I : Nf} {k : Nat} {cf ci : Nat → List Dt → List Dt → Rc}
theorem psOf {st : Stmt} {m m' : Sto → Rt} (h : PS X st (RS F f W m)) (q : ∀ S, m' S = m S) : PS X st (RS F f W m') := by
  have : m' = m := funext q
  rw [this]
  exact h
theorem pssOf {st : List Stmt} {m m' : Sto → Rt} (h : PSs X st (RS F f W m)) (q : ∀ S, m' S = m S) : PSs X st (RS F f W m') := by
  have : m' = m := funext q
  rw [this]
  exact h
structure CompP (X : Cx) (F : Fx) (f : Fm) (W : WX) (I : Nf) (cf ci : Nat → List Dt → List Dt → Rc) (ce : Tm) (own : List Nat) (tg : Tg) (it cc : Tm) (elt tgE iter : Expr) (ifs : List Expr) (scope : Scope) : Prop where
  hi : PI X tgE iter (RI F f W (evE I.P cf ci it))
  ok : BlkOk X.N X.env.scope scope (ownNs I.N own)
  hg : ∀ (s : Shared) (H : Hp) (C : Addr) (cl : List (Str × Addr)) (fp : List Addr), PG (X.blk s H scope (compEnvC scope cl C X.env) fp) tgE (gT X.K tg)
  ht : ∀ (s : Shared) (H : Hp) (C : Addr) (cl : List (Str × Addr)) (fp : List Addr), PTs (X.blk s H scope (compEnvC scope cl C X.env) fp) ifs (fun σ H Q => ∃ f', RB F f' W0 (evE I.P cf ci cc) σ H Q)
  he : ∀ (s : Shared) (H : Hp) (C : Addr) (cl : List (Str × Addr)) (fp : List Addr), PE (X.blk s H scope (compEnvC scope cl C X.env) fp) elt (fun σ H Q => ∃ f', RE F f' W0 (evE I.P cf ci ce) σ H Q)
  hs : ∀ x, foldedSetIterable iter X.env x = pure x
  hsl : ∀ i ∈ tgSl tg, i ∈ (ownNs I.N own).map (·.2)
theorem comp_parts {ce : Tm} {own : List Nat} {tg : Tg} {it cc : Tm} {elt : Expr} {gs : List Comprehension} {scope : Scope} {p : Pos} (G : Good X F I k cf ci) (T : Takes X W) (h : mm I X.env.scope 0 (.comp ce own tg it cc) (.ListComp elt gs scope p) = true) :
    ∃ tgE iter ifs, gs = [⟨tgE, iter, ifs, 0⟩] ∧ CompP X F f W I cf ci ce own tg it cc elt tgE iter ifs scope := by
  cases gs with
  | nil => simp [mm] at h
  | cons gn gs =>
    cases gs with
    | cons _ _ => simp [mm] at h
    | nil =>
      obtain ⟨tgE, iter, ifs, as⟩ := gn
      by_cases h0 : as = 0
      case neg => simp [mm, h0] at h
      case pos =>
        subst h0
        refine ⟨tgE, iter, ifs, rfl, ?_⟩
        have core : blkC I.N X.env.scope scope (ownNs I.N own) = true → mT I.N (relS scope X.env.scope) true tg tgE = true → (tgSl tg).all (fun i => own.contains i) = true → setFB iter = true → mm I X.env.scope (itMd tgE) it iter = true → mm I (relS scope X.env.scope) 0 ce elt = true →
            (∀ (s : Shared) (H : Hp) (C : Addr) (cl : List (Str × Addr)) (fp : List Addr), PTs (X.blk s H scope (compEnvC scope cl C X.env) fp) ifs (fun σ H Q => ∃ f', RB F f' W0 (evE I.P cf ci cc) σ H Q)) → CompP X F f W I cf ci ce own tg it cc elt tgE iter ifs scope := by
          intro h1 h3 h4 h5 h6 h7 ht
          refine ⟨sdI (sd it G T h6), by rw [G.N]; exact blkOk_by h1, fun s H C cl fp => ?_, ht, fun s H C cl fp => ?_, fun x => setF_of h5, ?_⟩
          · refine pg_of (X := X.blk s H scope (compEnvC scope cl C X.env) fp) (lc := true) G.nod G.calm (fun z => by cases z) tg tgE ?_
            show mT X.N _ true tg tgE = true
            rw [G.N]
            exact h3
          · exact ⟨fun pins s σ H Q Iv ⟨f', hq⟩ => (sd0 (sd (f := f') (W := W0) ce (G.blk _ _ _ _ _) takes_blk h7)).run pins s σ H Q Iv hq⟩
          · intro i hi
            rw [ownNs_map]
            rw [List.all_eq_true] at h4
            exact List.contains_iff_mem.mp (h4 i hi)
        cases ifs with
        | nil =>
          simp only [mm, Bool.and_eq_true] at h
          obtain ⟨⟨⟨⟨⟨⟨⟨h1, h2⟩, h3⟩, h4⟩, h5⟩, h6⟩, h7⟩, h8⟩ := h
          refine core h1 h3 h4 h5 h6 h7 fun s H C cl fp => ⟨fun pins s σ H Q Iv hq => pts_nil.run pins s σ H Q Iv ?_⟩
          obtain ⟨f', w, S, R, hq⟩ := hq
          have ec : cc = .cst (.bl true) := by
            unfold isYes at h8
            split at h8
            · rfl
            · cases h8
          subst ec
          unfold tst at hq
          rw [evE] at hq
          exact hq true w H R (Le.refl _) rfl
        | cons e1 r =>
          cases r with
          | cons _ _ => simp [mm] at h
          | nil =>
            simp only [mm, Bool.and_eq_true] at h
            obtain ⟨⟨⟨⟨⟨⟨⟨h1, h2⟩, h3⟩, h4⟩, h5⟩, h6⟩, h7⟩, h8⟩ := h
            exact core h1 h3 h4 h5 h6 h7 fun s H C cl fp => ⟨fun pins s σ H Q Iv ⟨f', hq⟩ => (pts_one (sd1 (sd (f := f') (W := W0) cc (G.blk _ _ _ _ _) takes_blk h8))).run pins s σ H Q Iv hq⟩
/-- a swapped store of a comprehension -/
theorem swStore {ce : Tm} {own : List Nat} {tg : Tg} {it cc : Tm} {i : Nat} {x : Str} {px pos p : Pos} {elt tgE iter : Expr} {ifs : List Expr} {scope : Scope} (G : Good X F I k cf ci) (hkd : X.env.scope.kind = .function) (hN : X.N[i]? = some x) (hsw : swYes X.env.scope x px (.ListComp elt [⟨tgE, iter, ifs, 0⟩] scope p) = true)
    (C : CompP X F f W I cf ci ce own tg it cc elt tgE iter ifs scope) :
    PS X (.Assign [.Name x px] (.ListComp elt [⟨tgE, iter, ifs, 0⟩] scope p) pos) (tAsg (tLc (RI F f W (evE I.P cf ci it)) (gT X.K tg) (fun σ H Q => ∃ f', RB F f' W0 (evE I.P cf ci cc) σ H Q) (fun σ H Q => ∃ f', RE F f' W0 (evE I.P cf ci ce) σ H Q) ((ownNs I.N own).map (·.2))) (gName i)) := by
  unfold swYes at hsw
  simp only [Bool.and_eq_true, Bool.not_eq_true'] at hsw
  obtain ⟨⟨h1, h2⟩, h3⟩ := hsw
  exact ps_setLc G.calm G.nod hN (lo_of h1) (sw_true hkd (lo_of h1) h2 h3) C.hi C.ok C.hg C.ht C.he C.hs
theorem locB_of {sc : Scope} {x : Str} (h : locB sc x = true) : Loc sc x := by
  unfold locB at h
  simp only [Bool.or_eq_true, beq_iff_eq] at h
  exact h
/-- a new object by an expression that is no comprehension -/
theorem sn_of {e : Tm} {v : Expr} (G : Good X F I k cf ci) (T : Takes X W) (hf : fresh1 e = true) (hc : isComp v = false) (h : mm I X.env.scope 0 e v = true) : PE X v (RN F f W (evE I.P cf ci e)) := by
  have of : ∀ {m m' : Sto → Rs Dt}, PE X v (RN F f W m) → (∀ S, m' S = m S) → PE X v (RN F f W m') := fun {m m'} h q => by
    have : m' = m := funext q
    rw [this]
    exact h
  cases e with
  | lst cs =>
    cases v with
    | List es p =>
      simp only [mm, Bool.and_eq_true] at h
      exact of (sn_lst ((sds cs G T h.2).pa h.1)) fun S => by rw [evE] <;> rfl
    | _ => simp [mm] at h
  | bi b cs =>
    cases b with
    | list =>
      cases v with
      | Call fn es kws p =>
        cases fn with
        | Name x px =>
          cases es with
          | nil => simp [mm] at h
          | cons e es =>
            cases kws with
            | cons _ _ => simp [mm] at h
            | nil =>
              simp only [mm, Bool.and_eq_true, beq_iff_eq] at h
              obtain ⟨⟨⟨⟨h1, h2⟩, h3⟩, h4⟩, h5⟩ := h
              subst h1
              have q := sds (f := f) (W := W) cs G T h5
              cases cs with
              | nil => exact q.elim
              | cons c cs =>
                cases es with
                | nil =>
                  cases cs with
                  | cons _ _ => exact q.2.elim
                  | nil =>
                    refine of (sn_list (P := I.P) (cf := cf) G.K (gl_of h2) (G.bn _ (List.contains_iff_mem.mp h3)) h4 q.1) fun S => ?_
                    have e0 : ∀ S1, evEs I.P cf ci [] S1 = .ok [] S1 := fun S1 => by rw [evEs]
                    rw [evE, evEs]
                    simp only [e0]
                    rfl
                | cons e2 es =>
                  cases cs with
                  | nil => exact q.2.elim
                  | cons _ _ => simp [fresh1] at hf
        | _ => simp [mm] at h
      | _ => simp [mm] at h
    | _ => simp [fresh1] at hf
  | comp _ _ _ _ _ =>
    cases v with
    | ListComp _ _ _ _ => simp [isComp] at hc
    | _ => simp [mm] at h
  | _ => simp [fresh1] at hf
end
section
variable {X : Cx} {F : Fx} {f : Fm} {W : WX} {I : Nf} {k : Nat} {cf ci : Nat → List Dt → List Dt → Rc} {ini : Bool}
mutual
theorem ssd (G : Good X F I k cf ci) (T : Takes X W) (hfn : ∀ x, X.fn x = true) (hown : PassesOwn (model X.prog X.w) X.A X.env X.xe) (hkd : X.env.scope.kind = .function) (hex : ini = false → f.ex = []) : ∀ (c : Sm) {st : Stmt}, ms I X.env.scope ini c st = true → PS X st (RS F f W (evS I.P cf ci c))
  | .asg tg e, st, h => by
    rw [ms] at h
    split at h
    · rename_i d ed
      cases DAsg.eq ed
      clear ed
      obtain ⟨t, v, pos⟩ := d
      simp only [Bool.and_eq_true, Bool.or_eq_true, beq_iff_eq, decide_eq_true_eq, Bool.not_eq_true', bne_iff_ne, ne_eq] at h
      obtain ⟨⟨h1, h2⟩, h3⟩ := h
      rcases h3 with ⟨⟨h3, h4⟩, h5⟩ | h3
      · exact psOf (ss_asg G.K (sd0 (sd e G T h2)) (pg_of (lc := false) G.nod G.calm (fun _ => hfn) tg t (by rw [G.N]; exact h3)) (swOk_of h5) (h4.elim noSw_of noSwC_of) h1) fun S => by rw [evS] <;> rfl
      · unfold swTg at h3
        split at h3
        · rename_i i x px
          simp only [Bool.and_eq_true, beq_iff_eq] at h3
          cases v with
          | ListComp elt gs scope p =>
            cases e with
            | comp ce own tg it cc =>
              obtain ⟨tgE, iter, ifs, rfl, C⟩ := comp_parts (f := f) (W := W) G T h2
              refine psOf (ss_asgC (ma := fun S => (evE I.P cf ci it S).bind (compR (evE I.P cf ci ce) (evE I.P cf ci cc) tg ((ownNs I.N own).map (·.2)))) (swStore G hkd (by rw [G.N]; exact h3.1) h3.2 C) fun σ H w S Q R hq => ?_) fun S => by rw [evS, evE, ownNs_map] <;> rfl
              exact comp_core G.K C.hsl R (compIn_of hq)
            | _ => simp [mm] at h2
          | _ => simp [swYes] at h3
        · cases h3
    · cases h
  | .asgO i e, st, h => by
    rw [ms] at h
    split at h
    · rename_i d ed
      cases DAsN.eq ed
      clear ed
      obtain ⟨x, px, v, pos⟩ := d
      simp only [Bool.and_eq_true, Bool.or_eq_true, beq_iff_eq, decide_eq_true_eq, Bool.not_eq_true', bne_iff_ne, ne_eq] at h
      obtain ⟨⟨⟨h1, h2⟩, h3⟩, h4⟩ := h
      have hN : X.N[i]? = some x := by rw [G.N]; exact h3
      rcases h4 with ⟨⟨h4, h5⟩, h6⟩ | h4
      · exact psOf (ss_asgO (ps_asg (sn_of (f := f) G T h1 h5 h2) (pg_name G.nod hN (locB_of h6) (.inl (hfn x))) (swOk_of h4) (noSw_of (by cases v <;> rfl))) fun σ H w S Q R hq => ⟨w, S, R, hq⟩) fun S => by rw [evS] <;> rfl
      · cases v with
        | ListComp elt gs scope p =>
          cases e with
          | comp ce own tg it cc =>
            obtain ⟨tgE, iter, ifs, rfl, C⟩ := comp_parts (f := f) (W := W) G T h2
            refine psOf (ss_asgO (ma := fun S => (evE I.P cf ci it S).bind (compR (evE I.P cf ci ce) (evE I.P cf ci cc) tg ((ownNs I.N own).map (·.2)))) (swStore G hkd hN h4 C) fun σ H w S Q R hq => ?_) fun S => by rw [evS, evE, ownNs_map] <;> rfl
            exact sn_comp G.K C.hsl R hq
          | _ => simp [mm] at h2
        | _ => simp [swYes] at h4
    · cases h
  | .par i j a b, st, h => by
    rw [ms] at h
    split at h
    · rename_i d ed
      cases DPar.eq ed
      clear ed
      obtain ⟨x, px, y, py, kt, pt, ea, eb, kv, pv, pos⟩ := d
      simp only [Bool.and_eq_true, Bool.or_eq_true, beq_iff_eq, decide_eq_true_eq, Bool.not_eq_true', bne_iff_ne, ne_eq] at h
      obtain ⟨⟨⟨⟨⟨⟨⟨⟨⟨⟨⟨h1, h2⟩, h3⟩, h4⟩, h5⟩, h6⟩, h7⟩, h8⟩, h9⟩, h10⟩, h11⟩, h12⟩ := h
      exact psOf (ss_par G.calm G.nod (by rw [G.N]; exact h1) (by rw [G.N]; exact h2) h3 (lo_of h4) (lo_of h5) h8 (sd0 (sd a G T h11)) (sd0 (sd b G T h12)) (par_of hkd (lo_of h4) (lo_of h5) (by rw [h6]; exact beq_self_eq_true _) h7 h8 h9 h10)) fun S => by rw [evS] <;> rfl
    · cases h
  | .put o i e, st, h => by
    rw [ms] at h
    split at h
    · rename_i d ed
      cases DPut.eq ed
      clear ed
      obtain ⟨eo, ei, ap, v, pos⟩ := d
      simp only [Bool.and_eq_true, Bool.or_eq_true, beq_iff_eq, decide_eq_true_eq, Bool.not_eq_true', bne_iff_ne, ne_eq] at h
      obtain ⟨⟨⟨⟨h1, h2⟩, h3⟩, h4⟩, h5⟩ := h
      exact psOf (ss_put (sd0 (sd o G T h3)) (sd0 (sd i G T h4)) (sd0 (sd e G T h5)) (sws_of h2) (noSw_of (by cases v <;> rfl)) fun _ => asgSub_of h1) fun S => by rw [evS] <;> rfl
    · cases h
  | .putB o i e, st, h => by
    rw [ms] at h
    split at h
    · rename_i d ed
      cases DPuB.eq ed
      clear ed
      obtain ⟨x, px, ei, ap, v, pos⟩ := d
      simp only [Bool.and_eq_true, Bool.or_eq_true, beq_iff_eq, decide_eq_true_eq, Bool.not_eq_true', bne_iff_ne, ne_eq] at h
      obtain ⟨⟨⟨⟨h1, h2⟩, h3⟩, h4⟩, h5⟩ := h
      obtain ⟨q1, q2, q3, q4⟩ := var_of G h3
      exact psOf (ss_putB q1 q2 q3 q4 (sd0 (sd i G T h4)) (sd0 (sd e G T h5)) (sws_of h2) (noSw_of (by cases v <;> rfl)) fun _ => asgSub_of h1) fun S => by rw [evS] <;> rfl
    · cases h
  | .fld fq e, st, h => by
    rw [ms] at h
    split at h
    · rename_i d ed
      cases DFld.eq ed
      clear ed
      obtain ⟨x, px, fl, ap, v, pos⟩ := d
      simp only [Bool.and_eq_true, Bool.or_eq_true, beq_iff_eq, decide_eq_true_eq, Bool.not_eq_true', bne_iff_ne, ne_eq] at h
      obtain ⟨⟨⟨h1, h2⟩, h3⟩, h4⟩ := h
      subst h1
      obtain ⟨q1, q2, q3, q4⟩ := var_of G h3
      exact psOf (ss_fld G.cls q1 q2 q3 q4 (sd0 (sd e G T h4)) (sw_of h2)) fun S => by rw [evS] <;> rfl
    · cases h
  | .tsub o i j e, st, h => by
    rw [ms] at h
    split at h
    · rename_i d ed
      cases DTsb.eq ed
      clear ed
      obtain ⟨eo, ei, ap, x, px, kt, pt, v, pos⟩ := d
      simp only [Bool.and_eq_true, Bool.or_eq_true, beq_iff_eq, decide_eq_true_eq, Bool.not_eq_true', bne_iff_ne, ne_eq] at h
      obtain ⟨⟨⟨⟨⟨⟨⟨h1, h2⟩, h3⟩, h4⟩, h5⟩, h6⟩, h7⟩, h8⟩ := h
      exact psOf (ss_tsub G.K G.calm G.nod (by rw [G.N]; exact h4) (locB_of h5) (.inl (hfn x)) (sd0 (sd o G T h6)) (sd0 (sd i G T h7)) (sd0 (sd e G T h8)) (sws_of h2) (noSw_of (by cases v <;> first | rfl | (simp [tupB] at h3))) fun _ => asgSub_of h1) fun S => by rw [evS] <;> rfl
    · cases h
  | .iff c a b, st, h => by
    rw [ms] at h
    split at h
    · rename_i d ed
      cases DIff.eq ed
      clear ed
      obtain ⟨ec, sa, sb, pos⟩ := d
      simp only [Bool.and_eq_true, Bool.or_eq_true, beq_iff_eq, decide_eq_true_eq, Bool.not_eq_true', bne_iff_ne, ne_eq] at h
      obtain ⟨⟨h1, h2⟩, h3⟩ := h
      exact psOf (ss_iff (sd1 (sd c G T h1)) (ssds G T hfn hown hkd hex a h2) (ssds G T hfn hown hkd hex b h3)) fun S => by rw [evS] <;> rfl
    · cases h
  | .for_ tg it b, st, h => by
    rw [ms] at h
    split at h
    · rename_i d ed
      cases DFor.eq ed
      clear ed
      obtain ⟨te, ie, be, pos⟩ := d
      simp only [Bool.and_eq_true, Bool.or_eq_true, beq_iff_eq, decide_eq_true_eq, Bool.not_eq_true', bne_iff_ne, ne_eq] at h
      obtain ⟨⟨⟨h1, h2⟩, h3⟩, h4⟩ := h
      exact psOf (ss_for G.K hown G.calm (sdI (sd it G T h3)) (pg_of (lc := false) G.nod G.calm (fun _ => hfn) tg te (by rw [G.N]; exact h2)) (ssds G T hfn hown hkd hex b h4) (fun x => setF_of h1)) fun S => by rw [evS] <;> rfl
    · cases h
  | .whl n c b, st, h => by
    rw [ms] at h
    split at h
    · rename_i d ed
      cases DWhl.eq ed
      clear ed
      obtain ⟨ec, be, pos⟩ := d
      simp only [Bool.and_eq_true, Bool.or_eq_true, beq_iff_eq, decide_eq_true_eq, Bool.not_eq_true', bne_iff_ne, ne_eq] at h
      obtain ⟨h1, h2⟩ := h
      exact psOf (ss_whl (n := n) hown (sd1 (sd c G T h1)) (ssds G T hfn hown hkd hex b h2)) fun S => by rw [evS] <;> rfl
    · cases h
  | .ret e, st, h => by
    rw [ms] at h
    split at h
    · rename_i d ed
      cases DRet.eq ed
      clear ed
      obtain ⟨v, pos⟩ := d
      simp only [Bool.and_eq_true, Bool.or_eq_true, beq_iff_eq, decide_eq_true_eq, Bool.not_eq_true', bne_iff_ne, ne_eq] at h
      exact psOf (ss_ret (sd0 (sd e G T h))) fun S => by rw [evS] <;> rfl
    · cases h
  | .retO i, st, h => by
    rw [ms] at h
    split at h
    · rename_i d ed
      cases DReO.eq ed
      clear ed
      obtain ⟨x, px, pos⟩ := d
      simp only [Bool.and_eq_true, Bool.or_eq_true, beq_iff_eq, decide_eq_true_eq, Bool.not_eq_true', bne_iff_ne, ne_eq] at h
      obtain ⟨q1, q2, q3, q4⟩ := var_of G h.2
      exact psOf (ss_retO q1 q2 q3 q4 (hex h.1)) fun S => by rw [evS] <;> rfl
    · cases h
  | .retF e, st, h => by
    rw [ms] at h
    split at h
    · rename_i d ed
      cases DRet.eq ed
      clear ed
      obtain ⟨v, pos⟩ := d
      simp only [Bool.and_eq_true, Bool.or_eq_true, beq_iff_eq, decide_eq_true_eq, Bool.not_eq_true', bne_iff_ne, ne_eq] at h
      exact psOf (ss_retF (sn_of G T h.1.1 h.2 h.1.2)) fun S => by rw [evS] <;> rfl
    · cases h
  | .retN, st, h => by
    rw [ms] at h
    split at h
    · rename_i d ed
      cases DReN.eq ed
      clear ed
      obtain ⟨pos⟩ := d
      exact psOf ss_retN fun S => by rw [evS] <;> rfl
    · cases h
  | .exp e, st, h => by
    rw [ms] at h
    split at h
    · rename_i d ed
      cases DExp.eq ed
      clear ed
      obtain ⟨v, pos⟩ := d
      simp only [Bool.and_eq_true, Bool.or_eq_true, beq_iff_eq, decide_eq_true_eq, Bool.not_eq_true', bne_iff_ne, ne_eq] at h
      exact psOf (ss_exp (sd0 (sd e G T h.2)) (sw_of h.1)) fun S => by rw [evS] <;> rfl
    · cases h
  | .pas, st, h => by
    rw [ms] at h
    split at h
    · rename_i d ed
      cases DPas.eq ed
      clear ed
      obtain ⟨pos⟩ := d
      exact psOf ss_pas fun S => by rw [evS] <;> rfl
    · cases h
  | .brk, st, h => by
    rw [ms] at h
    split at h
    · rename_i d ed
      cases DBrk.eq ed
      clear ed
      obtain ⟨pos⟩ := d
      exact psOf ss_brk fun S => by rw [evS] <;> rfl
    · cases h
  | .cnt, st, h => by
    rw [ms] at h
    split at h
    · rename_i d ed
      cases DCnt.eq ed
      clear ed
      obtain ⟨pos⟩ := d
      exact psOf ss_cnt fun S => by rw [evS] <;> rfl
    · cases h
  | .app i e, st, h => by
    rw [ms] at h
    split at h
    · rename_i d ed
      cases DApp.eq ed
      clear ed
      obtain ⟨x, px, m, ap, v, cp, pos⟩ := d
      simp only [Bool.and_eq_true, Bool.or_eq_true, beq_iff_eq, decide_eq_true_eq, Bool.not_eq_true', bne_iff_ne, ne_eq] at h
      obtain ⟨⟨⟨⟨h1, h2⟩, h3⟩, h4⟩, h5⟩ := h
      subst h1
      obtain ⟨q1, q2, q3, q4⟩ := var_of G h4
      exact psOf (ss_app q1 q2 q3 q4 h3 (sd0 (sd e G T h5)) (by rw [h2]; exact beq_self_eq_true _) G.calm) fun S => by rw [evS] <;> rfl
    · cases h
  | .rai _ _, st, h => by
    rw [ms] at h
    cases h
  | .nev, st, h => psOf ss_nev fun S => by rw [evS] <;> rfl
  | .aug i op e, st, h => by
    rw [ms] at h
    split at h
    · rename_i d ed
      cases DAug.eq ed
      clear ed
      obtain ⟨x, px, op2, v, pos⟩ := d
      simp only [Bool.and_eq_true, beq_iff_eq, decide_eq_true_eq] at h
      obtain ⟨⟨⟨h1, h2⟩, h3⟩, h4⟩ := h
      subst h1
      exact psOf (ss_aug G.K G.cls G.fns (G.room.mono (by omega)) G.gd T G.pok.ops G.nod (by rw [G.N]; exact h2) (locB_of h3) (hfn x) (sd0 (sd e G T h4))) fun S => by rw [evS] <;> rfl
    · cases h
theorem ssds (G : Good X F I k cf ci) (T : Takes X W) (hfn : ∀ x, X.fn x = true) (hown : PassesOwn (model X.prog X.w) X.A X.env X.xe) (hkd : X.env.scope.kind = .function) (hex : ini = false → f.ex = []) : ∀ (cs : List Sm) {sts : List Stmt}, mss I X.env.scope ini cs sts = true → PSs X sts (RS F f W (evSs I.P cf ci cs))
  | [], sts, h => by
    cases sts with
    | nil => exact pssOf ss_nil fun S => by rw [evSs] <;> rfl
    | cons _ _ => simp [mss] at h
  | c :: cs, sts, h => by
    cases sts with
    | nil => simp [mss] at h
    | cons s ss =>
      simp only [mss, Bool.and_eq_true] at h
      exact pssOf (ss_cons (ssd G T hfn hown hkd hex c h.1) (ssds G T hfn hown hkd hex cs h.2)) fun S => by rw [evSs] <;> rfl
end
end
end PyI
namespace PyI
open PySem PySem.Spec PyProof.Rows L2
/-! ### the bound values, by shape -/
def PkV (F : Fx) (all : List Value) : List Ar → List Value → Prop
  | [], [] => True
  | .a i :: r, z :: zs => all[i]? = some z ∧ PkV F all r zs
  | .d v :: r, z :: zs => (∃ x, RelV x z ∧ ∀ w, Dn F w v x) ∧ PkV F all r zs
  | _, _ => False
theorem pk_vals {F : Fx} {w : Wd} {all : List Value} {vs : List V} {ds : List Dt} (rv : Vals vs all) (dn : Dns F w ds vs) : ∀ {sh : List Ar} {zs : List Value} {xs : List Dt}, PkV F all sh zs → pick ds sh = some xs → ∃ ys, Vals ys zs ∧ Dns F w xs ys
  | [], zs, xs, h, e => by
    cases zs with
    | nil =>
      unfold pick at e
      cases e
      exact ⟨[], .nil, rfl⟩
    | cons _ _ => exact h.elim
  | .a i :: r, zs, xs, h, e => by
    cases zs with
    | nil => exact h.elim
    | cons z zs =>
      unfold pick at e
      cases e1 : ds[i]? with
      | none => rw [e1] at e; cases e
      | some d =>
        cases e2 : pick ds r with
        | none => rw [e1, e2] at e; cases e
        | some t =>
          rw [e1, e2] at e
          cases e
          obtain ⟨v, g1, g2⟩ := dn.get e1
          obtain ⟨u, g3, g4⟩ := rv.get g1
          rw [h.1] at g3
          cases g3
          obtain ⟨ys, q1, q2⟩ := pk_vals rv dn h.2 e2
          exact ⟨v :: ys, .cons g4 q1, v, ys, rfl, g2, q2⟩
  | .d c :: r, zs, xs, h, e => by
    cases zs with
    | nil => exact h.elim
    | cons z zs =>
      unfold pick at e
      cases e2 : pick ds r with
      | none => rw [e2] at e; cases e
      | some t =>
        rw [e2] at e
        cases e
        obtain ⟨⟨x, g1, g2⟩, hr⟩ := h
        obtain ⟨ys, q1, q2⟩ := pk_vals rv dn hr e2
        exact ⟨x :: ys, .cons g1 q1, x, ys, rfl, g2 w, q2⟩
def Bnd (K : PySem.W.Frag) (F : Fx) (fd : FuncData) (ps : List Str) (n : Nat) (ks : List Str) (sh : List Ar) : Prop :=
  ∀ (s : Shared) (us ws : List Value), K.In s.heap → us.length = n → ws.length = ks.length → ∃ zs, BindsTo s fd ⟨us, ks.zip ws⟩ (ps.zip zs) ∧ PkV F (us ++ ws) sh zs
def BndI (K : PySem.W.Frag) (F : Fx) (fd : FuncData) (ps : List Str) (n : Nat) (ks : List Str) (sh : List Ar) : Prop :=
  ∀ (s : Shared) (x : Addr) (us ws : List Value), K.In s.heap → us.length = n → ws.length = ks.length → ∃ zs, BindsTo s fd ⟨.ref x :: us, ks.zip ws⟩ (ps.zip (.ref x :: zs)) ∧ PkV F (us ++ ws) sh zs
/-! ### what holds of the whole program -/
structure Glo (P : Program) (w : World) (K : PySem.W.Frag) (mg : Str → Option Value) (base : Heap) (F : Fx) (I : Nf) (k : Nat) (cf ci : Nat → List Dt → List Dt → Rc) : Prop where
  hK : K = F.K
  cls : ClsT K F I.P
  fns : ∀ g n ks sh, I.P.shf g n ks = some sh → CalG P w K mg base k (F.fa g) n ks (spS F (cf g) sh)
  cis : ∀ c n ks sh, I.P.shc c n ks = some sh → ∃ fi, Mk K (F.ca c) fi ∧ CalG P w K mg base k fi (n + 1) ks (spI F c (ci c) sh)
  pok : PgOk I.P
  gf : ∀ x i, I.gf.lookup x = some i → mg x = some (.ref (F.fa i)) ∧ PySem.W.keepIn K (.ref (F.fa i)) = true
  gc : ∀ x i, I.gc.lookup x = some i → mg x = some (.ref (F.ca i)) ∧ PySem.W.keepIn K (.ref (F.ca i)) = true
  gl : ∀ x d, I.gd.lookup x = some d → ∃ u v, mg x = some u ∧ RelV v u ∧ ∀ w, Dn F w d v
  bn : ∀ x, x ∈ I.bn → mg x = none
/-- a def as it stands behind the top -/
structure FnT (K : PySem.W.Frag) (fa : Addr) (N ps : List Str) (scope : Scope) (body : List Stmt) (B : FuncData → Prop) : Prop where
  ex : ∃ (name qual : Str) (params : Arguments) (oc : Value) (od : Option Addr) (dV kV doc pm : Value) (an : Option Addr) (cdv ct : Value) (osl : Array (Option Value)),
    K.lookup fa = some ⟨oc, od, .func (PySem.W.fnOf name qual params body scope dV kV doc pm an cdv ct), osl⟩ ∧ PySem.W.codeIn K cdv qual = true ∧ B (PySem.W.fnOf name qual params body scope dV kV doc pm an cdv ct)
  sc : FnScope N ps scope
section
variable {P : Program} {w : World} {K : PySem.W.Frag} {mg : Str → Option Value} {base : Heap} {F : Fx} {I : Nf} {k : Nat} {cf ci : Nat → List Dt → List Dt → Rc}
theorem Glo.good (G : Glo P w K mg base F I k cf ci) {N : List Str} {qual : Str} {scope : Scope} {f : Addr} {cd : Value} {A : Around} {outer : List Env} {s : Shared} {H : Hp} {E : XK} (nd : N.Nodup) (hg : A.guards = some []) (hr : Room (k + 5) A) :
    Good (cxOf (L2.CX P w) P w K mg base N qual scope f cd A outer s H E) F { I with N := N } k cf ci :=
  ⟨G.hK, rfl, nd, rfl, hg, hr.deeper _, G.cls, G.fns, G.cis, G.pok, G.gf, G.gc, G.gl, G.bn⟩
/-- a def's body runs -/
theorem fn_run {f : Addr} {name qual : Str} {params : Arguments} {body : List Stmt} {scope : Scope} {dV kV doc pm cdv ct oc : Value} {an od : Option Addr} {osl : Array (Option Value)} {N ps : List Str} {b : List Sm}
    (G : Glo P w K mg base F I k cf ci) (lk : K.lookup f = some ⟨oc, od, .func (PySem.W.fnOf name qual params body scope dV kV doc pm an cdv ct), osl⟩) (hcd : PySem.W.codeIn K cdv qual = true) (S : FnScope N ps scope) (hm : mss { I with N := N } scope false b body = true)
    {A : Around} {outer : List Env} {s : Shared} {H : Hp} {args : Args} {us : List Value} {vs : List V} {Q : VK} {E : XK} (hr : Room (k + 5) A) (hg : A.guards = some []) (e0 : Env0 P w K mg base A outer s H)
    (hb : BindsTo s (PySem.W.fnOf name qual params body scope dV kV doc pm an cdv ct) args (ps.zip us)) (rv : Vals vs us) (hl : vs.length = ps.length) {fr : Fm} {wd : Wd} {S0 : Sto} (hex : fr.ex = []) (R : Rr F fr wd (start N vs) H S0)
    (h : PoS F fr (fun cls d _ H => E cls d H) wd (evSs I.P cf ci b S0) { nx := fun _ H' => Q .non H', rt := Q }) :
    codeAny (model P w) A (.call (.ref f) args) (CR (L2.CX P w) outer P w H s Q E) s := by
  have kin : K.In s.heap := e0.mod.kin.keeps fun a u q => (e0.bs a u q).1
  have nolim : s.heap.NoLimit := e0.mod.nolimit.keeps fun a u q => (e0.bs a u q).1
  have kinds : ∀ y ∈ ps.zip us, scope.names.lookup y.1 = some .local ∨ (scope.names.lookup y.1 = some .cell ∧ ((cellsFrom (s.heap.objs.size + 1) scope.names []).lookup y.1).isSome = true) := fun y hy => by
    rcases S.par y.1 (List.of_mem_zip (a := y.1) (b := y.2) hy).1 with q | q
    · exact .inl q
    · exact .inr ⟨q, PySem.W.cellsFrom_some _ _ _ (.inl q)⟩
  refine codeAny_call_function hr.depth (kin _ _ lk) rfl S.co S.gen rfl (PySem.W.codeRec_of kin hcd) (hb _ _ _ _ (wpAny_newFunctionEnv_cells S.kind kinds fun env he s1 x => ?_))
  subst he
  refine ⟨nolim.keeps x.toInCall.keep, codeAny_func ?_⟩
  have I0 : Inv (cxOf (L2.CX P w) P w K mg base N qual scope f cdv A outer s H E) [] (start N vs) H s1 := inv_start S hr.hd e0 hl rv x
  have ps := ssds (ini := false) (f := fr) (W := fun cls d _ H => E cls d H) (G.good (qual := qual) (scope := scope) (f := f) (cd := cdv) (outer := outer) (s := s) (H := H) (E := E) S.nd hg hr) (takes_of rfl rfl rfl rfl) (fun _ => rfl) (passes_of rfl) S.kind (fun _ => hex) b hm
  refine wpAny_mono (ps.run [] s1 (start N vs) H _ I0 ⟨wd, S0, R, h⟩) (fun fl s' hs => ?_) fun _ _ z => z
  cases fl with
  | ret u =>
    obtain ⟨v, _, H', J, q1, q2⟩ := hs
    exact ⟨v, H', J.os, J.bare, J.base, J.hok, q1, q2⟩
  | next =>
    obtain ⟨_, H', J, q⟩ := hs
    exact ⟨.non, H', J.os, J.bare, J.base, J.hok, rfl, q⟩
  | brk =>
    obtain ⟨_, _, _, q⟩ := hs
    exact q.elim
  | cont =>
    obtain ⟨_, _, _, q⟩ := hs
    exact q.elim
theorem start_get {N : List Str} {vs : List V} {xs : List Dt} {wd : Wd} (dn : Dns F wd xs vs) {n : Nat} (hn : N.length = n) (hk : xs.length ≤ n) {i : Nat} {d : Dt} (h : (xs.map (fun d => some (Bn.p d)) ++ List.replicate (n - xs.length) none)[i]? = some (some (.p d))) :
    ∃ v, (start N vs)[i]? = some (some v) ∧ Dn F wd d v := by
  have hi : i < xs.length := by
    by_cases hi : i < xs.length
    · exact hi
    · rw [List.getElem?_append_right (by simpa using hi), List.getElem?_replicate] at h
      split at h <;> cases h
  rw [List.getElem?_append_left (by simpa using hi), List.getElem?_map] at h
  cases e : xs[i]? with
  | none => rw [e] at h; cases h
  | some x =>
    rw [e] at h
    cases h
    obtain ⟨v, g1, g2⟩ := dn.get e
    refine ⟨v, ?_, g2⟩
    unfold L2.start
    rw [List.getElem?_append_left (by rw [List.length_map, ← dn.length]; exact hi), List.getElem?_map, g1]
    rfl
theorem no_own {xs : List Dt} {n i : Nat} {d : Dt} (h : (xs.map (fun d => some (Bn.p d)) ++ List.replicate n none)[i]? = some (some (.o d))) : False := by
  have := List.mem_of_getElem? h
  simp at this
theorem start_rr {N : List Str} {vs : List V} {xs m : List Dt} {wd : Wd} {H : Hp} (cs : Cs F wd H m) (dn : Dns F wd xs vs) {n : Nat} (hn : N.length = n) (hk : xs.length ≤ n) :
    Rr F ⟨H, wd, [], []⟩ wd (start N vs) H ⟨xs.map (fun d => some (.p d)) ++ List.replicate (n - xs.length) none, m⟩ := by
  refine ⟨cs, ⟨Le.refl _, fun _ _ z => .inl z, fun _ z => .inl z, fun _ _ z _ _ => z, fun _ z => (nomatch z)⟩, ?_, fun i d q => start_get dn hn hk q, fun i d q => (no_own q).elim, fun i j a d e q _ _ _ => (no_own q).elim⟩
  unfold L2.start
  have := dn.length
  simp only [List.length_append, List.length_map, List.length_replicate]
  omega
/-- the promise of a def -/
theorem cal_fn {g : Nat} {fd : FnD} {N ps : List Str} {scope : Scope} {body : List Stmt} {n : Nat} {ks : List Str} {sh : List Ar} (G : Glo P w K mg base F I k cf ci) (hfd : I.P.fn[g]? = some fd) (T : FnT K (F.fa g) N ps scope body fun D => Bnd K F D ps n ks sh) (hn : N.length = fd.n) (hk : ps.length = fd.k) (hm : mss { I with N := N } scope false fd.b body = true) :
    CalG P w K mg base (k + 5) (F.fa g) n ks (spS F (fnRun I.P cf ci g) sh) := by
  intro A outer s H us ws vs zs Q E hr hg e0 h1 h2 ru rz ⟨wd, m, ds, xs, cs, dn, pk, po⟩
  obtain ⟨name, qual, params, oc, od, dV, kV, doc, pm, an, cdv, ct, osl, lk, hcd, hB⟩ := T.ex
  have kin : K.In s.heap := e0.mod.kin.keeps fun a u q => (e0.bs a u q).1
  obtain ⟨bs, hb, hp⟩ := hB s us ws kin h1 h2
  obtain ⟨ys, ry, dy⟩ := pk_vals (ru.append rz) dn hp pk
  unfold fnRun at po
  rw [hfd] at po
  dsimp only at po
  split at po
  · rename_i hx
    obtain ⟨hx1, hx2⟩ := hx
    have hl : ys.length = ps.length := by rw [← dy.length, hx1, hk]
    have hk2 : xs.length ≤ fd.n := by omega
    refine fn_run G lk hcd T.sc hm hr hg e0 hb ry hl rfl (start_rr cs dy hn hk2) ?_
    rw [hx1]
    cases e : evSs I.P cf ci fd.b ⟨xs.map (fun d => some (.p d)) ++ List.replicate (fd.n - fd.k) none, m⟩ with
    | nx S =>
      rw [e] at po
      dsimp only at po
      split at po
      · exact po.elim
      · exact fun σ' w' H' R' l' => po .non w' H' R'.cs ⟨R'.xt.le, R'.xt.gn, R'.xt.an, R'.xt.pr, R'.xt.xs⟩ rfl
    | rt b S =>
      rw [e] at po
      dsimp only at po
      split at po
      · cases b with
        | p d => exact po.elim
        | o d =>
          intro v σ' w' H' R' l' hv
          obtain ⟨a, rfl, g1, a1, m1, hn0⟩ := hv
          have l2 : Le w' ⟨w'.G, w'.A ++ [a]⟩ := ⟨fun _ _ z => z, [a], rfl⟩
          refine po (.ref a) ⟨w'.G, w'.A ++ [a]⟩ H' ⟨R'.cs.fr, ?_, ?_, ?_, ?_⟩ ⟨R'.xt.le.trans l2, R'.xt.gn, ?_, R'.xt.pr, R'.xt.xs⟩ ⟨a, rfl, ?_⟩
          · show (w'.A ++ [a]).Nodup
            rw [List.nodup_append]
            refine ⟨R'.cs.nd, by simp, ?_⟩
            intro b hb c hc
            simp at hc
            subst hc
            intro z
            subst z
            exact a1 hb
          · show (w'.A ++ [a]).length = (S.m ++ [d]).length
            simp [R'.cs.ln]
          · intro b hb
            rcases List.mem_append.mp hb with z | z
            · exact R'.cs.ce b z
            · simp at z
              subst z
              exact g1
          · intro j b e1 q1 q2
            have q1 : (w'.A ++ [a])[j]? = some b := q1
            by_cases hj : j < w'.A.length
            · rw [List.getElem?_append_left hj] at q1
              rw [List.getElem?_append_left (by rw [← R'.cs.ln]; exact hj)] at q2
              exact (R'.cs.co j b e1 q1 q2).move l2 fun _ z => z
            · have hj2 : j = w'.A.length := by
                have := (List.getElem?_eq_some_iff.mp q1).1
                simp at this
                omega
              subst hj2
              rw [List.getElem?_append_right (Nat.le_refl _)] at q1
              rw [List.getElem?_append_right (by rw [R'.cs.ln]; exact Nat.le_refl _)] at q2
              have h0 : w'.A.length - S.m.length = 0 := by rw [R'.cs.ln]; omega
              rw [h0] at q2
              simp at q1 q2
              subst q1
              subst q2
              exact m1.move l2 fun _ z => z
          · intro b hb
            rcases List.mem_append.mp hb with z | z
            · exact R'.xt.an b z
            · simp at z
              subst z
              exact .inr hn0
          · show (w'.A ++ [a])[S.m.length]? = some a
            rw [← R'.cs.ln, List.getElem?_append_right (Nat.le_refl _)]
            simp
      · intro v σ' w' H' R' l' hv
        refine po v w' H' R'.cs ⟨R'.xt.le, R'.xt.gn, R'.xt.an, R'.xt.pr, R'.xt.xs⟩ ?_
        cases b with
        | p d => exact hv
        | o d => exact hv
    | ex c ns ds S =>
      rw [e] at po
      exact fun dx vs σ' w' H' R' l' z1 z2 z3 => po dx vs w' H' R'.cs ⟨R'.xt.le, R'.xt.gn, R'.xt.an, R'.xt.pr, R'.xt.xs⟩ z1 z2 z3
    | bk S => rw [e] at po; exact po.elim
    | ct S => rw [e] at po; exact po.elim
    | bad => rw [e] at po; exact po.elim
  · exact po.elim
/-- the promise of an __init__ -/
theorem cal_init {c : Nat} {cd : ClD} {fd : FnD} {N ps : List Str} {scope : Scope} {body : List Stmt} {n : Nat} {ks : List Str} {sh : List Ar} (G : Glo P w K mg base F I k cf ci) (hcl : I.P.cl[c]? = some cd) (hfd : I.P.fn[cd.init]? = some fd) (T : FnT K (F.fa cd.init) N ps scope body fun D => BndI K F D ps n ks sh) (hn : N.length = fd.n) (hk : ps.length = fd.k) (hm : mss { I with N := N } scope false fd.b body = true) :
    CalG P w K mg base (k + 5) (F.fa cd.init) (n + 1) ks (spI F c (clRun I.P cf ci c) sh) := by
  intro A outer s H us ws vs zs Q E hr hg e0 h1 h2 ru rz ⟨x, dx, vs1, H1, hvs, hH, hx0, hdx0, hne, wd, m, ds, xs, QQ, cs, dn, pk, po, hq⟩
  obtain ⟨name, qual, params, oc, od, dV, kV, doc, pm, an, cdv, ct, osl, lk, hcd, hB⟩ := T.ex
  have kin : K.In s.heap := e0.mod.kin.keeps fun a u q => (e0.bs a u q).1
  cases ru with
  | nil => cases h1
  | @cons v0 u0 vs' us' r0 ru0 =>
  have ru : Vals vs' us' := ru0
  rw [List.cons_append] at hvs
  cases hvs
  have r0 : u0 = .ref x := r0
  subst r0
  obtain ⟨bs, hb, hp⟩ := hB s x us' ws kin (by simpa using h1) h2
  obtain ⟨ys, ry, dy⟩ := pk_vals (ru.append rz) dn hp pk
  have up : ∀ a o, H1 a = some o → H a = some o := fun a o z => by
    have n1 : a ≠ x := fun y => by subst y; rw [hx0] at z; cases z
    have n2 : a ≠ dx := fun y => by subst y; rw [hdx0] at z; cases z
    rw [hH, upd_ne n1, upd_ne n2]
    exact z
  have hxg := cs.new hx0
  unfold clRun at po
  rw [hcl] at po
  dsimp only at po
  rw [hfd] at po
  dsimp only at po
  split at po
  · rename_i hx
    obtain ⟨hx1, hx2⟩ := hx
    have hl : (V.ref x :: ys).length = ps.length := by rw [List.length_cons, ← dy.length, hx1, hk]
    have hk2 : xs.length + 1 ≤ fd.n := by omega
    have R : Rr F ⟨H1, wd, [], [x]⟩ wd (start N (V.ref x :: ys)) H ⟨some (.o (.ins c [] [])) :: (xs.map (fun d => some (.p d)) ++ List.replicate (fd.n - fd.k) none), m⟩ := by
      have es : start N (V.ref x :: ys) = some (V.ref x) :: start (List.replicate (fd.n - 1) "") ys := by
        unfold L2.start
        rw [List.map_cons, List.cons_append, List.length_replicate]
        congr 3
        rw [List.length_cons]
        omega
      have ek : fd.n - fd.k = fd.n - 1 - xs.length := by omega
      rw [es, ek]
      refine ⟨⟨fun a o z => up a o (cs.fr a o z), cs.nd, cs.ln, cs.ce, fun j a d q1 q2 => (cs.co j a d q1 q2).move (Le.refl _) fun o z => up a o z⟩, ⟨Le.refl _, fun _ _ z => .inl z, fun _ z => .inl z, fun a o z _ _ => up a o z, fun _ z => (nomatch z)⟩, ?_, fun i d q => ?_, fun i d q => ?_, fun i j a d e q q' _ _ => ?_⟩
      · unfold L2.start
        have := dy.length
        simp only [List.length_cons, List.length_append, List.length_map, List.length_replicate]
        omega
      · cases i with
        | zero => cases q
        | succ i => exact start_get (N := List.replicate (fd.n - 1) "") dy (List.length_replicate ..) (by omega) q
      · cases i with
        | zero =>
          cases q
          refine ⟨x, rfl, hxg.1, hxg.2, ⟨dx, [], ?_, rfl, rfl⟩, .inl hx0, fun _ => by simp⟩
          rw [hH, upd_same]
          rfl
        | succ i => exact (no_own q).elim
      · cases i with
        | succ i => exact (no_own q).elim
        | zero =>
          cases j with
          | zero => rfl
          | succ j => exact (no_own q').elim
    refine fn_run G lk hcd T.sc hm hr hg e0 hb (.cons (show RelV (.ref x) (.ref x) from rfl) ry) hl rfl R ?_
    cases e : evSs I.P cf ci fd.b ⟨some (.o (.ins c [] [])) :: (xs.map (fun d => some (.p d)) ++ List.replicate (fd.n - fd.k) none), m⟩ with
    | nx S =>
      rw [e] at po
      intro σ' w' H' R' l'
      dsimp only at po
      split at po
      · rename_i c' ns vs e0
        obtain ⟨a, w2, q1, q2, q3, q4⟩ := R'.freeze e0
        obtain ⟨a', s1, _, _, _, of⟩ := R'.ow 0 _ e0
        rw [q1] at s1
        cases s1
        have ax : a = x := by
          have := of.2 rfl
          simpa using this
        subst ax
        exact hq H' (po (.ref a) w2 H' q3.cs ⟨q3.xt.le, q3.xt.gn, q3.xt.an, q3.xt.pr, q3.xt.xs⟩ q4)
      · exact po.elim
    | ex c ns ds S =>
      rw [e] at po
      exact fun dx vs σ' w' H' R' l' z1 z2 z3 => po dx vs w' H' R'.cs ⟨R'.xt.le, R'.xt.gn, R'.xt.an, R'.xt.pr, R'.xt.xs⟩ z1 z2 z3
    | rt b S => rw [e] at po; exact po.elim
    | bk S => rw [e] at po; exact po.elim
    | ct S => rw [e] at po; exact po.elim
    | bad => rw [e] at po; exact po.elim
  · exact po.elim
end
end PyI
namespace PyI
open PySem PySem.Spec PyProof.Rows L2
/-! ### how arguments bind -/
theorem forIn_pure {α σ : Type} {f : α → σ → Sem (ForInStep σ)} {g : α → σ → σ} : ∀ {l : List α} {s : σ}, (∀ (pre : List α) (a : α) (post : List α), l = pre ++ a :: post → f a (pre.foldl (fun s a => g a s) s) = pure (.yield (g a (pre.foldl (fun s a => g a s) s)))) → forIn l s f = pure (l.foldl (fun s a => g a s) s)
  | [], s, _ => by simp
  | a :: l, s, h => by
    have h0 : f a s = pure (.yield (g a s)) := h [] a l rfl
    rw [List.forIn_cons, h0]
    simp only [pure_bind, List.foldl_cons]
    exact forIn_pure fun pre b post e => h (a :: pre) b post (by rw [e]; rfl)
theorem lookup_append' {β : Type} {x : Str} : ∀ {l r : List (Str × β)}, (l ++ r).lookup x = (l.lookup x).or (r.lookup x)
  | [], r => rfl
  | (n, v) :: l, r => by
    rw [List.cons_append, List.lookup_cons, List.lookup_cons]
    cases h : (x == n) with
    | true => rfl
    | false => exact lookup_append'
def kwG (x : Str × Value) (s : List (Str × Value) × List (Str × Value)) : List (Str × Value) × List (Str × Value) := (s.1 ++ [(x.1, x.2)], s.2)
theorem kwG_fold : ∀ (l : List (Str × Value)) (s : List (Str × Value)), l.foldl (fun s a => kwG a s) (s, []) = (s ++ l, [])
  | [], s => by simp
  | a :: l, s => by
    rw [List.foldl_cons]
    show l.foldl (fun s a => kwG a s) (s ++ [(a.1, a.2)], []) = _
    rw [kwG_fold l, List.append_assoc]
    rfl
def dfG (x : Str × Value) (s : List (Str × Value)) : List (Str × Value) := if (s.lookup x.1).isNone = true then s ++ [(x.1, x.2)] else s
theorem dfG_fold {x : Str} : ∀ (l : List (Str × Value)) (s : List (Str × Value)), (l.foldl (fun s a => dfG a s) s).lookup x = (s.lookup x).or (l.lookup x)
  | [], s => by simp
  | a :: l, s => by
    rw [List.foldl_cons, dfG_fold l]
    unfold dfG
    cases e : s.lookup a.1 with
    | none =>
      simp only [Option.isNone_none, if_true]
      rw [lookup_append', Option.or_assoc]
      congr 1
      obtain ⟨n, v⟩ := a
      rw [List.lookup_cons, List.lookup_cons]
      cases h : (x == n) with
      | true => rfl
      | false => rfl
    | some u =>
      simp only [Option.isNone_some, Bool.false_eq_true, if_false]
      obtain ⟨n, v⟩ := a
      rw [List.lookup_cons]
      cases h : (x == n) with
      | true =>
        have : x = n := by simpa using h
        subst this
        rw [show s.lookup x = some u from e]
        rfl
      | false => rfl
theorem fm_zip {β : Type} {s : List (Str × β)} : ∀ {ps : List Str} {zs : List β}, ps.length = zs.length → (∀ (i : Nat) x, ps[i]? = some x → s.lookup x = zs[i]?) → ps.filterMap (fun n => (s.lookup n).map (n, ·)) = ps.zip zs
  | [], [], _, _ => rfl
  | [], _ :: _, h, _ => by cases h
  | _ :: _, [], h, _ => by cases h
  | p :: ps, z :: zs, hl, h => by
    have h0 := h 0 p rfl
    rw [List.filterMap_cons, h0]
    show (p, z) :: _ = (p, z) :: ps.zip zs
    rw [fm_zip (by simpa using hl) fun i x e => h (i + 1) x e]
/-- the value of the parameter x -/
def chn (ps ks : List Str) (us ws : List Value) (ds : List Value) (x : Str) : Option Value :=
  (((ps.zip us).lookup x).or ((ks.zip ws).lookup x)).or (((ps.drop (ps.length - ds.length)).zip ds).lookup x)
theorem bind_of {fd : FuncData} {ps ks : List Str} {us ws zs : List Value} {o : Option (Array Value)} (h1 : fd.params.posonlyargs = []) (h2 : fd.params.args.map (·.arg) = ps) (h3 : fd.params.vararg = none) (h4 : fd.params.kwonlyargs = []) (h5 : fd.params.kwarg = none)
    (hn : us.length ≤ ps.length) (hd : (o.getD #[]).toList.length ≤ ps.length)
    (hk : ∀ (pre : List (Str × Value)) k v (post : List (Str × Value)), ks.zip ws = pre ++ (k, v) :: post → ps.contains k = true ∧ (ps.zip us ++ pre).lookup k = none)
    (hm : ∀ x ∈ ps.take (ps.length - (o.getD #[]).toList.length), (ps.zip us ++ ks.zip ws).lookup x ≠ none)
    (hz : ps.length = zs.length) (hc : ∀ (i : Nat) x, ps[i]? = some x → chn ps ks us ws (o.getD #[]).toList x = zs[i]?) :
    ∃ kt, bindArgs fd ⟨us, ks.zip ws⟩ = seqItems? fd.defaults >>= kt ∧ kt o = pure (ps.zip zs) := by
  unfold bindArgs
  simp only [h1, h2, h3, h4, h5, List.map_nil, List.nil_append, List.append_nil]
  rw [forIn_pure (g := kwG) (l := ks.zip ws) (s := (ps.zip us, [])) (fun pre a post e => ?_), kwG_fold]
  · simp only [pure_bind]
    refine ⟨_, rfl, ?_⟩
    have c1 : (decide (us.length > ps.length) && (none : Option Arg).isNone) = false := by
      simp only [Option.isNone_none, Bool.and_true, decide_eq_false_iff_not]
      omega
    rw [if_neg (by rw [c1]; simp)]
    have c0 : (o.getD #[]).toList.length - ps.length = 0 := by omega
    rw [c0, List.drop_zero]
    have c2 : (ps.take (ps.length - (o.getD #[]).toList.length)).filter (fun n => ((ps.zip us ++ ks.zip ws).lookup n).isNone) = [] := by
      rw [List.filter_eq_nil_iff]
      intro x hx
      have := hm x hx
      cases e : (ps.zip us ++ ks.zip ws).lookup x with
      | none => exact absurd e this
      | some u => simp
    rw [c2]
    simp only [List.isEmpty_nil, Bool.not_true, Bool.false_eq_true, if_false]
    rw [forIn_pure (g := dfG) (fun pre a post e => ?_)]
    · simp only [pure_bind, List.forIn_nil, List.isEmpty_nil, Bool.not_true, Bool.false_eq_true, if_false]
      congr 1
      refine fm_zip hz fun i x e => ?_
      rw [dfG_fold, lookup_append']
      exact hc i x e
    · unfold dfG
      split <;> rfl
  · have hf := kwG_fold pre (ps.zip us)
    rw [hf]
    obtain ⟨k, v⟩ := a
    obtain ⟨g1, g2⟩ := hk pre k v post e
    show (if (ps.contains k || List.contains [] k) = true then _ else _) = _
    rw [if_pos (by rw [g1]; rfl)]
    show (if ((ps.zip us ++ pre).lookup k).isSome = true then _ else _) = _
    rw [g2, if_neg (by simp)]
    rfl
/-! ### shapes, checked -/
def idx (x : Str) : List Str → Option Nat
  | [] => none
  | n :: r => if (x == n) = true then some 0 else (idx x r).map (· + 1)
theorem idx_lt {x : Str} : ∀ {l : List Str} {i : Nat}, idx x l = some i → i < l.length
  | [], _, h => by cases h
  | n :: r, i, h => by
    unfold idx at h
    split at h
    · cases h
      simp
    · cases e : idx x r with
      | none => rw [e] at h; cases h
      | some j =>
        rw [e] at h
        cases h
        have := idx_lt e
        simp only [List.length_cons]
        omega
theorem lookup_zip {β : Type} {x : Str} : ∀ {l : List Str} {vs : List β}, (l.zip vs).lookup x = (idx x l).bind fun j => vs[j]?
  | [], vs => by simp [idx]
  | n :: r, [] => by
    unfold idx
    cases h : (x == n) with
    | true => simp
    | false => cases idx x r <;> simp
  | n :: r, v :: vs => by
    unfold idx
    rw [List.zip_cons_cons, List.lookup_cons]
    cases h : (x == n) with
    | true => simp
    | false =>
      simp only [Bool.false_eq_true, if_false]
      rw [lookup_zip]
      cases idx x r <;> simp
def valB : Dt → Value → Bool
  | .non, .none => true
  | .bl b, .bool c => b == c
  | .int i, .int j _ => decide (i = j)
  | .str a, .str b _ => a == b
  | _, _ => false
theorem val_of {F : Fx} {v : Dt} {u : Value} (h : valB v u = true) : ∃ x, RelV x u ∧ ∀ w, Dn F w v x := by
  unfold valB at h
  split at h
  · exact ⟨.non, rfl, fun _ => rfl⟩
  · rename_i b c
    have : b = c := by simpa using h
    subst this
    exact ⟨.bl b, rfl, fun _ => rfl⟩
  · rename_i i j t
    have : i = j := by simpa using h
    subst this
    exact ⟨.int i, ⟨t, rfl⟩, fun _ => rfl⟩
  · rename_i i j t
    have : i = j := by simpa using h
    subst this
    exact ⟨.str i, ⟨t, rfl⟩, fun _ => rfl⟩
  · cases h
def srcB (ps ks : List Str) (n : Nat) (ds : List Value) (x : Str) : Ar → Bool
  | .a j => match idx x ps with
    | some i => if i < n then decide (i = j) else (match idx x ks with
      | some q => decide (j = n + q)
      | none => false)
    | none => false
  | .d v => match idx x ps with
    | some i => decide (n ≤ i) && (idx x ks).isNone && (match idx x (ps.drop (ps.length - ds.length)) with
      | some q => (match ds[q]? with
        | some u => valB v u
        | none => false)
      | none => false)
    | none => false
def shB (ps ks : List Str) (n : Nat) (ds : List Value) : List Str → List Ar → Bool
  | [], [] => true
  | x :: qs, a :: sh => srcB ps ks n ds x a && shB ps ks n ds qs sh
  | _, _ => false
def kwB (ps ks : List Str) (n : Nat) : Bool := ks.all (fun k => ps.contains k && (match idx k ps with
    | some i => decide (n ≤ i)
    | none => true)) && decide ks.Nodup
def bnB (ps ks : List Str) (n : Nat) (ds : List Value) (sh : List Ar) : Bool := decide (n ≤ ps.length) && decide (ds.length ≤ ps.length) && kwB ps ks n && (ps.take (ps.length - ds.length)).all (fun x => (match idx x ps with
    | some i => decide (i < n)
    | none => false) || (idx x ks).isSome) && shB ps ks n ds ps sh
theorem src_of {F : Fx} {ps ks : List Str} {us ws ds : List Value} {x : Str} (hk : ws.length = ks.length) : ∀ {a : Ar}, srcB ps ks us.length ds x a = true → ∃ z, chn ps ks us ws ds x = some z ∧ (match a with
    | .a j => (us ++ ws)[j]? = some z
    | .d v => ∃ y, RelV y z ∧ ∀ w, Dn F w v y)
  | .a j, h => by
    unfold srcB at h
    unfold chn
    rw [lookup_zip, lookup_zip]
    cases e1 : idx x ps with
    | none => rw [e1] at h; cases h
    | some i =>
      rw [e1] at h
      dsimp only at h
      simp only [Option.bind_some]
      split at h
      · rename_i hi
        have : i = j := by simpa using h
        subst this
        refine ⟨us[i], ?_, ?_⟩
        · rw [List.getElem?_eq_getElem hi]
          rfl
        · rw [List.getElem?_append_left hi, List.getElem?_eq_getElem hi]
      · rename_i hi
        cases e2 : idx x ks with
        | none => rw [e2] at h; cases h
        | some q =>
          rw [e2] at h
          have : j = us.length + q := by simpa using h
          subst this
          have hq : q < ws.length := by rw [hk]; exact idx_lt e2
          rw [List.getElem?_eq_none (by omega)]
          refine ⟨ws[q], ?_, ?_⟩
          · rw [Option.bind_some, List.getElem?_eq_getElem hq]
            rfl
          · rw [List.getElem?_append_right (by omega), Nat.add_sub_cancel_left, List.getElem?_eq_getElem hq]
  | .d v, h => by
    unfold srcB at h
    unfold chn
    rw [lookup_zip, lookup_zip, lookup_zip]
    cases e1 : idx x ps with
    | none => rw [e1] at h; cases h
    | some i =>
      rw [e1] at h
      simp only [Bool.and_eq_true, decide_eq_true_eq] at h
      obtain ⟨⟨h1, h2⟩, h3⟩ := h
      cases e2 : idx x ks with
      | some q => rw [e2] at h2; cases h2
      | none =>
        cases e3 : idx x (ps.drop (ps.length - ds.length)) with
        | none => rw [e3] at h3; cases h3
        | some q =>
          rw [e3] at h3
          dsimp only at h3
          cases e4 : ds[q]? with
          | none => rw [e4] at h3; cases h3
          | some u =>
            rw [e4] at h3
            refine ⟨u, ?_, val_of h3⟩
            rw [Option.bind_some, List.getElem?_eq_none h1]
            simp [e4]
theorem sh_of {F : Fx} {ps ks : List Str} {us ws ds : List Value} (hk : ws.length = ks.length) : ∀ {qs : List Str} {sh : List Ar}, shB ps ks us.length ds qs sh = true → ∃ zs, PkV F (us ++ ws) sh zs ∧ qs.length = zs.length ∧ ∀ (i : Nat) x, qs[i]? = some x → chn ps ks us ws ds x = zs[i]?
  | [], [], _ => ⟨[], trivial, rfl, fun i x e => by simp at e⟩
  | [], _ :: _, h => by simp [shB] at h
  | _ :: _, [], h => by simp [shB] at h
  | x :: qs, a :: sh, h => by
    simp only [shB, Bool.and_eq_true] at h
    obtain ⟨z, q1, q2⟩ := src_of (F := F) hk h.1
    obtain ⟨zs, p1, p2, p3⟩ := sh_of (F := F) hk h.2
    refine ⟨z :: zs, ?_, by simp [p2], fun i y e => ?_⟩
    · cases a with
      | a j => exact ⟨q2, p1⟩
      | d v => exact ⟨q2, p1⟩
    · cases i with
      | zero =>
        have : x = y := by simpa using e
        subst this
        rw [q1]
        rfl
      | succ i => exact p3 i y (by simpa using e)
/-- the defaults of a def -/
def dflD (K : PySem.W.Frag) : Value → Option (List Value)
  | .none => some []
  | .ref T => match K.lookup T with
    | some ⟨_, _, .seq its _, _⟩ => some its.toList
    | _ => none
  | _ => none
def prmB (p : Arguments) (ps : List Str) : Bool := p.posonlyargs.isEmpty && (p.args.map (·.arg) == ps) && p.vararg.isNone && p.kwonlyargs.isEmpty && p.kwarg.isNone
theorem bnd_of {K : PySem.W.Frag} {F : Fx} {fd : FuncData} {ps ks : List Str} {n : Nat} {ds : List Value} {sh : List Ar} (hp : prmB fd.params ps = true) (hd : dflD K fd.defaults = some ds) (h : bnB ps ks n ds sh = true) : Bnd K F fd ps n ks sh := by
  intro s us ws kin hn hk
  subst hn
  unfold prmB at hp
  simp only [Bool.and_eq_true, List.isEmpty_iff, beq_iff_eq, Option.isNone_iff_eq_none] at hp
  obtain ⟨⟨⟨⟨p1, p2⟩, p3⟩, p4⟩, p5⟩ := hp
  unfold bnB at h
  simp only [Bool.and_eq_true, decide_eq_true_eq] at h
  obtain ⟨⟨⟨⟨b1, b2⟩, b3⟩, b4⟩, b5⟩ := h
  obtain ⟨zs, z1, z2, z3⟩ := sh_of (F := F) hk b5
  unfold kwB at b3
  rw [Bool.and_eq_true, decide_eq_true_eq] at b3
  obtain ⟨k1, k2⟩ := b3
  rw [List.all_eq_true] at k1 b4
  have hkw : ∀ (pre : List (Str × Value)) k v (post : List (Str × Value)), ks.zip ws = pre ++ (k, v) :: post → ps.contains k = true ∧ (ps.zip us ++ pre).lookup k = none := by
    intro pre k v post e
    have em : (ks.zip ws).map (·.1) = ks := by
      rw [← List.unzip_fst, List.unzip_zip hk.symm]
    have ek : ks = pre.map (·.1) ++ k :: post.map (·.1) := by
      rw [← em, e]
      simp
    have hmem : k ∈ ks := by rw [ek]; simp
    have q := k1 k hmem
    rw [Bool.and_eq_true] at q
    refine ⟨q.1, ?_⟩
    rw [lookup_append', lookup_zip]
    have a1 : ((idx k ps).bind fun j => us[j]?) = none := by
      cases e1 : idx k ps with
      | none => rfl
      | some i =>
        rw [e1] at q
        have : us.length ≤ i := by simpa using q.2
        rw [Option.bind_some, List.getElem?_eq_none this]
    rw [a1]
    show pre.lookup k = none
    cases e2 : pre.lookup k with
    | none => rfl
    | some u =>
      have : (k, u) ∈ pre := PySem.mem_of_lookup e2
      have : k ∈ pre.map (·.1) := List.mem_map.mpr ⟨_, this, rfl⟩
      rw [ek, List.nodup_append] at k2
      exact (k2.2.2 k this k (by simp) rfl).elim
  have hms : ∀ x ∈ ps.take (ps.length - ds.length), (ps.zip us ++ ks.zip ws).lookup x ≠ none := by
    intro x hx
    have q := b4 x hx
    rw [lookup_append', lookup_zip, lookup_zip]
    rw [Bool.or_eq_true] at q
    rcases q with q | q
    · cases e1 : idx x ps with
      | none => rw [e1] at q; cases q
      | some i =>
        rw [e1] at q
        have : i < us.length := by simpa using q
        rw [Option.bind_some, List.getElem?_eq_getElem this]
        simp
    · obtain ⟨j, hj⟩ := Option.isSome_iff_exists.mp q
      rw [hj]
      have : j < ws.length := by rw [hk]; exact idx_lt hj
      rw [Option.bind_some, List.getElem?_eq_getElem this]
      simp
  refine ⟨zs, ?_, z1⟩
  unfold dflD at hd
  split at hd
  · rename_i e
    cases hd
    obtain ⟨kt, t1, t2⟩ := bind_of (o := none) p1 p2 p3 p4 p5 b1 b2 hkw hms z2 z3
    refine BindsTo.of_eq ?_
    rw [t1, e]
    exact t2
  · rename_i T e
    split at hd
    · rename_i oc od its m osl lT
      cases hd
      obtain ⟨kt, t1, t2⟩ := bind_of (o := some its) p1 p2 p3 p4 p5 b1 b2 hkw hms z2 z3
      refine L2.BindsTo.of_looks fun M => ?_
      rw [t1, e]
      exact L2.looks_items kin lT rfl (.of_pure t2)
    · cases hd
  · cases hd
def upA : Ar → Ar
  | .a i => .a (i + 1)
  | .d v => .d v
theorem pkv_up {F : Fx} {x : Value} {all : List Value} : ∀ {sh : List Ar} {zs : List Value}, PkV F (x :: all) (sh.map upA) zs → PkV F all sh zs
  | [], [], h => trivial
  | [], _ :: _, h => h.elim
  | .a i :: sh, [], h => h.elim
  | .d v :: sh, [], h => h.elim
  | .a i :: sh, z :: zs, h => ⟨by simpa using h.1, pkv_up h.2⟩
  | .d v :: sh, z :: zs, h => ⟨h.1, pkv_up h.2⟩
theorem bndI_of {K : PySem.W.Frag} {F : Fx} {fd : FuncData} {ps ks : List Str} {n : Nat} {sh : List Ar} (h : Bnd K F fd ps (n + 1) ks (.a 0 :: sh.map upA)) : BndI K F fd ps n ks sh := by
  intro s x us ws kin hn hk
  obtain ⟨zs, z1, z2⟩ := h s (.ref x :: us) ws kin (by simp [hn]) hk
  cases zs with
  | nil => exact z2.elim
  | cons z zs =>
    obtain ⟨a1, a2⟩ := z2
    have a1 : z = .ref x := by simpa using a1.symm
    subst a1
    exact ⟨zs, z1, pkv_up a2⟩
end PyI
namespace PyI
open PySem PySem.Spec PyProof.Rows L2
/-! ### the table of a program, read off the written part -/
inductive Fat where
  | glob (x : Str) | meth (c : Nat) (m : Str) | prop (c : Nat) (m : Str) | stat (c : Nat) (m : Str)
structure TbD where
  I : Nf
  fat : List (Fat × List Str × List Str)
  cnm : List Str
def wrF (K : PySem.W.Frag) (p : Addr) (T : String) : Addr := match PySem.W.recIn K p T with
  | some (.ref g :: _) => g
  | _ => 0
def TbD.ca (T : TbD) (K : PySem.W.Frag) (c : Nat) : Addr := He.ga K (T.cnm.getD c Str.empty)
def TbD.fa (T : TbD) (K : PySem.W.Frag) (g : Nat) : Addr := match T.fat[g]? with
  | some (.glob x, _) => He.ga K x
  | some (.meth c m, _) => He.ma K (T.ca K c) m
  | some (.prop c m, _) => wrF K (He.ma K (T.ca K c) m) "property"
  | some (.stat c m, _) => wrF K (He.ma K (T.ca K c) m) "staticmethod"
  | none => 0
abbrev TbD.fx (T : TbD) (K : PySem.W.Frag) : Fx := ⟨K, T.ca K, T.fa K⟩
def vOO (a b : Option (Option Value)) : Bool := decide (a = b)
theorem vOO_of {a b : Option (Option Value)} (h : vOO a b = true) : a = b := of_decide_eq_true h
def opB (T : TbD) (K : PySem.W.Frag) (C : Addr) (nm : String) : Bool :=
  PySem.W.selfFirst K C && (match PySem.W.findIn K (.ref C) (dunderR nm) with
    | some none => true
    | some (some (.ref _)) => true
    | _ => false) &&
  bTys.all (fun t => (PySem.W.findIn K (.type t) (PySem.dunder nm)).isSome && (PySem.W.findIn K (.type t) (dunderR nm)).isSome && decide (PySem.W.subIn K (.type t) (.ref C) = some false)) &&
  (List.range T.I.P.cl.length).all (fun c' => decide (T.ca K c' = C) || noOpB K (T.ca K c') nm) && noInB K C nm
theorem op_of {T : TbD} {K : PySem.W.Frag} {C : Addr} {nm : String} (h : opB T K C nm = true) : OpF K (T.fx K) T.I.P C nm := by
  unfold opB at h
  simp only [Bool.and_eq_true, Bool.or_eq_true] at h
  obtain ⟨⟨⟨⟨h1, h2⟩, h3⟩, h4⟩, h5⟩ := h
  rw [List.all_eq_true] at h3 h4
  refine ⟨h1, ?_, fun t ht => ?_, fun c' x' e => ?_, h5⟩
  · split at h2
    · rename_i e
      exact ⟨_, e, .inl rfl⟩
    · rename_i g e
      exact ⟨_, e, .inr ⟨g, rfl⟩⟩
    · cases h2
  · have q := h3 t ht
    simp only [Bool.and_eq_true, decide_eq_true_eq] at q
    exact ⟨Option.isSome_iff_exists.mp q.1.1, Option.isSome_iff_exists.mp q.1.2, q.2⟩
  · have q := h4 c' (List.mem_range.mpr (List.getElem?_eq_some_iff.mp e).1)
    rw [Bool.or_eq_true, decide_eq_true_eq] at q
    by_cases z : T.ca K c' = C
    · exact .inl z
    · exact .inr ⟨fun y => z y.symm, q.resolve_left z⟩
theorem opMeth_mem {op : Operator} {nm : Str} (h : opMeth op = some nm) : op ∈ [Operator.Add, .Sub, .Mult, .RShift] := by
  cases op <;> first | decide | (cases h)
/-- a class -/
def clB (T : TbD) (K : PySem.W.Frag) (c : Nat) (x : ClD) : Bool :=
  PySem.W.plainGet K (T.ca K c) Str.empty && PySem.W.hasDictIn K (T.ca K c) && PySem.W.plainOver K (T.ca K c) && vOO (PySem.W.findIn K (.ref (T.ca K c)) "__setattr__") (some (some (.builtin "object.__setattr__"))) &&
  vOO (PySem.W.findIn K (.ref (T.ca K c)) "__class__") (some (some (.builtin "object.__class__"))) && vOO (PySem.W.specialIn K (.builtin "object.__class__") "__get__") (some (some (.builtin "getset_descriptor.__get__"))) &&
  decide (PySem.W.takesIn K (.builtin "object.__class__") = some true) && decide (PySem.W.mroIn K (T.ca K c) (.type "object") = some true) &&
  x.meth.all (fun q => vOO (PySem.W.findIn K (.ref (T.ca K c)) q.1) (some (some (.ref (T.fa K q.2)))) && PySem.W.isFn K (.ref (T.fa K q.2)) && PySem.W.keepIn K (.ref (T.fa K q.2))) &&
  x.prop.all (fun q => vOO (PySem.W.findIn K (.ref (T.ca K c)) q.1) (some (some (.ref (He.ma K (T.ca K c) q.1)))) && vOO (PySem.W.specialIn K (.ref (He.ma K (T.ca K c) q.1)) "__get__") (some (some (.builtin "property.__get__"))) && decide (PySem.W.takesIn K (.ref (He.ma K (T.ca K c) q.1)) = some true) &&
    (match PySem.W.recIn K (He.ma K (T.ca K c) q.1) "property" with
    | some (.ref g :: _) => decide (g = T.fa K q.2)
    | _ => false)) &&
  x.stat.all (fun q => PySem.W.readsIn K (T.ca K c) (.type "type") && vOO (PySem.W.specialIn K (.ref (T.ca K c)) "__getattribute__") (some (some (.builtin "type.__getattribute__"))) && (match PySem.W.findCls K (.ref (T.ca K c)) (.type "type") q.1 with
    | some (.get (.builtin g) (.ref p) .none (.ref D)) => decide (g = "staticmethod.__get__") && decide (D = T.ca K c) && (match PySem.W.recIn K p "staticmethod" with
      | some (.ref f :: _) => decide (f = T.fa K q.2)
      | _ => false)
    | _ => false) && PySem.W.keepIn K (.ref (T.fa K q.2))) &&
  x.flds.all (fun f => vOO (PySem.W.findIn K (.ref (T.ca K c)) f) (some none)) &&
  bTys.all (fun t => PySem.W.notFirst K (T.ca K c) (.type t) && decide (PySem.W.kitOne K (.type t) (.ref (T.ca K c)) = some false) && decide (PySem.W.kitOne K (.ref (T.ca K c)) (.type t) = some false)) &&
  (List.range T.I.P.cl.length).all (fun c' => (!(x.meth.lookup ("__eq__" : Str)).isSome || PySem.W.notFirst K (T.ca K c) (.ref (T.ca K c'))) && decide (PySem.W.kitOne K (.ref (T.ca K c)) (.ref (T.ca K c')) = some (x.up.contains c'))) &&
  bTys.all (fun t => decide (PySem.W.subIn K (.ref (T.ca K c)) (.type t) = some false)) &&
  [Operator.Add, .Sub, .Mult, .RShift].all (fun op => !((opMeth op).bind (x.meth.lookup ·)).isSome || opB T K (T.ca K c) op.info.2) &&
  (!x.bare || (PySem.W.makesIn K (T.ca K c) && vOO (PySem.W.findIn K (.ref (T.ca K c)) "__init__") (some (some (.builtin "object.__init__"))) && PySem.W.keepIn K (.ref (T.ca K c))))
theorem lookup_all {β : Type} {x : Str} {b : β} {l : List (Str × β)} (h : l.lookup x = some b) : (x, b) ∈ l := PySem.mem_of_lookup h
theorem cl_of {T : TbD} {K : PySem.W.Frag} {c : Nat} {x : ClD} (h : clB T K c x = true) : ClT K (T.fx K) T.I.P c x := by
  unfold clB at h
  simp only [Bool.and_eq_true, decide_eq_true_eq] at h
  obtain ⟨⟨⟨⟨⟨⟨⟨⟨⟨⟨⟨⟨⟨⟨⟨⟨h1, h2⟩, h3⟩, h4⟩, h5⟩, h6⟩, h7⟩, h8⟩, h9⟩, h10⟩, h11⟩, h12⟩, h13⟩, h14⟩, h15⟩, h16⟩, h17⟩ := h
  rw [List.all_eq_true] at h9 h10 h11 h12 h13 h14 h15 h16
  refine ⟨⟨h1, h2, h3, vOO_of h4⟩, vOO_of h5, vOO_of h6, h7, h8, fun m g e => ?_, fun m g e => ?_, fun m g e => ?_, fun f hf => vOO_of (h12 f hf), fun t ht => ?_, fun g he c' x' e => ?_, fun t ht => ?_, fun t ht => ?_, fun c' x' e => ?_, fun t ht => of_decide_eq_true (h15 t ht), fun op g e => ?_, fun hb => ?_⟩
  · have q := h9 (m, g) (lookup_all e)
    simp only [Bool.and_eq_true] at q
    exact ⟨vOO_of q.1.1, q.1.2, q.2⟩
  · have q := h10 (m, g) (lookup_all e)
    simp only [Bool.and_eq_true, decide_eq_true_eq] at q
    obtain ⟨⟨⟨q1, q2⟩, q3⟩, q4⟩ := q
    refine ⟨_, vOO_of q1, vOO_of q2, q3, ?_⟩
    split at q4
    · rename_i g' rest e'
      have : g' = T.fa K g := by simpa using q4
      subst this
      exact ⟨rest, e'⟩
    · cases q4
  · have q := h11 (m, g) (lookup_all e)
    simp only [Bool.and_eq_true] at q
    obtain ⟨⟨⟨q1, q2⟩, q3⟩, q4⟩ := q
    refine ⟨⟨q1, vOO_of q2⟩, ?_, q4⟩
    split at q3
    · rename_i g' p D e'
      simp only [Bool.and_eq_true, decide_eq_true_eq] at q3
      obtain ⟨⟨k1, k2⟩, k3⟩ := q3
      subst k1
      subst k2
      split at k3
      · rename_i f' rest e2
        have : f' = T.fa K g := by simpa using k3
        subst this
        exact ⟨p, e', rest, e2⟩
      · cases k3
    · cases q3
  · have q := h13 t ht
    simp only [Bool.and_eq_true] at q
    exact q.1.1
  · have q := h14 c' (List.mem_range.mpr (List.getElem?_eq_some_iff.mp e).1)
    rw [Bool.and_eq_true, he] at q
    simpa using q.1
  · have q := h13 t ht
    simp only [Bool.and_eq_true, decide_eq_true_eq] at q
    exact q.1.2
  · have q := h13 t ht
    simp only [Bool.and_eq_true, decide_eq_true_eq] at q
    exact q.2
  · have q := h14 c' (List.mem_range.mpr (List.getElem?_eq_some_iff.mp e).1)
    simp only [Bool.and_eq_true, decide_eq_true_eq] at q
    exact q.2
  · obtain ⟨nm, e1, _⟩ := Option.bind_eq_some_iff.mp e
    have q := h16 op (opMeth_mem e1)
    rw [e] at q
    exact op_of (by simpa using q)
  · rw [hb] at h17
    simp only [Bool.not_true, Bool.false_or, Bool.and_eq_true] at h17
    exact ⟨h17.1.1, vOO_of h17.1.2, h17.2⟩
def scB (N ps : List Str) (sc : Scope) : Bool := (match sc.kind with
  | .function => true
  | _ => false) && !sc.isCoroutine && !sc.isGenerator && decide N.Nodup && (N.take ps.length == ps) && ps.all (fun x => locB sc x) && sc.names.all (fun y => match y.2 with
  | .free => false
  | _ => true)
theorem sc_of {N ps : List Str} {sc : Scope} (h : scB N ps sc = true) : FnScope N ps sc := by
  unfold scB at h
  simp only [Bool.and_eq_true, Bool.not_eq_true', decide_eq_true_eq, beq_iff_eq] at h
  obtain ⟨⟨⟨⟨⟨⟨h1, h2⟩, h3⟩, h4⟩, h5⟩, h6⟩, h7⟩ := h
  rw [List.all_eq_true] at h6 h7
  refine ⟨?_, h2, h3, h4, h5, fun x hx => locB_of (h6 x hx), fun y hy e => ?_⟩
  · split at h1
    · assumption
    · cases h1
  · have q := h7 y hy
    rw [e] at q
    cases q
/-- a def, its shapes by bn -/
def fnB (T : TbD) (K : PySem.W.Frag) (fa : Addr) (N ps : List Str) (fd : FnD) (bn : List Value → Bool) : Bool := match K.lookup fa with
  | some ⟨_, _, .func f, _⟩ => (match f.body with
    | .stmts body => decide (f.globals = mainGlobals) && f.closure.isEmpty && decide (f.builtins = builtinsNs) && PySem.W.codeIn K f.code f.qualname && scB N ps f.scope && decide (N.length = fd.n) && decide (ps.length = fd.k) && prmB f.params ps && mss { T.I with N := N } f.scope false fd.b body && (match dflD K f.defaults with
      | some ds => bn ds
      | none => false)
    | _ => false)
  | _ => false
theorem fn_of' {T : TbD} {K : PySem.W.Frag} {fa : Addr} {N ps : List Str} {fd : FnD} {bn : List Value → Bool} (h : fnB T K fa N ps fd bn = true) : ∃ (scope : Scope) (body : List Stmt), N.length = fd.n ∧ ps.length = fd.k ∧ mss { T.I with N := N } scope false fd.b body = true ∧
    FnT K fa N ps scope body fun D => prmB D.params ps = true ∧ ∃ ds, dflD K D.defaults = some ds ∧ bn ds = true := by
  unfold fnB at h
  cases e : K.lookup fa with
  | none => rw [e] at h; cases h
  | some o =>
    rw [e] at h
    obtain ⟨oc, od, dt, osl⟩ := o
    cases dt with
    | func f =>
      obtain ⟨n1, n2, n3, n4, n5, n6, n7, n8, n9, n10, n11, n12, n13, n14, n15⟩ := f
      cases n4 with
      | stmts body =>
        simp only [Bool.and_eq_true, decide_eq_true_eq, List.isEmpty_iff] at h
        obtain ⟨⟨⟨⟨⟨⟨⟨⟨⟨h1, h2⟩, h3⟩, h4⟩, h5⟩, h6⟩, h7⟩, h8⟩, h9⟩, h10⟩ := h
        subst h1 h2 h3
        refine ⟨n5, body, h6, h7, h9, ⟨n1, n2, n3, oc, od, n8, n9, n10, n11, n12, n13, n14, osl, e, h4, h8, ?_⟩, sc_of h5⟩
        cases e2 : dflD K n8 with
        | none => rw [e2] at h10; cases h10
        | some ds => rw [e2] at h10; exact ⟨ds, rfl, h10⟩
      | expr _ => cases h
    | _ => cases h
/-! ### all of it -/
structure Tab (K : PySem.W.Frag) (mg : Str → Option Value) (F : Fx) (I : Nf) : Prop where
  hK : K = F.K
  cls : ClsT K F I.P
  pok : PgOk I.P
  gf : ∀ x i, I.gf.lookup x = some i → mg x = some (.ref (F.fa i)) ∧ PySem.W.keepIn K (.ref (F.fa i)) = true
  gc : ∀ x i, I.gc.lookup x = some i → mg x = some (.ref (F.ca i)) ∧ PySem.W.keepIn K (.ref (F.ca i)) = true
  gl : ∀ x d, I.gd.lookup x = some d → ∃ u v, mg x = some u ∧ RelV v u ∧ ∀ w, Dn F w d v
  bn : ∀ x, x ∈ I.bn → mg x = none
  fn : ∀ g fd, I.P.fn[g]? = some fd → ∀ n ks sh, (n, ks, sh) ∈ fd.shs → ∃ N ps scope body, N.length = fd.n ∧ ps.length = fd.k ∧ mss { I with N := N } scope false fd.b body = true ∧ FnT K (F.fa g) N ps scope body fun D => Bnd K F D ps n ks sh
  cl : ∀ c cd, I.P.cl[c]? = some cd → ∀ n ks sh, (n, ks, sh) ∈ cd.shs → ∃ fd, I.P.fn[cd.init]? = some fd ∧ Mk K (F.ca c) (F.fa cd.init) ∧ ∃ N ps scope body, N.length = fd.n ∧ ps.length = fd.k ∧ mss { I with N := N } scope false fd.b body = true ∧ FnT K (F.fa cd.init) N ps scope body fun D => BndI K F D ps n ks sh
section
variable {P : Program} {w : World} {K : PySem.W.Frag} {mg : Str → Option Value} {base : Heap} {F : Fx} {I : Nf}
theorem CalG.mono {j k : Nat} {f : Addr} {n : Nat} {ks : List Str} {sp : Sp} (h : CalG P w K mg base j f n ks sp) (l : j ≤ k) : CalG P w K mg base k f n ks sp :=
  fun A outer s H us ws vs zs Q E hr => h A outer s H us ws vs zs Q E (hr.mono l)
theorem shf_mem {P : Pg} {g n : Nat} {ks : List Str} {sh : List Ar} (h : P.shf g n ks = some sh) : ∃ fd, P.fn[g]? = some fd ∧ (n, ks, sh) ∈ fd.shs := by
  unfold Pg.shf at h
  cases e : P.fn[g]? with
  | none => rw [e] at h; cases h
  | some fd => rw [e] at h; exact ⟨fd, rfl, shOf_mem h⟩
theorem shc_mem {P : Pg} {c n : Nat} {ks : List Str} {sh : List Ar} (h : P.shc c n ks = some sh) : ∃ cd, P.cl[c]? = some cd ∧ (n, ks, sh) ∈ cd.shs := by
  unfold Pg.shc at h
  cases e : P.cl[c]? with
  | none => rw [e] at h; cases h
  | some cd => rw [e] at h; exact ⟨cd, rfl, shOf_mem h⟩
/-- the runs of every fuel keep their promises -/
theorem tab_glo (T : Tab K mg F I) : ∀ n, Glo P w K mg base F I (6 * n) (runs I.P n).1 (runs I.P n).2
  | 0 => by
    refine ⟨T.hK, T.cls, fun g n ks sh e => ?_, fun c n ks sh e => ?_, T.pok, T.gf, T.gc, T.gl, T.bn⟩
    · rintro A outer s H us ws vs zs Q E _ _ _ _ _ _ _ ⟨_, _, _, _, _, _, _, z⟩
      exact z.elim
    · obtain ⟨cd, e1, e2⟩ := shc_mem e
      obtain ⟨fd, f1, f2, _⟩ := T.cl c cd e1 n ks sh e2
      refine ⟨_, f2, ?_⟩
      rintro A outer s H us ws vs zs Q E _ _ _ _ _ _ _ ⟨_, _, _, _, _, _, _, _, _, _, _, _, _, _, _, _, _, z, _⟩
      exact z.elim
  | n + 1 => by
    have G := tab_glo T n
    refine ⟨T.hK, T.cls, fun g m ks sh e => ?_, fun c m ks sh e => ?_, T.pok, T.gf, T.gc, T.gl, T.bn⟩
    · obtain ⟨fd, e1, e2⟩ := shf_mem e
      obtain ⟨N, ps, scope, body, f1, f2, f3, f4⟩ := T.fn g fd e1 m ks sh e2
      exact (cal_fn G e1 f4 f1 f2 f3).mono (by omega)
    · obtain ⟨cd, e1, e2⟩ := shc_mem e
      obtain ⟨fd, f0, m0, N, ps, scope, body, f1, f2, f3, f4⟩ := T.cl c cd e1 m ks sh e2
      exact ⟨_, m0, (cal_init G e1 f0 f4 f1 f2 f3).mono (by omega)⟩
end
/-! ### the checker of the whole table -/
def isTwo (m : Str) : Bool := m == ("__eq__" : Str) || m == ("__contains__" : Str) || m == ("__add__" : Str) || m == ("__sub__" : Str) || m == ("__mul__" : Str) || m == ("__rshift__" : Str)
theorem two_not {m : Str} (h : isTwo m = true) : (m == ("__len__" : Str) || m == ("__str__" : Str) || m == ("__repr__" : Str)) = false := by
  unfold isTwo at h
  simp only [Bool.or_eq_true, beq_iff_eq] at h
  rcases h with ((((h | h) | h) | h) | h) | h <;> subst h <;> decide +kernel
def pgB (P : Pg) : Bool := P.cl.all fun x => x.prop.all (fun q => shEq (P.shf q.2 1 []) selfSh) && x.meth.all (fun q => if q.1 == ("__len__" : Str) || q.1 == ("__str__" : Str) || q.1 == ("__repr__" : Str) then shEq (P.shf q.2 1 []) selfSh else if isTwo q.1 then shEq (P.shf q.2 2 []) eqSh else true)
where
  shEq : Option (List Ar) → List Ar → Bool
  | some l, r => arsEq l r
  | none, _ => false
  arsEq : List Ar → List Ar → Bool
  | [], [] => true
  | .a i :: l, .a j :: r => decide (i = j) && arsEq l r
  | _, _ => false
theorem arsEq_of : ∀ {l r : List Ar}, pgB.arsEq l r = true → l = r
  | [], [], _ => rfl
  | [], _ :: _, h => by simp [pgB.arsEq] at h
  | .a _ :: _, [], h => by simp [pgB.arsEq] at h
  | .d _ :: _, _, h => by simp [pgB.arsEq] at h
  | .a i :: l, .d j :: r, h => by simp [pgB.arsEq] at h
  | .a i :: l, .a j :: r, h => by
    simp only [pgB.arsEq, Bool.and_eq_true, decide_eq_true_eq] at h
    rw [h.1, arsEq_of h.2]
theorem shEq_of {o : Option (List Ar)} {r : List Ar} (h : pgB.shEq o r = true) : o = some r := by
  cases o with
  | none => simp [pgB.shEq] at h
  | some l =>
    simp only [pgB.shEq] at h
    rw [arsEq_of h]
theorem pg_ok {P : Pg} (h : pgB P = true) : PgOk P := by
  unfold pgB at h
  rw [List.all_eq_true] at h
  have two : ∀ c g m, isTwo m = true → P.meth c m = some g → P.shf g 2 [] = some eqSh := by
    intro c g m hm e
    obtain ⟨x, e1, e2⟩ := meth_cl e
    have q := h x (List.mem_of_getElem? e1)
    rw [Bool.and_eq_true, List.all_eq_true, List.all_eq_true] at q
    have q := q.2 (m, g) (lookup_all e2)
    simp only [two_not hm, hm, if_true, Bool.false_eq_true, if_false] at q
    exact shEq_of q
  refine ⟨fun c fl g e => ?_, fun c g m hm e => ?_, fun c g m hm e => ?_, fun op c g e => ?_⟩
  · unfold Pg.prop at e
    cases e1 : P.cl[c]? with
    | none => rw [e1] at e; cases e
    | some x =>
      rw [e1] at e
      have q := h x (List.mem_of_getElem? e1)
      rw [Bool.and_eq_true, List.all_eq_true] at q
      exact shEq_of (q.1 (fl, g) (lookup_all e))
  · obtain ⟨x, e1, e2⟩ := meth_cl e
    have q := h x (List.mem_of_getElem? e1)
    rw [Bool.and_eq_true, List.all_eq_true, List.all_eq_true] at q
    have q := q.2 (m, g) (lookup_all e2)
    have hc : (m == ("__len__" : Str) || m == ("__str__" : Str) || m == ("__repr__" : Str)) = true := by
      rcases hm with z | z | z <;> simp [z]
    simp only [hc, if_true] at q
    exact shEq_of q
  · exact two c g m (by rcases hm with z | z <;> subst z <;> decide +kernel) e
  · obtain ⟨nm, e1, e2⟩ := Option.bind_eq_some_iff.mp e
    exact two c g nm (by cases op <;> cases e1 <;> decide +kernel) e2
def valsB : List Dt → List Value → Bool
  | [], [] => true
  | d :: ds, u :: us => valB d u && valsB ds us
  | _, _ => false
theorem vals_of {F : Fx} : ∀ {ds : List Dt} {us : List Value}, valsB ds us = true → ∃ xs, Vals xs us ∧ ∀ w, Dns F w ds xs
  | [], us, h => by
    cases us with
    | nil => exact ⟨[], .nil, fun _ => rfl⟩
    | cons _ _ => simp [valsB] at h
  | d :: ds, us, h => by
    cases us with
    | nil => simp [valsB] at h
    | cons u us =>
      simp only [valsB, Bool.and_eq_true] at h
      obtain ⟨x, h1, h2⟩ := val_of (F := F) h.1
      obtain ⟨xs, h3, h4⟩ := vals_of (F := F) h.2
      exact ⟨x :: xs, .cons h1 h3, fun w => ⟨x, xs, rfl, h2 w, h4 w⟩⟩
/-- a constant of the module: flat, or a tuple of such -/
def tvB (K : PySem.W.Frag) (d : Dt) (u : Value) : Bool := match d, u with
  | .tup ds, .ref a => (match K.lookup a with
    | some o => (match o.data with
      | .seq its _ => decide (o.cls = .type "tuple") && decide (its.size ≤ sizeLine) && valsB ds its.toList
      | _ => false)
    | none => false)
  | d, u => valB d u
theorem tv_of {F : Fx} {d : Dt} {u : Value} (h : tvB F.K d u = true) : ∃ x, RelV x u ∧ ∀ w, Dn F w d x := by
  unfold tvB at h
  split at h
  · rename_i ds a
    split at h
    · rename_i o eo
      split at h
      · rename_i its n ed
        simp only [Bool.and_eq_true, decide_eq_true_eq] at h
        obtain ⟨xs, h3, h4⟩ := vals_of (F := F) h.2
        exact ⟨.ref a, rfl, fun w => ⟨a, xs, rfl, .inr ⟨o, its, n, eo, h.1.1, ed, h.1.2, h3⟩, h4 w⟩⟩
      · cases h
    · cases h
  · exact val_of h
def nsB (K : PySem.W.Frag) (x : Str) (d : Dt) : Bool := match PySem.W.nsIn K mainGlobals x with
  | some (some u) => tvB K d u
  | _ => false
/-- shapes of a def, of a class -/
def shsB (ps : List Str) (shs : List (Nat × List Str × List Ar)) (ds : List Value) : Bool := shs.all fun t => bnB ps t.2.1 t.1 ds t.2.2
def shsI (ps : List Str) (shs : List (Nat × List Str × List Ar)) (ds : List Value) : Bool := shs.all fun t => bnB ps t.2.1 (t.1 + 1) ds (.a 0 :: t.2.2.map upA)
def fnsB (T : TbD) (K : PySem.W.Frag) : Nat → List FnD → Bool
  | _, [] => true
  | g, fd :: r => (match T.fat[g]? with
    | some (_, N, ps) => fnB T K (T.fa K g) N ps fd (shsB ps fd.shs)
    | none => false) && fnsB T K (g + 1) r
def clsB (T : TbD) (K : PySem.W.Frag) : Nat → List ClD → Bool
  | _, [] => true
  | c, x :: r => clB T K c x && (x.shs.isEmpty || (PySem.W.makesIn K (T.ca K c) && vOO (PySem.W.findIn K (.ref (T.ca K c)) "__init__") (some (some (.ref (T.fa K x.init)))) && PySem.W.isFn K (.ref (T.fa K x.init)) && PySem.W.keepIn K (.ref (T.ca K c)) && (match T.fat[x.init]?, T.I.P.fn[x.init]? with
    | some (_, N, ps), some fd => fnB T K (T.fa K x.init) N ps fd (shsI ps x.shs)
    | _, _ => false))) && clsB T K (c + 1) r
def tabB (T : TbD) (K : PySem.W.Frag) : Bool :=
  T.I.gf.all (fun q => vOO (PySem.W.nsIn K mainGlobals q.1) (some (some (.ref (T.fa K q.2)))) && PySem.W.keepIn K (.ref (T.fa K q.2))) &&
  T.I.gc.all (fun q => vOO (PySem.W.nsIn K mainGlobals q.1) (some (some (.ref (T.ca K q.2)))) && PySem.W.keepIn K (.ref (T.ca K q.2))) &&
  T.I.gd.all (fun q => nsB K q.1 q.2) && T.I.bn.all (fun x => vOO (PySem.W.nsIn K mainGlobals x) (some none)) && fnsB T K 0 T.I.P.fn && clsB T K 0 T.I.P.cl
theorem fns_of {T : TbD} {K : PySem.W.Frag} : ∀ {l : List FnD} {g0 : Nat}, fnsB T K g0 l = true → ∀ (i : Nat) fd, l[i]? = some fd → ∃ a N ps, T.fat[g0 + i]? = some (a, N, ps) ∧ fnB T K (T.fa K (g0 + i)) N ps fd (shsB ps fd.shs) = true
  | [], _, _, i, fd, e => by simp at e
  | f :: r, g0, h, i, fd, e => by
    simp only [fnsB, Bool.and_eq_true] at h
    cases i with
    | zero =>
      have e : f = fd := by simpa using e
      subst e
      have h1 := h.1
      split at h1
      · rename_i a N ps e2
        exact ⟨a, N, ps, e2, h1⟩
      · cases h1
    | succ i =>
      have := fns_of h.2 i fd (by simpa using e)
      rwa [show g0 + 1 + i = g0 + (i + 1) from by omega] at this
theorem cls_of {T : TbD} {K : PySem.W.Frag} : ∀ {l : List ClD} {c0 : Nat}, clsB T K c0 l = true → ∀ (i : Nat) x, l[i]? = some x → clB T K (c0 + i) x = true ∧ (x.shs.isEmpty = true ∨ (Mk K (T.ca K (c0 + i)) (T.fa K x.init) ∧ ∃ a N ps fd, T.fat[x.init]? = some (a, N, ps) ∧ T.I.P.fn[x.init]? = some fd ∧ fnB T K (T.fa K x.init) N ps fd (shsI ps x.shs) = true))
  | [], _, _, i, x, e => by simp at e
  | y :: r, c0, h, i, x, e => by
    simp only [clsB, Bool.and_eq_true, Bool.or_eq_true] at h
    cases i with
    | zero =>
      have e : y = x := by simpa using e
      subst e
      refine ⟨h.1.1, ?_⟩
      rcases h.1.2 with q | ⟨⟨⟨⟨q1, q2⟩, q3⟩, q4⟩, q5⟩
      · exact .inl q
      · refine .inr ⟨⟨q1, vOO_of q2, q3, q4⟩, ?_⟩
        split at q5
        · rename_i a N ps fd e1 e2
          exact ⟨a, N, ps, fd, e1, e2, q5⟩
        · cases q5
    | succ i =>
      have := cls_of h.2 i x (by simpa using e)
      rwa [show c0 + 1 + i = c0 + (i + 1) from by omega] at this
theorem tab_of {T : TbD} {K : PySem.W.Frag} {h : Heap} {mg : Str → Option Value} (X : K.In h) (G : h.Ns mainGlobals mg) (hp : pgB T.I.P = true) (hb : tabB T K = true) : Tab K mg (T.fx K) T.I := by
  unfold tabB at hb
  simp only [Bool.and_eq_true] at hb
  obtain ⟨⟨⟨⟨⟨h1, h2⟩, h3⟩, h4⟩, h5⟩, h6⟩ := hb
  rw [List.all_eq_true] at h1 h2 h3 h4
  refine ⟨rfl, fun c x e => ?_, pg_ok hp, fun x i e => ?_, fun x i e => ?_, fun x d e => ?_, fun x hx => PySem.W.mg_none_of X G (vOO_of (h4 x hx)), fun g fd e n ks sh hs => ?_, fun c cd e n ks sh hs => ?_⟩
  · have := (cls_of h6 c x e).1
    rw [Nat.zero_add] at this
    exact cl_of this
  · have q := h1 (x, i) (lookup_all e)
    rw [Bool.and_eq_true] at q
    exact ⟨PySem.W.mg_of X G (vOO_of q.1), q.2⟩
  · have q := h2 (x, i) (lookup_all e)
    rw [Bool.and_eq_true] at q
    exact ⟨PySem.W.mg_of X G (vOO_of q.1), q.2⟩
  · have q := h3 (x, d) (lookup_all e)
    unfold nsB at q
    split at q
    · rename_i u eu
      obtain ⟨v, q1, q2⟩ := tv_of (F := T.fx K) q
      exact ⟨u, v, PySem.W.mg_of X G eu, q1, q2⟩
    · cases q
  · obtain ⟨a, N, ps, e1, e2⟩ := fns_of h5 g fd e
    rw [Nat.zero_add] at e2
    obtain ⟨scope, body, f1, f2, f3, f4⟩ := fn_of' e2
    refine ⟨N, ps, scope, body, f1, f2, f3, ?_, f4.sc⟩
    obtain ⟨name, qual, params, oc, od, dV, kV, doc, pm, an, cdv, ct, osl, l1, l2, l3, ds, l4, l5⟩ := f4.ex
    refine ⟨name, qual, params, oc, od, dV, kV, doc, pm, an, cdv, ct, osl, l1, l2, bnd_of l3 l4 ?_⟩
    unfold shsB at l5
    rw [List.all_eq_true] at l5
    exact l5 (n, ks, sh) hs
  · rcases (cls_of h6 c cd e).2 with q | ⟨q1, a, N, ps, fd, e1, e2, e3⟩
    · rw [List.isEmpty_iff] at q
      rw [q] at hs
      cases hs
    · rw [Nat.zero_add] at q1
      obtain ⟨scope, body, f1, f2, f3, f4⟩ := fn_of' e3
      refine ⟨fd, e2, q1, N, ps, scope, body, f1, f2, f3, ?_, f4.sc⟩
      obtain ⟨name, qual, params, oc, od, dV, kV, doc, pm, an, cdv, ct, osl, l1, l2, l3, ds, l4, l5⟩ := f4.ex
      refine ⟨name, qual, params, oc, od, dV, kV, doc, pm, an, cdv, ct, osl, l1, l2, bndI_of (bnd_of l3 l4 ?_)⟩
      unfold shsI at l5
      rw [List.all_eq_true] at l5
      exact l5 (n, ks, sh) hs
end PyI
namespace PyI
open PySem PySem.Spec PyProof.Rows L2
/-! ### the end: the law's def is called -/
/-- what is tracked ahead of the call: the script at most -/
structure Pre (K : PySem.W.Frag) (H : Hp) (a : Addr) (ns : List Int) : Prop where
  only : ∀ b, H b = none ∨ ∃ o xs, H b = some (.frz o (.lst xs))
  sq : SqL K H a (ns.map V.int)
theorem end_core {P : Program} {w : World} {K : PySem.W.Frag} {mg mb : Str → Option Value} {k : Nat} {fa a : Addr} {sp : Sp} {s1 : Shared} {vs : List Value} {ns : List Int} {H : Hp}
    (kin : K.In s1.heap) (gns : s1.heap.Ns mainGlobals mg) (bns : s1.heap.Ns builtinsNs mb) (bb : ∀ x : Str, x ≠ "__name__" → mb x = bootBuiltins x) (lim : s1.heap.NoLimit) (gens : s1.gens = #[])
    (lst : s1.heap.get? a = some { cls := .type "list", data := .seq vs.toArray }) (room : Room k callerA) (C : ∀ base : Heap, CalG P w K mg base k fa 1 [] sp)
    (pre : Pre K H a ns) (hsp : sp [.ref a] H (fun v _ => v = .bl true) fun _ _ _ => False) (ok : HOk P w H s1.heap) (only : ∀ b, H b ≠ none → b = a) (notK : H a ≠ none → K.lookup a = none) :
    codeAny (model P w) callerA (.call (.ref fa) ⟨[.ref a], []⟩) (fun r s' => r = .ok (.ret (.bool true)) ∧ OldK s1.heap s'.heap ∧ s'.os = s1.os ∧ AllBare s'.gens) s1 := by
  have free : ∀ {b : Addr} {o : Obj} {es : Array DictEntry} {ep : Nat}, s1.heap.get? b = some o → o.data = .dict es ep → H b = none := by
    intro b o es ep q1 q2
    cases q : H b with
    | none => rfl
    | some u =>
      have eb := only b (by rw [q]; simp)
      rw [eb, lst] at q1
      cases q1
      cases q2
  have toB : ∀ {b : Addr} {m : Str → Option Value}, s1.heap.Ns b m → (hidT s1.heap H).Ns b m := fun ⟨o, es, ep, q1, q2, q3⟩ => ⟨o, es, ep, hidT_get q1 (free q1 q2), q2, q3⟩
  have kinB : K.In (hidT s1.heap H) := by
    intro b o q1
    refine hidT_get (kin b o q1) ?_
    cases q : H b with
    | none => rfl
    | some u =>
      have eb := only b (by rw [q]; simp)
      rw [eb] at q q1
      rw [notK (by rw [q]; simp)] at q1
      cases q1
  obtain ⟨mc, lim1, lim2⟩ := lim
  have env0 : Env0 P w K mg (hidT s1.heap H) callerA [] s1 H :=
    ⟨rfl, ⟨kinB, toB gns, ⟨mb, toB bns, bb⟩, mc, toB lim1, lim2⟩, fun b o q => of_hidT q, Nat.le_of_eq (hidT_size _ _), trivial, fun b q => (nomatch (show b ∈ ([] : List Addr) from q)), ok, .of_eq gens⟩
  refine codeAny_mono (C _ callerA [] s1 H [.ref a] [] [.ref a] [] _ _ room rfl env0 rfl rfl (.cons rfl .nil) .nil hsp) fun r s' res => ?_
  cases r with
  | error e =>
    obtain ⟨_, _, _, _, _, _, _, _, _, _, _, _, z⟩ := res
    exact z.elim
  | ok fl =>
    cases fl with
    | ret u =>
      obtain ⟨v, H', os, bare, un, ok2, rv, q⟩ := res
      have q : v = .bl true := q
      subst q
      have rv : u = Value.bool true := rv
      subst rv
      refine ⟨rfl, OldK.of_keep fun b o q1 => ?_, os, bare⟩
      rcases pre.only b with z | ⟨ob, xs, z⟩
      · exact un.keep b o q1 z (fun y => (nomatch (show b ∈ ([] : List Addr) from y))) (by simp)
      · obtain ⟨k1, _⟩ := ok b _ z
        obtain ⟨k2, _⟩ := ok2 b _ (un.frzs b ob _ z)
        rw [q1] at k1
        cases k1
        exact k2
    | next => exact res.elim
    | brk => exact res.elim
    | cont => exact res.elim
theorem end_call {P : Program} {w : World} {K : PySem.W.Frag} {mg mb : Str → Option Value} {k : Nat} {fa a : Addr} {sp : Sp} {s1 : Shared} {vs : List Value} {ns : List Int}
    (kin : K.In s1.heap) (gns : s1.heap.Ns mainGlobals mg) (bns : s1.heap.Ns builtinsNs mb) (bb : ∀ x : Str, x ≠ "__name__" → mb x = bootBuiltins x) (lim : s1.heap.NoLimit) (gens : s1.gens = #[])
    (lst : s1.heap.get? a = some { cls := .type "list", data := .seq vs.toArray }) (hin : IntsAre vs ns) (small : ns.length ≤ sizeLine) (room : Room k callerA) (C : ∀ base : Heap, CalG P w K mg base k fa 1 [] sp)
    (hsp : ∀ H : Hp, Pre K H a ns → sp [.ref a] H (fun v _ => v = .bl true) fun _ _ _ => False) :
    codeAny (model P w) callerA (.call (.ref fa) ⟨[.ref a], []⟩) (fun r s' => r = .ok (.ret (.bool true)) ∧ OldK s1.heap s'.heap ∧ s'.os = s1.os ∧ AllBare s'.gens) s1 := by
  have rv := vals_ints hin
  have ln := hin.length
  cases q : K.lookup a with
  | some o =>
    have q1 := kin a o q
    rw [lst] at q1
    cases q1
    have pre : Pre K (fun _ => none) a ns := ⟨fun _ => .inl rfl, .inr ⟨_, vs.toArray, _, q, rfl, rfl, rfl, by rw [List.size_toArray, ln]; exact small, by simpa using rv⟩⟩
    exact end_core kin gns bns bb lim gens lst room C pre (hsp _ pre) (fun b u z => nomatch (show (none : Option HO) = some u from z)) (fun b z => absurd rfl z) fun z => absurd rfl z
  | none =>
    let H : Hp := fun b => if b = a then some (.frz { cls := .type "list", data := .seq vs.toArray } (.lst (ns.map V.int))) else none
    have hs : H a = some (.frz { cls := .type "list", data := .seq vs.toArray } (.lst (ns.map V.int))) := if_pos rfl
    have hn : ∀ b, b ≠ a → H b = none := fun b z => if_neg z
    have pre : Pre K H a ns := by
      refine ⟨fun b => ?_, .inl (.inr ⟨_, hs⟩)⟩
      by_cases z : b = a
      · subst z
        exact .inr ⟨_, _, hs⟩
      · exact .inl (hn b z)
    refine end_core kin gns bns bb lim gens lst room C pre (hsp _ pre) (fun b u z => ?_) (fun b z => ?_) fun _ => q
    · by_cases y : b = a
      · subst y
        rw [hs] at z
        cases z
        exact ⟨lst, by rw [List.length_map]; exact small, vs, _, rv, lst⟩
      · rw [hn b y] at z
        cases z
    · by_cases y : b = a
      · exact y
      · exact absurd (hn b y) z
/-! ### the head's look: one Bool of the written part -/
def asP (g : Addr → Option Obj) : Nat → List Addr
  | 0 => [mainGlobals, cStatics]
  | n + 1 => He.growG g (asP g n)
def hookB (n : Nat) (ck : PySem.W.Frag → Bool) : PySem.W.Hook where
  α := Bool
  obs := fun s => ck (He.frG s.heap.get? (asP s.heap.get? n))
  val := fun _ => true
  says := fun _ h => ∃ K : PySem.W.Frag, K.In h ∧ ck K = true
  of := fun _ _ e => ⟨_, He.frG_in, e⟩
  keeps := fun _ _ _ ⟨K, hK, c⟩ k => ⟨K, PySem.W.Frag.In.keeps hK k, c⟩
def obB (n : Nat) (ck : PySem.W.Frag → Bool) (s : PySem.W.SharedT) : Bool := ck (He.frG (HandSHeadRun.getT s) (asP (HandSHeadRun.getT s) n))
theorem obB_eq {n : Nat} {ck : PySem.W.Frag → Bool} (s : PySem.W.SharedT) : obB n ck s = (hookB n ck).obs s.abs := by
  have e : HandSHeadRun.getT s = s.abs.heap.get? := funext (HandSHeadRun.getT_eq s)
  show ck (He.frG (HandSHeadRun.getT s) (asP (HandSHeadRun.getT s) n)) = ck (He.frG s.abs.heap.get? (asP s.abs.heap.get? n))
  rw [e]
/-- the law holds where its run answers True for every script -/
theorem walk_run {l : PySem.W.OpenLaw} {q : Program} {loose : List Str} {XP : (Str → Option Value) → Heap → Prop} {d : DefRec} {nn n fuel g : Nat} {T : TbD} (hn : l.most = some n) (hn2 : n ≤ sizeLine) (hdf : d.params.defaults = []) (room : Room (6 * fuel) callerA)
    (hp : pgB T.I.P = true) (hg : T.I.gf.lookup d.name = some g) (hs : T.I.P.shf g 1 [] = some selfSh)
    (hrun : ∀ ns : List Int, ns.length ≤ n → ∃ m, (runs T.I.P fuel).1 g [.scr ns] [] = .ok (.p (.bl true)) m) :
    PySem.W.WalkO q loose XP (hookB nn (tabB T)).says l.row.toRowW d [] (fun f vs => PySem.call f vs) := by
  refine Att.attach_call hn hdf fun w s₀ s1 mg mb fa o pm cd doc a vs ns G Y ho hd hcd hmg hobj hints hlen hgn => ?_
  obtain ⟨K, kin, ck⟩ := Y
  have tb : Tab K mg (T.fx K) T.I := tab_of kin G.T.g hp ck
  have efa : fa = T.fa K g := by
    have z := (tb.gf _ _ hg).1
    rw [hmg] at z
    cases z
    rfl
  subst efa
  refine end_call (sp := spS (T.fx K) ((runs T.I.P fuel).1 g) selfSh) kin G.T.g G.T.b G.T.builtins G.T.nolimit hgn hobj hints (Nat.le_trans hlen hn2) room (fun base => (tab_glo tb fuel).fns g 1 [] selfSh hs) fun H pre => ?_
  obtain ⟨m, em⟩ := hrun ns hlen
  refine ⟨⟨H, []⟩, [], [.scr ns], [.scr ns], ⟨fun _ _ z => z, List.nodup_nil, rfl, fun _ z => (nomatch z), fun j b e z _ => (by simp at z)⟩, ⟨.ref a, [], rfl, ⟨a, rfl, pre.sq⟩, rfl⟩, rfl, ?_⟩
  rw [em]
  intro v w' H' _ _ vb
  exact vb
end PyI
namespace PyI
open PySem PySem.Spec PyProof.Rows L2
/-! ### running code by rules -/
section
variable {P : Pg} {cf ci : Nat → List Dt → List Dt → Rc} {S S1 S2 S3 : Sto} {a b c : Tm} {x y z d : Dt} {es : List Tm} {ds : List Dt} {ks : List Str} {op : Operator} {cp o1 o2 : CmpOp} {p q : Bool} {R : Rt} {m' : List Dt} {sh : List Ar} {xs : List Dt}
theorem e_var {i : Nat} (h : S.r[i]? = some (some (.p d))) : evE P cf ci (.var i) S = .ok d S := by rw [evE, h]
theorem e_cst : evE P cf ci (.cst d) S = .ok d S := by rw [evE]
theorem e_glo {g : Str} : evE P cf ci (.glo g d) S = .ok d S := by rw [evE]
theorem opD_ins {op : Operator} {c0 : Nat} {ns : List Str} {vs : List Dt} {y : Dt} : opD op (.ins c0 ns vs) y = none := by
  cases op <;> rfl
theorem bin1_pl {op : Operator} (h : opD op x y = some d) : bin1 P cf op x y S = .ok d S := by
  cases x with
  | ins c0 ns vs => rw [opD_ins] at h; cases h
  | _ => simp only [bin1, h, okD]
theorem e_binO {op : Operator} {c0 g : Nat} {ns : List Str} {vs : List Dt} (ha : evE P cf ci a S = .ok (.ins c0 ns vs) S1) (hb : evE P cf ci b S1 = .ok y S2) (hm : (opMeth op).bind (P.meth c0) = some g) (ht : typed P y = true) (hc : cf g [.ins c0 ns vs, y] S2.m = .ok (.p d) m') : evE P cf ci (.bin op a b) S = .ok d ⟨S2.r, m'⟩ := by
  rw [evE, ha]
  simp only [Rs.bind]
  rw [hb]
  simp only [Rs.bind, bin1, hm, ht, if_true, hc, upR]
theorem e_bin (ha : evE P cf ci a S = .ok x S1) (hb : evE P cf ci b S1 = .ok y S2) (h : opD op x y = some d) : evE P cf ci (.bin op a b) S = .ok d S2 := by
  rw [evE, ha]
  simp only [Rs.bind]
  rw [hb]
  exact bin1_pl h
theorem e_neg {i : Int} (ha : evE P cf ci a S = .ok (.int i) S1) : evE P cf ci (.neg a) S = .ok (.int (-i)) S1 := by
  rw [evE, ha]
  rfl
theorem e_cmp (ha : evE P cf ci a S = .ok x S1) (hb : evE P cf ci b S1 = .ok y S2) (h : cmp1 P cf cp x y S2 = .ok d S3) : evE P cf ci (.cmp cp a b) S = .ok d S3 := by
  rw [evE, ha]
  simp only [Rs.bind]
  rw [hb]
  exact h
theorem c_pl {k : Bool} (hx : insB x = false) (h : cmpD cp x y = some k) : cmp1 P cf cp x y S = .ok (.bl k) S := by
  have e : cmp1 P cf cp x y S = okD ((cmpD cp x y).map .bl) S := by
    cases y with
    | ins c0 ns vs =>
      exfalso
      cases cp <;> cases x <;> first | (simp [insB] at hx; done) | (simp [cmpD, eqD, toPy] at h; done)
    | _ =>
      cases x with
      | ins _ _ _ => simp [insB] at hx
      | _ => cases cp <;> rfl
  rw [e, h]
  rfl
theorem c_eq {c0 g : Nat} {ns : List Str} {vs : List Dt} (hm : P.meth c0 "__eq__" = some g) (ht : typed P y = true) (hc : cf g [.ins c0 ns vs, y] S.m = .ok (.p d) m') : cmp1 P cf .Eq (.ins c0 ns vs) y S = .ok d ⟨S.r, m'⟩ := by
  unfold cmp1
  simp only [hm, ht, if_true, hc, upN]
theorem c_eqB {c0 g : Nat} {ns : List Str} {vs : List Dt} (hx : eqBk x = true) (hm : P.meth c0 "__eq__" = some g) (hc : cf g [.ins c0 ns vs, x] S.m = .ok (.p d) m') : cmp1 P cf .Eq x (.ins c0 ns vs) S = .ok d ⟨S.r, m'⟩ := by
  cases x with
  | ins _ _ _ => cases hx
  | _ => simp only [cmp1, hm, hx, if_true, hc, upN]
theorem c_in {c0 g : Nat} {ns : List Str} {vs : List Dt} (hm : P.meth c0 "__contains__" = some g) (hc : cf g [.ins c0 ns vs, x] S.m = .ok (.p (.bl p)) m') : cmp1 P cf .In x (.ins c0 ns vs) S = .ok (.bl p) ⟨S.r, m'⟩ := by
  simp only [cmp1, hm, hc, upN, Rs.bind, blB]
theorem e_chn {j k : Bool} (ha : evE P cf ci a S = .ok x S1) (hb : evE P cf ci b S1 = .ok y S2) (h1 : cmpD o1 x y = some j) (hc : evE P cf ci c S2 = .ok z S2) (h2 : cmpD o2 y z = some k) : evE P cf ci (.chn o1 o2 a b c) S = .ok (.bl (j && k)) S2 := by
  rw [evE, ha]
  simp only [Rs.bind]
  rw [hb]
  simp only [Rs.bind, h1, Option.map_some, okD]
  cases j with
  | false => rfl
  | true =>
    simp only [hc, Rs.bind, h2, Option.map_some, okD, Bool.true_and]
theorem e_and (ha : evE P cf ci a S = .ok (.bl p) S1) (hb : evE P cf ci b S1 = .ok (.bl q) S1) : evE P cf ci (.and2 a b) S = .ok (.bl (p && q)) S1 := by
  rw [evE, ha]
  cases p with
  | false => rfl
  | true => exact hb
theorem e_and_f (ha : evE P cf ci a S = .ok (.bl p) S1) (hp : p = false) : evE P cf ci (.and2 a b) S = .ok (.bl false) S1 := by
  rw [evE, ha, hp]
  rfl
theorem e_and_t (ha : evE P cf ci a S = .ok (.bl p) S1) (hp : p = true) (hb : evE P cf ci b S1 = .ok d S2) : evE P cf ci (.and2 a b) S = .ok d S2 := by
  rw [evE, ha, hp]
  exact hb
theorem e_or (ha : evE P cf ci a S = .ok (.bl p) S1) (hb : evE P cf ci b S1 = .ok (.bl q) S1) : evE P cf ci (.or2 a b) S = .ok (.bl (p || q)) S1 := by
  rw [evE, ha]
  cases p with
  | true => rfl
  | false => exact hb
theorem e_or_t (ha : evE P cf ci a S = .ok (.bl p) S1) (hp : p = true) : evE P cf ci (.or2 a b) S = .ok (.bl true) S1 := by
  rw [evE, ha, hp]
  rfl
theorem e_or_f (ha : evE P cf ci a S = .ok (.bl p) S1) (hp : p = false) (hb : evE P cf ci b S1 = .ok d S2) : evE P cf ci (.or2 a b) S = .ok d S2 := by
  rw [evE, ha, hp]
  exact hb
theorem e_not (ha : evE P cf ci a S = .ok (.bl p) S1) : evE P cf ci (.not1 a) S = .ok (.bl (!p)) S1 := by
  rw [evE, ha]
  rfl
theorem e_ife_t (hc : evE P cf ci c S = .ok (.bl p) S1) (hp : p = true) (ha : evE P cf ci a S1 = .ok d S2) : evE P cf ci (.ife c a b) S = .ok d S2 := by
  rw [evE, hc, hp]
  exact ha
theorem e_ife_f (hc : evE P cf ci c S = .ok (.bl p) S1) (hp : p = false) (hb : evE P cf ci b S1 = .ok d S2) : evE P cf ci (.ife c a b) S = .ok d S2 := by
  rw [evE, hc, hp]
  exact hb
theorem e_nil : evEs P cf ci [] S = .ok [] S := by rw [evEs]
theorem e_cons (ha : evE P cf ci a S = .ok d S1) (hs : evEs P cf ci es S1 = .ok ds S2) : evEs P cf ci (a :: es) S = .ok (d :: ds) S2 := by
  rw [evEs, ha]
  simp only [Rs.bind]
  rw [hs]
theorem e_tup (hs : evEs P cf ci es S = .ok ds S1) (hl : ds.length ≤ sizeLine) : evE P cf ci (.tup es) S = .ok (.tup ds) S1 := by
  rw [evE, hs]
  simp only [Rs.bind, if_pos hl]
theorem e_lst (hs : evEs P cf ci es S = .ok ds S1) (hl : ds.length ≤ sizeLine) : evE P cf ci (.lst es) S = .ok (.lst ds) S1 := by
  rw [evE, hs]
  simp only [Rs.bind, if_pos hl]
theorem e_ix (ha : evE P cf ci a S = .ok x S1) (hb : evE P cf ci b S1 = .ok y S2) (h : ixD S2.m x y = some d) : evE P cf ci (.ix a b) S = .ok d S2 := by
  rw [evE, ha]
  simp only [Rs.bind]
  rw [hb]
  simp only [Rs.bind, h, okD]
theorem e_fld {c0 : Nat} {ns : List Str} {vs : List Dt} {fl : Str} (ha : evE P cf ci a S = .ok (.ins c0 ns vs) S1) (hp : P.prop c0 fl = none) (hf : P.fld c0 fl = true) (h : lookD fl ns vs = some d) : evE P cf ci (.fld a fl) S = .ok d S1 := by
  rw [evE, ha]
  simp only [Rs.bind, hp, hf, if_true, h, okD]
theorem e_prop {c0 g : Nat} {ns : List Str} {vs : List Dt} {fl : Str} (ha : evE P cf ci a S = .ok (.ins c0 ns vs) S1) (hp : P.prop c0 fl = some g) (hc : cf g [.ins c0 ns vs] S1.m = .ok (.p d) m') : evE P cf ci (.fld a fl) S = .ok d ⟨S1.r, m'⟩ := by
  rw [evE, ha]
  simp only [Rs.bind, hp, hc, upN]
theorem e_bi {bb : Bi} (hs : evEs P cf ci es S = .ok ds S1) (h : bi1 P cf bb ds S1 = .ok d S2) : evE P cf ci (.bi bb es) S = .ok d S2 := by
  rw [evE, hs]
  exact h
theorem e_isi {ts : List Ty} {k : Bool} (ha : evE P cf ci a S = .ok x S1) (h : isTs P x ts = some k) : evE P cf ci (.isi a ts) S = .ok (.bl k) S1 := by
  rw [evE, ha]
  simp only [Rs.bind, h, Option.map_some, okD]
theorem e_call {f n : Nat} (hs : evEs P cf ci es S = .ok ds S1) (hn : ds.length - ks.length = n) (hsh : P.shf f n ks = some sh) (hp : pick ds sh = some xs) (hc : cf f xs S1.m = .ok (.p d) m') : evE P cf ci (.call f ks es) S = .ok d ⟨S1.r, m'⟩ := by
  rw [evE, hs]
  simp only [Rs.bind, hn, hsh, hp, upP, hc, upR]
theorem e_smeth {f n c0 : Nat} {mt : Str} (hs : evEs P cf ci es S = .ok ds S1) (hn : ds.length - ks.length = n) (hsh : P.shf f n ks = some sh) (hp : pick ds sh = some xs) (hc : cf f xs S1.m = .ok (.p d) m') : evE P cf ci (.smeth c0 mt f ks es) S = .ok d ⟨S1.r, m'⟩ := by
  rw [evE, hs]
  simp only [Rs.bind, hn, hsh, hp, upP, hc, upR]
theorem e_make {c0 n : Nat} (hs : evEs P cf ci es S = .ok ds S1) (hn : ds.length - ks.length = n) (hsh : P.shc c0 n ks = some sh) (hp : pick ds sh = some xs) (hc : ci c0 xs S1.m = .ok (.p d) m') : evE P cf ci (.make c0 ks es) S = .ok d ⟨S1.r, m'⟩ := by
  rw [evE, hs]
  simp only [Rs.bind, hn, hsh, hp, upP, hc, upR]
theorem e_meth {c0 g n : Nat} {ns : List Str} {vs : List Dt} {mt : Str} (ha : evE P cf ci a S = .ok (.ins c0 ns vs) S1) (hm : P.meth c0 mt = some g) (hl : lookD mt ns vs = none) (hs : evEs P cf ci es S1 = .ok ds S2) (hn : ds.length + 1 - ks.length = n) (hsh : P.shf g n ks = some sh) (hp : pick (.ins c0 ns vs :: ds) sh = some xs) (hc : cf g xs S2.m = .ok (.p d) m') :
    evE P cf ci (.meth a mt ks es) S = .ok d ⟨S2.r, m'⟩ := by
  rw [evE, ha]
  simp only [Rs.bind, hm, hl]
  rw [hs]
  simp only [Rs.bind, hn, hsh, hp, upP, hc, upR]
theorem e_slcL {i : Int} (ha : evE P cf ci a S = .ok x S1) (hb : evE P cf ci b S1 = .ok (.int i) S2) (h : slD x (some i) none = some d) : evE P cf ci (.slcL a b) S = .ok d S2 := by
  rw [evE, ha]
  simp only [Rs.bind]
  rw [hb]
  simp only [Rs.bind, h, okD]
theorem e_slcH {i : Int} (ha : evE P cf ci a S = .ok x S1) (hb : evE P cf ci b S1 = .ok (.int i) S2) (h : slD x none (some i) = some d) : evE P cf ci (.slcH a b) S = .ok d S2 := by
  rw [evE, ha]
  simp only [Rs.bind]
  rw [hb]
  simp only [Rs.bind, h, okD]
theorem e_enm (ha : evE P cf ci a S = .ok (.lst ds) S1) : evE P cf ci (.enm a) S = .ok (.lst (enmL 0 ds)) S1 := by
  rw [evE, ha]
  rfl
theorem e_lrg2 {i j : Int} (ha : evE P cf ci a S = .ok (.int i) S1) (hb : evE P cf ci b S1 = .ok (.int j) S2) (h : (j - i).toNat ≤ 65536) : evE P cf ci (.lrg2 a b) S = .ok (.lst (rangeD i j)) S2 := by
  rw [evE, ha]
  simp only [Rs.bind]
  rw [hb]
  simp only [Rs.bind, lrgD, if_pos h]
theorem e_mk0 {c0 : Nat} {cd : ClD} (hc : P.cl[c0]? = some cd) (hb : cd.bare = true) : evE P cf ci (.mk0 c0) S = .ok (.ins c0 [] []) S := by
  rw [evE, hc]
  simp only [hb, if_true]
/-! statements -/
theorem s_aug {i : Nat} {op : Operator} {c0 g : Nat} {ns : List Str} {vs : List Dt} (h0 : S.r[i]? = some (some (.p (.ins c0 ns vs)))) (ha : evE P cf ci a S = .ok y S1) (hm : (opMeth op).bind (P.meth c0) = some g) (ht : typed P y = true) (hc : cf g [.ins c0 ns vs, y] S1.m = .ok (.p d) m') (hi : i < S1.r.length) : evS P cf ci (.aug i op a) S = .nx ⟨S1.r.set i (some (.p d)), m'⟩ := by
  rw [evS, h0]
  simp only [ha, toRt, aug1, bin1, hm, ht, if_true, hc, upR, if_pos hi]
theorem s_nil : evSs P cf ci [] S = .nx S := by rw [evSs]
theorem s_cons {s : Sm} {ss : List Sm} (h : evS P cf ci s S = .nx S1) (hs : evSs P cf ci ss S1 = R) : evSs P cf ci (s :: ss) S = R := by
  rw [evSs, h]
  exact hs
theorem s_stop {s : Sm} {ss : List Sm} {bn : Bn} (h : evS P cf ci s S = .rt bn S1) : evSs P cf ci (s :: ss) S = .rt bn S1 := by
  rw [evSs, h]
theorem s_asg {tg : Tg} {r' : List (Option Bn)} (h : evE P cf ci a S = .ok d S1) (ht : tgD tg d S1.r = some r') : evS P cf ci (.asg tg a) S = .nx ⟨r', S1.m⟩ := by
  rw [evS, h]
  simp only [toRt, ht]
theorem s_ret (h : evE P cf ci a S = .ok d S1) : evS P cf ci (.ret a) S = .rt (.p d) S1 := by
  rw [evS, h]
  rfl
theorem s_retF (h : evE P cf ci a S = .ok d S1) : evS P cf ci (.retF a) S = .rt (.o d) S1 := by
  rw [evS, h]
  rfl
theorem s_exp (h : evE P cf ci a S = .ok d S1) : evS P cf ci (.exp a) S = .nx S1 := by
  rw [evS, h]
  rfl
theorem s_iff_t {s1 s2 : List Sm} (h : evE P cf ci c S = .ok (.bl p) S1) (hp : p = true) (hs : evSs P cf ci s1 S1 = R) : evS P cf ci (.iff c s1 s2) S = R := by
  rw [evS, tst, h]
  simp only [Rs.bind, toRt, hp, if_true]
  exact hs
theorem s_iff_f {s1 s2 : List Sm} (h : evE P cf ci c S = .ok (.bl p) S1) (hp : p = false) (hs : evSs P cf ci s2 S1 = R) : evS P cf ci (.iff c s1 s2) S = R := by
  rw [evS, tst, h]
  simp only [Rs.bind, toRt, hp, Bool.false_eq_true, if_false]
  exact hs
theorem s_par {i j : Nat} (ha : evE P cf ci a S = .ok x S1) (hb : evE P cf ci b S1 = .ok y S2) (hl : i < S2.r.length ∧ j < S2.r.length) : evS P cf ci (.par i j a b) S = .nx ⟨(S2.r.set i (some (.p x))).set j (some (.p y)), S2.m⟩ := by
  rw [evS, ha]
  simp only [toRt]
  rw [hb]
  simp only [if_pos hl]
theorem s_put (h : evE P cf ci a S = .ok d S1) (ho : evE P cf ci b S1 = .ok x S2) (hi : evE P cf ci c S2 = .ok y S3) (hs : setC S3.m x y d = some m') : evS P cf ci (.put b c a) S = .nx ⟨S3.r, m'⟩ := by
  rw [evS, h]
  simp only [toRt]
  rw [ho]
  simp only [toRt]
  rw [hi]
  simp only [hs]
theorem s_tsub {j : Nat} {d1 d2 : Dt} (h : evE P cf ci a S = .ok (.tup [d1, d2]) S1) (ho : evE P cf ci b S1 = .ok x S2) (hi : evE P cf ci c S2 = .ok y S3) (hs : setC S3.m x y d1 = some m') (hj : j < S3.r.length) : evS P cf ci (.tsub b c j a) S = .nx ⟨S3.r.set j (some (.p d2)), m'⟩ := by
  rw [evS, h]
  simp only [toRt]
  rw [ho]
  simp only [toRt]
  rw [hi]
  simp only [hs, if_pos hj]
theorem s_fld {fl : Str} {c0 : Nat} {ns : List Str} {vs : List Dt} (h : evE P cf ci a S = .ok d S1) (h0 : S1.r[(0 : Nat)]? = some (some (.o (.ins c0 ns vs)))) (hf : P.fld c0 fl = true) (hl : ns.length < 1000) : evS P cf ci (.fld fl a) S = .nx ⟨S1.r.set 0 (some (.o (.ins c0 (putD fl d ns vs).1 (putD fl d ns vs).2))), S1.m⟩ := by
  rw [evS, h]
  simp only [toRt, h0, hf, hl, and_self, if_true]
/-! defs -/
theorem f_run {g : Nat} {fd : FnD} {m : List Dt} (hg : P.fn[g]? = some fd) (hl : xs.length = fd.k ∧ fd.k ≤ fd.n) (hc : fd.cell = false) (h : evSs P cf ci fd.b ⟨xs.map (fun d => some (.p d)) ++ List.replicate (fd.n - fd.k) none, m⟩ = .rt (.p d) S1) : fnRun P cf ci g xs m = .ok (.p d) S1.m := by
  unfold fnRun
  rw [hg]
  simp only [if_pos hl, h, hc, Bool.false_eq_true, if_false]
theorem f_end {g : Nat} {fd : FnD} {m : List Dt} (hg : P.fn[g]? = some fd) (hl : xs.length = fd.k ∧ fd.k ≤ fd.n) (hc : fd.cell = false) (h : evSs P cf ci fd.b ⟨xs.map (fun d => some (.p d)) ++ List.replicate (fd.n - fd.k) none, m⟩ = .nx S1) : fnRun P cf ci g xs m = .ok (.p .non) S1.m := by
  unfold fnRun
  rw [hg]
  simp only [if_pos hl, h, hc, Bool.false_eq_true, if_false]
theorem f_cell {g : Nat} {fd : FnD} {m : List Dt} (hg : P.fn[g]? = some fd) (hl : xs.length = fd.k ∧ fd.k ≤ fd.n) (hc : fd.cell = true) (h : evSs P cf ci fd.b ⟨xs.map (fun d => some (.p d)) ++ List.replicate (fd.n - fd.k) none, m⟩ = .rt (.o d) S1) : fnRun P cf ci g xs m = .ok (.p (.cel S1.m.length)) (S1.m ++ [d]) := by
  unfold fnRun
  rw [hg]
  simp only [if_pos hl, h, hc, if_true]
theorem c_run {c0 : Nat} {cd : ClD} {fd : FnD} {m : List Dt} {c1 : Nat} {ns : List Str} {vs : List Dt} (hc : P.cl[c0]? = some cd) (hg : P.fn[cd.init]? = some fd) (hl : xs.length + 1 = fd.k ∧ fd.k ≤ fd.n)
    (h : evSs P cf ci fd.b ⟨some (.o (.ins c0 [] [])) :: (xs.map (fun d => some (.p d)) ++ List.replicate (fd.n - fd.k) none), m⟩ = .nx S1) (h0 : S1.r[(0 : Nat)]? = some (some (.o (.ins c1 ns vs)))) : clRun P cf ci c0 xs m = .ok (.p (.ins c1 ns vs)) S1.m := by
  unfold clRun
  rw [hc]
  simp only
  rw [hg]
  simp only [if_pos hl, h, h0]
end
end PyI
namespace PyI
open PySem PySem.Spec PyProof.Rows L2
/-! ### the laws' own source of choices: a pot -/
structure Pot where
  a : Nat
  b : Nat
  hb : b < 2147483648
def potD (p : Pot) : Dt := .lst [.int p.a, .int p.b]
def nxB (b : Nat) : Nat := (b * 48271 + 12161) % 2147483587
theorem nxB_lt (b : Nat) : nxB b < 2147483648 := Nat.lt_of_lt_of_le (Nat.mod_lt _ (by decide)) (by decide)
def dr (p : Pot) (s : Nat) : Nat × Pot := if 0 < p.a then (p.a % s, ⟨p.a / s, p.b, p.hb⟩) else ((nxB p.b * nxB p.b) % 2147483549 / 13 % s, ⟨p.a, nxB p.b, nxB_lt _⟩)
theorem dr_lt (p : Pot) {s : Nat} (hs : 0 < s) : (dr p s).1 < s := by
  unfold dr
  split <;> exact Nat.mod_lt _ hs
/-- _law_draw -/
def drawC : List Sm := [.iff (.cmp .Gt (.ix (.var 0) (.cst (.int 0))) (.cst (.int 0))) [.tsub (.var 0) (.cst (.int 0)) 2 (.bi .divmod [(.ix (.var 0) (.cst (.int 0))), (.var 1)]), .ret (.var 2)] [], .put (.var 0) (.cst (.int 1)) (.bin .Mod (.bi .int [(.bin .Add (.bin .Mult (.ix (.var 0) (.cst (.int 1))) (.cst (.int 48271))) (.cst (.int 12161)))]) (.cst (.int 2147483587))), .ret (.bin .Mod (.bi .int [(.bin .FloorDiv (.bin .Mod (.bi .int [(.bin .Mult (.ix (.var 0) (.cst (.int 1))) (.ix (.var 0) (.cst (.int 1))))]) (.cst (.int 2147483549))) (.cst (.int 13)))]) (.var 1))]
section
variable {P : Pg} {cf ci : Nat → List Dt → List Dt → Rc}
theorem cel_get {m : List Dt} {k : Nat} {p : Pot} (hk : k < m.length) : (m.set k (potD p))[k]? = some (potD p) := by simp [hk]
theorem cel_ix {m : List Dt} {k : Nat} {ds : List Dt} {i : Int} {d : Dt} (hg : m[k]? = some (.lst ds)) (h : atI ds i = some d) : ixD m (.cel k) (.int i) = some d := by
  simp only [ixD, hg, h]
theorem cel_set {m : List Dt} {k : Nat} {ds : List Dt} {i : Int} {n : Nat} {d : Dt} (hg : m[k]? = some (.lst ds)) (h : ixN ds.length i = some n) : setC m (.cel k) (.int i) d = some (m.set k (.lst (ds.set n d))) := by
  simp only [setC, hg, h, Option.map_some]
theorem mulOk_of {i j : Nat} (h : i < 2147483648) : mulOk i j = true := by
  unfold mulOk
  have h1 : decide (-(2 ^ 64 : Int) < (i : Int)) = true := decide_eq_true (by omega)
  have h2 : decide ((i : Int) < 2 ^ 64) = true := decide_eq_true (by omega)
  rw [h1, h2]
  rfl
theorem op_mulN {i j : Nat} (h : i < 2147483648) : opD .Mult (.int i) (.int j) = some (.int ((i * j : Nat) : Int)) := by
  simp only [opD]
  rw [if_pos (mulOk_of h), Int.natCast_mul]
theorem op_addN {i j : Nat} : opD .Add (.int i) (.int j) = some (.int ((i + j : Nat) : Int)) := by
  simp only [opD]
  rw [Int.natCast_add]
theorem op_modN {i j : Nat} (h : 0 < j) : opD .Mod (.int i) (.int j) = some (.int ((i % j : Nat) : Int)) := by
  simp only [opD]
  rw [if_pos (by omega), Int.natCast_emod]
theorem op_divN {i j : Nat} (h : 0 < j ∧ j < 1073741824) : opD .FloorDiv (.int i) (.int j) = some (.int ((i / j : Nat) : Int)) := by
  simp only [opD]
  rw [if_pos (by omega), Int.natCast_ediv]
theorem draw_run {g : Nat} {shs : List (Nat × List Str × List Ar)} (hg : P.fn[g]? = some ⟨2, 3, false, shs, drawC⟩) {k s : Nat} {m : List Dt} {p : Pot} (hk : k < m.length) (hs : 0 < s ∧ s < 1073741824) :
    fnRun P cf ci g [.cel k, .int s] (m.set k (potD p)) = .ok (.p (.int (dr p s).1)) (m.set k (potD (dr p s).2)) := by
  have g0 : (m.set k (potD p))[k]? = some (.lst [.int p.a, .int p.b]) := cel_get hk
  have cond : evE P cf ci (.cmp .Gt (.ix (.var 0) (.cst (.int 0))) (.cst (.int 0))) ⟨[some (.p (.cel k)), some (.p (.int s)), none], m.set k (potD p)⟩ = .ok (.bl (decide ((0 : Int) < p.a))) ⟨[some (.p (.cel k)), some (.p (.int s)), none], m.set k (potD p)⟩ :=
    e_cmp (e_ix (e_var rfl) e_cst (cel_ix g0 rfl)) e_cst (c_pl rfl rfl)
  by_cases h : 0 < p.a
  · have hd : dr p s = (p.a % s, ⟨p.a / s, p.b, p.hb⟩) := if_pos h
    rw [hd]
    have db : bi1 P cf .divmod [.int p.a, .int s] ⟨[some (.p (.cel k)), some (.p (.int s)), none], m.set k (potD p)⟩ = .ok (.tup [.int ((p.a / s : Nat) : Int), .int ((p.a % s : Nat) : Int)]) ⟨[some (.p (.cel k)), some (.p (.int s)), none], m.set k (potD p)⟩ := by
      simp only [bi1, biD]
      rw [if_pos (by omega), Int.natCast_ediv, Int.natCast_emod]
      rfl
    have z := f_run (P := P) (cf := cf) (ci := ci) (m := m.set k (potD p)) hg (xs := [.cel k, .int s]) ⟨rfl, Nat.le_of_ble_eq_true rfl⟩ rfl (s_stop (s_iff_t cond (decide_eq_true (by omega)) (s_cons (s_tsub (e_bi (e_cons (e_ix (e_var rfl) e_cst (cel_ix g0 rfl)) (e_cons (e_var rfl) e_nil)) db) (e_var rfl) e_cst (cel_set g0 rfl) (Nat.le_of_ble_eq_true rfl)) (s_stop (s_ret (e_var rfl))))))
    refine z.trans ?_
    simp only [List.set_set]
    rfl
  · have hd : dr p s = ((nxB p.b * nxB p.b) % 2147483549 / 13 % s, ⟨p.a, nxB p.b, nxB_lt _⟩) := if_neg h
    rw [hd]
    have g1 : ((m.set k (potD p)).set k (.lst ([Dt.int p.a, .int p.b].set 1 (.int ((nxB p.b : Nat) : Int)))))[k]? = some (.lst [.int p.a, .int ((nxB p.b : Nat) : Int)]) := by simp [hk]
    have z := f_run (P := P) (cf := cf) (ci := ci) (m := m.set k (potD p)) hg (xs := [.cel k, .int s]) ⟨rfl, Nat.le_of_ble_eq_true rfl⟩ rfl (s_cons (s_iff_f cond (decide_eq_false (by omega)) s_nil)
      (s_cons (s_put (e_bin (e_bi (e_cons (e_bin (e_bin (e_ix (e_var rfl) e_cst (cel_ix g0 rfl)) e_cst (op_mulN (j := 48271) p.hb)) e_cst (op_addN (j := 12161))) e_nil) rfl) e_cst (op_modN (j := 2147483587) (by decide))) (e_var rfl) e_cst (cel_set g0 rfl))
        (s_stop (s_ret (e_bin (e_bi (e_cons (e_bin (e_bin (e_bi (e_cons (e_bin (e_ix (e_var rfl) e_cst (cel_ix g1 rfl)) (e_ix (e_var rfl) e_cst (cel_ix g1 rfl)) (op_mulN (nxB_lt _))) e_nil) rfl) e_cst (op_modN (j := 2147483549) (by decide))) e_cst (op_divN (j := 13) (by decide))) e_nil) rfl) (e_var rfl) (op_modN hs.1))))))
    refine z.trans ?_
    simp only [List.set_set]
    rfl
/-- _law_pick: some[draw(pot, len(some))], draw the def g0 -/
def pickC (g0 : Nat) : List Sm := [.ret (.ix (.var 1) (.call g0 [] [(.var 0), (.bi .len [(.var 1)])]))]
def pk (ds : List Dt) (p : Pot) : Dt := ds.getD (dr p ds.length).1 .non
theorem pick_run {g g0 : Nat} {shs : List (Nat × List Str × List Ar)} (hg : P.fn[g]? = some ⟨2, 2, false, shs, pickC g0⟩) (hsh : P.shf g0 2 [] = some [.a 0, .a 1]) {k : Nat} {m ds : List Dt} {p : Pot} (hs : 0 < ds.length)
    (hc : cf g0 [.cel k, .int ds.length] (m.set k (potD p)) = .ok (.p (.int (dr p ds.length).1)) (m.set k (potD (dr p ds.length).2))) :
    fnRun P cf ci g [.cel k, .lst ds] (m.set k (potD p)) = .ok (.p (pk ds p)) (m.set k (potD (dr p ds.length).2)) := by
  have hl := dr_lt p hs
  have h0 : ixD (m.set k (potD (dr p ds.length).2)) (.lst ds) (.int (dr p ds.length).1) = some (pk ds p) := by
    have e : ixN ds.length ((dr p ds.length).1 : Int) = some (dr p ds.length).1 := by
      unfold ixN
      simp only [Int.natCast_nonneg, if_true]
      first | (rw [if_pos (by omega)]; simp) | simp [hl]
    show atI ds _ = _
    unfold atI
    rw [e]
    simp [pk, List.getD, List.getElem?_eq_getElem hl]
  exact f_run (P := P) (cf := cf) (ci := ci) (m := m.set k (potD p)) hg (xs := [.cel k, .lst ds]) ⟨rfl, Nat.le_of_ble_eq_true rfl⟩ rfl (s_stop (s_ret (e_ix (e_var rfl) (e_call (e_cons (e_var rfl) (e_cons (e_bi (e_cons (e_var rfl) e_nil) rfl) e_nil)) rfl hsh rfl hc) h0)))
/-- _law_pot -/
def potC : List Sm := [.asg (.nm 2) (.bin .Add (.bin .Mult (.cst (.int 29)) (.var 1)) (.cst (.int 8))), .iff (.cmp .Lt (.var 1) (.bi .len [(.var 0)])) [.asg (.nm 2) (.bi .abs [(.ix (.var 0) (.var 1))])] [], .retF (.lst [(.bi .max [(.cst (.int 0)), (.bin .Sub (.var 2) (.bin .Pow (.cst (.int 10)) (.cst (.int 18))))]), (.bin .Add (.bin .Mod (.bin .Mult (.bi .int [(.bin .Add (.bin .Mod (.bi .int [(.var 2)]) (.cst (.int 2147483549))) (.cst (.int 7)))]) (.bin .Pow (.bin .Add (.bin .Mult (.cst (.int 2)) (.var 1)) (.cst (.int 3))) (.cst (.int 3)))) (.cst (.int 2147483477))) (.cst (.int 1)))])]
def celN (ns : List Int) (k : Nat) : Nat := match ns[k]? with
  | some i => i.natAbs
  | none => 29 * k + 8
def potOf (ns : List Int) (k : Nat) : Pot := ⟨celN ns k - 1000000000000000000, ((celN ns k % 2147483549 + 7) * (2 * k + 3) ^ 3) % 2147483477 + 1, by
  have := Nat.mod_lt ((celN ns k % 2147483549 + 7) * (2 * k + 3) ^ 3) (show 0 < 2147483477 by decide)
  omega⟩
theorem op_powN {i e : Nat} (h : i < 18446744073709551616) (he : e ≤ 1000000) : opD .Pow (.int i) (.int e) = some (.int ((i ^ e : Nat) : Int)) := by
  simp only [opD]
  rw [if_pos ⟨by omega, by omega, by simpa using h⟩, Int.natCast_pow]
  rfl
theorem max_sub {c d : Nat} : biD .max [.int 0, .int ((c : Int) - (d : Int))] = some (.int ((c - d : Nat) : Int)) := by
  simp only [biD]
  congr 2
  split <;> omega
theorem pot_run {g : Nat} {shs : List (Nat × List Str × List Ar)} (hg : P.fn[g]? = some ⟨2, 3, true, shs, potC⟩) {ns : List Int} {k : Nat} {m : List Dt} (hk : k < 1000) :
    fnRun P cf ci g [.scr ns, .int k] m = .ok (.p (.cel m.length)) (m ++ [potD (potOf ns k)]) := by
  have tail : ∀ c : Nat, evE P cf ci (.lst [(.bi .max [(.cst (.int 0)), (.bin .Sub (.var 2) (.bin .Pow (.cst (.int 10)) (.cst (.int 18))))]), (.bin .Add (.bin .Mod (.bin .Mult (.bi .int [(.bin .Add (.bin .Mod (.bi .int [(.var 2)]) (.cst (.int 2147483549))) (.cst (.int 7)))]) (.bin .Pow (.bin .Add (.bin .Mult (.cst (.int 2)) (.var 1)) (.cst (.int 3))) (.cst (.int 3)))) (.cst (.int 2147483477))) (.cst (.int 1)))]) ⟨[some (.p (.scr ns)), some (.p (.int k)), some (.p (.int c))], m⟩ =
      .ok (.lst [.int ((c - 1000000000000000000 : Nat) : Int), .int ((((c % 2147483549 + 7) * (2 * k + 3) ^ 3) % 2147483477 + 1 : Nat) : Int)]) ⟨[some (.p (.scr ns)), some (.p (.int k)), some (.p (.int c))], m⟩ := by
    intro c
    have hc : c % 2147483549 < 2147483549 := Nat.mod_lt _ (by decide)
    have mx : bi1 P cf .max [.int 0, .int ((c : Int) - ((1000000000000000000 : Nat) : Int))] ⟨[some (.p (.scr ns)), some (.p (.int k)), some (.p (.int c))], m⟩ = .ok (.int ((c - 1000000000000000000 : Nat) : Int)) ⟨[some (.p (.scr ns)), some (.p (.int k)), some (.p (.int c))], m⟩ := by
      simp only [bi1]
      rw [max_sub]
      rfl
    have pw : opD .Pow (.int 10) (.int 18) = some (.int ((1000000000000000000 : Nat) : Int)) := op_powN (i := 10) (e := 18) (by decide) (by decide)
    exact e_lst (e_cons (e_bi (e_cons e_cst (e_cons (e_bin (e_var rfl) (e_bin e_cst e_cst pw) rfl) e_nil)) mx)
      (e_cons (e_bin (e_bin (e_bin (e_bi (e_cons (e_bin (e_bin (e_bi (e_cons (e_var rfl) e_nil) rfl) e_cst (op_modN (j := 2147483549) (by decide))) e_cst (op_addN (j := 7))) e_nil) rfl) (e_bin (e_bin (e_bin e_cst (e_var rfl) (op_mulN (i := 2) (by decide))) e_cst (op_addN (j := 3))) e_cst (op_powN (e := 3) (by omega) (by decide))) (op_mulN (by omega))) e_cst (op_modN (j := 2147483477) (by decide))) e_cst (op_addN (j := 1))) e_nil)) (Nat.le_of_ble_eq_true rfl)
  have a0 : evS P cf ci (.asg (.nm 2) (.bin .Add (.bin .Mult (.cst (.int 29)) (.var 1)) (.cst (.int 8)))) ⟨[some (.p (.scr ns)), some (.p (.int k)), none], m⟩ = .nx ⟨[some (.p (.scr ns)), some (.p (.int k)), some (.p (.int ((29 * k + 8 : Nat) : Int)))], m⟩ :=
    s_asg (e_bin (e_bin e_cst (e_var rfl) (op_mulN (i := 29) (by decide))) e_cst (op_addN (j := 8))) rfl
  have cd : evE P cf ci (.cmp .Lt (.var 1) (.bi .len [(.var 0)])) ⟨[some (.p (.scr ns)), some (.p (.int k)), some (.p (.int ((29 * k + 8 : Nat) : Int)))], m⟩ = .ok (.bl (decide ((k : Int) < (ns.length : Nat)))) ⟨[some (.p (.scr ns)), some (.p (.int k)), some (.p (.int ((29 * k + 8 : Nat) : Int)))], m⟩ :=
    e_cmp (e_var rfl) (e_bi (e_cons (e_var rfl) e_nil) rfl) (c_pl rfl rfl)
  by_cases h : k < ns.length
  · have ec : celN ns k = (ns[k]).natAbs := by
      unfold celN
      rw [List.getElem?_eq_getElem h]
    have ix : ixD m (.scr ns) (.int k) = some (.int ns[k]) := by
      show (atI ns (k : Int)).map Dt.int = _
      unfold atI ixN
      rw [if_pos (by omega), if_pos (by omega)]
      simp [List.getElem?_eq_getElem h]
    have ab : bi1 P cf .abs [.int ns[k]] ⟨[some (.p (.scr ns)), some (.p (.int k)), some (.p (.int ((29 * k + 8 : Nat) : Int)))], m⟩ = .ok (.int ((ns[k]).natAbs : Int)) ⟨[some (.p (.scr ns)), some (.p (.int k)), some (.p (.int ((29 * k + 8 : Nat) : Int)))], m⟩ := by
      simp only [bi1, biD, okD]
      congr 2
      split <;> omega
    refine (f_cell (P := P) (cf := cf) (ci := ci) (m := m) hg (xs := [.scr ns, .int k]) ⟨rfl, Nat.le_of_ble_eq_true rfl⟩ rfl (s_cons a0 (s_cons (s_iff_t cd (decide_eq_true (by omega)) (s_cons (s_asg (e_bi (e_cons (e_ix (e_var rfl) (e_var rfl) ix) e_nil) ab) rfl) s_nil)) (s_stop (s_retF (tail _)))))).trans ?_
    rw [← ec]
    rfl
  · have ec : celN ns k = 29 * k + 8 := by
      unfold celN
      rw [List.getElem?_eq_none (by omega)]
    refine (f_cell (P := P) (cf := cf) (ci := ci) (m := m) hg (xs := [.scr ns, .int k]) ⟨rfl, Nat.le_of_ble_eq_true rfl⟩ rfl (s_cons a0 (s_cons (s_iff_f cd (decide_eq_false (by omega)) s_nil) (s_stop (s_retF (tail _)))))).trans ?_
    rw [← ec]
    rfl
end
end PyI
namespace PyI
open PySem PySem.Spec PyProof.Rows L2
/-! ### comprehensions whose parts change nothing -/
theorem backB_out {r0 r : List (Option Bn)} {i : Nat} : ∀ {vs : List Nat}, i ∉ vs → (backB r0 vs r)[i]? = r[i]?
  | [], _ => rfl
  | v :: vs, h => by
    unfold backB
    have h1 : v ≠ i := fun e => h (by simp [e])
    rw [List.getElem?_set_ne h1]
    exact backB_out fun z => h (List.mem_cons_of_mem _ z)
theorem backB_in {r0 r : List (Option Bn)} {i : Nat} (hi : i < r.length) : ∀ {vs : List Nat}, i ∈ vs → (backB r0 vs r)[i]? = some ((r0[i]?).getD none)
  | [], h => by cases h
  | v :: vs, h => by
    unfold backB
    by_cases e : v = i
    · subst e
      rw [List.getElem?_set_self (by rw [backB_len]; exact hi)]
    · rw [List.getElem?_set_ne e]
      rcases List.mem_cons.mp h with z | z
      · exact absurd z.symm e
      · exact backB_in hi z
theorem back_same {r0 r : List (Option Bn)} {vs : List Nat} (h : wipeB r vs = wipeB r0 vs) : backB r0 vs r = r0 := by
  have hl : r.length = r0.length := by rw [← wipeB_len r vs, h, wipeB_len]
  apply List.ext_getElem?
  intro i
  by_cases hi : i ∈ vs
  · by_cases hb : i < r.length
    · rw [backB_in hb hi, List.getElem?_eq_getElem (by omega)]
      rfl
    · rw [List.getElem?_eq_none (by rw [backB_len]; omega), List.getElem?_eq_none (by omega)]
  · rw [backB_out hi, ← wipeB_get hi, h, wipeB_get hi]
/-- the turns: rx the slots at an item, q the condition, h the value -/
structure CompOk (ev cnd : Sto → Rs Dt) (tg : Tg) (own : List Nat) (w0 : List (Option Bn)) (m : List Dt) (x : Dt) (q : Bool) (v : Dt) : Prop where
  ex : ∃ rx, tgD tg x w0 = some rx ∧ wipeB rx own = w0 ∧ cnd ⟨rx, m⟩ = .ok (.bl q) ⟨rx, m⟩ ∧ (q = true → ev ⟨rx, m⟩ = .ok v ⟨rx, m⟩)
theorem compL_ok {ev cnd : Sto → Rs Dt} {tg : Tg} {own : List Nat} {w0 : List (Option Bn)} {m : List Dt} {q : Dt → Bool} {v : Dt → Dt} : ∀ {xs acc : List Dt} {r : List (Option Bn)}, wipeB r own = w0 → (∀ x ∈ xs, CompOk ev cnd tg own w0 m x (q x) (v x)) →
    ∃ r', wipeB r' own = w0 ∧ compL ev cnd tg own xs acc ⟨r, m⟩ = .ok (acc ++ (xs.filter q).map v) ⟨r', m⟩
  | [], acc, r, hw, _ => ⟨r, hw, by simp [compL]⟩
  | x :: xs, acc, r, hw, h => by
    obtain ⟨rx, h1, h2, h3, h4⟩ := (h x (by simp)).ex
    unfold compL
    simp only [hw, h1, h3]
    cases e : q x with
    | true =>
      simp only [h4 e]
      obtain ⟨r', k1, k2⟩ := compL_ok (xs := xs) (acc := acc ++ [v x]) (r := rx) h2 fun y hy => h y (by simp [hy])
      refine ⟨r', k1, ?_⟩
      rw [k2]
      simp [e]
    | false =>
      simp only
      obtain ⟨r', k1, k2⟩ := compL_ok (xs := xs) (acc := acc) (r := rx) h2 fun y hy => h y (by simp [hy])
      refine ⟨r', k1, ?_⟩
      rw [k2]
      simp [e]
section
variable {P : Pg} {cf ci : Nat → List Dt → List Dt → Rc}
theorem e_comp {S S1 : Sto} {e it c : Tm} {own : List Nat} {tg : Tg} {x : Dt} {xs : List Dt} {q : Dt → Bool} {v : Dt → Dt} (hi : evE P cf ci it S = .ok x S1) (hx : itemsD x = some xs) (hl : xs.length ≤ sizeLine) (hp : own.all (pureAt S1.r) = true)
    (h : ∀ y ∈ xs, CompOk (evE P cf ci e) (evE P cf ci c) tg own (wipeB S1.r own) S1.m y (q y) (v y)) : evE P cf ci (.comp e own tg it c) S = .ok (.lst ((xs.filter q).map v)) S1 := by
  rw [evE, hi]
  simp only [Rs.bind, compR, hx]
  rw [if_pos ⟨hl, hp⟩]
  obtain ⟨r', k1, k2⟩ := compL_ok (acc := []) (r := S1.r) rfl h
  have k2 : compL (evE P cf ci e) (evE P cf ci c) tg own xs [] S1 = .ok ([] ++ (xs.filter q).map v) ⟨r', S1.m⟩ := k2
  rw [k2]
  simp only [List.nil_append]
  rw [back_same k1]
theorem e_rng1 {S S1 : Sto} {a : Tm} {j : Int} (ha : evE P cf ci a S = .ok (.int j) S1) (h : smallI j = true) : evE P cf ci (.rng1 a) S = .ok (.lst (rangeD 0 j)) S1 := by
  rw [evE, ha]
  simp only [Rs.bind, rng1D, h, if_true]
theorem e_rng2 {S S1 S2 : Sto} {a b : Tm} {i j : Int} (ha : evE P cf ci a S = .ok (.int i) S1) (hb : evE P cf ci b S1 = .ok (.int j) S2) (h : (smallI i && smallI j) = true) : evE P cf ci (.rng2 a b) S = .ok (.lst (rangeD i j)) S2 := by
  rw [evE, ha]
  simp only [Rs.bind]
  rw [hb]
  simp only [Rs.bind, rng2D, h, if_true]
theorem small_of {n : Nat} (h : n < 4611686018427387904) : smallI n = true := by
  unfold smallI
  rw [decide_eq_true (by omega), decide_eq_true (by omega)]
  rfl
theorem qint {i j : Int} : cmpD .Eq (.int i) (.int j) = some (i == j) := rfl
theorem filter_yes {α : Type} {l : List α} : l.filter (fun _ => true) = l := by simp
end
end PyI
namespace PyI
open PySem PySem.Spec PyProof.Rows L2
/-! ### comparing data of any length -/
structure Pl (d : Dt) (x : PyData) (n : Nat) : Prop where
  py : toPy d = some x
  lay : x.canLay0 = true
  dep : x.depth ≤ n
structure Pls (ds : List Dt) (xs : List PyData) (n : Nat) : Prop where
  py : toPys ds = some xs
  lay : PyData.canLayAll0 xs = true
  dep : PyData.depthAll xs ≤ n
theorem Pl.int {i : Int} : Pl (.int i) (.int i) 0 := ⟨rfl, by rw [PyData.canLay0], by rw [PyData.depth]; exact Nat.le_refl _⟩
theorem Pl.bl {b : Bool} : Pl (.bl b) (.bool b) 0 := ⟨rfl, by rw [PyData.canLay0], by rw [PyData.depth]; exact Nat.le_refl _⟩
theorem Pl.non : Pl .non .none 0 := ⟨rfl, by rw [PyData.canLay0], by rw [PyData.depth]; exact Nat.le_refl _⟩
theorem Pl.str {x : Str} (h : PyData.canLay0 (.str x) = true) : Pl (.str x) (.str x) 0 := ⟨rfl, h, by rw [PyData.depth]; exact Nat.le_refl _⟩
theorem Pl.mono {d : Dt} {x : PyData} {n k : Nat} (h : Pl d x n) (l : n ≤ k) : Pl d x k := ⟨h.py, h.lay, Nat.le_trans h.dep l⟩
theorem Pls.nil {n : Nat} : Pls [] [] n := ⟨rfl, by rw [PyData.canLayAll0], by rw [PyData.depthAll]; exact Nat.zero_le _⟩
theorem Pls.cons {d : Dt} {x : PyData} {ds : List Dt} {xs : List PyData} {n : Nat} (h : Pl d x n) (t : Pls ds xs n) : Pls (d :: ds) (x :: xs) n := by
  refine ⟨?_, ?_, ?_⟩
  · unfold toPys
    rw [h.py, t.py]
  · rw [PyData.canLayAll0, h.lay, t.lay]
    rfl
  · rw [PyData.depthAll]
    exact Nat.max_le.mpr ⟨h.dep, t.dep⟩
theorem Pls.map {α : Type} {f : α → Dt} {g : α → PyData} {n : Nat} : ∀ {l : List α}, (∀ a ∈ l, Pl (f a) (g a) n) → Pls (l.map f) (l.map g) n
  | [], _ => Pls.nil
  | a :: l, h => Pls.cons (h a (by simp)) (Pls.map fun b hb => h b (by simp [hb]))
theorem Pl.lst {ds : List Dt} {xs : List PyData} {n : Nat} (h : Pls ds xs n) : Pl (.lst ds) (.list xs) (n + 1) := by
  refine ⟨?_, ?_, ?_⟩
  · unfold toPy
    rw [h.py]
    rfl
  · rw [PyData.canLay0]
    exact h.lay
  · rw [PyData.depth]
    exact Nat.add_le_add_right h.dep 1
theorem Pl.tup {ds : List Dt} {xs : List PyData} {n : Nat} (h : Pls ds xs n) : Pl (.tup ds) (.tuple xs) (n + 1) := by
  refine ⟨?_, ?_, ?_⟩
  · unfold toPy
    rw [h.py]
    rfl
  · rw [PyData.canLay0]
    exact h.lay
  · rw [PyData.depth]
    exact Nat.add_le_add_right h.dep 1
theorem Pl.shaped {d : Dt} {x : PyData} {n : Nat} (h : Pl d x n) (hn : n ≤ 64) : SeqAt.shaped x = true := by
  unfold SeqAt.shaped
  rw [h.lay, decide_eq_true (Nat.le_trans h.dep hn)]
  rfl
theorem eq_of {a b : Dt} {x y : PyData} {n k : Nat} (ha : Pl a x n) (hb : Pl b y k) (hn : n ≤ 64) (hk : k ≤ 64) : eqD a b = some (PyData.eqv x y) := by
  unfold eqD
  rw [ha.py, hb.py]
  simp only [ha.shaped hn, hb.shaped hk, Bool.and_self, if_true]
theorem cmpEq_of {a b : Dt} {x y : PyData} {n k : Nat} (ha : Pl a x n) (hb : Pl b y k) (hn : n ≤ 64) (hk : k ≤ 64) : cmpD .Eq a b = some (PyData.eqv x y) := by
  have e : cmpD .Eq a b = eqD a b := by cases a <;> cases b <;> rfl
  rw [e]
  exact eq_of ha hb hn hk
theorem cmpNe_of {a b : Dt} {x y : PyData} {n k : Nat} (ha : Pl a x n) (hb : Pl b y k) (hn : n ≤ 64) (hk : k ≤ 64) : cmpD .NotEq a b = some (!PyData.eqv x y) := by
  have e : cmpD .NotEq a b = (eqD a b).map (!·) := by cases a <;> cases b <;> rfl
  rw [e, eq_of ha hb hn hk]
  rfl
theorem in_of {a : Dt} {ds : List Dt} {x : PyData} {xs : List PyData} {n k : Nat} (ha : Pl a x n) (hb : Pls ds xs k) (hn : n ≤ 64) (hk : k + 1 ≤ 64) : inLD a ds = some (xs.any fun z => PyData.eqv z x) := by
  unfold inLD
  rw [ha.py, hb.py]
  have h2 := (Pl.lst hb).shaped hk
  simp only [ha.shaped hn, h2, Bool.and_self, if_true]
theorem cmpIn_of {a : Dt} {ds : List Dt} {x : PyData} {xs : List PyData} {n k : Nat} (ha : Pl a x n) (hb : Pls ds xs k) (hn : n ≤ 64) (hk : k + 1 ≤ 64) : cmpD .In a (.lst ds) = some (xs.any fun z => PyData.eqv z x) := by
  have e : cmpD .In a (.lst ds) = inLD a ds := by cases a <;> rfl
  rw [e]
  exact in_of ha hb hn hk
end PyI
namespace PyI
open PySem PySem.Spec PyProof.Rows L2
/-! ### draws, loops and comprehensions by what they keep -/
theorem pk_mem {ds : List Dt} {p : Pot} (h : 0 < ds.length) : pk ds p ∈ ds := by
  unfold pk
  rw [List.getD_eq_getElem?_getD, List.getElem?_eq_getElem (dr_lt p h)]
  exact List.getElem_mem _
theorem clampN {lo hi : Nat} (i : Int) (h : lo ≤ hi) : ∃ r : Nat, lo ≤ r ∧ r ≤ hi ∧ (if (if i < (hi : Int) then i else (hi : Int)) > (lo : Int) then (if i < (hi : Int) then i else (hi : Int)) else (lo : Int)) = (r : Int) := by
  by_cases h1 : i < (hi : Int)
  · rw [if_pos h1]
    by_cases h2 : i > (lo : Int)
    · rw [if_pos h2]
      exact ⟨i.toNat, by omega, by omega, by omega⟩
    · rw [if_neg h2]
      exact ⟨lo, by omega, by omega, rfl⟩
  · rw [if_neg h1]
    by_cases h2 : (hi : Int) > (lo : Int)
    · rw [if_pos h2]
      exact ⟨hi, by omega, by omega, rfl⟩
    · rw [if_neg h2]
      exact ⟨lo, by omega, by omega, rfl⟩
section
variable {P : Pg} {cf ci : Nat → List Dt → List Dt → Rc}
theorem mxmn {S : Sto} {lo hi : Nat} {i : Int} {r : Nat} (er : (if (if i < (hi : Int) then i else (hi : Int)) > (lo : Int) then (if i < (hi : Int) then i else (hi : Int)) else (lo : Int)) = (r : Int)) : bi1 P cf .max [.int (lo : Int), .int (if i < (hi : Int) then i else (hi : Int))] S = .ok (.int r) S := by
  simp only [bi1, biD, okD]
  rw [er]
theorem mxN {S : Sto} {a b : Nat} : bi1 P cf .max [.int a, .int b] S = .ok (.int (max a b : Nat)) S := by
  simp only [bi1, biD, okD]
  congr 2
  split <;> omega
theorem mnN {S : Sto} {a b : Nat} : bi1 P cf .min [.int a, .int b] S = .ok (.int (min a b : Nat)) S := by
  simp only [bi1, biD, okD]
  congr 2
  split <;> omega
theorem op_subN {i j : Nat} (h : j ≤ i) : opD .Sub (.int i) (.int j) = some (.int ((i - j : Nat) : Int)) := by
  simp only [opD]
  congr 2
  omega
theorem draw_ex {g : Nat} {shs : List (Nat × List Str × List Ar)} (hg : P.fn[g]? = some ⟨2, 3, false, shs, drawC⟩) {k s : Nat} {m : List Dt} (p : Pot) (hk : k < m.length) (hs : 0 < s ∧ s < 1073741824) :
    ∃ (d : Nat) (p' : Pot), d < s ∧ fnRun P cf ci g [.cel k, .int s] (m.set k (potD p)) = .ok (.p (.int d)) (m.set k (potD p')) :=
  ⟨_, _, dr_lt p hs.1, draw_run hg hk hs⟩
theorem s_for_inv {S S1 : Sto} {tg : Tg} {it : Tm} {b : List Sm} {x : Dt} {xs : List Dt} (I : Sto → Prop) (hi : evE P cf ci it S = .ok x S1) (hx : itemsD x = some xs) (h0 : I S1)
    (hb : ∀ y ∈ xs, ∀ S, I S → ∃ r', tgD tg y S.r = some r' ∧ ∃ S', evSs P cf ci b ⟨r', S.m⟩ = .nx S' ∧ I S') : ∃ S', evS P cf ci (.for_ tg it b) S = .nx S' ∧ I S' := by
  have go : ∀ (ys : List Dt), (∀ y ∈ ys, y ∈ xs) → ∀ S, I S → ∃ S', forL (evSs P cf ci b) tg ys S = .nx S' ∧ I S' := by
    intro ys
    induction ys with
    | nil => exact fun _ S h => ⟨S, rfl, h⟩
    | cons y ys ih =>
      intro hy S h
      obtain ⟨r', h1, S', h2, h3⟩ := hb y (hy y (by simp)) S h
      obtain ⟨S2, h4, h5⟩ := ih (fun z hz => hy z (by simp [hz])) S' h3
      refine ⟨S2, ?_, h5⟩
      unfold forL
      simp only [h1, h2]
      exact h4
  obtain ⟨S', h1, h2⟩ := go xs (fun _ h => h) S1 h0
  refine ⟨S', ?_, h2⟩
  rw [evS, hi]
  simp only [toRt, hx]
  exact h1
/-- turns that may change the memory; v the value of a turn -/
theorem compL_inv {ev cnd : Sto → Rs Dt} {tg : Tg} {own : List Nat} {w0 : List (Option Bn)} {v : Dt → Dt} (I : List Dt → Prop) : ∀ {xs acc : List Dt} {r : List (Option Bn)} {m : List Dt}, wipeB r own = w0 → I m →
    (∀ x ∈ xs, ∀ m, I m → ∃ rx, tgD tg x w0 = some rx ∧ cnd ⟨rx, m⟩ = .ok (.bl true) ⟨rx, m⟩ ∧ ∃ rx' m', ev ⟨rx, m⟩ = .ok (v x) ⟨rx', m'⟩ ∧ wipeB rx' own = w0 ∧ I m') →
    ∃ r' m', wipeB r' own = w0 ∧ I m' ∧ compL ev cnd tg own xs acc ⟨r, m⟩ = .ok (acc ++ xs.map v) ⟨r', m'⟩
  | [], acc, r, m, hw, hm, _ => ⟨r, m, hw, hm, by simp [compL]⟩
  | x :: xs, acc, r, m, hw, hm, h => by
    obtain ⟨rx, h1, h2, rx', m', h3, h4, h5⟩ := h x (by simp) m hm
    obtain ⟨r2, m2, k1, k2, k3⟩ := compL_inv I (xs := xs) (acc := acc ++ [v x]) (r := rx') (m := m') h4 h5 fun y hy => h y (by simp [hy])
    refine ⟨r2, m2, k1, k2, ?_⟩
    unfold compL
    simp only [hw, h1, h2, h3, k3]
    simp
theorem e_comp_inv {S S1 : Sto} {e it c : Tm} {own : List Nat} {tg : Tg} {x : Dt} {xs : List Dt} {v : Dt → Dt} (I : List Dt → Prop) (hi : evE P cf ci it S = .ok x S1) (hx : itemsD x = some xs) (hl : xs.length ≤ sizeLine) (hp : own.all (pureAt S1.r) = true) (h0 : I S1.m)
    (h : ∀ y ∈ xs, ∀ m, I m → ∃ rx, tgD tg y (wipeB S1.r own) = some rx ∧ evE P cf ci c ⟨rx, m⟩ = .ok (.bl true) ⟨rx, m⟩ ∧ ∃ rx' m', evE P cf ci e ⟨rx, m⟩ = .ok (v y) ⟨rx', m'⟩ ∧ wipeB rx' own = wipeB S1.r own ∧ I m') :
    ∃ m', I m' ∧ evE P cf ci (.comp e own tg it c) S = .ok (.lst (xs.map v)) ⟨S1.r, m'⟩ := by
  obtain ⟨r', m', k1, k2, k3⟩ := compL_inv (r := S1.r) (m := S1.m) (acc := []) I rfl h0 h
  refine ⟨m', k2, ?_⟩
  rw [evE, hi]
  simp only [Rs.bind, compR, hx]
  rw [if_pos ⟨hl, hp⟩]
  have k3 : compL (evE P cf ci e) (evE P cf ci c) tg own xs [] S1 = .ok ([] ++ xs.map v) ⟨r', m'⟩ := k3
  rw [k3]
  simp only [List.nil_append]
  rw [back_same k1]
theorem new_cell {m : List Dt} {d : Dt} : m ++ [d] = (m ++ [d]).set m.length d := by simp
theorem cell_lt {m : List Dt} {d : Dt} : m.length < (m ++ [d]).length := by simp
end
end PyI
namespace PyI
open PySem PySem.Spec PyProof.Rows L2
/-! ### rules for a walk by tactic -/
def seqK (x : Rt) (k : Sto → Rt) : Rt := match x with
  | .nx S1 => k S1
  | r => r
section
variable {P : Pg} {cf ci : Nat → List Dt → List Dt → Rc} {S S1 S2 S3 : Sto} {a b c : Tm} {x y z d : Dt} {es : List Tm} {ds : List Dt} {ks : List Str} {p q : Bool} {R R1 : Rt} {V : Rs Dt} {m' : List Dt} {sh : List Ar} {xs : List Dt}
theorem w_seq {s : Sm} {ss : List Sm} (h : evS P cf ci s S = R1) (hs : seqK R1 (evSs P cf ci ss) = R) : evSs P cf ci (s :: ss) S = R := by
  rw [evSs, h, ← hs]
  cases R1 <;> rfl
theorem w_nx {k : Sto → Rt} (h : k S = R) : seqK (.nx S) k = R := h
theorem w_rt {k : Sto → Rt} {bn : Bn} : seqK (.rt bn S) k = .rt bn S := rfl
theorem w_ct {k : Sto → Rt} : seqK (.ct S) k = .ct S := rfl
theorem w_bk {k : Sto → Rt} : seqK (.bk S) k = .bk S := rfl
theorem w_if {s1 s2 : List Sm} (h : evE P cf ci c S = .ok (.bl p) S1) (hs : cond p (evSs P cf ci s1 S1) (evSs P cf ci s2 S1) = R) : evS P cf ci (.iff c s1 s2) S = R := by
  rw [evS, tst, h]
  simp only [Rs.bind, toRt]
  cases p <;> exact hs
theorem w_ife (h : evE P cf ci c S = .ok (.bl p) S1) (hs : cond p (evE P cf ci a S1) (evE P cf ci b S1) = V) : evE P cf ci (.ife c a b) S = V := by
  rw [evE, h]
  simp only [Rs.bind]
  cases p <;> exact hs
theorem w_and (h : evE P cf ci a S = .ok (.bl p) S1) (hs : cond p (evE P cf ci b S1) (.ok (.bl false) S1) = V) : evE P cf ci (.and2 a b) S = V := by
  rw [evE, h]
  simp only [Rs.bind]
  cases p <;> exact hs
theorem w_or (h : evE P cf ci a S = .ok (.bl p) S1) (hs : cond p (.ok (.bl true) S1) (evE P cf ci b S1) = V) : evE P cf ci (.or2 a b) S = V := by
  rw [evE, h]
  simp only [Rs.bind]
  cases p <;> exact hs
theorem cond_t {α : Type} {u v w : α} (hp : p = true) (h : u = w) : cond p u v = w := by subst hp; exact h
theorem cond_f {α : Type} {u v w : α} (hp : p = false) (h : v = w) : cond p u v = w := by subst hp; exact h
theorem w_retN : evS P cf ci .retN S = .rt (.p .non) S := by rw [evS]
theorem w_pas : evS P cf ci .pas S = .nx S := by rw [evS]
end
end PyI
namespace PyI
open PySem PySem.Spec PyProof.Rows L2
/-! ### the runs, shut -/
@[irreducible] def Cf (P : Pg) (n : Nat) : Nat → List Dt → List Dt → Rc := (runs P n).1
@[irreducible] def Df (P : Pg) (n : Nat) : Nat → List Dt → List Dt → Rc := (runs P n).2
theorem Cf_eq {P : Pg} {n : Nat} : Cf P n = (runs P n).1 := by unfold Cf; rfl
theorem Df_eq {P : Pg} {n : Nat} : Df P n = (runs P n).2 := by unfold Df; rfl
theorem Cf_succ {P : Pg} {n : Nat} : Cf P (n + 1) = fnRun P (Cf P n) (Df P n) := by rw [Cf_eq, Cf_eq, Df_eq]; rfl
theorem Df_succ {P : Pg} {n : Nat} : Df P (n + 1) = clRun P (Cf P n) (Df P n) := by rw [Df_eq, Cf_eq, Df_eq]; rfl
section
variable {P : Pg} {N g : Nat} {xs m m' : List Dt} {d d' : Dt} {S1 : Sto} {fd : FnD}
theorem q_run (hg : P.fn[g]? = some fd) (hl : xs.length = fd.k ∧ fd.k ≤ fd.n) (hc : fd.cell = false) (h : evSs P (Cf P N) (Df P N) fd.b ⟨xs.map (fun d => some (.p d)) ++ List.replicate (fd.n - fd.k) none, m⟩ = .rt (.p d) S1) (hd : d = d') (hm : S1.m = m') : Cf P (N + 1) g xs m = .ok (.p d') m' := by
  subst hd hm
  rw [Cf_succ]
  exact f_run hg hl hc h
theorem q_end (hg : P.fn[g]? = some fd) (hl : xs.length = fd.k ∧ fd.k ≤ fd.n) (hc : fd.cell = false) (h : evSs P (Cf P N) (Df P N) fd.b ⟨xs.map (fun d => some (.p d)) ++ List.replicate (fd.n - fd.k) none, m⟩ = .nx S1) (hm : S1.m = m') : Cf P (N + 1) g xs m = .ok (.p .non) m' := by
  subst hm
  rw [Cf_succ]
  exact f_end hg hl hc h
theorem q_make {c c1 : Nat} {ns : List Str} {vs : List Dt} {cd : ClD} (hcl : P.cl[c]? = some cd) (hg : P.fn[cd.init]? = some fd) (hl : xs.length + 1 = fd.k ∧ fd.k ≤ fd.n) (h : evSs P (Cf P N) (Df P N) fd.b ⟨some (.o (.ins c [] [])) :: (xs.map (fun d => some (.p d)) ++ List.replicate (fd.n - fd.k) none), m⟩ = .nx S1)
    (h0 : S1.r[(0 : Nat)]? = some (some (.o (.ins c1 ns vs)))) (hd : .ins c1 ns vs = d') (hm : S1.m = m') : Df P (N + 1) c xs m = .ok (.p d') m' := by
  subst hd hm
  rw [Df_succ]
  exact c_run hcl hg hl h h0
/-- a draw below s -/
theorem q_draw {shs : List (Nat × List Str × List Ar)} (hg : P.fn[g]? = some ⟨2, 3, false, shs, drawC⟩) {k : Nat} (s : Int) (p : Pot) (hk : k < m.length) (hs : 0 < s ∧ s < 1073741824) :
    ∃ (d : Int) (p' : Pot), (0 ≤ d ∧ d < s) ∧ Cf P (N + 1) g [.cel k, .int s] (m.set k (potD p)) = .ok (.p (.int d)) (m.set k (potD p')) := by
  obtain ⟨d, p', h1, h2⟩ := draw_ex (P := P) (cf := Cf P N) (ci := Df P N) (s := s.toNat) hg p hk (by omega)
  rw [show ((s.toNat : Nat) : Int) = s by omega] at h2
  rw [Cf_succ]
  exact ⟨d, p', by omega, h2⟩
theorem q_pick {g0 : Nat} {shs shs0 : List (Nat × List Str × List Ar)} (hg : P.fn[g]? = some ⟨2, 2, false, shs, pickC g0⟩) (hsh : P.shf g0 2 [] = some [.a 0, .a 1]) (hg0 : P.fn[g0]? = some ⟨2, 3, false, shs0, drawC⟩) {k : Nat} (ds : List Dt) (p : Pot) (hk : k < m.length) (hs : 0 < ds.length ∧ ds.length < 1073741824) :
    ∃ (x : Dt) (p' : Pot), x ∈ ds ∧ Cf P (N + 2) g [.cel k, .lst ds] (m.set k (potD p)) = .ok (.p x) (m.set k (potD p')) := by
  refine ⟨pk ds p, (dr p ds.length).2, pk_mem hs.1, ?_⟩
  rw [Cf_succ]
  refine PyI.pick_run (P := P) hg hsh hs.1 ?_
  rw [Cf_succ]
  exact draw_run hg0 hk hs
end
end PyI
namespace PyI
open PySem PySem.Spec PyProof.Rows L2
section
variable {P : Pg} {cf ci : Nat → List Dt → List Dt → Rc} {i j : Int}
theorem op_fdivI (h : 0 < j ∧ j < 1073741824) : opD .FloorDiv (.int i) (.int j) = some (.int (i / j)) := if_pos h
theorem op_modI (h : 0 < j) : opD .Mod (.int i) (.int j) = some (.int (i % j)) := if_pos h
theorem op_mulI (h : -18446744073709551616 < j ∧ j < 18446744073709551616) : opD .Mult (.int i) (.int j) = some (.int (i * j)) := by
  simp only [opD]
  rw [if_pos]
  unfold mulOk
  rw [decide_eq_true (p := -(2 ^ 64) < j) (by omega), decide_eq_true (p := j < 2 ^ 64) (by omega)]
  simp
theorem op_mulL (h : -18446744073709551616 < i ∧ i < 18446744073709551616) : opD .Mult (.int i) (.int j) = some (.int (i * j)) := by
  simp only [opD]
  rw [if_pos]
  unfold mulOk
  rw [decide_eq_true (p := -(2 ^ 64) < i) (by omega), decide_eq_true (p := i < 2 ^ 64) (by omega)]
  simp
/-- data equal to itself -/
theorem eqv_int {a b : Int} : PyData.eqv (.int a) (.int b) = (a == b) := by rw [PyData.eqv]
theorem beqI {a b : Int} : (a == b) = decide (a = b) := by
  by_cases h : a = b
  · simp [h]
  · simp [h]
end
/-- what a body hands back -/
def outR : Rt → Option (Dt × List Dt)
  | .rt (.p d) S => some (d, S.m)
  | _ => none
theorem outR_of {r : Rt} {d : Dt} {m : List Dt} (h : outR r = some (d, m)) : ∃ S, r = .rt (.p d) S ∧ S.m = m := by
  unfold outR at h
  split at h
  · cases h
    exact ⟨_, rfl, rfl⟩
  · cases h
end PyI
namespace PyI
open PySem PySem.Spec PyProof.Rows L2
section
variable {P : Pg} {cf ci : Nat → List Dt → List Dt → Rc} {S : Sto} {a b : Tm} {x y d : Dt} {es : List Tm} {ds xs : List Dt} {ks : List Str} {m m' : List Dt} {r r' r1 : List (Option Bn)} {sh : List Ar} {ns : List Str} {vs : List Dt} {c0 g n f i j : Nat} {fl mt : Str} {op : Operator}
theorem w_call (hs : evEs P cf ci es S = .ok ds ⟨r, m⟩) (hn : ds.length - ks.length = n) (hsh : P.shf f n ks = some sh) (hp : pick ds sh = some xs) (hc : cf f xs m = .ok (.p d) m') : evE P cf ci (.call f ks es) S = .ok d ⟨r, m'⟩ := e_call hs hn hsh hp hc
theorem w_make (hs : evEs P cf ci es S = .ok ds ⟨r, m⟩) (hn : ds.length - ks.length = n) (hsh : P.shc c0 n ks = some sh) (hp : pick ds sh = some xs) (hc : ci c0 xs m = .ok (.p d) m') : evE P cf ci (.make c0 ks es) S = .ok d ⟨r, m'⟩ := e_make hs hn hsh hp hc
theorem w_meth {S1 : Sto} (ha : evE P cf ci a S = .ok (.ins c0 ns vs) S1) (hm : P.meth c0 mt = some g) (hl : lookD mt ns vs = none) (hs : evEs P cf ci es S1 = .ok ds ⟨r, m⟩) (hn : ds.length + 1 - ks.length = n) (hsh : P.shf g n ks = some sh) (hp : pick (.ins c0 ns vs :: ds) sh = some xs) (hc : cf g xs m = .ok (.p d) m') : evE P cf ci (.meth a mt ks es) S = .ok d ⟨r, m'⟩ := e_meth ha hm hl hs hn hsh hp hc
theorem w_prop (ha : evE P cf ci a S = .ok (.ins c0 ns vs) ⟨r, m⟩) (hp : P.prop c0 fl = some g) (hc : cf g [.ins c0 ns vs] m = .ok (.p d) m') : evE P cf ci (.fld a fl) S = .ok d ⟨r, m'⟩ := e_prop ha hp hc
theorem w_binO {S1 : Sto} (ha : evE P cf ci a S = .ok (.ins c0 ns vs) S1) (hb : evE P cf ci b S1 = .ok y ⟨r, m⟩) (hm : (opMeth op).bind (P.meth c0) = some g) (ht : typed P y = true) (hc : cf g [.ins c0 ns vs, y] m = .ok (.p d) m') : evE P cf ci (.bin op a b) S = .ok d ⟨r, m'⟩ := e_binO ha hb hm ht hc
theorem w_eq (hm : P.meth c0 "__eq__" = some g) (ht : typed P y = true) (hc : cf g [.ins c0 ns vs, y] m = .ok (.p d) m') : cmp1 P cf .Eq (.ins c0 ns vs) y ⟨r, m⟩ = .ok d ⟨r, m'⟩ := c_eq hm ht hc
theorem w_in {p : Bool} (hm : P.meth c0 "__contains__" = some g) (hc : cf g [.ins c0 ns vs, x] m = .ok (.p (.bl p)) m') : cmp1 P cf .In x (.ins c0 ns vs) ⟨r, m⟩ = .ok (.bl p) ⟨r, m'⟩ := c_in hm hc
theorem w_asg {tg : Tg} (h : evE P cf ci a S = .ok d ⟨r, m⟩) (ht : tgD tg d r = some r') : evS P cf ci (.asg tg a) S = .nx ⟨r', m⟩ := s_asg h ht
theorem w_par {S1 : Sto} (ha : evE P cf ci a S = .ok x S1) (hb : evE P cf ci b S1 = .ok y ⟨r, m⟩) (hl : i < r.length ∧ j < r.length) : evS P cf ci (.par i j a b) S = .nx ⟨(r.set i (some (.p x))).set j (some (.p y)), m⟩ := s_par ha hb hl
theorem w_aug (h0 : S.r[i]? = some (some (.p (.ins c0 ns vs)))) (ha : evE P cf ci a S = .ok y ⟨r, m⟩) (hm : (opMeth op).bind (P.meth c0) = some g) (ht : typed P y = true) (hc : cf g [.ins c0 ns vs, y] m = .ok (.p d) m') (hi : i < r.length) : evS P cf ci (.aug i op a) S = .nx ⟨r.set i (some (.p d)), m'⟩ := s_aug h0 ha hm ht hc hi
end
end PyI
namespace PyI
open PySem PySem.Spec PyProof.Rows L2
theorem pl_ints {l : List Int} : Pl (.lst (l.map Dt.int)) (.list (l.map PyData.int)) 1 := Pl.lst (Pls.map fun _ _ => Pl.int)
theorem eqv_ints : ∀ {l k : List Int}, PyData.eqv (.list (l.map PyData.int)) (.list (k.map PyData.int)) = decide (l = k) := by
  have go : ∀ l k : List Int, PyData.eqvAll (l.map PyData.int) (k.map PyData.int) = decide (l = k) := by
    intro l
    induction l with
    | nil =>
      intro k
      cases k with
      | nil => simp [PyData.eqvAll]
      | cons a k => simp [PyData.eqvAll]
    | cons a l ih =>
      intro k
      cases k with
      | nil => simp [PyData.eqvAll]
      | cons b k =>
        rw [List.map_cons, List.map_cons, PyData.eqvAll, ih, PyData.eqv]
        by_cases h : a = b
        · subst h
          simp
        · simp [h]
  intro l k
  rw [PyData.eqv]
  exact go l k
theorem ne_ints {l : List Int} : cmpD .NotEq (.lst (l.map Dt.int)) (.lst (l.map Dt.int)) = some false := by
  rw [cmpNe_of pl_ints pl_ints (by decide) (by decide), eqv_ints]
  simp
theorem eq_ints {l k : List Int} : cmpD .Eq (.lst (l.map Dt.int)) (.lst (k.map Dt.int)) = some (decide (l = k)) := by
  rw [cmpEq_of pl_ints pl_ints (by decide) (by decide), eqv_ints]
theorem pl_bls {l : List Bool} : Pl (.lst (l.map Dt.bl)) (.list (l.map PyData.bool)) 1 := Pl.lst (Pls.map fun _ _ => Pl.bl)
theorem eqv_bls : ∀ {l : List Bool}, PyData.eqv (.list (l.map PyData.bool)) (.list (l.map PyData.bool)) = true := by
  have go : ∀ l : List Bool, PyData.eqvAll (l.map PyData.bool) (l.map PyData.bool) = true := by
    intro l
    induction l with
    | nil => simp [PyData.eqvAll]
    | cons a l ih =>
      rw [List.map_cons, PyData.eqvAll, ih, PyData.eqv]
      simp
  intro l
  rw [PyData.eqv]
  exact go l
theorem ne_bls {l : List Bool} : cmpD .NotEq (.lst (l.map Dt.bl)) (.lst (l.map Dt.bl)) = some false := by
  rw [cmpNe_of pl_bls pl_bls (by decide) (by decide), eqv_bls]
  rfl
theorem in_ints {x : Int} {l : List Int} : cmpD .In (.int x) (.lst (l.map Dt.int)) = some (l.contains x) := by
  rw [cmpIn_of (k := 0) (xs := l.map PyData.int) Pl.int (Pls.map fun _ _ => Pl.int) (by decide) (by decide)]
  congr 1
  rw [List.any_map]
  induction l with
  | nil => rfl
  | cons a l ih =>
    rw [List.any_cons, List.contains_cons, ih]
    congr 1
    show PyData.eqv (.int a) (.int x) = _
    rw [PyData.eqv, Bool.beq_comm]
end PyI
namespace PyI
open PySem PySem.Spec PyProof.Rows L2
theorem eqDI {a b : Int} : cmpD .Eq (.int a) (.int b) = some (decide (a = b)) := by
  rw [← beqI]
  rfl
theorem neDI {a b : Int} : cmpD .NotEq (.int a) (.int b) = some (!decide (a = b)) := by
  rw [← beqI]
  rfl
theorem neDB {a b : Bool} : cmpD .NotEq (.bl a) (.bl b) = some (a != b) := by
  cases a <;> cases b <;> kernel_rfl
theorem mem_rgI {j : Int} {y : Dt} (h : y ∈ rangeD 0 j) : ∃ i : Int, (0 ≤ i ∧ i < j) ∧ y = .int i := by
  unfold rangeD at h
  obtain ⟨i, hi, rfl⟩ := List.mem_map.mp h
  have := List.mem_range.mp hi
  exact ⟨i, by omega, by simp⟩
end PyI
namespace PyI
open PySem PySem.Spec PyProof.Rows L2
/-! ### texts -/
theorem strOk_app {x y : Str} : PyData.strOk (x ++ y) = (PyData.strOk x && PyData.strOk y) := by
  unfold PyData.strOk
  rw [show (x ++ y).cps = x.cps ++ y.cps from rfl, Array.all_append]
theorem strOk_of (s : String) : PyData.strOk (Str.ofString s) = true := by
  unfold PyData.strOk
  rw [Str.ofString_eq_toList]
  rw [List.all_toArray, List.all_eq_true]
  intro c hc
  obtain ⟨a, _, rfl⟩ := List.mem_map.mp hc
  have h := a.valid
  simp only [UInt32.isValidChar, Nat.isValidChar] at h
  have e : a.toNat = a.val.toNat := rfl
  rw [decide_eq_true_eq]
  omega
theorem pl_str {x : Str} (h : PyData.strOk x = true) : Pl (.str x) (.str x) 0 := Pl.str (by rw [PyData.canLay0]; exact h)
theorem ne_str {x : Str} (h : PyData.strOk x = true) : cmpD .NotEq (.str x) (.str x) = some false := by
  rw [cmpNe_of (pl_str h) (pl_str h) (by decide) (by decide), PyData.eqv]
  simp
theorem len_app {x y : Str} : (x ++ y).length = x.length + y.length := by
  show (x.cps ++ y.cps).size = _
  rw [Array.size_append]
  rfl
theorem log_ok {i : Int} (h : i.natAbs < 2 ^ 100) : i.natAbs.log2 < 1920 := by
  by_cases h0 : i.natAbs = 0
  · rw [h0]
    decide
  · exact Nat.lt_trans ((Nat.log2_lt h0).mpr h) (by decide)
section
variable {P : Pg} {cf ci : Nat → List Dt → List Dt → Rc} {S S1 : Sto} {a : Tm} {es : List Tm} {i : Int} {acc x y : Str} {V : Rs Str} {r : List (Option Bn)} {m m' : List Dt} {c0 g : Nat} {ns : List Str} {vs : List Dt}
theorem bi_str (h : i.natAbs.log2 < 1920) : bi1 P cf .str [.int i] S = .ok (.str (toString i)) S := by
  simp only [bi1, biD, if_pos h, okD]
theorem b_repr (hm : P.meth c0 "__repr__" = some g) (hc : cf g [.ins c0 ns vs] m = .ok (.p (.str x)) m') : bi1 P cf .repr [.ins c0 ns vs] ⟨r, m⟩ = .ok (.str x) ⟨r, m'⟩ := by
  simp only [bi1, hm, hc, upN, Rs.bind, strB]
theorem j_nil : evJ P cf ci [] acc S = .ok acc S := by rw [evJ]
theorem j_cons (ha : evE P cf ci a S = .ok (.str y) S1) (hl : (acc ++ y).length ≤ sizeLine) (h : evJ P cf ci es (acc ++ y) S1 = V) : evJ P cf ci (a :: es) acc S = V := by
  rw [evJ, ha]
  simp only [Rs.bind, if_pos hl]
  exact h
theorem e_fst (h : evJ P cf ci es Str.empty S = .ok x S1) : evE P cf ci (.fst es) S = .ok (.str x) S1 := by
  rw [evE, h]
  rfl
theorem e_fmrI (ha : evE P cf ci a S = .ok (.int i) S1) (h : i.natAbs.log2 < 1920) : evE P cf ci (.fmr a) S = .ok (.str (toString i)) S1 := by
  rw [evE, ha]
  simp only [Rs.bind, if_pos h]
theorem op_addS (h : x.length + y.length ≤ sizeLine) : opD .Add (.str x) (.str y) = some (.str (x ++ y)) := if_pos h
end
/-! ### ranges -/
theorem mem_rg2 {a b : Int} {y : Dt} : y ∈ rangeD a b ↔ ∃ i : Int, (a ≤ i ∧ i < b) ∧ y = .int i := by
  unfold rangeD
  rw [List.mem_map]
  constructor
  · rintro ⟨i, hi, rfl⟩
    have := List.mem_range.mp hi
    exact ⟨_, by omega, rfl⟩
  · rintro ⟨i, hi, rfl⟩
    exact ⟨(i - a).toNat, List.mem_range.mpr (by omega), by congr 1; omega⟩
def intsR (a b : Int) : List Int := (List.range (b - a).toNat).map fun i => a + (i : Nat)
theorem rg_ints {a b : Int} : rangeD a b = (intsR a b).map Dt.int := by
  unfold rangeD intsR
  rw [List.map_map]
  rfl
theorem mem_intsR {a b x : Int} : x ∈ intsR a b ↔ a ≤ x ∧ x < b := by
  unfold intsR
  rw [List.mem_map]
  constructor
  · rintro ⟨i, hi, rfl⟩
    have := List.mem_range.mp hi
    omega
  · rintro hi
    exact ⟨(x - a).toNat, List.mem_range.mpr (by omega), by omega⟩
theorem len_rangeD {a b : Int} : (rangeD a b).length = (b - a).toNat := by simp [rangeD]
theorem len_rg {P : Pg} {cf : Nat → List Dt → List Dt → Rc} {S : Sto} {a n : Int} (h : 0 ≤ n) : bi1 P cf .len [.lst (rangeD a (a + n))] S = .ok (.int n) S := by
  simp only [bi1, biD, okD]
  rw [len_rangeD]
  congr 2
  omega
theorem last_rg {m : List Dt} {a n : Int} (h : 1 ≤ n) : ixD m (.lst (rangeD a (a + n))) (.int (-1)) = some (.int (a + n - 1)) := by
  show atI (rangeD a (a + n)) (-1) = _
  unfold atI ixN
  rw [len_rangeD, if_neg (by omega), if_pos (by omega), Option.bind_some]
  unfold rangeD
  rw [List.getElem?_map, List.getElem?_range (by omega), Option.map_some]
  congr 2
  omega
theorem in_rg {a b x : Int} : cmpD .In (.int x) (.lst (rangeD a b)) = some (decide (a ≤ x) && decide (x < b)) := by
  rw [rg_ints, in_ints]
  congr 1
  rw [← Bool.decide_and, List.contains_eq_mem]
  by_cases h : x ∈ intsR a b
  · rw [decide_eq_true h, decide_eq_true (mem_intsR.mp h)]
  · rw [decide_eq_false h, decide_eq_false fun z => h (mem_intsR.mpr z)]
theorem eq_rg {a n c k : Int} (hn : 1 ≤ n) (hk : 1 ≤ k) : cmpD .Eq (.lst (rangeD a (a + n))) (.lst (rangeD c (c + k))) = some (decide (a = c) && decide (n = k)) := by
  rw [rg_ints, rg_ints, eq_ints]
  congr 1
  rw [← Bool.decide_and]
  by_cases h : a = c ∧ n = k
  · obtain ⟨rfl, rfl⟩ := h
    simp
  · rw [decide_eq_false h, decide_eq_false]
    intro e
    apply h
    have l : (intsR a (a + n)).length = (intsR c (c + k)).length := by rw [e]
    simp only [intsR, List.length_map, List.length_range] at l
    have m1 : a ∈ intsR c (c + k) := by rw [← e]; exact mem_intsR.mpr (by omega)
    have m2 : c ∈ intsR a (a + n) := by rw [e]; exact mem_intsR.mpr (by omega)
    have := mem_intsR.mp m1
    have := mem_intsR.mp m2
    omega
/-- in the interval -/
def qI (c d : Int) : Dt → Bool
  | .int x => decide (c ≤ x) && decide (x < d)
  | _ => false
theorem filt_pos {a b c d : Int} (h1 : a < b) (h2 : c < d) : decide (0 < (((rangeD a b).filter (qI c d)).length : Int)) = (decide (a < d) && decide (c < b)) := by
  rw [← Bool.decide_and]
  by_cases h : a < d ∧ c < b
  · rw [decide_eq_true h, decide_eq_true_eq]
    have : (.int (max a c)) ∈ (rangeD a b).filter (qI c d) := by
      rw [List.mem_filter]
      refine ⟨mem_rg2.mpr ⟨_, by omega, rfl⟩, ?_⟩
      simp only [qI, Bool.and_eq_true, decide_eq_true_eq]
      omega
    have := List.length_pos_of_mem this
    omega
  · rw [decide_eq_false h, decide_eq_false_iff_not]
    intro z
    have z : 0 < ((rangeD a b).filter (qI c d)).length := by omega
    obtain ⟨y, hy⟩ := List.exists_mem_of_length_pos z
    rw [List.mem_filter] at hy
    obtain ⟨i, hi, rfl⟩ := mem_rg2.mp hy.1
    have h3 := hy.2
    simp only [qI, Bool.and_eq_true, decide_eq_true_eq] at h3
    exact h (by omega)
end PyI
namespace PyI
open PySem PySem.Spec PyProof.Rows L2
def rpB (a b : Bool) : Str := (PyData.list [.bool a, .bool b]).shown
theorem rp2 {P : Pg} {cf : Nat → List Dt → List Dt → Rc} {S : Sto} {a b : Bool} : bi1 P cf .repr [.lst [.bl a, .bl b]] S = .ok (.str (rpB a b)) S := by
  cases a <;> cases b <;> kernel_rfl
theorem rp2_ne {a b : Bool} : cmpD .NotEq (.str (rpB a b)) (.str (rpB a b)) = some false := by
  cases a <;> cases b <;> kernel_rfl
end PyI
namespace K11
open PySem PyI
abbrev i_is_integer : Nat := 0
abbrev i_is_count : Nat := 1
abbrev i_is_count_from : Nat := 2
abbrev i_next_multiple : Nat := 3
abbrev i_is_group : Nat := 4
abbrev i_is_alignment : Nat := 5
abbrev i_Place_bits : Nat := 6
abbrev i_Register___init__ : Nat := 7
abbrev i_Register_group : Nat := 8
abbrev i_Register_number : Nat := 9
abbrev i_Register_bits : Nat := 10
abbrev i_Register___eq__ : Nat := 11
abbrev i_Register___repr__ : Nat := 12
abbrev i_Slots___init__ : Nat := 13
abbrev i_Slots_offset : Nat := 14
abbrev i_Slots_many : Nat := 15
abbrev i_Slots_end : Nat := 16
abbrev i_Slots_bits : Nat := 17
abbrev i_Slots___contains__ : Nat := 18
abbrev i_Slots_meets : Nat := 19
abbrev i_Slots___add__ : Nat := 20
abbrev i_Slots___sub__ : Nat := 21
abbrev i_Slots___eq__ : Nat := 22
abbrev i_Slots___repr__ : Nat := 23
abbrev i_Next___init__ : Nat := 24
abbrev i_Next_align : Nat := 25
abbrev i_Next_many : Nat := 26
abbrev i_Next_bits : Nat := 27
abbrev i_Next_from_offset : Nat := 28
abbrev i_Next___eq__ : Nat := 29
abbrev i_Next___repr__ : Nat := 30
abbrev i_l_pot : Nat := 31
abbrev i_l_draw : Nat := 32
abbrev i_l_pick : Nat := 33
abbrev i_l_registers_right : Nat := 34
abbrev i_l_bytes : Nat := 35
abbrev i_l_slots_right : Nat := 36
abbrev i_l_moved_right : Nat := 37
abbrev i_l_nexts_right : Nat := 38
abbrev i_l_unlike_right : Nat := 39
abbrev i_l_right : Nat := 40
abbrev i_law : Nat := 41
abbrev j_Place : Nat := 0
abbrev j_Register : Nat := 1
abbrev j_Slots : Nat := 2
abbrev j_Next : Nat := 3
/-- is_integer -/
abbrev b_is_integer : List Sm := [.ret (.and2 (.isi (.var 0) [.int]) (.not1 (.isi (.var 0) [.bool])))]
abbrev f_is_integer : FnD := ⟨1, 1, false, [(1, [], [.a 0])], b_is_integer⟩
def a_is_integer : Fat × List Str × List Str := (.glob "is_integer", ["value"], ["value"])
/-- is_count -/
abbrev b_is_count : List Sm := [.ret (.and2 (.call i_is_integer [] [(.var 0)]) (.cmp .GtE (.var 0) (.cst (.int 0))))]
abbrev f_is_count : FnD := ⟨1, 1, false, [(1, [], [.a 0])], b_is_count⟩
def a_is_count : Fat × List Str × List Str := (.glob "is_count", ["value"], ["value"])
/-- is_count_from -/
abbrev b_is_count_from : List Sm := [.ret (.and2 (.call i_is_count [] [(.var 0)]) (.chn .LtE .LtE (.var 1) (.var 0) (.var 2)))]
abbrev f_is_count_from : FnD := ⟨3, 3, false, [(3, [], [.a 0, .a 1, .a 2])], b_is_count_from⟩
def a_is_count_from : Fat × List Str × List Str := (.glob "is_count_from", ["value", "least", "most"], ["value", "least", "most"])
/-- next_multiple -/
abbrev b_next_multiple : List Sm := [.ret (.bin .Mult (.bin .FloorDiv (.bin .Sub (.bin .Add (.var 0) (.var 1)) (.cst (.int 1))) (.var 1)) (.var 1))]
abbrev f_next_multiple : FnD := ⟨2, 2, false, [(2, [], [.a 0, .a 1])], b_next_multiple⟩
def a_next_multiple : Fat × List Str × List Str := (.glob "next_multiple", ["number", "by"], ["number", "by"])
/-- is_group -/
abbrev b_is_group : List Sm := [.ret (.and2 (.isi (.var 0) [.str]) (.cmp .In (.var 0) (.glo "GROUPS" (.tup [(.str "whole"), (.str "float")]))))]
abbrev f_is_group : FnD := ⟨1, 1, false, [(1, [], [.a 0])], b_is_group⟩
def a_is_group : Fat × List Str × List Str := (.glob "is_group", ["value"], ["value"])
/-- is_alignment -/
abbrev b_is_alignment : List Sm := [.ret (.and2 (.call i_is_count [] [(.var 0)]) (.cmp .In (.var 0) (.glo "ALIGNMENTS" (.tup [(.int 1), (.int 2), (.int 4), (.int 8), (.int 16)]))))]
abbrev f_is_alignment : FnD := ⟨1, 1, false, [(1, [], [.a 0])], b_is_alignment⟩
def a_is_alignment : Fat × List Str × List Str := (.glob "is_alignment", ["value"], ["value"])
/-- bits -/
abbrev b_Place_bits : List Sm := [.ret (.cst (.int 0))]
abbrev f_Place_bits : FnD := ⟨1, 1, false, [(1, [], [.a 0])], b_Place_bits⟩
def a_Place_bits : Fat × List Str × List Str := (.prop 0 "bits", ["self"], ["self"])
/-- __init__ -/
abbrev b_Register___init__ : List Sm := [.iff (.not1 (.call i_is_group [] [(.var 1)])) [.nev] [], .iff (.not1 (.call i_is_count_from [] [(.var 2), (.cst (.int 0)), (.glo "MOST_NUMBER" (.int 7))])) [.nev] [], .fld "own_group" (.var 1), .fld "own_number" (.var 2)]
abbrev f_Register___init__ : FnD := ⟨3, 3, false, [], b_Register___init__⟩
def a_Register___init__ : Fat × List Str × List Str := (.meth 1 "__init__", ["self", "group", "number"], ["self", "group", "number"])
/-- group -/
abbrev b_Register_group : List Sm := [.ret (.fld (.var 0) "own_group")]
abbrev f_Register_group : FnD := ⟨1, 1, false, [(1, [], [.a 0])], b_Register_group⟩
def a_Register_group : Fat × List Str × List Str := (.prop 1 "group", ["self"], ["self"])
/-- number -/
abbrev b_Register_number : List Sm := [.ret (.fld (.var 0) "own_number")]
abbrev f_Register_number : FnD := ⟨1, 1, false, [(1, [], [.a 0])], b_Register_number⟩
def a_Register_number : Fat × List Str × List Str := (.prop 1 "number", ["self"], ["self"])
/-- bits -/
abbrev b_Register_bits : List Sm := [.ret (.glo "REGISTER_BITS" (.int 64))]
abbrev f_Register_bits : FnD := ⟨1, 1, false, [(1, [], [.a 0])], b_Register_bits⟩
def a_Register_bits : Fat × List Str × List Str := (.prop 1 "bits", ["self"], ["self"])
/-- __eq__ -/
abbrev b_Register___eq__ : List Sm := [.iff (.not1 (.isi (.var 1) [.own j_Register])) [.ret (.cst (.bl false))] [], .ret (.and2 (.cmp .Eq (.fld (.var 0) "own_group") (.fld (.var 1) "own_group")) (.cmp .Eq (.fld (.var 0) "own_number") (.fld (.var 1) "own_number")))]
abbrev f_Register___eq__ : FnD := ⟨2, 2, false, [(2, [], [.a 0, .a 1])], b_Register___eq__⟩
def a_Register___eq__ : Fat × List Str × List Str := (.meth 1 "__eq__", ["self", "other"], ["self", "other"])
/-- __repr__ -/
abbrev b_Register___repr__ : List Sm := [.ret (.fst [(.cst (.str "Register(")), (.fmr (.fld (.var 0) "own_group")), (.cst (.str ", ")), (.fmr (.fld (.var 0) "own_number")), (.cst (.str ")"))])]
abbrev f_Register___repr__ : FnD := ⟨1, 1, false, [(1, [], [.a 0])], b_Register___repr__⟩
def a_Register___repr__ : Fat × List Str × List Str := (.meth 1 "__repr__", ["self"], ["self"])
/-- __init__ -/
abbrev b_Slots___init__ : List Sm := [.iff (.not1 (.call i_is_count [] [(.var 1)])) [.nev] [], .iff (.not1 (.call i_is_count_from [] [(.var 2), (.cst (.int 1)), (.glo "MOST_BYTES" (.int 16))])) [.nev] [], .fld "own_offset" (.var 1), .fld "own_many" (.var 2)]
abbrev f_Slots___init__ : FnD := ⟨3, 3, false, [], b_Slots___init__⟩
def a_Slots___init__ : Fat × List Str × List Str := (.meth 2 "__init__", ["self", "offset", "many"], ["self", "offset", "many"])
/-- offset -/
abbrev b_Slots_offset : List Sm := [.ret (.fld (.var 0) "own_offset")]
abbrev f_Slots_offset : FnD := ⟨1, 1, false, [(1, [], [.a 0])], b_Slots_offset⟩
def a_Slots_offset : Fat × List Str × List Str := (.prop 2 "offset", ["self"], ["self"])
/-- many -/
abbrev b_Slots_many : List Sm := [.ret (.fld (.var 0) "own_many")]
abbrev f_Slots_many : FnD := ⟨1, 1, false, [(1, [], [.a 0])], b_Slots_many⟩
def a_Slots_many : Fat × List Str × List Str := (.prop 2 "many", ["self"], ["self"])
/-- end -/
abbrev b_Slots_end : List Sm := [.ret (.bin .Add (.fld (.var 0) "own_offset") (.fld (.var 0) "own_many"))]
abbrev f_Slots_end : FnD := ⟨1, 1, false, [(1, [], [.a 0])], b_Slots_end⟩
def a_Slots_end : Fat × List Str × List Str := (.prop 2 "end", ["self"], ["self"])
/-- bits -/
abbrev b_Slots_bits : List Sm := [.ret (.bin .Mult (.glo "BYTE_BITS" (.int 8)) (.fld (.var 0) "own_many"))]
abbrev f_Slots_bits : FnD := ⟨1, 1, false, [(1, [], [.a 0])], b_Slots_bits⟩
def a_Slots_bits : Fat × List Str × List Str := (.prop 2 "bits", ["self"], ["self"])
/-- __contains__ -/
abbrev b_Slots___contains__ : List Sm := [.ret (.and2 (.call i_is_count [] [(.var 1)]) (.chn .LtE .Lt (.fld (.var 0) "own_offset") (.var 1) (.bin .Add (.fld (.var 0) "own_offset") (.fld (.var 0) "own_many"))))]
abbrev f_Slots___contains__ : FnD := ⟨2, 2, false, [(2, [], [.a 0, .a 1])], b_Slots___contains__⟩
def a_Slots___contains__ : Fat × List Str × List Str := (.meth 2 "__contains__", ["self", "value"], ["self", "value"])
/-- meets -/
abbrev b_Slots_meets : List Sm := [.iff (.not1 (.isi (.var 1) [.own j_Slots])) [.nev] [], .ret (.and2 (.cmp .Lt (.fld (.var 0) "own_offset") (.fld (.var 1) "end")) (.cmp .Lt (.fld (.var 1) "offset") (.bin .Add (.fld (.var 0) "own_offset") (.fld (.var 0) "own_many"))))]
abbrev f_Slots_meets : FnD := ⟨2, 2, false, [(2, [], [.a 0, .a 1]), (1, ["other"], [.a 0, .a 1])], b_Slots_meets⟩
def a_Slots_meets : Fat × List Str × List Str := (.meth 2 "meets", ["self", "other"], ["self", "other"])
/-- __add__ -/
abbrev b_Slots___add__ : List Sm := [.iff (.not1 (.call i_is_count [] [(.var 1)])) [.nev] [], .ret (.make j_Slots [] [(.bin .Add (.fld (.var 0) "own_offset") (.var 1)), (.fld (.var 0) "own_many")])]
abbrev f_Slots___add__ : FnD := ⟨2, 2, false, [(2, [], [.a 0, .a 1])], b_Slots___add__⟩
def a_Slots___add__ : Fat × List Str × List Str := (.meth 2 "__add__", ["self", "by"], ["self", "by"])
/-- __sub__ -/
abbrev b_Slots___sub__ : List Sm := [.iff (.or2 (.not1 (.call i_is_count [] [(.var 1)])) (.cmp .Gt (.var 1) (.fld (.var 0) "own_offset"))) [.nev] [], .ret (.make j_Slots [] [(.bin .Sub (.fld (.var 0) "own_offset") (.var 1)), (.fld (.var 0) "own_many")])]
abbrev f_Slots___sub__ : FnD := ⟨2, 2, false, [(2, [], [.a 0, .a 1])], b_Slots___sub__⟩
def a_Slots___sub__ : Fat × List Str × List Str := (.meth 2 "__sub__", ["self", "by"], ["self", "by"])
/-- __eq__ -/
abbrev b_Slots___eq__ : List Sm := [.iff (.not1 (.isi (.var 1) [.own j_Slots])) [.ret (.cst (.bl false))] [], .ret (.and2 (.cmp .Eq (.fld (.var 0) "own_offset") (.fld (.var 1) "own_offset")) (.cmp .Eq (.fld (.var 0) "own_many") (.fld (.var 1) "own_many")))]
abbrev f_Slots___eq__ : FnD := ⟨2, 2, false, [(2, [], [.a 0, .a 1])], b_Slots___eq__⟩
def a_Slots___eq__ : Fat × List Str × List Str := (.meth 2 "__eq__", ["self", "other"], ["self", "other"])
/-- __repr__ -/
abbrev b_Slots___repr__ : List Sm := [.ret (.fst [(.cst (.str "Slots(")), (.fmr (.fld (.var 0) "own_offset")), (.cst (.str ", ")), (.fmr (.fld (.var 0) "own_many")), (.cst (.str ")"))])]
abbrev f_Slots___repr__ : FnD := ⟨1, 1, false, [(1, [], [.a 0])], b_Slots___repr__⟩
def a_Slots___repr__ : Fat × List Str × List Str := (.meth 2 "__repr__", ["self"], ["self"])
/-- __init__ -/
abbrev b_Next___init__ : List Sm := [.iff (.not1 (.call i_is_alignment [] [(.var 1)])) [.nev] [], .iff (.not1 (.call i_is_count_from [] [(.var 2), (.cst (.int 1)), (.glo "MOST_BYTES" (.int 16))])) [.nev] [], .fld "own_align" (.var 1), .fld "own_many" (.var 2)]
abbrev f_Next___init__ : FnD := ⟨3, 3, false, [], b_Next___init__⟩
def a_Next___init__ : Fat × List Str × List Str := (.meth 3 "__init__", ["self", "align", "many"], ["self", "align", "many"])
/-- align -/
abbrev b_Next_align : List Sm := [.ret (.fld (.var 0) "own_align")]
abbrev f_Next_align : FnD := ⟨1, 1, false, [(1, [], [.a 0])], b_Next_align⟩
def a_Next_align : Fat × List Str × List Str := (.prop 3 "align", ["self"], ["self"])
/-- many -/
abbrev b_Next_many : List Sm := [.ret (.fld (.var 0) "own_many")]
abbrev f_Next_many : FnD := ⟨1, 1, false, [(1, [], [.a 0])], b_Next_many⟩
def a_Next_many : Fat × List Str × List Str := (.prop 3 "many", ["self"], ["self"])
/-- bits -/
abbrev b_Next_bits : List Sm := [.ret (.bin .Mult (.glo "BYTE_BITS" (.int 8)) (.fld (.var 0) "own_many"))]
abbrev f_Next_bits : FnD := ⟨1, 1, false, [(1, [], [.a 0])], b_Next_bits⟩
def a_Next_bits : Fat × List Str × List Str := (.prop 3 "bits", ["self"], ["self"])
/-- from_offset -/
abbrev b_Next_from_offset : List Sm := [.iff (.not1 (.call i_is_count [] [(.var 1)])) [.nev] [], .ret (.make j_Slots [] [(.call i_next_multiple [] [(.var 1), (.fld (.var 0) "own_align")]), (.fld (.var 0) "own_many")])]
abbrev f_Next_from_offset : FnD := ⟨2, 2, false, [(2, [], [.a 0, .a 1]), (1, ["offset"], [.a 0, .a 1])], b_Next_from_offset⟩
def a_Next_from_offset : Fat × List Str × List Str := (.meth 3 "from_offset", ["self", "offset"], ["self", "offset"])
/-- __eq__ -/
abbrev b_Next___eq__ : List Sm := [.iff (.not1 (.isi (.var 1) [.own j_Next])) [.ret (.cst (.bl false))] [], .ret (.and2 (.cmp .Eq (.fld (.var 0) "own_align") (.fld (.var 1) "own_align")) (.cmp .Eq (.fld (.var 0) "own_many") (.fld (.var 1) "own_many")))]
abbrev f_Next___eq__ : FnD := ⟨2, 2, false, [(2, [], [.a 0, .a 1])], b_Next___eq__⟩
def a_Next___eq__ : Fat × List Str × List Str := (.meth 3 "__eq__", ["self", "other"], ["self", "other"])
/-- __repr__ -/
abbrev b_Next___repr__ : List Sm := [.ret (.fst [(.cst (.str "Next(")), (.fmr (.fld (.var 0) "own_align")), (.cst (.str ", ")), (.fmr (.fld (.var 0) "own_many")), (.cst (.str ")"))])]
abbrev f_Next___repr__ : FnD := ⟨1, 1, false, [(1, [], [.a 0])], b_Next___repr__⟩
def a_Next___repr__ : Fat × List Str × List Str := (.meth 3 "__repr__", ["self"], ["self"])
/-- _law_pot -/
abbrev b_l_pot : List Sm := [.asg (.nm 2) (.bin .Add (.bin .Mult (.cst (.int 29)) (.var 1)) (.cst (.int 8))), .iff (.cmp .Lt (.var 1) (.bi .len [(.var 0)])) [.asg (.nm 2) (.bi .abs [(.ix (.var 0) (.var 1))])] [], .retF (.lst [(.bi .max [(.cst (.int 0)), (.bin .Sub (.var 2) (.bin .Pow (.cst (.int 10)) (.cst (.int 18))))]), (.bin .Add (.bin .Mod (.bin .Mult (.bi .int [(.bin .Add (.bin .Mod (.bi .int [(.var 2)]) (.cst (.int 2147483549))) (.cst (.int 7)))]) (.bin .Pow (.bin .Add (.bin .Mult (.cst (.int 2)) (.var 1)) (.cst (.int 3))) (.cst (.int 3)))) (.cst (.int 2147483477))) (.cst (.int 1)))])]
abbrev f_l_pot : FnD := ⟨2, 3, true, [(2, [], [.a 0, .a 1])], b_l_pot⟩
def a_l_pot : Fat × List Str × List Str := (.glob "_law_pot", ["_law_script", "_law_k", "_law_cell"], ["_law_script", "_law_k"])
/-- _law_draw -/
abbrev b_l_draw : List Sm := [.iff (.cmp .Gt (.ix (.var 0) (.cst (.int 0))) (.cst (.int 0))) [.tsub (.var 0) (.cst (.int 0)) 2 (.bi .divmod [(.ix (.var 0) (.cst (.int 0))), (.var 1)]), .ret (.var 2)] [], .put (.var 0) (.cst (.int 1)) (.bin .Mod (.bi .int [(.bin .Add (.bin .Mult (.ix (.var 0) (.cst (.int 1))) (.cst (.int 48271))) (.cst (.int 12161)))]) (.cst (.int 2147483587))), .ret (.bin .Mod (.bi .int [(.bin .FloorDiv (.bin .Mod (.bi .int [(.bin .Mult (.ix (.var 0) (.cst (.int 1))) (.ix (.var 0) (.cst (.int 1))))]) (.cst (.int 2147483549))) (.cst (.int 13)))]) (.var 1))]
abbrev f_l_draw : FnD := ⟨2, 3, false, [(2, [], [.a 0, .a 1])], b_l_draw⟩
def a_l_draw : Fat × List Str × List Str := (.glob "_law_draw", ["_law_pot_here", "_law_size", "_law_digit"], ["_law_pot_here", "_law_size"])
/-- _law_pick -/
abbrev b_l_pick : List Sm := [.ret (.ix (.var 1) (.call i_l_draw [] [(.var 0), (.bi .len [(.var 1)])]))]
abbrev f_l_pick : FnD := ⟨2, 2, false, [(2, [], [.a 0, .a 1])], b_l_pick⟩
def a_l_pick : Fat × List Str × List Str := (.glob "_law_pick", ["_law_pot_here", "_law_some"], ["_law_pot_here", "_law_some"])
/-- _law_registers_right -/
abbrev b_l_registers_right : List Sm := [.par 2 3 (.call i_l_pick [] [(.var 0), (.lst [(.cst (.str "whole")), (.cst (.str "float"))])]) (.call i_l_draw [] [(.var 0), (.cst (.int 8))]), .par 4 5 (.make j_Register [] [(.var 2), (.var 3)]) (.make j_Register ["number", "group"] [(.var 3), (.var 2)]), .iff (.or2 (.cmp .NotEq (.lst [(.fld (.var 4) "group"), (.fld (.var 4) "number"), (.fld (.var 4) "bits")]) (.lst [(.var 2), (.var 3), (.cst (.int 64))])) (.not1 (.cmp .Eq (.var 4) (.var 5)))) [.ret (.cst (.bl false))] [], .iff (.cmp .NotEq (.fld (.mk0 j_Place) "bits") (.cst (.int 0))) [.ret (.cst (.bl false))] [], .iff (.cmp .NotEq (.bi .repr [(.var 4)]) (.bin .Add (.bin .Add (.bin .Add (.bin .Add (.cst (.str "Register('")) (.var 2)) (.cst (.str "', "))) (.bi .str [(.var 3)])) (.cst (.str ")")))) [.ret (.cst (.bl false))] [], .iff (.not1 (.isi (.var 4) [.own j_Place])) [.ret (.cst (.bl false))] [], .for_ (.nm 1) (.lst [(.cst (.str "whole")), (.cst (.str "float"))]) [.for_ (.nm 6) (.rng1 (.cst (.int 8))) [.iff (.cmp .NotEq (.cmp .Eq (.var 4) (.make j_Register [] [(.var 1), (.var 6)])) (.and2 (.cmp .Eq (.var 1) (.var 2)) (.cmp .Eq (.var 6) (.var 3)))) [.ret (.cst (.bl false))] []]], .ret (.cst (.bl true))]
abbrev f_l_registers_right : FnD := ⟨1, 7, false, [(1, [], [.a 0])], b_l_registers_right⟩
def a_l_registers_right : Fat × List Str × List Str := (.glob "_law_registers_right", ["_law_pot_here", "_law_other_group", "_law_side", "_law_number_now", "_law_near", "_law_again", "_law_k"], ["_law_pot_here"])
/-- _law_bytes -/
abbrev b_l_bytes : List Sm := [.ret (.lrg2 (.var 0) (.bin .Add (.var 0) (.var 1)))]
abbrev f_l_bytes : FnD := ⟨2, 2, false, [(2, [], [.a 0, .a 1])], b_l_bytes⟩
def a_l_bytes : Fat × List Str × List Str := (.glob "_law_bytes", ["_law_start", "_law_big"], ["_law_start", "_law_big"])
/-- _law_slots_right -/
abbrev b_l_slots_right : List Sm := [.asg (.nm 3) (.make j_Slots [] [(.var 1), (.var 2)]), .asg (.nm 4) (.call i_l_bytes [] [(.var 1), (.var 2)]), .iff (.cmp .NotEq (.lst [(.fld (.var 3) "offset"), (.fld (.var 3) "many"), (.fld (.var 3) "end"), (.fld (.var 3) "bits")]) (.lst [(.var 1), (.var 2), (.bin .Add (.ix (.var 4) (.neg (.cst (.int 1)))) (.cst (.int 1))), (.bin .Mult (.cst (.int 8)) (.bi .len [(.var 4)]))])) [.ret (.cst (.bl false))] [], .iff (.or2 (.cmp .NotEq (.bi .repr [(.var 3)]) (.bin .Add (.bin .Add (.bin .Add (.bin .Add (.cst (.str "Slots(")) (.bi .str [(.var 1)])) (.cst (.str ", "))) (.bi .str [(.var 2)])) (.cst (.str ")")))) (.not1 (.isi (.var 3) [.own j_Place]))) [.ret (.cst (.bl false))] [], .for_ (.nm 5) (.rng1 (.cst (.int 4))) [.asg (.nm 7) (.bi .max [(.cst (.int 0)), (.bin .Sub (.bin .Add (.var 1) (.call i_l_draw [] [(.var 0), (.cst (.int 40))])) (.cst (.int 20)))]), .asg (.nm 8) (.call i_l_pick [] [(.var 0), (.lst [(.var 2), (.cst (.int 1)), (.cst (.int 16)), (.bin .Add (.cst (.int 1)) (.call i_l_draw [] [(.var 0), (.cst (.int 16))]))])]), .asg (.tp [(.nm 10), (.nm 11)]) (.tup [(.make j_Slots ["many", "offset"] [(.var 8), (.var 7)]), (.call i_l_bytes [] [(.var 7), (.var 8)])]), .asg (.nm 9) (.cmp .Gt (.bi .len [(.comp (.var 12) [12] (.nm 12) (.var 4) (.cmp .In (.var 12) (.var 11)))]) (.cst (.int 0))), .iff (.cmp .NotEq (.bi .repr [(.lst [(.meth (.var 3) "meets" [] [(.var 10)]), (.meth (.var 10) "meets" ["other"] [(.var 3)])])]) (.bi .repr [(.lst [(.var 9), (.var 9)])])) [.ret (.cst (.bl false))] [], .iff (.cmp .NotEq (.cmp .Eq (.var 3) (.var 10)) (.cmp .Eq (.var 11) (.var 4))) [.ret (.cst (.bl false))] []], .asg (.nm 6) (.lst [(.bin .Sub (.var 1) (.cst (.int 1))), (.var 1), (.ix (.var 4) (.neg (.cst (.int 1)))), (.bin .Add (.ix (.var 4) (.neg (.cst (.int 1)))) (.cst (.int 1))), (.bin .Add (.var 1) (.call i_l_draw [] [(.var 0), (.cst (.int 20))]))]), .iff (.cmp .NotEq (.comp (.cmp .In (.var 12) (.var 3)) [12] (.nm 12) (.var 6) (.cst (.bl true))) (.comp (.cmp .In (.var 12) (.var 4)) [12] (.nm 12) (.var 6) (.cst (.bl true)))) [.ret (.cst (.bl false))] [], .ret (.cmp .Eq (.comp (.cmp .In (.var 13) (.var 3)) [13] (.nm 13) (.lst [(.cst (.bl true)), (.cst (.non)), (.bi .str [(.var 1)]), (.lst [(.var 1)]), (.var 3), (.bin .Sub (.cst (.int 0)) (.cst (.int 1)))]) (.cst (.bl true))) (.bin .Mult (.lst [(.cst (.bl false))]) (.cst (.int 6))))]
abbrev f_l_slots_right : FnD := ⟨3, 14, false, [(3, [], [.a 0, .a 1, .a 2])], b_l_slots_right⟩
def a_l_slots_right : Fat × List Str × List Str := (.glob "_law_slots_right", ["_law_pot_here", "_law_start", "_law_big", "_law_told", "_law_own", "_law_turn", "_law_near", "_law_other_offset", "_law_other_many", "_law_due", "_law_mate", "_law_others", "_law_byte", "_law_thing"], ["_law_pot_here", "_law_start", "_law_big"])
/-- _law_moved_right -/
abbrev b_l_moved_right : List Sm := [.par 8 9 (.make j_Slots [] [(.var 1), (.var 2)]) (.call i_l_pick [] [(.var 0), (.lst [(.cst (.int 0)), (.cst (.int 1)), (.cst (.int 16)), (.call i_l_draw [] [(.var 0), (.bin .Pow (.cst (.int 10)) (.cst (.int 9)))])])]), .asg (.nm 3) (.bin .Add (.var 8) (.var 9)), .asg (.nm 4) (.bin .Sub (.var 3) (.var 9)), .asg (.nm 5) (.lst [(.bin .Add (.var 1) (.var 9)), (.var 2), (.bin .Add (.bin .Add (.var 1) (.var 9)) (.var 2))]), .iff (.or2 (.cmp .NotEq (.lst [(.fld (.var 3) "offset"), (.fld (.var 3) "many"), (.fld (.var 3) "end")]) (.var 5)) (.not1 (.cmp .Eq (.var 4) (.var 8)))) [.ret (.cst (.bl false))] [], .iff (.or2 (.cmp .NotEq (.cmp .Eq (.var 3) (.var 8)) (.cmp .Eq (.var 9) (.cst (.int 0)))) (.cmp .NotEq (.fld (.bin .Sub (.var 8) (.var 1)) "offset") (.cst (.int 0)))) [.ret (.cst (.bl false))] [], .asg (.nm 6) (.var 8), .aug 6 .Add (.var 9), .asg (.nm 7) (.var 3), .aug 7 .Sub (.var 9), .iff (.cmp .NotEq (.lst [(.fld (.var 8) "offset"), (.fld (.var 3) "offset")]) (.lst [(.var 1), (.bin .Add (.var 1) (.var 9))])) [.ret (.cst (.bl false))] [], .ret (.and2 (.cmp .Eq (.var 6) (.var 3)) (.cmp .Eq (.var 7) (.var 8)))]
abbrev f_l_moved_right : FnD := ⟨3, 10, false, [(3, [], [.a 0, .a 1, .a 2])], b_l_moved_right⟩
def a_l_moved_right : Fat × List Str × List Str := (.glob "_law_moved_right", ["_law_pot_here", "_law_start", "_law_big", "_law_there", "_law_back", "_law_due", "_law_moved", "_law_less", "_law_told", "_law_far"], ["_law_pot_here", "_law_start", "_law_big"])
/-- _law_nexts_right -/
abbrev b_l_nexts_right : List Sm := [.par 4 5 (.call i_l_pick [] [(.var 0), (.lst [(.cst (.int 1)), (.cst (.int 2)), (.cst (.int 4)), (.cst (.int 8)), (.cst (.int 16))])]) (.bin .Add (.cst (.int 1)) (.call i_l_draw [] [(.var 0), (.cst (.int 16))])), .asg (.nm 1) (.make j_Next [] [(.var 4), (.var 5)]), .iff (.or2 (.cmp .NotEq (.lst [(.fld (.var 1) "align"), (.fld (.var 1) "many"), (.fld (.var 1) "bits")]) (.lst [(.var 4), (.var 5), (.bin .Mult (.cst (.int 8)) (.var 5))])) (.not1 (.isi (.var 1) [.own j_Place]))) [.ret (.cst (.bl false))] [], .iff (.cmp .NotEq (.bi .repr [(.var 1)]) (.bin .Add (.bin .Add (.bin .Add (.bin .Add (.cst (.str "Next(")) (.bi .str [(.var 4)])) (.cst (.str ", "))) (.bi .str [(.var 5)])) (.cst (.str ")")))) [.ret (.cst (.bl false))] [], .iff (.not1 (.cmp .Eq (.var 1) (.make j_Next ["many", "align"] [(.var 5), (.var 4)]))) [.ret (.cst (.bl false))] [], .for_ (.nm 2) (.rng1 (.cst (.int 4))) [.asg (.nm 6) (.call i_l_pick [] [(.var 0), (.lst [(.cst (.int 0)), (.cst (.int 1)), (.cst (.int 15)), (.cst (.int 16)), (.cst (.int 17)), (.call i_l_draw [] [(.var 0), (.cst (.int 64))]), (.bin .Add (.bin .Pow (.cst (.int 10)) (.cst (.int 20))) (.call i_l_draw [] [(.var 0), (.cst (.int 64))]))])]), .asg (.nm 7) (.var 6), .whl 100000 (.cmp .Gt (.bin .Mod (.var 7) (.var 4)) (.cst (.int 0))) [.asg (.nm 7) (.bin .Add (.var 7) (.cst (.int 1)))], .asg (.nm 8) (.ife (.cmp .Eq (.bin .Mod (.var 2) (.cst (.int 2))) (.cst (.int 0))) (.meth (.var 1) "from_offset" [] [(.var 6)]) (.meth (.var 1) "from_offset" ["offset"] [(.var 6)])), .iff (.or2 (.not1 (.isi (.var 8) [.own j_Slots])) (.cmp .NotEq (.lst [(.fld (.var 8) "offset"), (.fld (.var 8) "many")]) (.lst [(.var 7), (.var 5)]))) [.ret (.cst (.bl false))] []], .for_ (.nm 3) (.lst [(.cst (.int 1)), (.cst (.int 2)), (.cst (.int 4)), (.cst (.int 8)), (.cst (.int 16))]) [.for_ (.nm 9) (.lst [(.var 5), (.bin .Add (.cst (.int 1)) (.call i_l_draw [] [(.var 0), (.cst (.int 16))]))]) [.iff (.cmp .NotEq (.cmp .Eq (.var 1) (.make j_Next [] [(.var 3), (.var 9)])) (.and2 (.cmp .Eq (.var 3) (.var 4)) (.cmp .Eq (.var 9) (.var 5)))) [.ret (.cst (.bl false))] []]], .ret (.cst (.bl true))]
abbrev f_l_nexts_right : FnD := ⟨1, 10, false, [(1, [], [.a 0])], b_l_nexts_right⟩
def a_l_nexts_right : Fat × List Str × List Str := (.glob "_law_nexts_right", ["_law_pot_here", "_law_told", "_law_turn", "_law_near", "_law_align_now", "_law_big", "_law_begin", "_law_due", "_law_made", "_law_size"], ["_law_pot_here"])
/-- _law_unlike_right -/
abbrev b_l_unlike_right : List Sm := [.asg (.nm 1) (.bin .Add (.cst (.int 1)) (.call i_l_draw [] [(.var 0), (.cst (.int 16))])), .asg (.nm 2) (.lst [(.make j_Register [] [(.cst (.str "whole")), (.cst (.int 1))]), (.make j_Register [] [(.cst (.str "float")), (.cst (.int 1))]), (.make j_Slots [] [(.cst (.int 8)), (.var 1)]), (.make j_Next [] [(.cst (.int 8)), (.var 1)]), (.tup [(.cst (.str "whole")), (.cst (.int 1))]), (.tup [(.cst (.int 8)), (.var 1)])]), .asg (.nm 2) (.bin .Add (.var 2) (.lst [(.cst (.int 8)), (.var 1), (.cst (.non)), (.cst (.str "whole")), (.lst [(.cst (.int 8)), (.var 1)]), (.bin .Add (.bin .Add (.cst (.str "Slots(8, ")) (.bi .str [(.var 1)])) (.cst (.str ")")))])), .for_ (.tp [(.nm 3), (.nm 4)]) (.enm (.slcH (.var 2) (.cst (.int 4)))) [.iff (.cmp .NotEq (.comp (.cmp .Eq (.var 4) (.var 5)) [5] (.nm 5) (.var 2) (.cst (.bl true))) (.comp (.cmp .Eq (.var 6) (.var 3)) [6] (.nm 6) (.rng1 (.bi .len [(.var 2)])) (.cst (.bl true)))) [.ret (.cst (.bl false))] [], .iff (.cmp .NotEq (.comp (.cmp .Eq (.var 5) (.var 4)) [5] (.nm 5) (.slcL (.var 2) (.cst (.int 4))) (.cst (.bl true))) (.bin .Mult (.lst [(.cst (.bl false))]) (.bin .Sub (.bi .len [(.var 2)]) (.cst (.int 4))))) [.ret (.cst (.bl false))] []], .ret (.cst (.bl true))]
abbrev f_l_unlike_right : FnD := ⟨1, 7, false, [(1, [], [.a 0])], b_l_unlike_right⟩
def a_l_unlike_right : Fat × List Str × List Str := (.glob "_law_unlike_right", ["_law_pot_here", "_law_big", "_law_things", "_law_k", "_law_one", "_law_thing", "_law_j"], ["_law_pot_here"])
/-- _law_right -/
abbrev b_l_right : List Sm := [.iff (.or2 (.not1 (.call i_l_registers_right [] [(.var 0)])) (.or2 (.not1 (.call i_l_nexts_right [] [(.var 0)])) (.not1 (.call i_l_unlike_right [] [(.var 0)])))) [.ret (.cst (.bl false))] [], .for_ (.nm 1) (.rng1 (.cst (.int 3))) [.asg (.nm 2) (.call i_l_pick [] [(.var 0), (.lst [(.cst (.int 0)), (.call i_l_draw [] [(.var 0), (.cst (.int 20))]), (.call i_l_draw [] [(.var 0), (.cst (.int 64))]), (.bin .Add (.bin .Pow (.cst (.int 10)) (.cst (.int 20))) (.call i_l_draw [] [(.var 0), (.cst (.int 99))]))])]), .asg (.nm 3) (.call i_l_pick [] [(.var 0), (.lst [(.cst (.int 1)), (.cst (.int 16)), (.bin .Add (.cst (.int 1)) (.call i_l_draw [] [(.var 0), (.cst (.int 16))]))])]), .iff (.or2 (.not1 (.call i_l_slots_right [] [(.var 0), (.var 2), (.var 3)])) (.not1 (.call i_l_moved_right [] [(.var 0), (.var 2), (.var 3)]))) [.ret (.cst (.bl false))] []], .ret (.cst (.bl true))]
abbrev f_l_right : FnD := ⟨1, 4, false, [(1, [], [.a 0])], b_l_right⟩
def a_l_right : Fat × List Str × List Str := (.glob "_law_right", ["_law_pot_here", "_law_turn", "_law_start", "_law_big"], ["_law_pot_here"])
/-- law -/
abbrev b_law : List Sm := [.ret (.bi .all [(.comp (.call i_l_right [] [(.call i_l_pot [] [(.var 0), (.var 1)])]) [1] (.nm 1) (.rng1 (.bi .max [(.cst (.int 1)), (.bi .min [(.bi .len [(.var 0)]), (.cst (.int 4))])])) (.cst (.bl true)))])]
abbrev f_law : FnD := ⟨1, 2, false, [(1, [], [.a 0])], b_law⟩
def a_law : Fat × List Str × List Str := (.glob "law", ["_law_script", "_law_k"], ["_law_script"])
def c0 : ClD := ⟨0, [], [], [("bits", 6)], [], [], [0], true⟩
def c1 : ClD := ⟨7, [(2, [], [.a 0, .a 1]), (0, ["number", "group"], [.a 1, .a 0])], [("__eq__", 11), ("__repr__", 12)], [("group", 8), ("number", 9), ("bits", 10)], [], ["own_group", "own_number"], [1, 0], false⟩
def c2 : ClD := ⟨13, [(2, [], [.a 0, .a 1]), (0, ["many", "offset"], [.a 1, .a 0])], [("__contains__", 18), ("meets", 19), ("__add__", 20), ("__sub__", 21), ("__eq__", 22), ("__repr__", 23)], [("offset", 14), ("many", 15), ("end", 16), ("bits", 17)], [], ["own_offset", "own_many"], [2, 0], false⟩
def c3 : ClD := ⟨24, [(2, [], [.a 0, .a 1]), (0, ["many", "align"], [.a 1, .a 0])], [("from_offset", 28), ("__eq__", 29), ("__repr__", 30)], [("align", 25), ("many", 26), ("bits", 27)], [], ["own_align", "own_many"], [3, 0], false⟩
def pg : Pg := ⟨[f_is_integer, f_is_count, f_is_count_from, f_next_multiple, f_is_group, f_is_alignment, f_Place_bits, f_Register___init__, f_Register_group, f_Register_number, f_Register_bits, f_Register___eq__, f_Register___repr__, f_Slots___init__, f_Slots_offset, f_Slots_many, f_Slots_end, f_Slots_bits, f_Slots___contains__, f_Slots_meets, f_Slots___add__, f_Slots___sub__, f_Slots___eq__, f_Slots___repr__, f_Next___init__, f_Next_align, f_Next_many, f_Next_bits, f_Next_from_offset, f_Next___eq__, f_Next___repr__, f_l_pot, f_l_draw, f_l_pick, f_l_registers_right, f_l_bytes, f_l_slots_right, f_l_moved_right, f_l_nexts_right, f_l_unlike_right, f_l_right, f_law], [c0, c1, c2, c3], []⟩
def gfs : List (Str × Nat) := [("is_integer", 0), ("is_count", 1), ("is_count_from", 2), ("next_multiple", 3), ("is_group", 4), ("is_alignment", 5), ("_law_pot", 31), ("_law_draw", 32), ("_law_pick", 33), ("_law_registers_right", 34), ("_law_bytes", 35), ("_law_slots_right", 36), ("_law_moved_right", 37), ("_law_nexts_right", 38), ("_law_unlike_right", 39), ("_law_right", 40), ("law", 41)]
def gcs : List (Str × Nat) := [("Place", 0), ("Register", 1), ("Slots", 2), ("Next", 3)]
def gds : List (Str × Dt) := [("WHOLE", .str "whole"), ("FLOAT", .str "float"), ("GROUPS", .tup [(.str "whole"), (.str "float")]), ("ALIGNMENTS", .tup [(.int 1), (.int 2), (.int 4), (.int 8), (.int 16)]), ("MOST_NUMBER", .int 7), ("REGISTER_BITS", .int 64), ("BYTE_BITS", .int 8), ("MOST_BYTES", .int 16)]
def bns : List Str := ["abs", "all", "bool", "divmod", "enumerate", "int", "isinstance", "len", "list", "max", "min", "range", "repr", "str"]
def tb : TbD := ⟨⟨[], pg, gfs, gcs, gds, bns⟩, [a_is_integer, a_is_count, a_is_count_from, a_next_multiple, a_is_group, a_is_alignment, a_Place_bits, a_Register___init__, a_Register_group, a_Register_number, a_Register_bits, a_Register___eq__, a_Register___repr__, a_Slots___init__, a_Slots_offset, a_Slots_many, a_Slots_end, a_Slots_bits, a_Slots___contains__, a_Slots_meets, a_Slots___add__, a_Slots___sub__, a_Slots___eq__, a_Slots___repr__, a_Next___init__, a_Next_align, a_Next_many, a_Next_bits, a_Next_from_offset, a_Next___eq__, a_Next___repr__, a_l_pot, a_l_draw, a_l_pick, a_l_registers_right, a_l_bytes, a_l_slots_right, a_l_moved_right, a_l_nexts_right, a_l_unlike_right, a_l_right, a_law], ["Place", "Register", "Slots", "Next"]⟩
def lo0 : List Str := ["is_integer", "is_count", "is_count_from", "next_multiple", "CallError", "InvalidNumber", "InvalidPlace", "WHOLE", "FLOAT", "GROUPS", "ALIGNMENTS", "MOST_NUMBER", "REGISTER_BITS", "BYTE_BITS", "MOST_BYTES", "is_group", "is_alignment", "Place", "Register", "Slots", "Next", "_law_pot", "_law_draw", "_law_pick", "_law_registers_right", "_law_bytes", "_law_slots_right", "_law_moved_right", "_law_nexts_right", "_law_unlike_right"]
def lo1 : List Str := ["_law_right"]
def loose : List Str := lo0 ++ lo1
abbrev lawIx : Nat := 35
abbrev lawF : Nat := 41
end K11
namespace K11
open PySem PySem.Spec PyProof.Rows PyI
abbrev C (n : Nat) := Cf pg n
abbrev D (n : Nat) := Df pg n
local macro_rules | `(tactic| walk_at "side") => `(tactic| first | with_reducible rfl | with_reducible assumption | omega | (simp; done) | (simp; omega))
local macro_rules | `(tactic| walk_at "call") => `(tactic| with_reducible assumption)
local macro_rules | `(tactic| walk_at "op") => `(tactic| first | with_reducible assumption | exact rfl)
local macro_rules | `(tactic| walk_at "bi") => `(tactic| first | with_reducible assumption | exact rfl)
local macro_rules | `(tactic| walk_at "cmp") => `(tactic| first
  | with_reducible assumption
  | exact c_pl rfl (by with_reducible assumption)
  | exact c_pl rfl eqDI
  | exact c_pl rfl neDI
  | exact c_pl rfl neDB
  | exact c_pl rfl rfl
  | ((with_reducible apply w_eq); exact rfl; exact rfl; walk_at "call")
  | ((with_reducible apply w_in); exact rfl; walk_at "call"))
local macro_rules | `(tactic| walk_at "cond") => `(tactic| first
  | ((with_reducible apply cond_t); (focus walk_at "side"))
  | ((with_reducible apply cond_f); (focus walk_at "side")))
local macro_rules | `(tactic| walk_at "meth") => `(tactic| ((with_reducible apply w_meth); walk_at "e"; exact rfl; exact rfl; walk_at "es"; exact rfl; exact rfl; exact rfl; walk_at "call"))
local macro_rules | `(tactic| walk_at "fld") => `(tactic| first
  | ((with_reducible apply e_fld); walk_at "e"; exact rfl; exact rfl; exact rfl)
  | ((with_reducible apply w_prop); walk_at "e"; exact rfl; walk_at "call"))
local macro_rules | `(tactic| walk_at "bin") => `(tactic| first
  | ((with_reducible apply e_bin); walk_at "e"; walk_at "e"; walk_at "op")
  | ((with_reducible apply w_binO); walk_at "e"; walk_at "e"; exact rfl; exact rfl; walk_at "call"))
local macro_rules | `(tactic| walk_at "e") => `(tactic| first
  | ((with_reducible apply e_var); exact rfl)
  | with_reducible exact e_cst
  | with_reducible exact e_glo
  | walk_at "bin"
  | ((with_reducible apply e_cmp); walk_at "e"; walk_at "e"; walk_at "cmp")
  | ((with_reducible apply w_call); walk_at "es"; exact rfl; exact rfl; exact rfl; walk_at "call")
  | ((with_reducible apply e_not); walk_at "e")
  | ((with_reducible apply e_ix); walk_at "e"; walk_at "e"; walk_at "op")
  | ((with_reducible apply e_bi); walk_at "es"; walk_at "bi")
  | ((with_reducible apply w_and); walk_at "e"; walk_at "cond"; walk_at "ke")
  | ((with_reducible apply w_or); walk_at "e"; walk_at "cond"; walk_at "ke")
  | ((with_reducible apply e_and); walk_at "e"; walk_at "e")
  | ((with_reducible apply e_or); walk_at "e"; walk_at "e")
  | ((with_reducible apply e_chn); walk_at "e"; walk_at "e"; exact rfl; walk_at "e"; exact rfl)
  | ((with_reducible apply w_ife); walk_at "e"; walk_at "cond"; walk_at "e")
  | ((with_reducible apply e_lst); walk_at "es"; exact Nat.le_of_ble_eq_true rfl)
  | ((with_reducible apply e_tup); walk_at "es"; exact Nat.le_of_ble_eq_true rfl)
  | ((with_reducible apply w_make); walk_at "es"; exact rfl; exact rfl; exact rfl; walk_at "call")
  | walk_at "meth"
  | walk_at "fld"
  | ((with_reducible apply e_neg); walk_at "e")
  | ((with_reducible apply e_isi); walk_at "e"; exact rfl)
  | ((with_reducible apply e_slcL); walk_at "e"; walk_at "e"; walk_at "op")
  | ((with_reducible apply e_slcH); walk_at "e"; walk_at "e"; walk_at "op")
  | ((with_reducible apply e_mk0); exact rfl; exact rfl)
  | with_reducible assumption)
local macro_rules | `(tactic| walk_at "ke") => `(tactic| first | with_reducible rfl | walk_at "e")
local macro_rules | `(tactic| walk_at "es") => `(tactic| first
  | with_reducible exact e_nil
  | ((with_reducible apply e_cons); walk_at "e"; walk_at "es"))
local macro_rules | `(tactic| walk_at "s") => `(tactic| first
  | ((with_reducible apply w_asg); walk_at "e"; exact rfl)
  | ((with_reducible apply w_if); walk_at "e"; walk_at "cond"; walk_at "ss")
  | ((with_reducible apply s_ret); walk_at "e")
  | ((with_reducible apply s_exp); walk_at "e")
  | ((with_reducible apply s_fld); walk_at "e"; exact rfl; exact rfl; exact Nat.le_of_ble_eq_true rfl)
  | ((with_reducible apply w_par); walk_at "e"; walk_at "e"; exact ⟨Nat.le_of_ble_eq_true rfl, Nat.le_of_ble_eq_true rfl⟩)
  | ((with_reducible apply w_aug); exact rfl; walk_at "e"; exact rfl; exact rfl; walk_at "call"; exact Nat.le_of_ble_eq_true rfl)
  | with_reducible assumption)
local macro_rules | `(tactic| walk_at "k") => `(tactic| first | with_reducible exact w_rt | ((with_reducible apply w_nx); walk_at "ss"))
local macro_rules | `(tactic| walk_at "ss") => `(tactic| first
  | with_reducible exact s_nil
  | ((with_reducible apply w_seq); walk_at "s"; walk_at "k"))
local macro_rules | `(tactic| walk_at "run") => `(tactic| (apply q_run (hl := ⟨rfl, Nat.le_of_ble_eq_true rfl⟩) (hc := rfl) (hg := rfl); walk_at "ss"; (first | rfl | skip); (first | rfl | skip)))
local macro_rules | `(tactic| walk_at "end") => `(tactic| (apply q_end (hl := ⟨rfl, Nat.le_of_ble_eq_true rfl⟩) (hc := rfl) (hg := rfl); walk_at "ss"; (first | rfl | skip)))
local macro_rules | `(tactic| walk_at "make") => `(tactic| (apply q_make (hl := ⟨rfl, Nat.le_of_ble_eq_true rfl⟩) (hg := rfl) (hcl := rfl); walk_at "ss"; exact rfl; (first | rfl | skip); (first | rfl | skip)))
local macro_rules | `(tactic| walk_at "op") => `(tactic| exact op_fdivI (by omega))
local macro_rules | `(tactic| walk_at "op") => `(tactic| exact op_modI (by omega))
local macro_rules | `(tactic| walk_at "op") => `(tactic| exact op_mulI (by omega))
local macro_rules | `(tactic| walk_at "op") => `(tactic| exact op_mulL (by omega))
local macro_rules | `(tactic| walk_at "op") => `(tactic| first | with_reducible assumption | exact rfl)
theorem le_b {a b : Nat} (h : Nat.ble a b = true) : a ≤ b := Nat.le_of_ble_eq_true h
/-! words and data -/
def gw : Bool → Str
  | true => "whole"
  | false => "float"
abbrev regD (g : Bool) (n : Int) : Dt := .ins j_Register ["own_group", "own_number"] [.str (gw g), .int n]
abbrev sloD (o n : Int) : Dt := .ins j_Slots ["own_offset", "own_many"] [.int o, .int n]
abbrev nxtD (a n : Int) : Dt := .ins j_Next ["own_align", "own_many"] [.int a, .int n]
theorem inG {g : Bool} : cmpD .In (.str (gw g)) (.tup [.str "whole", .str "float"]) = some true := by cases g <;> kernel_rfl
theorem eqG {g h : Bool} : cmpD .Eq (.str (gw g)) (.str (gw h)) = some (g == h) := by cases g <;> cases h <;> kernel_rfl
theorem eqI {a b : Int} : cmpD .Eq (.int a) (.int b) = some (a == b) := rfl
/-! basics -/
theorem r_is_integer {N : Nat} {v : Int} {m : List Dt} : C (N + 1) i_is_integer [.int v] m = .ok (.p (.bl true)) m := by
  walk_at "run"
local macro_rules | `(tactic| walk_at "call") => `(tactic| exact r_is_integer)
theorem r_is_count {N : Nat} {v : Int} {m : List Dt} : C (N + 2) i_is_count [.int v] m = .ok (.p (.bl (decide (0 ≤ v)))) m := by
  walk_at "run"
local macro_rules | `(tactic| walk_at "call") => `(tactic| exact r_is_count)
theorem r_is_count_from {N : Nat} {v a b : Int} {m : List Dt} (h : 0 ≤ v ∧ a ≤ v ∧ v ≤ b) : C (N + 3) i_is_count_from [.int v, .int a, .int b] m = .ok (.p (.bl true)) m := by
  refine q_run (hg := rfl) ⟨rfl, le_b rfl⟩ rfl (s_stop (s_ret (e_and (e_call (e_cons (e_var rfl) e_nil) rfl rfl rfl r_is_count) (e_chn (e_var rfl) (e_var rfl) rfl (e_var rfl) rfl)))) ?_ rfl
  simp
  omega
local macro_rules | `(tactic| walk_at "call") => `(tactic| exact r_is_count_from (by omega))
theorem r_is_group {N : Nat} {g : Bool} {m : List Dt} : C (N + 1) i_is_group [.str (gw g)] m = .ok (.p (.bl true)) m := by
  have h := inG (g := g)
  walk_at "run"
local macro_rules | `(tactic| walk_at "call") => `(tactic| exact r_is_group)
theorem mk_reg {N : Nat} {g : Bool} {n : Int} {m : List Dt} (h : 0 ≤ n ∧ n ≤ 7) : D (N + 4) j_Register [.str (gw g), .int n] m = .ok (.p (regD g n)) m := by
  walk_at "make"
theorem mk_slo {N : Nat} {o n : Int} {m : List Dt} (h : 0 ≤ o) (h1 : 1 ≤ n ∧ n ≤ 16) : D (N + 4) j_Slots [.int o, .int n] m = .ok (.p (sloD o n)) m := by
  walk_at "make"
/-! slots -/
theorem r_off {N : Nat} {o n : Int} {m : List Dt} : C (N + 1) i_Slots_offset [sloD o n] m = .ok (.p (.int o)) m := by walk_at "run"
theorem r_many {N : Nat} {o n : Int} {m : List Dt} : C (N + 1) i_Slots_many [sloD o n] m = .ok (.p (.int n)) m := by walk_at "run"
theorem r_end {N : Nat} {o n : Int} {m : List Dt} : C (N + 1) i_Slots_end [sloD o n] m = .ok (.p (.int (o + n))) m := by walk_at "run"
theorem r_bits {N : Nat} {o n : Int} {m : List Dt} : C (N + 1) i_Slots_bits [sloD o n] m = .ok (.p (.int (8 * n))) m := by walk_at "run"
local macro_rules | `(tactic| walk_at "call") => `(tactic| exact r_off)
local macro_rules | `(tactic| walk_at "call") => `(tactic| exact r_many)
local macro_rules | `(tactic| walk_at "call") => `(tactic| exact r_end)
local macro_rules | `(tactic| walk_at "call") => `(tactic| exact r_bits)
theorem r_cont {N : Nat} {o n v : Int} {m : List Dt} : C (N + 3) i_Slots___contains__ [sloD o n, .int v] m = .ok (.p (.bl (decide (0 ≤ v) && (decide (o ≤ v) && decide (v < o + n))))) m := by walk_at "run"
theorem r_meets {N : Nat} {o n p q : Int} {m : List Dt} : C (N + 2) i_Slots_meets [sloD o n, sloD p q] m = .ok (.p (.bl (decide (o < p + q) && decide (p < o + n)))) m := by walk_at "run"
local macro_rules | `(tactic| walk_at "call") => `(tactic| exact mk_slo (by omega) (by omega))
theorem r_add {N : Nat} {o n v : Int} {m : List Dt} (h : 0 ≤ o) (h1 : 1 ≤ n ∧ n ≤ 16) (hv : 0 ≤ v) : C (N + 5) i_Slots___add__ [sloD o n, .int v] m = .ok (.p (sloD (o + v) n)) m := by walk_at "run"
theorem r_sub {N : Nat} {o n v : Int} {m : List Dt} (h : 0 ≤ o) (h1 : 1 ≤ n ∧ n ≤ 16) (hv : 0 ≤ v ∧ v ≤ o) : C (N + 5) i_Slots___sub__ [sloD o n, .int v] m = .ok (.p (sloD (o - v) n)) m := by walk_at "run"
theorem r_seq {N : Nat} {o n p q : Int} {m : List Dt} : C (N + 1) i_Slots___eq__ [sloD o n, sloD p q] m = .ok (.p (.bl (decide (o = p) && decide (n = q)))) m := by walk_at "run"
/-! registers -/
theorem r_grp {N : Nat} {g : Bool} {n : Int} {m : List Dt} : C (N + 1) i_Register_group [regD g n] m = .ok (.p (.str (gw g))) m := by walk_at "run"
/-! nexts -/
theorem r_nm {N : Nat} {v b : Int} {m : List Dt} (h : 0 < b ∧ b < 1000) : C (N + 1) i_next_multiple [.int v, .int b] m = .ok (.p (.int ((v + b - 1) / b * b))) m := by walk_at "run"
local macro_rules | `(tactic| walk_at "call") => `(tactic| exact r_nm (by omega))
def okA (a : Int) : Prop := a = 1 ∨ a = 2 ∨ a = 4 ∨ a = 8 ∨ a = 16
theorem okA_lt {a : Int} (h : okA a) : 0 < a ∧ a ≤ 16 := by
  rcases h with h | h | h | h | h <;> omega
theorem r_isal {N : Nat} {a : Int} {m : List Dt} (h : okA a) : C (N + 3) i_is_alignment [.int a] m = .ok (.p (.bl true)) m := by
  rcases h with h | h | h | h | h <;> subst h <;> kernel_rfl
local macro_rules | `(tactic| walk_at "call") => `(tactic| exact r_isal (by assumption))
theorem mk_nxt {N : Nat} {a n : Int} {m : List Dt} (h : okA a) (h1 : 1 ≤ n ∧ n ≤ 16) : D (N + 4) j_Next [.int a, .int n] m = .ok (.p (nxtD a n)) m := by walk_at "make"
theorem nm_pos {v b : Int} (h : 0 ≤ v) (hb : 0 < b) : 0 ≤ (v + b - 1) / b * b := Int.mul_nonneg (Int.ediv_nonneg (by omega) (by omega)) (by omega)
theorem r_from {N : Nat} {a n v : Int} {m : List Dt} (h : okA a) (h1 : 1 ≤ n ∧ n ≤ 16) (hv : 0 ≤ v) : C (N + 5) i_Next_from_offset [nxtD a n, .int v] m = .ok (.p (sloD ((v + a - 1) / a * a) n)) m := by
  have h2 := okA_lt h
  have h3 := nm_pos hv h2.1
  walk_at "run"
theorem r_neq {N : Nat} {a n b k : Int} {m : List Dt} : C (N + 1) i_Next___eq__ [nxtD a n, nxtD b k] m = .ok (.p (.bl (decide (a = b) && decide (n = k)))) m := by walk_at "run"
end K11
namespace K11
open PySem PySem.Spec PyProof.Rows PyI
/-! draws -/
theorem dw {N k : Nat} {m : List Dt} (s : Int) (p : Pot) (hk : k < m.length) (hs : 0 < s ∧ s < 1073741824) : ∃ (d : Int) (p' : Pot), (0 ≤ d ∧ d < s) ∧ C (N + 1) i_l_draw [.cel k, .int s] (m.set k (potD p)) = .ok (.p (.int d)) (m.set k (potD p')) :=
  q_draw (shs := [(2, [], [.a 0, .a 1])]) rfl s p hk hs
theorem pw {N k : Nat} {m : List Dt} (ds : List Dt) (p : Pot) (hk : k < m.length) (hs : 0 < ds.length ∧ ds.length < 1073741824) : ∃ (x : Dt) (p' : Pot), x ∈ ds ∧ C (N + 2) i_l_pick [.cel k, .lst ds] (m.set k (potD p)) = .ok (.p x) (m.set k (potD p')) :=
  q_pick (shs := [(2, [], [.a 0, .a 1])]) (shs0 := [(2, [], [.a 0, .a 1])]) (g0 := i_l_draw) rfl rfl rfl ds p hk hs
/-! registers: sixteen cases -/
theorem reg_rest {N k : Nat} {M : List Dt} {g : Bool} {d : Int} (h : 0 ≤ d ∧ d < 8) : outR (evSs pg (C (N + 9)) (D (N + 9)) b_l_registers_right.tail ⟨[some (.p (.cel k)), none, some (.p (.str (gw g))), some (.p (.int d)), none, none, none], M⟩) = some (.bl true, M) := by
  have hd : d = 0 ∨ d = 1 ∨ d = 2 ∨ d = 3 ∨ d = 4 ∨ d = 5 ∨ d = 6 ∨ d = 7 := by omega
  cases g <;> (rcases hd with h | h | h | h | h | h | h | h <;> subst h <;> kernel_rfl)
theorem unl_rest {N k : Nat} {M : List Dt} {d : Int} (h : 0 ≤ d ∧ d < 16) : outR (evSs pg (C (N + 9)) (D (N + 9)) b_l_unlike_right.tail ⟨[some (.p (.cel k)), some (.p (.int (1 + d))), none, none, none, none, none], M⟩) = some (.bl true, M) := by
  have hd : d = 0 ∨ d = 1 ∨ d = 2 ∨ d = 3 ∨ d = 4 ∨ d = 5 ∨ d = 6 ∨ d = 7 ∨ d = 8 ∨ d = 9 ∨ d = 10 ∨ d = 11 ∨ d = 12 ∨ d = 13 ∨ d = 14 ∨ d = 15 := by omega
  rcases hd with h | h | h | h | h | h | h | h | h | h | h | h | h | h | h | h <;> subst h <;> kernel_rfl
end K11
namespace K11
open PySem PySem.Spec PyProof.Rows PyI
local macro_rules | `(tactic| walk_at "side") => `(tactic| first | with_reducible rfl | with_reducible assumption | omega | (simp; done) | (simp; omega))
local macro_rules | `(tactic| walk_at "call") => `(tactic| with_reducible assumption)
local macro_rules | `(tactic| walk_at "op") => `(tactic| first | with_reducible assumption | exact rfl)
local macro_rules | `(tactic| walk_at "bi") => `(tactic| first | with_reducible assumption | exact rfl)
local macro_rules | `(tactic| walk_at "cmp") => `(tactic| first
  | with_reducible assumption
  | exact c_pl rfl (by with_reducible assumption)
  | exact c_pl rfl eqDI
  | exact c_pl rfl neDI
  | exact c_pl rfl neDB
  | exact c_pl rfl rfl
  | ((with_reducible apply w_eq); exact rfl; exact rfl; walk_at "call")
  | ((with_reducible apply w_in); exact rfl; walk_at "call"))
local macro_rules | `(tactic| walk_at "cond") => `(tactic| first
  | ((with_reducible apply cond_t); (focus walk_at "side"))
  | ((with_reducible apply cond_f); (focus walk_at "side")))
local macro_rules | `(tactic| walk_at "meth") => `(tactic| ((with_reducible apply w_meth); walk_at "e"; exact rfl; exact rfl; walk_at "es"; exact rfl; exact rfl; exact rfl; walk_at "call"))
local macro_rules | `(tactic| walk_at "fld") => `(tactic| first
  | ((with_reducible apply e_fld); walk_at "e"; exact rfl; exact rfl; exact rfl)
  | ((with_reducible apply w_prop); walk_at "e"; exact rfl; walk_at "call"))
local macro_rules | `(tactic| walk_at "bin") => `(tactic| first
  | ((with_reducible apply e_bin); walk_at "e"; walk_at "e"; walk_at "op")
  | ((with_reducible apply w_binO); walk_at "e"; walk_at "e"; exact rfl; exact rfl; walk_at "call"))
local macro_rules | `(tactic| walk_at "e") => `(tactic| first
  | ((with_reducible apply e_var); exact rfl)
  | with_reducible exact e_cst
  | with_reducible exact e_glo
  | walk_at "bin"
  | ((with_reducible apply e_cmp); walk_at "e"; walk_at "e"; walk_at "cmp")
  | ((with_reducible apply w_call); walk_at "es"; exact rfl; exact rfl; exact rfl; walk_at "call")
  | ((with_reducible apply e_not); walk_at "e")
  | ((with_reducible apply e_ix); walk_at "e"; walk_at "e"; walk_at "op")
  | ((with_reducible apply e_bi); walk_at "es"; walk_at "bi")
  | ((with_reducible apply w_and); walk_at "e"; walk_at "cond"; walk_at "ke")
  | ((with_reducible apply w_or); walk_at "e"; walk_at "cond"; walk_at "ke")
  | ((with_reducible apply e_and); walk_at "e"; walk_at "e")
  | ((with_reducible apply e_or); walk_at "e"; walk_at "e")
  | ((with_reducible apply e_chn); walk_at "e"; walk_at "e"; exact rfl; walk_at "e"; exact rfl)
  | ((with_reducible apply w_ife); walk_at "e"; walk_at "cond"; walk_at "e")
  | ((with_reducible apply e_lst); walk_at "es"; exact Nat.le_of_ble_eq_true rfl)
  | ((with_reducible apply e_tup); walk_at "es"; exact Nat.le_of_ble_eq_true rfl)
  | ((with_reducible apply w_make); walk_at "es"; exact rfl; exact rfl; exact rfl; walk_at "call")
  | walk_at "meth"
  | walk_at "fld"
  | ((with_reducible apply e_neg); walk_at "e")
  | ((with_reducible apply e_isi); walk_at "e"; exact rfl)
  | ((with_reducible apply e_slcL); walk_at "e"; walk_at "e"; walk_at "op")
  | ((with_reducible apply e_slcH); walk_at "e"; walk_at "e"; walk_at "op")
  | ((with_reducible apply e_mk0); exact rfl; exact rfl)
  | with_reducible assumption)
local macro_rules | `(tactic| walk_at "ke") => `(tactic| first | with_reducible rfl | walk_at "e")
local macro_rules | `(tactic| walk_at "es") => `(tactic| first
  | with_reducible exact e_nil
  | ((with_reducible apply e_cons); walk_at "e"; walk_at "es"))
local macro_rules | `(tactic| walk_at "s") => `(tactic| first
  | ((with_reducible apply w_asg); walk_at "e"; exact rfl)
  | ((with_reducible apply w_if); walk_at "e"; walk_at "cond"; walk_at "ss")
  | ((with_reducible apply s_ret); walk_at "e")
  | ((with_reducible apply s_exp); walk_at "e")
  | ((with_reducible apply s_fld); walk_at "e"; exact rfl; exact rfl; exact Nat.le_of_ble_eq_true rfl)
  | ((with_reducible apply w_par); walk_at "e"; walk_at "e"; exact ⟨Nat.le_of_ble_eq_true rfl, Nat.le_of_ble_eq_true rfl⟩)
  | ((with_reducible apply w_aug); exact rfl; walk_at "e"; exact rfl; exact rfl; walk_at "call"; exact Nat.le_of_ble_eq_true rfl)
  | with_reducible assumption)
local macro_rules | `(tactic| walk_at "k") => `(tactic| first | with_reducible exact w_rt | ((with_reducible apply w_nx); walk_at "ss"))
local macro_rules | `(tactic| walk_at "ss") => `(tactic| first
  | with_reducible exact s_nil
  | ((with_reducible apply w_seq); walk_at "s"; walk_at "k"))
local macro_rules | `(tactic| walk_at "run") => `(tactic| (apply q_run (hl := ⟨rfl, Nat.le_of_ble_eq_true rfl⟩) (hc := rfl) (hg := rfl); walk_at "ss"; (first | rfl | skip); (first | rfl | skip)))
local macro_rules | `(tactic| walk_at "end") => `(tactic| (apply q_end (hl := ⟨rfl, Nat.le_of_ble_eq_true rfl⟩) (hc := rfl) (hg := rfl); walk_at "ss"; (first | rfl | skip)))
local macro_rules | `(tactic| walk_at "make") => `(tactic| (apply q_make (hl := ⟨rfl, Nat.le_of_ble_eq_true rfl⟩) (hg := rfl) (hcl := rfl); walk_at "ss"; exact rfl; (first | rfl | skip); (first | rfl | skip)))
local macro_rules | `(tactic| walk_at "op") => `(tactic| exact op_fdivI (by omega))
local macro_rules | `(tactic| walk_at "op") => `(tactic| exact op_modI (by omega))
local macro_rules | `(tactic| walk_at "op") => `(tactic| exact op_mulI (by omega))
local macro_rules | `(tactic| walk_at "op") => `(tactic| exact op_mulL (by omega))
local macro_rules | `(tactic| walk_at "op") => `(tactic| first | with_reducible assumption | exact rfl)
local macro_rules | `(tactic| walk_at "st") => `(tactic| ((with_reducible apply w_seq); walk_at "s"; (with_reducible apply w_nx)))
local macro_rules | `(tactic| walk_at "call") => `(tactic| exact mk_slo (by omega) (by omega))
local macro_rules | `(tactic| walk_at "call") => `(tactic| exact mk_nxt (by assumption) (by omega))
local macro_rules | `(tactic| walk_at "call") => `(tactic| exact r_from (by assumption) (by omega) (by omega))
local macro_rules | `(tactic| walk_at "call") => `(tactic| exact r_neq)
local macro_rules | `(tactic| walk_at "call") => `(tactic| exact r_seq)
local macro_rules | `(tactic| walk_at "call") => `(tactic| exact r_off)
local macro_rules | `(tactic| walk_at "call") => `(tactic| exact r_many)
local macro_rules | `(tactic| walk_at "call") => `(tactic| exact r_end)
local macro_rules | `(tactic| walk_at "call") => `(tactic| exact r_bits)
local macro_rules | `(tactic| walk_at "call") => `(tactic| with_reducible assumption)
local macro_rules | `(tactic| walk_at "cmp") => `(tactic| exact c_pl rfl (ne_ints (l := [_, _])))
local macro_rules | `(tactic| walk_at "cmp") => `(tactic| exact c_pl rfl (ne_ints (l := [_, _, _])))
local macro_rules | `(tactic| walk_at "cmp") => `(tactic| exact c_pl rfl (ne_ints (l := [_, _, _, _])))
theorem r_regs {N k : Nat} {m : List Dt} (p : Pot) (hk : k < m.length) : ∃ p', C (N + 10) i_l_registers_right [.cel k] (m.set k (potD p)) = .ok (.p (.bl true)) (m.set k (potD p')) := by
  obtain ⟨x, p1, hx, h1⟩ := pw (N := N + 7) [.str "whole", .str "float"] p hk (by decide)
  obtain ⟨d, p2, hd, h2⟩ := dw (N := N + 8) 8 p1 hk (by decide)
  obtain ⟨g, rfl⟩ : ∃ g, x = .str (gw g) := by
    simp only [List.mem_cons, List.not_mem_nil, or_false] at hx
    rcases hx with h | h
    · exact ⟨true, h⟩
    · exact ⟨false, h⟩
  obtain ⟨S, e1, e2⟩ := outR_of (reg_rest (N := N) (k := k) (M := m.set k (potD p2)) (g := g) hd)
  exact ⟨p2, q_run (hg := rfl) ⟨rfl, le_b rfl⟩ rfl (s_cons (w_par (w_call (e_cons (e_var rfl) (e_cons (e_lst (e_cons e_cst (e_cons e_cst e_nil)) (le_b rfl)) e_nil)) rfl rfl rfl h1) (w_call (e_cons (e_var rfl) (e_cons e_cst e_nil)) rfl rfl rfl h2) ⟨le_b rfl, le_b rfl⟩) e1) rfl e2⟩
theorem r_unl {N k : Nat} {m : List Dt} (p : Pot) (hk : k < m.length) : ∃ p', C (N + 10) i_l_unlike_right [.cel k] (m.set k (potD p)) = .ok (.p (.bl true)) (m.set k (potD p')) := by
  obtain ⟨d, p2, hd, h2⟩ := dw (N := N + 8) 16 p hk (by decide)
  obtain ⟨S, e1, e2⟩ := outR_of (unl_rest (N := N) (k := k) (M := m.set k (potD p2)) hd)
  exact ⟨p2, q_run (hg := rfl) ⟨rfl, le_b rfl⟩ rfl (s_cons (w_asg (e_bin e_cst (w_call (e_cons (e_var rfl) (e_cons e_cst e_nil)) rfl rfl rfl h2) rfl) rfl) e1) rfl e2⟩
/-! nexts -/
theorem nx_repr {N k : Nat} {M : List Dt} {a n : Int} (ha : okA a) (hn : 1 ≤ n ∧ n ≤ 16) : evS pg (C (N + 9)) (D (N + 9)) (.iff (.cmp .NotEq (.bi .repr [(.var 1)]) (.bin .Add (.bin .Add (.bin .Add (.bin .Add (.cst (.str "Next(")) (.bi .str [(.var 4)])) (.cst (.str ", "))) (.bi .str [(.var 5)])) (.cst (.str ")")))) [.ret (.cst (.bl false))] [])
    ⟨[some (.p (.cel k)), some (.p (nxtD a n)), none, none, some (.p (.int a)), some (.p (.int n)), none, none, none, none], M⟩ = .nx ⟨[some (.p (.cel k)), some (.p (nxtD a n)), none, none, some (.p (.int a)), some (.p (.int n)), none, none, none, none], M⟩ := by
  have hd : n = 1 ∨ n = 2 ∨ n = 3 ∨ n = 4 ∨ n = 5 ∨ n = 6 ∨ n = 7 ∨ n = 8 ∨ n = 9 ∨ n = 10 ∨ n = 11 ∨ n = 12 ∨ n = 13 ∨ n = 14 ∨ n = 15 ∨ n = 16 := by omega
  rcases ha with h | h | h | h | h <;> subst h <;> (rcases hd with h | h | h | h | h | h | h | h | h | h | h | h | h | h | h | h <;> subst h <;> kernel_rfl)
theorem nx_wh {cf ci : Nat → List Dt → List Dt → Rc} {a : Int} {x0 x1 x2 x3 x5 x6 x8 x9 : Option Bn} {M : List Dt} (ha : 0 < a) : ∀ (j n : Nat) (v : Int), (v + j) % a = 0 → (∀ i : Nat, i < j → ¬ (v + i) % a = 0) →
    whL (tst (evE pg cf ci (.cmp .Gt (.bin .Mod (.var 7) (.var 4)) (.cst (.int 0))))) (evSs pg cf ci [.asg (.nm 7) (.bin .Add (.var 7) (.cst (.int 1)))]) (n + j + 1) ⟨[x0, x1, x2, x3, some (.p (.int a)), x5, x6, some (.p (.int v)), x8, x9], M⟩ = .nx ⟨[x0, x1, x2, x3, some (.p (.int a)), x5, x6, some (.p (.int (v + j))), x8, x9], M⟩ := by
  intro j
  induction j with
  | zero =>
    intro n v h0 _
    have e : evE pg cf ci (.cmp .Gt (.bin .Mod (.var 7) (.var 4)) (.cst (.int 0))) ⟨[x0, x1, x2, x3, some (.p (.int a)), x5, x6, some (.p (.int v)), x8, x9], M⟩ = .ok (.bl (decide (0 < v % a))) ⟨[x0, x1, x2, x3, some (.p (.int a)), x5, x6, some (.p (.int v)), x8, x9], M⟩ := e_cmp (e_bin (e_var rfl) (e_var rfl) (op_modI ha)) e_cst (c_pl rfl rfl)
    have z : v % a = 0 := by simpa using h0
    unfold whL
    simp only [tst, e, Rs.bind, toRt]
    rw [z]
    simp
  | succ j ih =>
    intro n v h0 hm
    have e : evE pg cf ci (.cmp .Gt (.bin .Mod (.var 7) (.var 4)) (.cst (.int 0))) ⟨[x0, x1, x2, x3, some (.p (.int a)), x5, x6, some (.p (.int v)), x8, x9], M⟩ = .ok (.bl (decide (0 < v % a))) ⟨[x0, x1, x2, x3, some (.p (.int a)), x5, x6, some (.p (.int v)), x8, x9], M⟩ := e_cmp (e_bin (e_var rfl) (e_var rfl) (op_modI ha)) e_cst (c_pl rfl rfl)
    have z : ¬ v % a = 0 := by simpa using hm 0 (by omega)
    have z2 : 0 < v % a := by
      have := Int.emod_nonneg v (show a ≠ 0 by omega)
      omega
    have eb : evSs pg cf ci [.asg (.nm 7) (.bin .Add (.var 7) (.cst (.int 1)))] ⟨[x0, x1, x2, x3, some (.p (.int a)), x5, x6, some (.p (.int v)), x8, x9], M⟩ = .nx ⟨[x0, x1, x2, x3, some (.p (.int a)), x5, x6, some (.p (.int (v + 1))), x8, x9], M⟩ := s_cons (w_asg (e_bin (e_var rfl) e_cst rfl) rfl) s_nil
    have e1 : n + (j + 1) + 1 = (n + j + 1) + 1 := by omega
    rw [e1]
    unfold whL
    simp only [tst, e, Rs.bind, toRt]
    rw [decide_eq_true z2, if_pos rfl, eb]
    simp only
    rw [ih n (v + 1) (by rw [← h0]; congr 1; push_cast; omega) (fun i hi => by have := hm (i + 1) (by omega); rw [show v + 1 + (i : Int) = v + ((i + 1 : Nat) : Int) by push_cast; omega]; exact this)]
    rw [show v + 1 + (j : Int) = v + ((j + 1 : Nat) : Int) by push_cast; omega]
theorem up_to {a v : Int} (ha : okA a) (hv : 0 ≤ v) : ∃ j : Nat, j < 16 ∧ (v + j) % a = 0 ∧ (∀ i : Nat, i < j → ¬ (v + i) % a = 0) ∧ (v + a - 1) / a * a = v + j := by
  refine ⟨((v + a - 1) / a * a - v).toNat, ?_, ?_, ?_, ?_⟩
  · rcases ha with h | h | h | h | h <;> subst h <;> omega
  · rcases ha with h | h | h | h | h <;> subst h <;> omega
  · intro i hi
    rcases ha with h | h | h | h | h <;> subst h <;> omega
  · rcases ha with h | h | h | h | h <;> subst h <;> omega
end K11
namespace K11
open PySem PySem.Spec PyProof.Rows PyI
local macro_rules | `(tactic| walk_at "side") => `(tactic| first | with_reducible rfl | with_reducible assumption | omega | (simp; done) | (simp; omega))
local macro_rules | `(tactic| walk_at "call") => `(tactic| with_reducible assumption)
local macro_rules | `(tactic| walk_at "op") => `(tactic| first | with_reducible assumption | exact rfl)
local macro_rules | `(tactic| walk_at "bi") => `(tactic| first | with_reducible assumption | exact rfl)
local macro_rules | `(tactic| walk_at "cmp") => `(tactic| first
  | with_reducible assumption
  | exact c_pl rfl (by with_reducible assumption)
  | exact c_pl rfl eqDI
  | exact c_pl rfl neDI
  | exact c_pl rfl neDB
  | exact c_pl rfl rfl
  | ((with_reducible apply w_eq); exact rfl; exact rfl; walk_at "call")
  | ((with_reducible apply w_in); exact rfl; walk_at "call"))
local macro_rules | `(tactic| walk_at "cond") => `(tactic| first
  | ((with_reducible apply cond_t); (focus walk_at "side"))
  | ((with_reducible apply cond_f); (focus walk_at "side")))
local macro_rules | `(tactic| walk_at "meth") => `(tactic| ((with_reducible apply w_meth); walk_at "e"; exact rfl; exact rfl; walk_at "es"; exact rfl; exact rfl; exact rfl; walk_at "call"))
local macro_rules | `(tactic| walk_at "fld") => `(tactic| first
  | ((with_reducible apply e_fld); walk_at "e"; exact rfl; exact rfl; exact rfl)
  | ((with_reducible apply w_prop); walk_at "e"; exact rfl; walk_at "call"))
local macro_rules | `(tactic| walk_at "bin") => `(tactic| first
  | ((with_reducible apply e_bin); walk_at "e"; walk_at "e"; walk_at "op")
  | ((with_reducible apply w_binO); walk_at "e"; walk_at "e"; exact rfl; exact rfl; walk_at "call"))
local macro_rules | `(tactic| walk_at "e") => `(tactic| first
  | ((with_reducible apply e_var); exact rfl)
  | with_reducible exact e_cst
  | with_reducible exact e_glo
  | walk_at "bin"
  | ((with_reducible apply e_cmp); walk_at "e"; walk_at "e"; walk_at "cmp")
  | ((with_reducible apply w_call); walk_at "es"; exact rfl; exact rfl; exact rfl; walk_at "call")
  | ((with_reducible apply e_not); walk_at "e")
  | ((with_reducible apply e_ix); walk_at "e"; walk_at "e"; walk_at "op")
  | ((with_reducible apply e_bi); walk_at "es"; walk_at "bi")
  | ((with_reducible apply w_and); walk_at "e"; walk_at "cond"; walk_at "ke")
  | ((with_reducible apply w_or); walk_at "e"; walk_at "cond"; walk_at "ke")
  | ((with_reducible apply e_and); walk_at "e"; walk_at "e")
  | ((with_reducible apply e_or); walk_at "e"; walk_at "e")
  | ((with_reducible apply e_chn); walk_at "e"; walk_at "e"; exact rfl; walk_at "e"; exact rfl)
  | ((with_reducible apply w_ife); walk_at "e"; walk_at "cond"; walk_at "e")
  | ((with_reducible apply e_lst); walk_at "es"; exact Nat.le_of_ble_eq_true rfl)
  | ((with_reducible apply e_tup); walk_at "es"; exact Nat.le_of_ble_eq_true rfl)
  | ((with_reducible apply w_make); walk_at "es"; exact rfl; exact rfl; exact rfl; walk_at "call")
  | walk_at "meth"
  | walk_at "fld"
  | ((with_reducible apply e_neg); walk_at "e")
  | ((with_reducible apply e_isi); walk_at "e"; exact rfl)
  | ((with_reducible apply e_slcL); walk_at "e"; walk_at "e"; walk_at "op")
  | ((with_reducible apply e_slcH); walk_at "e"; walk_at "e"; walk_at "op")
  | ((with_reducible apply e_mk0); exact rfl; exact rfl)
  | with_reducible assumption)
local macro_rules | `(tactic| walk_at "ke") => `(tactic| first | with_reducible rfl | walk_at "e")
local macro_rules | `(tactic| walk_at "es") => `(tactic| first
  | with_reducible exact e_nil
  | ((with_reducible apply e_cons); walk_at "e"; walk_at "es"))
local macro_rules | `(tactic| walk_at "s") => `(tactic| first
  | ((with_reducible apply w_asg); walk_at "e"; exact rfl)
  | ((with_reducible apply w_if); walk_at "e"; walk_at "cond"; walk_at "ss")
  | ((with_reducible apply s_ret); walk_at "e")
  | ((with_reducible apply s_exp); walk_at "e")
  | ((with_reducible apply s_fld); walk_at "e"; exact rfl; exact rfl; exact Nat.le_of_ble_eq_true rfl)
  | ((with_reducible apply w_par); walk_at "e"; walk_at "e"; exact ⟨Nat.le_of_ble_eq_true rfl, Nat.le_of_ble_eq_true rfl⟩)
  | ((with_reducible apply w_aug); exact rfl; walk_at "e"; exact rfl; exact rfl; walk_at "call"; exact Nat.le_of_ble_eq_true rfl)
  | with_reducible assumption)
local macro_rules | `(tactic| walk_at "k") => `(tactic| first | with_reducible exact w_rt | ((with_reducible apply w_nx); walk_at "ss"))
local macro_rules | `(tactic| walk_at "ss") => `(tactic| first
  | with_reducible exact s_nil
  | ((with_reducible apply w_seq); walk_at "s"; walk_at "k"))
local macro_rules | `(tactic| walk_at "run") => `(tactic| (apply q_run (hl := ⟨rfl, Nat.le_of_ble_eq_true rfl⟩) (hc := rfl) (hg := rfl); walk_at "ss"; (first | rfl | skip); (first | rfl | skip)))
local macro_rules | `(tactic| walk_at "end") => `(tactic| (apply q_end (hl := ⟨rfl, Nat.le_of_ble_eq_true rfl⟩) (hc := rfl) (hg := rfl); walk_at "ss"; (first | rfl | skip)))
local macro_rules | `(tactic| walk_at "make") => `(tactic| (apply q_make (hl := ⟨rfl, Nat.le_of_ble_eq_true rfl⟩) (hg := rfl) (hcl := rfl); walk_at "ss"; exact rfl; (first | rfl | skip); (first | rfl | skip)))
local macro_rules | `(tactic| walk_at "op") => `(tactic| exact op_fdivI (by omega))
local macro_rules | `(tactic| walk_at "op") => `(tactic| exact op_modI (by omega))
local macro_rules | `(tactic| walk_at "op") => `(tactic| exact op_mulI (by omega))
local macro_rules | `(tactic| walk_at "op") => `(tactic| exact op_mulL (by omega))
local macro_rules | `(tactic| walk_at "op") => `(tactic| first | with_reducible assumption | exact rfl)
local macro_rules | `(tactic| walk_at "st") => `(tactic| ((with_reducible apply w_seq); walk_at "s"; (with_reducible apply w_nx)))
local macro_rules | `(tactic| walk_at "call") => `(tactic| exact mk_slo (by omega) (by omega))
local macro_rules | `(tactic| walk_at "call") => `(tactic| exact mk_nxt (by assumption) (by omega))
local macro_rules | `(tactic| walk_at "call") => `(tactic| exact r_from (by assumption) (by omega) (by omega))
local macro_rules | `(tactic| walk_at "call") => `(tactic| exact r_neq)
local macro_rules | `(tactic| walk_at "call") => `(tactic| exact r_seq)
local macro_rules | `(tactic| walk_at "call") => `(tactic| exact r_off)
local macro_rules | `(tactic| walk_at "call") => `(tactic| exact r_many)
local macro_rules | `(tactic| walk_at "call") => `(tactic| exact r_end)
local macro_rules | `(tactic| walk_at "call") => `(tactic| exact r_bits)
local macro_rules | `(tactic| walk_at "call") => `(tactic| with_reducible assumption)
local macro_rules | `(tactic| walk_at "cmp") => `(tactic| exact c_pl rfl (ne_ints (l := [_, _])))
local macro_rules | `(tactic| walk_at "cmp") => `(tactic| exact c_pl rfl (ne_ints (l := [_, _, _])))
local macro_rules | `(tactic| walk_at "cmp") => `(tactic| exact c_pl rfl (ne_ints (l := [_, _, _, _])))
/-! nexts, the whole -/
theorem swq {a b n k : Int} : ((decide (a = b) && decide (n = k)) != (decide (b = a) && decide (k = n))) = false := by
  have e1 : decide (a = b) = decide (b = a) := by simp [eq_comm]
  have e2 : decide (n = k) = decide (k = n) := by simp [eq_comm]
  rw [e1, e2]
  simp
local macro_rules | `(tactic| walk_at "side") => `(tactic| exact swq)
theorem pow20 : opD .Pow (.int 10) (.int 20) = some (.int 100000000000000000000) := by kernel_rfl
theorem pow9 : opD .Pow (.int 10) (.int 9) = some (.int 1000000000) := by kernel_rfl
local macro_rules | `(tactic| walk_at "op") => `(tactic| (with_reducible exact pow20))
local macro_rules | `(tactic| walk_at "op") => `(tactic| (with_reducible exact pow9))
theorem n_al {N : Nat} {a n : Int} {m : List Dt} : C (N + 1) i_Next_align [nxtD a n] m = .ok (.p (.int a)) m := by walk_at "run"
theorem n_ma {N : Nat} {a n : Int} {m : List Dt} : C (N + 1) i_Next_many [nxtD a n] m = .ok (.p (.int n)) m := by walk_at "run"
theorem n_bi {N : Nat} {a n : Int} {m : List Dt} : C (N + 1) i_Next_bits [nxtD a n] m = .ok (.p (.int (8 * n))) m := by walk_at "run"
local macro_rules | `(tactic| walk_at "call") => `(tactic| exact n_al)
local macro_rules | `(tactic| walk_at "call") => `(tactic| exact n_ma)
local macro_rules | `(tactic| walk_at "call") => `(tactic| exact n_bi)
abbrev nxS (k : Nat) (a n : Int) (x2 x3 x6 x7 x8 x9 : Option Bn) (M : List Dt) : Sto := ⟨[some (.p (.cel k)), some (.p (nxtD a n)), x2, x3, some (.p (.int a)), some (.p (.int n)), x6, x7, x8, x9], M⟩
theorem nx_loop1 {N k : Nat} {m : List Dt} {a n : Int} (p : Pot) (hk : k < m.length) (ha : okA a) (hn : 1 ≤ n ∧ n ≤ 16) : ∃ S', evS pg (C (N + 9)) (D (N + 9)) (b_l_nexts_right[5]'(by decide)) (nxS k a n none none none none none none (m.set k (potD p))) = .nx S' ∧ ∃ x2 x3 x6 x7 x8 x9 q, S' = nxS k a n x2 x3 x6 x7 x8 x9 (m.set k (potD q)) := by
  refine s_for_inv (fun S => ∃ x2 x3 x6 x7 x8 x9 q, S = nxS k a n x2 x3 x6 x7 x8 x9 (m.set k (potD q))) (e_rng1 e_cst rfl) rfl ⟨none, none, none, none, none, none, p, rfl⟩ ?_
  rintro y hy S ⟨x2, x3, x6, x7, x8, x9, q, rfl⟩
  obtain ⟨i, hi, rfl⟩ := mem_rgI hy
  refine ⟨_, rfl, ?_⟩
  obtain ⟨d1, p1, hd1, h1⟩ := dw (N := N + 8) 64 q hk (by decide)
  obtain ⟨d2, p2, hd2, h2⟩ := dw (N := N + 8) 64 p1 hk (by decide)
  obtain ⟨x, p3, hx, h3⟩ := pw (N := N + 7) [.int 0, .int 1, .int 15, .int 16, .int 17, .int d1, .int (100000000000000000000 + d2)] p2 hk (by simp)
  obtain ⟨v, hv, rfl⟩ : ∃ v : Int, 0 ≤ v ∧ x = .int v := by
    simp only [List.mem_cons, List.not_mem_nil, or_false] at hx
    rcases hx with h | h | h | h | h | h | h <;> exact ⟨_, by omega, h⟩
  obtain ⟨j, hj, j1, j2, j3⟩ := up_to ha hv
  have ha2 := okA_lt ha
  have hw : evS pg (C (N + 9)) (D (N + 9)) (.whl 100000 (.cmp .Gt (.bin .Mod (.var 7) (.var 4)) (.cst (.int 0))) [.asg (.nm 7) (.bin .Add (.var 7) (.cst (.int 1)))]) (nxS k a n (some (.p (.int i))) x3 (some (.p (.int v))) (some (.p (.int v))) x8 x9 (m.set k (potD p3))) = .nx (nxS k a n (some (.p (.int i))) x3 (some (.p (.int v))) (some (.p (.int (v + j)))) x8 x9 (m.set k (potD p3))) := by
    rw [evS]
    have := nx_wh (cf := C (N + 9)) (ci := D (N + 9)) (a := a) (x0 := some (.p (.cel k))) (x1 := some (.p (nxtD a n))) (x2 := some (.p (.int i))) (x3 := x3) (x5 := some (.p (.int n))) (x6 := some (.p (.int v))) (x8 := x8) (x9 := x9) (M := m.set k (potD p3)) ha2.1 j (99999 - j) v j1 j2
    rw [show 99999 - j + j + 1 = 100000 by omega] at this
    exact this
  have hf := r_from (N := N + 4) (m := m.set k (potD p3)) ha hn hv
  rw [j3] at hf
  by_cases h0 : i % 2 = 0
  · apply Exists.intro
    apply And.intro
    · walk_at "st"
      walk_at "st"
      (with_reducible apply w_seq)
      exact hw
      (with_reducible apply w_nx)
      walk_at "ss"
    · exact ⟨_, _, _, _, _, _, _, rfl⟩
  · apply Exists.intro
    apply And.intro
    · walk_at "st"
      walk_at "st"
      (with_reducible apply w_seq)
      exact hw
      (with_reducible apply w_nx)
      walk_at "ss"
    · exact ⟨_, _, _, _, _, _, _, rfl⟩
theorem nx_loop2 {N k : Nat} {m : List Dt} {a n : Int} {x2 x3 x6 x7 x8 x9 : Option Bn} (p : Pot) (hk : k < m.length) (ha : okA a) (hn : 1 ≤ n ∧ n ≤ 16) : ∃ S', evS pg (C (N + 9)) (D (N + 9)) (b_l_nexts_right[6]'(by decide)) (nxS k a n x2 x3 x6 x7 x8 x9 (m.set k (potD p))) = .nx S' ∧ ∃ x2 x3 x6 x7 x8 x9 q, S' = nxS k a n x2 x3 x6 x7 x8 x9 (m.set k (potD q)) := by
  refine s_for_inv (fun S => ∃ x2 x3 x6 x7 x8 x9 q, S = nxS k a n x2 x3 x6 x7 x8 x9 (m.set k (potD q))) (e_lst (e_cons e_cst (e_cons e_cst (e_cons e_cst (e_cons e_cst (e_cons e_cst e_nil))))) (le_b rfl)) rfl ⟨_, _, _, _, _, _, p, rfl⟩ ?_
  rintro y hy S ⟨x2, x3, x6, x7, x8, x9, q, rfl⟩
  obtain ⟨b, hb, rfl⟩ : ∃ b : Int, okA b ∧ y = .int b := by
    simp only [List.mem_cons, List.not_mem_nil, or_false] at hy
    rcases hy with h | h | h | h | h
    · exact ⟨1, .inl rfl, h⟩
    · exact ⟨2, .inr (.inl rfl), h⟩
    · exact ⟨4, .inr (.inr (.inl rfl)), h⟩
    · exact ⟨8, .inr (.inr (.inr (.inl rfl))), h⟩
    · exact ⟨16, .inr (.inr (.inr (.inr rfl))), h⟩
  refine ⟨_, rfl, ?_⟩
  obtain ⟨d1, p1, hd1, h1⟩ := dw (N := N + 8) 16 q hk (by decide)
  have inner : ∃ S', evS pg (C (N + 9)) (D (N + 9)) (.for_ (.nm 9) (.lst [(.var 5), (.bin .Add (.cst (.int 1)) (.call i_l_draw [] [(.var 0), (.cst (.int 16))]))]) [.iff (.cmp .NotEq (.cmp .Eq (.var 1) (.make j_Next [] [(.var 3), (.var 9)])) (.and2 (.cmp .Eq (.var 3) (.var 4)) (.cmp .Eq (.var 9) (.var 5)))) [.ret (.cst (.bl false))] []]) (nxS k a n x2 (some (.p (.int b))) x6 x7 x8 x9 (m.set k (potD q))) = .nx S' ∧ ∃ x9, S' = nxS k a n x2 (some (.p (.int b))) x6 x7 x8 x9 (m.set k (potD p1)) := by
    refine s_for_inv (xs := [.int n, .int (1 + d1)]) (S1 := nxS k a n x2 (some (.p (.int b))) x6 x7 x8 x9 (m.set k (potD p1))) (fun S => ∃ x9, S = nxS k a n x2 (some (.p (.int b))) x6 x7 x8 x9 (m.set k (potD p1))) (e_lst (e_cons (e_var rfl) (e_cons (e_bin e_cst (w_call (e_cons (e_var rfl) (e_cons e_cst e_nil)) rfl rfl rfl h1) rfl) e_nil)) (le_b rfl)) rfl ⟨_, rfl⟩ ?_
    rintro y hy S ⟨x9, rfl⟩
    obtain ⟨c, hc, rfl⟩ : ∃ c : Int, (1 ≤ c ∧ c ≤ 16) ∧ y = .int c := by
      simp only [List.mem_cons, List.not_mem_nil, or_false] at hy
      rcases hy with h | h
      · exact ⟨_, hn, h⟩
      · exact ⟨_, by omega, h⟩
    refine ⟨_, rfl, ?_⟩
    apply Exists.intro
    apply And.intro
    · walk_at "ss"
    · exact ⟨_, rfl⟩
  obtain ⟨S', e1, x9, rfl⟩ := inner
  exact ⟨_, s_cons e1 s_nil, _, _, _, _, _, _, p1, rfl⟩
theorem r_nexts {N k : Nat} {m : List Dt} (p : Pot) (hk : k < m.length) : ∃ p', C (N + 10) i_l_nexts_right [.cel k] (m.set k (potD p)) = .ok (.p (.bl true)) (m.set k (potD p')) := by
  obtain ⟨x, p1, hx, h1⟩ := pw (N := N + 7) [.int 1, .int 2, .int 4, .int 8, .int 16] p hk (by decide)
  obtain ⟨d, p2, hd, h2⟩ := dw (N := N + 8) 16 p1 hk (by decide)
  obtain ⟨a, ha, rfl⟩ : ∃ b : Int, okA b ∧ x = .int b := by
    simp only [List.mem_cons, List.not_mem_nil, or_false] at hx
    rcases hx with h | h | h | h | h
    · exact ⟨1, .inl rfl, h⟩
    · exact ⟨2, .inr (.inl rfl), h⟩
    · exact ⟨4, .inr (.inr (.inl rfl)), h⟩
    · exact ⟨8, .inr (.inr (.inr (.inl rfl))), h⟩
    · exact ⟨16, .inr (.inr (.inr (.inr rfl))), h⟩
  have hn : 1 ≤ 1 + d ∧ 1 + d ≤ 16 := by omega
  have h3 := nx_repr (N := N) (k := k) (M := m.set k (potD p2)) ha hn
  obtain ⟨S1, h4, x2, x3, x6, x7, x8, x9, q1, rfl⟩ := nx_loop1 (N := N) (k := k) (m := m) p2 hk ha hn
  obtain ⟨S2, h5, y2, y3, y6, y7, y8, y9, q2, rfl⟩ := nx_loop2 (N := N) (k := k) (m := m) (x2 := x2) (x3 := x3) (x6 := x6) (x7 := x7) (x8 := x8) (x9 := x9) q1 hk ha hn
  refine ⟨q2, ?_⟩
  apply q_run (hl := ⟨rfl, le_b rfl⟩) (hc := rfl) (hg := rfl)
  · walk_at "st"
    walk_at "st"
    walk_at "st"
    (with_reducible apply w_seq)
    exact h3
    (with_reducible apply w_nx)
    walk_at "st"
    (with_reducible apply w_seq)
    exact h4
    (with_reducible apply w_nx)
    (with_reducible apply w_seq)
    exact h5
    (with_reducible apply w_nx)
    walk_at "ss"
  · rfl
  · rfl
end K11
namespace K11
open PySem PySem.Spec PyProof.Rows PyI
local macro_rules | `(tactic| walk_at "side") => `(tactic| first | with_reducible rfl | with_reducible assumption | omega | (simp; done) | (simp; omega))
local macro_rules | `(tactic| walk_at "call") => `(tactic| with_reducible assumption)
local macro_rules | `(tactic| walk_at "op") => `(tactic| first | with_reducible assumption | exact rfl)
local macro_rules | `(tactic| walk_at "bi") => `(tactic| first | with_reducible assumption | exact rfl)
local macro_rules | `(tactic| walk_at "cmp") => `(tactic| first
  | with_reducible assumption
  | exact c_pl rfl (by with_reducible assumption)
  | exact c_pl rfl eqDI
  | exact c_pl rfl neDI
  | exact c_pl rfl neDB
  | exact c_pl rfl rfl
  | ((with_reducible apply w_eq); exact rfl; exact rfl; walk_at "call")
  | ((with_reducible apply w_in); exact rfl; walk_at "call"))
local macro_rules | `(tactic| walk_at "cond") => `(tactic| first
  | ((with_reducible apply cond_t); (focus walk_at "side"))
  | ((with_reducible apply cond_f); (focus walk_at "side")))
local macro_rules | `(tactic| walk_at "meth") => `(tactic| ((with_reducible apply w_meth); walk_at "e"; exact rfl; exact rfl; walk_at "es"; exact rfl; exact rfl; exact rfl; walk_at "call"))
local macro_rules | `(tactic| walk_at "fld") => `(tactic| first
  | ((with_reducible apply e_fld); walk_at "e"; exact rfl; exact rfl; exact rfl)
  | ((with_reducible apply w_prop); walk_at "e"; exact rfl; walk_at "call"))
local macro_rules | `(tactic| walk_at "bin") => `(tactic| first
  | ((with_reducible apply e_bin); walk_at "e"; walk_at "e"; walk_at "op")
  | ((with_reducible apply w_binO); walk_at "e"; walk_at "e"; exact rfl; exact rfl; walk_at "call"))
local macro_rules | `(tactic| walk_at "e") => `(tactic| first
  | ((with_reducible apply e_var); exact rfl)
  | with_reducible exact e_cst
  | with_reducible exact e_glo
  | walk_at "bin"
  | ((with_reducible apply e_cmp); walk_at "e"; walk_at "e"; walk_at "cmp")
  | ((with_reducible apply w_call); walk_at "es"; exact rfl; exact rfl; exact rfl; walk_at "call")
  | ((with_reducible apply e_not); walk_at "e")
  | ((with_reducible apply e_ix); walk_at "e"; walk_at "e"; walk_at "op")
  | ((with_reducible apply e_bi); walk_at "es"; walk_at "bi")
  | ((with_reducible apply w_and); walk_at "e"; walk_at "cond"; walk_at "ke")
  | ((with_reducible apply w_or); walk_at "e"; walk_at "cond"; walk_at "ke")
  | ((with_reducible apply e_and); walk_at "e"; walk_at "e")
  | ((with_reducible apply e_or); walk_at "e"; walk_at "e")
  | ((with_reducible apply e_chn); walk_at "e"; walk_at "e"; exact rfl; walk_at "e"; exact rfl)
  | ((with_reducible apply w_ife); walk_at "e"; walk_at "cond"; walk_at "e")
  | ((with_reducible apply e_lst); walk_at "es"; exact Nat.le_of_ble_eq_true rfl)
  | ((with_reducible apply e_tup); walk_at "es"; exact Nat.le_of_ble_eq_true rfl)
  | ((with_reducible apply w_make); walk_at "es"; exact rfl; exact rfl; exact rfl; walk_at "call")
  | walk_at "meth"
  | walk_at "fld"
  | ((with_reducible apply e_neg); walk_at "e")
  | ((with_reducible apply e_isi); walk_at "e"; exact rfl)
  | ((with_reducible apply e_slcL); walk_at "e"; walk_at "e"; walk_at "op")
  | ((with_reducible apply e_slcH); walk_at "e"; walk_at "e"; walk_at "op")
  | ((with_reducible apply e_mk0); exact rfl; exact rfl)
  | with_reducible assumption)
local macro_rules | `(tactic| walk_at "ke") => `(tactic| first | with_reducible rfl | walk_at "e")
local macro_rules | `(tactic| walk_at "es") => `(tactic| first
  | with_reducible exact e_nil
  | ((with_reducible apply e_cons); walk_at "e"; walk_at "es"))
local macro_rules | `(tactic| walk_at "s") => `(tactic| first
  | ((with_reducible apply w_asg); walk_at "e"; exact rfl)
  | ((with_reducible apply w_if); walk_at "e"; walk_at "cond"; walk_at "ss")
  | ((with_reducible apply s_ret); walk_at "e")
  | ((with_reducible apply s_exp); walk_at "e")
  | ((with_reducible apply s_fld); walk_at "e"; exact rfl; exact rfl; exact Nat.le_of_ble_eq_true rfl)
  | ((with_reducible apply w_par); walk_at "e"; walk_at "e"; exact ⟨Nat.le_of_ble_eq_true rfl, Nat.le_of_ble_eq_true rfl⟩)
  | ((with_reducible apply w_aug); exact rfl; walk_at "e"; exact rfl; exact rfl; walk_at "call"; exact Nat.le_of_ble_eq_true rfl)
  | with_reducible assumption)
local macro_rules | `(tactic| walk_at "k") => `(tactic| first | with_reducible exact w_rt | ((with_reducible apply w_nx); walk_at "ss"))
local macro_rules | `(tactic| walk_at "ss") => `(tactic| first
  | with_reducible exact s_nil
  | ((with_reducible apply w_seq); walk_at "s"; walk_at "k"))
local macro_rules | `(tactic| walk_at "run") => `(tactic| (apply q_run (hl := ⟨rfl, Nat.le_of_ble_eq_true rfl⟩) (hc := rfl) (hg := rfl); walk_at "ss"; (first | rfl | skip); (first | rfl | skip)))
local macro_rules | `(tactic| walk_at "end") => `(tactic| (apply q_end (hl := ⟨rfl, Nat.le_of_ble_eq_true rfl⟩) (hc := rfl) (hg := rfl); walk_at "ss"; (first | rfl | skip)))
local macro_rules | `(tactic| walk_at "make") => `(tactic| (apply q_make (hl := ⟨rfl, Nat.le_of_ble_eq_true rfl⟩) (hg := rfl) (hcl := rfl); walk_at "ss"; exact rfl; (first | rfl | skip); (first | rfl | skip)))
local macro_rules | `(tactic| walk_at "op") => `(tactic| exact op_fdivI (by omega))
local macro_rules | `(tactic| walk_at "op") => `(tactic| exact op_modI (by omega))
local macro_rules | `(tactic| walk_at "op") => `(tactic| exact op_mulI (by omega))
local macro_rules | `(tactic| walk_at "op") => `(tactic| exact op_mulL (by omega))
local macro_rules | `(tactic| walk_at "op") => `(tactic| first | with_reducible assumption | exact rfl)
local macro_rules | `(tactic| walk_at "st") => `(tactic| ((with_reducible apply w_seq); walk_at "s"; (with_reducible apply w_nx)))
local macro_rules | `(tactic| walk_at "call") => `(tactic| exact mk_slo (by omega) (by omega))
local macro_rules | `(tactic| walk_at "call") => `(tactic| exact mk_nxt (by assumption) (by omega))
local macro_rules | `(tactic| walk_at "call") => `(tactic| exact r_from (by assumption) (by omega) (by omega))
local macro_rules | `(tactic| walk_at "call") => `(tactic| exact r_neq)
local macro_rules | `(tactic| walk_at "call") => `(tactic| exact r_seq)
local macro_rules | `(tactic| walk_at "call") => `(tactic| exact r_off)
local macro_rules | `(tactic| walk_at "call") => `(tactic| exact r_many)
local macro_rules | `(tactic| walk_at "call") => `(tactic| exact r_end)
local macro_rules | `(tactic| walk_at "call") => `(tactic| exact r_bits)
local macro_rules | `(tactic| walk_at "call") => `(tactic| with_reducible assumption)
local macro_rules | `(tactic| walk_at "cmp") => `(tactic| exact c_pl rfl (ne_ints (l := [_, _])))
local macro_rules | `(tactic| walk_at "cmp") => `(tactic| exact c_pl rfl (ne_ints (l := [_, _, _])))
local macro_rules | `(tactic| walk_at "cmp") => `(tactic| exact c_pl rfl (ne_ints (l := [_, _, _, _])))
/-! slots moved -/
local macro_rules | `(tactic| walk_at "op") => `(tactic| (with_reducible exact pow20))
local macro_rules | `(tactic| walk_at "op") => `(tactic| (with_reducible exact pow9))
local macro_rules | `(tactic| walk_at "call") => `(tactic| exact r_add (by omega) (by omega) (by omega))
local macro_rules | `(tactic| walk_at "call") => `(tactic| exact r_sub (by omega) (by omega) (by omega))
local macro_rules | `(tactic| walk_at "call") => `(tactic| with_reducible assumption)
theorem mv1 {o f n : Int} : ((decide (o + f = o) && decide (n = n)) != decide (f = 0)) = false := by
  by_cases h : f = 0
  · subst h
    simp
  · have : ¬ o + f = o := by omega
    simp [h, this]
local macro_rules | `(tactic| walk_at "side") => `(tactic| exact mv1)
local macro_rules | `(tactic| walk_at "side") => `(tactic| (simp; omega))
theorem r_moved {N k : Nat} {m : List Dt} {o n : Int} (p : Pot) (hk : k < m.length) (ho : 0 ≤ o) (hn : 1 ≤ n ∧ n ≤ 16) : ∃ p', C (N + 10) i_l_moved_right [.cel k, .int o, .int n] (m.set k (potD p)) = .ok (.p (.bl true)) (m.set k (potD p')) := by
  obtain ⟨d, p1, hd, h1⟩ := dw (N := N + 8) 1000000000 p hk (by decide)
  obtain ⟨x, p2, hx, h2⟩ := pw (N := N + 7) [.int 0, .int 1, .int 16, .int d] p1 hk (by simp)
  obtain ⟨f, hf, rfl⟩ : ∃ v : Int, 0 ≤ v ∧ x = .int v := by
    simp only [List.mem_cons, List.not_mem_nil, or_false] at hx
    rcases hx with h | h | h | h <;> exact ⟨_, by omega, h⟩
  refine ⟨p2, ?_⟩
  apply q_run (hl := ⟨rfl, le_b rfl⟩) (hc := rfl) (hg := rfl)
  · walk_at "ss"
  · simp
  · rfl
end K11
namespace K11
open PySem PySem.Spec PyProof.Rows PyI
local macro_rules | `(tactic| walk_at "side") => `(tactic| first | with_reducible rfl | with_reducible assumption | omega | (simp; done) | (simp; omega))
local macro_rules | `(tactic| walk_at "call") => `(tactic| with_reducible assumption)
local macro_rules | `(tactic| walk_at "op") => `(tactic| first | with_reducible assumption | exact rfl)
local macro_rules | `(tactic| walk_at "bi") => `(tactic| first | with_reducible assumption | exact rfl)
local macro_rules | `(tactic| walk_at "cmp") => `(tactic| first
  | with_reducible assumption
  | exact c_pl rfl (by with_reducible assumption)
  | exact c_pl rfl eqDI
  | exact c_pl rfl neDI
  | exact c_pl rfl neDB
  | exact c_pl rfl rfl
  | ((with_reducible apply w_eq); exact rfl; exact rfl; walk_at "call")
  | ((with_reducible apply w_in); exact rfl; walk_at "call"))
local macro_rules | `(tactic| walk_at "cond") => `(tactic| first
  | ((with_reducible apply cond_t); (focus walk_at "side"))
  | ((with_reducible apply cond_f); (focus walk_at "side")))
local macro_rules | `(tactic| walk_at "meth") => `(tactic| ((with_reducible apply w_meth); walk_at "e"; exact rfl; exact rfl; walk_at "es"; exact rfl; exact rfl; exact rfl; walk_at "call"))
local macro_rules | `(tactic| walk_at "fld") => `(tactic| first
  | ((with_reducible apply e_fld); walk_at "e"; exact rfl; exact rfl; exact rfl)
  | ((with_reducible apply w_prop); walk_at "e"; exact rfl; walk_at "call"))
local macro_rules | `(tactic| walk_at "bin") => `(tactic| first
  | ((with_reducible apply e_bin); walk_at "e"; walk_at "e"; walk_at "op")
  | ((with_reducible apply w_binO); walk_at "e"; walk_at "e"; exact rfl; exact rfl; walk_at "call"))
local macro_rules | `(tactic| walk_at "e") => `(tactic| first
  | ((with_reducible apply e_var); exact rfl)
  | with_reducible exact e_cst
  | with_reducible exact e_glo
  | walk_at "bin"
  | ((with_reducible apply e_cmp); walk_at "e"; walk_at "e"; walk_at "cmp")
  | ((with_reducible apply w_call); walk_at "es"; exact rfl; exact rfl; exact rfl; walk_at "call")
  | ((with_reducible apply e_not); walk_at "e")
  | ((with_reducible apply e_ix); walk_at "e"; walk_at "e"; walk_at "op")
  | ((with_reducible apply e_bi); walk_at "es"; walk_at "bi")
  | ((with_reducible apply w_and); walk_at "e"; walk_at "cond"; walk_at "ke")
  | ((with_reducible apply w_or); walk_at "e"; walk_at "cond"; walk_at "ke")
  | ((with_reducible apply e_and); walk_at "e"; walk_at "e")
  | ((with_reducible apply e_or); walk_at "e"; walk_at "e")
  | ((with_reducible apply e_chn); walk_at "e"; walk_at "e"; exact rfl; walk_at "e"; exact rfl)
  | ((with_reducible apply w_ife); walk_at "e"; walk_at "cond"; walk_at "e")
  | ((with_reducible apply e_lst); walk_at "es"; exact Nat.le_of_ble_eq_true rfl)
  | ((with_reducible apply e_tup); walk_at "es"; exact Nat.le_of_ble_eq_true rfl)
  | ((with_reducible apply w_make); walk_at "es"; exact rfl; exact rfl; exact rfl; walk_at "call")
  | walk_at "meth"
  | walk_at "fld"
  | ((with_reducible apply e_neg); walk_at "e")
  | ((with_reducible apply e_isi); walk_at "e"; exact rfl)
  | ((with_reducible apply e_slcL); walk_at "e"; walk_at "e"; walk_at "op")
  | ((with_reducible apply e_slcH); walk_at "e"; walk_at "e"; walk_at "op")
  | ((with_reducible apply e_mk0); exact rfl; exact rfl)
  | with_reducible assumption)
local macro_rules | `(tactic| walk_at "ke") => `(tactic| first | with_reducible rfl | walk_at "e")
local macro_rules | `(tactic| walk_at "es") => `(tactic| first
  | with_reducible exact e_nil
  | ((with_reducible apply e_cons); walk_at "e"; walk_at "es"))
local macro_rules | `(tactic| walk_at "s") => `(tactic| first
  | ((with_reducible apply w_asg); walk_at "e"; exact rfl)
  | ((with_reducible apply w_if); walk_at "e"; walk_at "cond"; walk_at "ss")
  | ((with_reducible apply s_ret); walk_at "e")
  | ((with_reducible apply s_exp); walk_at "e")
  | ((with_reducible apply s_fld); walk_at "e"; exact rfl; exact rfl; exact Nat.le_of_ble_eq_true rfl)
  | ((with_reducible apply w_par); walk_at "e"; walk_at "e"; exact ⟨Nat.le_of_ble_eq_true rfl, Nat.le_of_ble_eq_true rfl⟩)
  | ((with_reducible apply w_aug); exact rfl; walk_at "e"; exact rfl; exact rfl; walk_at "call"; exact Nat.le_of_ble_eq_true rfl)
  | with_reducible assumption)
local macro_rules | `(tactic| walk_at "k") => `(tactic| first | with_reducible exact w_rt | ((with_reducible apply w_nx); walk_at "ss"))
local macro_rules | `(tactic| walk_at "ss") => `(tactic| first
  | with_reducible exact s_nil
  | ((with_reducible apply w_seq); walk_at "s"; walk_at "k"))
local macro_rules | `(tactic| walk_at "run") => `(tactic| (apply q_run (hl := ⟨rfl, Nat.le_of_ble_eq_true rfl⟩) (hc := rfl) (hg := rfl); walk_at "ss"; (first | rfl | skip); (first | rfl | skip)))
local macro_rules | `(tactic| walk_at "end") => `(tactic| (apply q_end (hl := ⟨rfl, Nat.le_of_ble_eq_true rfl⟩) (hc := rfl) (hg := rfl); walk_at "ss"; (first | rfl | skip)))
local macro_rules | `(tactic| walk_at "make") => `(tactic| (apply q_make (hl := ⟨rfl, Nat.le_of_ble_eq_true rfl⟩) (hg := rfl) (hcl := rfl); walk_at "ss"; exact rfl; (first | rfl | skip); (first | rfl | skip)))
local macro_rules | `(tactic| walk_at "op") => `(tactic| exact op_fdivI (by omega))
local macro_rules | `(tactic| walk_at "op") => `(tactic| exact op_modI (by omega))
local macro_rules | `(tactic| walk_at "op") => `(tactic| exact op_mulI (by omega))
local macro_rules | `(tactic| walk_at "op") => `(tactic| exact op_mulL (by omega))
local macro_rules | `(tactic| walk_at "op") => `(tactic| first | with_reducible assumption | exact rfl)
local macro_rules | `(tactic| walk_at "st") => `(tactic| ((with_reducible apply w_seq); walk_at "s"; (with_reducible apply w_nx)))
local macro_rules | `(tactic| walk_at "call") => `(tactic| exact mk_slo (by omega) (by omega))
local macro_rules | `(tactic| walk_at "call") => `(tactic| exact mk_nxt (by assumption) (by omega))
local macro_rules | `(tactic| walk_at "call") => `(tactic| exact r_from (by assumption) (by omega) (by omega))
local macro_rules | `(tactic| walk_at "call") => `(tactic| exact r_neq)
local macro_rules | `(tactic| walk_at "call") => `(tactic| exact r_seq)
local macro_rules | `(tactic| walk_at "call") => `(tactic| exact r_off)
local macro_rules | `(tactic| walk_at "call") => `(tactic| exact r_many)
local macro_rules | `(tactic| walk_at "call") => `(tactic| exact r_end)
local macro_rules | `(tactic| walk_at "call") => `(tactic| exact r_bits)
local macro_rules | `(tactic| walk_at "call") => `(tactic| with_reducible assumption)
local macro_rules | `(tactic| walk_at "cmp") => `(tactic| exact c_pl rfl (ne_ints (l := [_, _])))
local macro_rules | `(tactic| walk_at "cmp") => `(tactic| exact c_pl rfl (ne_ints (l := [_, _, _])))
local macro_rules | `(tactic| walk_at "cmp") => `(tactic| exact c_pl rfl (ne_ints (l := [_, _, _, _])))
/-! slots -/
def slTx (o n : Int) : Str := ((((("Slots(" : Str) ++ (toString o : Str)) ++ (", " : Str)) ++ (toString n : Str)) ++ (")" : Str))
theorem tlen {o : Int} (h : 0 ≤ o ∧ o < 1000000000000000000000) : (Str.ofString (toString o)).length ≤ 21 := toString_length_le h.1 (by decide) (by omega)
theorem tlog {o : Int} (h : 0 ≤ o ∧ o < 1000000000000000000000) : o.natAbs.log2 < 1920 := log_ok (Nat.lt_of_lt_of_le (show o.natAbs < 1000000000000000000000 by omega) (by decide))
theorem l1 {o : Int} (h : 0 ≤ o ∧ o < 1000000000000000000000) : (("Slots(" : Str) ++ (toString o : Str)).length ≤ 27 := by
  rw [len_app]
  have := tlen h
  have e : ("Slots(" : Str).length = 6 := by decide
  omega
theorem l2 {o : Int} (h : 0 ≤ o ∧ o < 1000000000000000000000) : ((("Slots(" : Str) ++ (toString o : Str)) ++ (", " : Str)).length ≤ 29 := by
  rw [len_app]
  have := l1 h
  have e : (", " : Str).length = 2 := by decide
  omega
theorem l3 {o n : Int} (h : 0 ≤ o ∧ o < 1000000000000000000000) (hn : 0 ≤ n ∧ n < 1000000000000000000000) : (((("Slots(" : Str) ++ (toString o : Str)) ++ (", " : Str)) ++ (toString n : Str)).length ≤ 50 := by
  rw [len_app]
  have := l2 h
  have := tlen hn
  omega
theorem l4 {o n : Int} (h : 0 ≤ o ∧ o < 1000000000000000000000) (hn : 0 ≤ n ∧ n < 1000000000000000000000) : (slTx o n).length ≤ 51 := by
  unfold slTx
  rw [len_app]
  have := l3 h hn
  have e : (")" : Str).length = 1 := by decide
  omega
theorem le_s {a : Nat} (h : a ≤ 100) : a ≤ sizeLine := Nat.le_trans h (le_b rfl)
theorem sl_ok {o n : Int} : PyData.strOk (slTx o n) = true := by
  unfold slTx
  rw [strOk_app, strOk_app, strOk_app, strOk_app, strOk_of, strOk_of, strOk_of, strOk_of, strOk_of]
  rfl
theorem r_srepr {N : Nat} {o n : Int} {m : List Dt} (h : 0 ≤ o ∧ o < 1000000000000000000000) (hn : 1 ≤ n ∧ n ≤ 16) : C (N + 1) i_Slots___repr__ [sloD o n] m = .ok (.p (.str (slTx o n))) m := by
  have hn2 : 0 ≤ n ∧ n < 1000000000000000000000 := by omega
  refine q_run (hg := rfl) ⟨rfl, le_b rfl⟩ rfl (s_stop (s_ret (e_fst (j_cons e_cst (le_b rfl) (j_cons (e_fmrI (e_fld (e_var rfl) rfl rfl rfl) (tlog h)) ?_ (j_cons e_cst ?_ (j_cons (e_fmrI (e_fld (e_var rfl) rfl rfl rfl) (tlog hn2)) ?_ (j_cons e_cst ?_ j_nil)))))))) ?_ rfl
  · rw [Str.empty_append]
    have := l1 h
    exact le_s (by omega)
  · rw [Str.empty_append]
    have := l2 h
    exact le_s (by omega)
  · rw [Str.empty_append]
    have := l3 h hn2
    exact le_s (by omega)
  · rw [Str.empty_append]
    have := l4 h hn2
    exact le_s (by unfold slTx at this; omega)
  · rw [Str.empty_append]
    rfl
/-- s: the test of the repr and of the class -/
theorem sl_if {N k : Nat} {o n : Int} {m : List Dt} {r : List (Option Bn)} (h1 : r[1]? = some (some (.p (.int o)))) (h2 : r[2]? = some (some (.p (.int n)))) (h3 : r[3]? = some (some (.p (sloD o n)))) (h : 0 ≤ o ∧ o < 1000000000000000000000) (hn : 1 ≤ n ∧ n ≤ 16) :
    evS pg (C (N + 9)) (D (N + 9)) (b_l_slots_right[3]'(by decide)) ⟨r, m⟩ = .nx ⟨r, m⟩ := by
  have hn2 : 0 ≤ n ∧ n < 1000000000000000000000 := by omega
  have q1 := l1 h
  have q2 := l2 h
  have q3 := l3 h hn2
  have q4 := tlen h
  have q5 := tlen hn2
  have e6 : ("Slots(" : Str).length = 6 := by decide
  have e2 : (", " : Str).length = 2 := by decide
  have e1 : (")" : Str).length = 1 := by decide
  exact s_iff_f (e_or (e_cmp (e_bi (e_cons (e_var h3) e_nil) (b_repr rfl (r_srepr h hn)))
    (e_bin (e_bin (e_bin (e_bin e_cst (e_bi (e_cons (e_var h1) e_nil) (bi_str (tlog h))) (op_addS (le_s (by omega)))) e_cst (op_addS (le_s (by omega)))) (e_bi (e_cons (e_var h2) e_nil) (bi_str (tlog hn2))) (op_addS (le_s (by omega)))) e_cst (op_addS (le_s (by omega)))) (c_pl rfl (ne_str sl_ok))) (e_not (e_isi (e_var h3) rfl))) rfl s_nil
theorem r_bytes {N : Nat} {o n : Int} {m : List Dt} (hn : 1 ≤ n ∧ n ≤ 16) : C (N + 1) i_l_bytes [.int o, .int n] m = .ok (.p (.lst (rangeD o (o + n)))) m :=
  q_run (hg := rfl) ⟨rfl, le_b rfl⟩ rfl (s_stop (s_ret (e_lrg2 (e_var rfl) (e_bin (e_var rfl) (e_var rfl) rfl) (by omega)))) rfl rfl
/-! values that are no counts -/
def noI : Dt → Bool
  | .bl _ | .non | .str _ | .lst _ => true
  | .ins c _ _ => c == j_Slots
  | _ => false
theorem r_int_no {N : Nat} {x : Dt} {m : List Dt} (h : noI x = true) : C (N + 1) i_is_integer [x] m = .ok (.p (.bl false)) m := by
  cases x with
  | bl b => walk_at "run"
  | non => walk_at "run"
  | str s => walk_at "run"
  | lst ds => walk_at "run"
  | ins c ns vs =>
    have : c = j_Slots := by simpa [noI] using h
    subst this
    walk_at "run"
  | _ => simp [noI] at h
theorem r_count_no {N : Nat} {x : Dt} {m : List Dt} (h : noI x = true) : C (N + 2) i_is_count [x] m = .ok (.p (.bl false)) m := by
  have q := r_int_no (N := N) (m := m) h
  walk_at "run"
theorem r_cont_no {N : Nat} {o n : Int} {x : Dt} {m : List Dt} (h : noI x = true) : C (N + 3) i_Slots___contains__ [sloD o n, x] m = .ok (.p (.bl false)) m := by
  have q := r_count_no (N := N) (m := m) h
  walk_at "run"
end K11
namespace K11
open PySem PySem.Spec PyProof.Rows PyI
local macro_rules | `(tactic| walk_at "side") => `(tactic| first | with_reducible rfl | with_reducible assumption | omega | (simp; done) | (simp; omega))
local macro_rules | `(tactic| walk_at "call") => `(tactic| with_reducible assumption)
local macro_rules | `(tactic| walk_at "op") => `(tactic| first | with_reducible assumption | exact rfl)
local macro_rules | `(tactic| walk_at "bi") => `(tactic| first | with_reducible assumption | exact rfl)
local macro_rules | `(tactic| walk_at "cmp") => `(tactic| first
  | with_reducible assumption
  | exact c_pl rfl (by with_reducible assumption)
  | exact c_pl rfl eqDI
  | exact c_pl rfl neDI
  | exact c_pl rfl neDB
  | exact c_pl rfl rfl
  | ((with_reducible apply w_eq); exact rfl; exact rfl; walk_at "call")
  | ((with_reducible apply w_in); exact rfl; walk_at "call"))
local macro_rules | `(tactic| walk_at "cond") => `(tactic| first
  | ((with_reducible apply cond_t); (focus walk_at "side"))
  | ((with_reducible apply cond_f); (focus walk_at "side")))
local macro_rules | `(tactic| walk_at "meth") => `(tactic| ((with_reducible apply w_meth); walk_at "e"; exact rfl; exact rfl; walk_at "es"; exact rfl; exact rfl; exact rfl; walk_at "call"))
local macro_rules | `(tactic| walk_at "fld") => `(tactic| first
  | ((with_reducible apply e_fld); walk_at "e"; exact rfl; exact rfl; exact rfl)
  | ((with_reducible apply w_prop); walk_at "e"; exact rfl; walk_at "call"))
local macro_rules | `(tactic| walk_at "bin") => `(tactic| first
  | ((with_reducible apply e_bin); walk_at "e"; walk_at "e"; walk_at "op")
  | ((with_reducible apply w_binO); walk_at "e"; walk_at "e"; exact rfl; exact rfl; walk_at "call"))
local macro_rules | `(tactic| walk_at "e") => `(tactic| first
  | ((with_reducible apply e_var); exact rfl)
  | with_reducible exact e_cst
  | with_reducible exact e_glo
  | walk_at "bin"
  | ((with_reducible apply e_cmp); walk_at "e"; walk_at "e"; walk_at "cmp")
  | ((with_reducible apply w_call); walk_at "es"; exact rfl; exact rfl; exact rfl; walk_at "call")
  | ((with_reducible apply e_not); walk_at "e")
  | ((with_reducible apply e_ix); walk_at "e"; walk_at "e"; walk_at "op")
  | ((with_reducible apply e_bi); walk_at "es"; walk_at "bi")
  | ((with_reducible apply w_and); walk_at "e"; walk_at "cond"; walk_at "ke")
  | ((with_reducible apply w_or); walk_at "e"; walk_at "cond"; walk_at "ke")
  | ((with_reducible apply e_and); walk_at "e"; walk_at "e")
  | ((with_reducible apply e_or); walk_at "e"; walk_at "e")
  | ((with_reducible apply e_chn); walk_at "e"; walk_at "e"; exact rfl; walk_at "e"; exact rfl)
  | ((with_reducible apply w_ife); walk_at "e"; walk_at "cond"; walk_at "e")
  | ((with_reducible apply e_lst); walk_at "es"; exact Nat.le_of_ble_eq_true rfl)
  | ((with_reducible apply e_tup); walk_at "es"; exact Nat.le_of_ble_eq_true rfl)
  | ((with_reducible apply w_make); walk_at "es"; exact rfl; exact rfl; exact rfl; walk_at "call")
  | walk_at "meth"
  | walk_at "fld"
  | ((with_reducible apply e_neg); walk_at "e")
  | ((with_reducible apply e_isi); walk_at "e"; exact rfl)
  | ((with_reducible apply e_slcL); walk_at "e"; walk_at "e"; walk_at "op")
  | ((with_reducible apply e_slcH); walk_at "e"; walk_at "e"; walk_at "op")
  | ((with_reducible apply e_mk0); exact rfl; exact rfl)
  | with_reducible assumption)
local macro_rules | `(tactic| walk_at "ke") => `(tactic| first | with_reducible rfl | walk_at "e")
local macro_rules | `(tactic| walk_at "es") => `(tactic| first
  | with_reducible exact e_nil
  | ((with_reducible apply e_cons); walk_at "e"; walk_at "es"))
local macro_rules | `(tactic| walk_at "s") => `(tactic| first
  | ((with_reducible apply w_asg); walk_at "e"; exact rfl)
  | ((with_reducible apply w_if); walk_at "e"; walk_at "cond"; walk_at "ss")
  | ((with_reducible apply s_ret); walk_at "e")
  | ((with_reducible apply s_exp); walk_at "e")
  | ((with_reducible apply s_fld); walk_at "e"; exact rfl; exact rfl; exact Nat.le_of_ble_eq_true rfl)
  | ((with_reducible apply w_par); walk_at "e"; walk_at "e"; exact ⟨Nat.le_of_ble_eq_true rfl, Nat.le_of_ble_eq_true rfl⟩)
  | ((with_reducible apply w_aug); exact rfl; walk_at "e"; exact rfl; exact rfl; walk_at "call"; exact Nat.le_of_ble_eq_true rfl)
  | with_reducible assumption)
local macro_rules | `(tactic| walk_at "k") => `(tactic| first | with_reducible exact w_rt | ((with_reducible apply w_nx); walk_at "ss"))
local macro_rules | `(tactic| walk_at "ss") => `(tactic| first
  | with_reducible exact s_nil
  | ((with_reducible apply w_seq); walk_at "s"; walk_at "k"))
local macro_rules | `(tactic| walk_at "run") => `(tactic| (apply q_run (hl := ⟨rfl, Nat.le_of_ble_eq_true rfl⟩) (hc := rfl) (hg := rfl); walk_at "ss"; (first | rfl | skip); (first | rfl | skip)))
local macro_rules | `(tactic| walk_at "end") => `(tactic| (apply q_end (hl := ⟨rfl, Nat.le_of_ble_eq_true rfl⟩) (hc := rfl) (hg := rfl); walk_at "ss"; (first | rfl | skip)))
local macro_rules | `(tactic| walk_at "make") => `(tactic| (apply q_make (hl := ⟨rfl, Nat.le_of_ble_eq_true rfl⟩) (hg := rfl) (hcl := rfl); walk_at "ss"; exact rfl; (first | rfl | skip); (first | rfl | skip)))
local macro_rules | `(tactic| walk_at "op") => `(tactic| exact op_fdivI (by omega))
local macro_rules | `(tactic| walk_at "op") => `(tactic| exact op_modI (by omega))
local macro_rules | `(tactic| walk_at "op") => `(tactic| exact op_mulI (by omega))
local macro_rules | `(tactic| walk_at "op") => `(tactic| exact op_mulL (by omega))
local macro_rules | `(tactic| walk_at "op") => `(tactic| first | with_reducible assumption | exact rfl)
local macro_rules | `(tactic| walk_at "st") => `(tactic| ((with_reducible apply w_seq); walk_at "s"; (with_reducible apply w_nx)))
local macro_rules | `(tactic| walk_at "call") => `(tactic| exact mk_slo (by omega) (by omega))
local macro_rules | `(tactic| walk_at "call") => `(tactic| exact mk_nxt (by assumption) (by omega))
local macro_rules | `(tactic| walk_at "call") => `(tactic| exact r_from (by assumption) (by omega) (by omega))
local macro_rules | `(tactic| walk_at "call") => `(tactic| exact r_neq)
local macro_rules | `(tactic| walk_at "call") => `(tactic| exact r_seq)
local macro_rules | `(tactic| walk_at "call") => `(tactic| exact r_off)
local macro_rules | `(tactic| walk_at "call") => `(tactic| exact r_many)
local macro_rules | `(tactic| walk_at "call") => `(tactic| exact r_end)
local macro_rules | `(tactic| walk_at "call") => `(tactic| exact r_bits)
local macro_rules | `(tactic| walk_at "call") => `(tactic| with_reducible assumption)
local macro_rules | `(tactic| walk_at "cmp") => `(tactic| exact c_pl rfl (ne_ints (l := [_, _])))
local macro_rules | `(tactic| walk_at "cmp") => `(tactic| exact c_pl rfl (ne_ints (l := [_, _, _])))
local macro_rules | `(tactic| walk_at "cmp") => `(tactic| exact c_pl rfl (ne_ints (l := [_, _, _, _])))
local macro_rules | `(tactic| walk_at "side") => `(tactic| exact swq)
local macro_rules | `(tactic| walk_at "call") => `(tactic| exact r_bytes (by omega))
local macro_rules | `(tactic| walk_at "call") => `(tactic| with_reducible assumption)
abbrev slS (k : Nat) (o n : Int) (x5 x6 x7 x8 x9 x10 x11 : Option Bn) (M : List Dt) : Sto := ⟨[some (.p (.cel k)), some (.p (.int o)), some (.p (.int n)), some (.p (sloD o n)), some (.p (.lst (rangeD o (o + n)))), x5, x6, x7, x8, x9, x10, x11, none, none], M⟩
theorem rg_few {a n : Int} (h : n ≤ 16) : (rangeD a (a + n)).length ≤ sizeLine := by
  rw [len_rangeD]
  exact le_s (by omega)
theorem sl_comp {cf ci : Nat → List Dt → List Dt → Rc} {k : Nat} {o n t u : Int} {x5 x6 x7 x8 x9 x10 : Option Bn} {M : List Dt} (hn : n ≤ 16) :
    evE pg cf ci (.comp (.var 12) [12] (.nm 12) (.var 4) (.cmp .In (.var 12) (.var 11))) (slS k o n x5 x6 x7 x8 x9 x10 (some (.p (.lst (rangeD t (t + u))))) M) = .ok (.lst ((rangeD o (o + n)).filter (qI t (t + u)))) (slS k o n x5 x6 x7 x8 x9 x10 (some (.p (.lst (rangeD t (t + u))))) M) := by
  have := e_comp (P := pg) (cf := cf) (ci := ci) (S := slS k o n x5 x6 x7 x8 x9 x10 (some (.p (.lst (rangeD t (t + u))))) M) (e := .var 12) (own := [12]) (tg := .nm 12) (it := .var 4) (c := .cmp .In (.var 12) (.var 11)) (q := qI t (t + u)) (v := fun d => d) (e_var rfl) rfl (rg_few hn) rfl (fun y hy => by
    obtain ⟨i, hi, rfl⟩ := mem_rg2.mp hy
    exact ⟨_, rfl, rfl, e_cmp (e_var rfl) (e_var rfl) (c_pl rfl in_rg), fun _ => e_var rfl⟩)
  rw [List.map_id'] at this
  exact this
theorem sl_loop {N k : Nat} {m : List Dt} {o n : Int} {x6 : Option Bn} (p : Pot) (hk : k < m.length) (ho : 0 ≤ o) (hn : 1 ≤ n ∧ n ≤ 16) : ∃ S', evS pg (C (N + 9)) (D (N + 9)) (b_l_slots_right[4]'(by decide)) (slS k o n none none none none none none none (m.set k (potD p))) = .nx S' ∧ ∃ x5 x7 x8 x9 x10 x11 q, S' = slS k o n x5 none x7 x8 x9 x10 x11 (m.set k (potD q)) := by
  refine s_for_inv (fun S => ∃ x5 x7 x8 x9 x10 x11 q, S = slS k o n x5 none x7 x8 x9 x10 x11 (m.set k (potD q))) (e_rng1 e_cst rfl) rfl ⟨none, none, none, none, none, none, p, rfl⟩ ?_
  rintro y hy S ⟨x5, x7, x8, x9, x10, x11, q, rfl⟩
  refine ⟨_, rfl, ?_⟩
  obtain ⟨d1, p1, hd1, h1⟩ := dw (N := N + 8) 40 q hk (by decide)
  obtain ⟨d2, p2, hd2, h2⟩ := dw (N := N + 8) 16 p1 hk (by decide)
  obtain ⟨x, p3, hx, h3⟩ := pw (N := N + 7) [.int n, .int 1, .int 16, .int (1 + d2)] p2 hk (by simp)
  obtain ⟨u, hu, rfl⟩ : ∃ v : Int, (1 ≤ v ∧ v ≤ 16) ∧ x = .int v := by
    simp only [List.mem_cons, List.not_mem_nil, or_false] at hx
    rcases hx with h | h | h | h <;> exact ⟨_, by omega, h⟩
  obtain ⟨t, ht, et⟩ : ∃ t : Int, 0 ≤ t ∧ (if o + d1 - 20 > 0 then o + d1 - 20 else 0) = t := ⟨_, by split <;> omega, rfl⟩
  have hmx : ∀ S, bi1 pg (C (N + 9)) .max [.int 0, .int (o + d1 - 20)] S = .ok (.int t) S := fun S => by
    simp only [bi1, biD, okD]
    rw [et]
  have hm1 := r_meets (N := N + 7) (o := o) (n := n) (p := t) (q := u) (m := m.set k (potD p3))
  have hm2 := r_meets (N := N + 7) (o := t) (n := u) (p := o) (q := n) (m := m.set k (potD p3))
  rw [Bool.and_comm] at hm2
  have hq := r_seq (N := N + 8) (o := o) (n := n) (p := t) (q := u) (m := m.set k (potD p3))
  have hdue : evS pg (C (N + 9)) (D (N + 9)) (.asg (.nm 9) (.cmp .Gt (.bi .len [(.comp (.var 12) [12] (.nm 12) (.var 4) (.cmp .In (.var 12) (.var 11)))]) (.cst (.int 0)))) (slS k o n (some (.p y)) none (some (.p (.int t))) (some (.p (.int u))) x9 (some (.p (sloD t u))) (some (.p (.lst (rangeD t (t + u))))) (m.set k (potD p3))) = .nx (slS k o n (some (.p y)) none (some (.p (.int t))) (some (.p (.int u))) (some (.p (.bl (decide (o < t + u) && decide (t < o + n))))) (some (.p (sloD t u))) (some (.p (.lst (rangeD t (t + u))))) (m.set k (potD p3))) := by
    rw [← filt_pos (a := o) (b := o + n) (c := t) (d := t + u) (by omega) (by omega)]
    exact w_asg (e_cmp (e_bi (e_cons (sl_comp hn.2) e_nil) rfl) e_cst (c_pl rfl rfl)) rfl
  have hr1 := rp2 (P := pg) (cf := C (N + 9)) (S := slS k o n (some (.p y)) none (some (.p (.int t))) (some (.p (.int u))) (some (.p (.bl (decide (o < t + u) && decide (t < o + n))))) (some (.p (sloD t u))) (some (.p (.lst (rangeD t (t + u))))) (m.set k (potD p3))) (a := decide (o < t + u) && decide (t < o + n)) (b := decide (o < t + u) && decide (t < o + n))
  refine ⟨_, s_cons (w_asg (e_bi (e_cons e_cst (e_cons (e_bin (e_bin (e_var rfl) (w_call (e_cons (e_var rfl) (e_cons e_cst e_nil)) rfl rfl rfl h1) rfl) e_cst rfl) e_nil)) (hmx _)) rfl)
    (s_cons (w_asg (w_call (e_cons (e_var rfl) (e_cons (e_lst (e_cons (e_var rfl) (e_cons e_cst (e_cons e_cst (e_cons (e_bin e_cst (w_call (e_cons (e_var rfl) (e_cons e_cst e_nil)) rfl rfl rfl h2) rfl) e_nil)))) (le_b rfl)) e_nil)) rfl rfl rfl h3) rfl)
    (s_cons (w_asg (e_tup (e_cons (w_make (e_cons (e_var rfl) (e_cons (e_var rfl) e_nil)) rfl rfl rfl (mk_slo (N := N + 5) ht hu)) (e_cons (w_call (e_cons (e_var rfl) (e_cons (e_var rfl) e_nil)) rfl rfl rfl (r_bytes (N := N + 8) hu)) e_nil)) (le_b rfl)) rfl)
    (s_cons hdue
    (s_cons (s_iff_f (e_cmp (e_bi (e_cons (e_lst (e_cons (w_meth (e_var rfl) rfl rfl (e_cons (e_var rfl) e_nil) rfl rfl rfl hm1) (e_cons (w_meth (e_var rfl) rfl rfl (e_cons (e_var rfl) e_nil) rfl rfl rfl hm2) e_nil)) (le_b rfl)) e_nil) hr1) (e_bi (e_cons (e_lst (e_cons (e_var rfl) (e_cons (e_var rfl) e_nil)) (le_b rfl)) e_nil) hr1) (c_pl rfl rp2_ne)) rfl s_nil)
    (s_cons (s_iff_f (e_cmp (e_cmp (e_var rfl) (e_var rfl) (w_eq rfl rfl hq)) (e_cmp (e_var rfl) (e_var rfl) (c_pl rfl (eq_rg hu.1 hn.1))) (c_pl rfl neDB)) swq s_nil) s_nil))))), _, _, _, _, _, _, p3, rfl⟩
end K11
namespace K11
open PySem PySem.Spec PyProof.Rows PyI
local macro_rules | `(tactic| walk_at "side") => `(tactic| first | with_reducible rfl | with_reducible assumption | omega | (simp; done) | (simp; omega))
local macro_rules | `(tactic| walk_at "call") => `(tactic| with_reducible assumption)
local macro_rules | `(tactic| walk_at "op") => `(tactic| first | with_reducible assumption | exact rfl)
local macro_rules | `(tactic| walk_at "bi") => `(tactic| first | with_reducible assumption | exact rfl)
local macro_rules | `(tactic| walk_at "cmp") => `(tactic| first
  | with_reducible assumption
  | exact c_pl rfl (by with_reducible assumption)
  | exact c_pl rfl eqDI
  | exact c_pl rfl neDI
  | exact c_pl rfl neDB
  | exact c_pl rfl rfl
  | ((with_reducible apply w_eq); exact rfl; exact rfl; walk_at "call")
  | ((with_reducible apply w_in); exact rfl; walk_at "call"))
local macro_rules | `(tactic| walk_at "cond") => `(tactic| first
  | ((with_reducible apply cond_t); (focus walk_at "side"))
  | ((with_reducible apply cond_f); (focus walk_at "side")))
local macro_rules | `(tactic| walk_at "meth") => `(tactic| ((with_reducible apply w_meth); walk_at "e"; exact rfl; exact rfl; walk_at "es"; exact rfl; exact rfl; exact rfl; walk_at "call"))
local macro_rules | `(tactic| walk_at "fld") => `(tactic| first
  | ((with_reducible apply e_fld); walk_at "e"; exact rfl; exact rfl; exact rfl)
  | ((with_reducible apply w_prop); walk_at "e"; exact rfl; walk_at "call"))
local macro_rules | `(tactic| walk_at "bin") => `(tactic| first
  | ((with_reducible apply e_bin); walk_at "e"; walk_at "e"; walk_at "op")
  | ((with_reducible apply w_binO); walk_at "e"; walk_at "e"; exact rfl; exact rfl; walk_at "call"))
local macro_rules | `(tactic| walk_at "e") => `(tactic| first
  | ((with_reducible apply e_var); exact rfl)
  | with_reducible exact e_cst
  | with_reducible exact e_glo
  | walk_at "bin"
  | ((with_reducible apply e_cmp); walk_at "e"; walk_at "e"; walk_at "cmp")
  | ((with_reducible apply w_call); walk_at "es"; exact rfl; exact rfl; exact rfl; walk_at "call")
  | ((with_reducible apply e_not); walk_at "e")
  | ((with_reducible apply e_ix); walk_at "e"; walk_at "e"; walk_at "op")
  | ((with_reducible apply e_bi); walk_at "es"; walk_at "bi")
  | ((with_reducible apply w_and); walk_at "e"; walk_at "cond"; walk_at "ke")
  | ((with_reducible apply w_or); walk_at "e"; walk_at "cond"; walk_at "ke")
  | ((with_reducible apply e_and); walk_at "e"; walk_at "e")
  | ((with_reducible apply e_or); walk_at "e"; walk_at "e")
  | ((with_reducible apply e_chn); walk_at "e"; walk_at "e"; exact rfl; walk_at "e"; exact rfl)
  | ((with_reducible apply w_ife); walk_at "e"; walk_at "cond"; walk_at "e")
  | ((with_reducible apply e_lst); walk_at "es"; exact Nat.le_of_ble_eq_true rfl)
  | ((with_reducible apply e_tup); walk_at "es"; exact Nat.le_of_ble_eq_true rfl)
  | ((with_reducible apply w_make); walk_at "es"; exact rfl; exact rfl; exact rfl; walk_at "call")
  | walk_at "meth"
  | walk_at "fld"
  | ((with_reducible apply e_neg); walk_at "e")
  | ((with_reducible apply e_isi); walk_at "e"; exact rfl)
  | ((with_reducible apply e_slcL); walk_at "e"; walk_at "e"; walk_at "op")
  | ((with_reducible apply e_slcH); walk_at "e"; walk_at "e"; walk_at "op")
  | ((with_reducible apply e_mk0); exact rfl; exact rfl)
  | with_reducible assumption)
local macro_rules | `(tactic| walk_at "ke") => `(tactic| first | with_reducible rfl | walk_at "e")
local macro_rules | `(tactic| walk_at "es") => `(tactic| first
  | with_reducible exact e_nil
  | ((with_reducible apply e_cons); walk_at "e"; walk_at "es"))
local macro_rules | `(tactic| walk_at "s") => `(tactic| first
  | ((with_reducible apply w_asg); walk_at "e"; exact rfl)
  | ((with_reducible apply w_if); walk_at "e"; walk_at "cond"; walk_at "ss")
  | ((with_reducible apply s_ret); walk_at "e")
  | ((with_reducible apply s_exp); walk_at "e")
  | ((with_reducible apply s_fld); walk_at "e"; exact rfl; exact rfl; exact Nat.le_of_ble_eq_true rfl)
  | ((with_reducible apply w_par); walk_at "e"; walk_at "e"; exact ⟨Nat.le_of_ble_eq_true rfl, Nat.le_of_ble_eq_true rfl⟩)
  | ((with_reducible apply w_aug); exact rfl; walk_at "e"; exact rfl; exact rfl; walk_at "call"; exact Nat.le_of_ble_eq_true rfl)
  | with_reducible assumption)
local macro_rules | `(tactic| walk_at "k") => `(tactic| first | with_reducible exact w_rt | ((with_reducible apply w_nx); walk_at "ss"))
local macro_rules | `(tactic| walk_at "ss") => `(tactic| first
  | with_reducible exact s_nil
  | ((with_reducible apply w_seq); walk_at "s"; walk_at "k"))
local macro_rules | `(tactic| walk_at "run") => `(tactic| (apply q_run (hl := ⟨rfl, Nat.le_of_ble_eq_true rfl⟩) (hc := rfl) (hg := rfl); walk_at "ss"; (first | rfl | skip); (first | rfl | skip)))
local macro_rules | `(tactic| walk_at "end") => `(tactic| (apply q_end (hl := ⟨rfl, Nat.le_of_ble_eq_true rfl⟩) (hc := rfl) (hg := rfl); walk_at "ss"; (first | rfl | skip)))
local macro_rules | `(tactic| walk_at "make") => `(tactic| (apply q_make (hl := ⟨rfl, Nat.le_of_ble_eq_true rfl⟩) (hg := rfl) (hcl := rfl); walk_at "ss"; exact rfl; (first | rfl | skip); (first | rfl | skip)))
local macro_rules | `(tactic| walk_at "op") => `(tactic| exact op_fdivI (by omega))
local macro_rules | `(tactic| walk_at "op") => `(tactic| exact op_modI (by omega))
local macro_rules | `(tactic| walk_at "op") => `(tactic| exact op_mulI (by omega))
local macro_rules | `(tactic| walk_at "op") => `(tactic| exact op_mulL (by omega))
local macro_rules | `(tactic| walk_at "op") => `(tactic| first | with_reducible assumption | exact rfl)
local macro_rules | `(tactic| walk_at "st") => `(tactic| ((with_reducible apply w_seq); walk_at "s"; (with_reducible apply w_nx)))
local macro_rules | `(tactic| walk_at "call") => `(tactic| exact mk_slo (by omega) (by omega))
local macro_rules | `(tactic| walk_at "call") => `(tactic| exact mk_nxt (by assumption) (by omega))
local macro_rules | `(tactic| walk_at "call") => `(tactic| exact r_from (by assumption) (by omega) (by omega))
local macro_rules | `(tactic| walk_at "call") => `(tactic| exact r_neq)
local macro_rules | `(tactic| walk_at "call") => `(tactic| exact r_seq)
local macro_rules | `(tactic| walk_at "call") => `(tactic| exact r_off)
local macro_rules | `(tactic| walk_at "call") => `(tactic| exact r_many)
local macro_rules | `(tactic| walk_at "call") => `(tactic| exact r_end)
local macro_rules | `(tactic| walk_at "call") => `(tactic| exact r_bits)
local macro_rules | `(tactic| walk_at "call") => `(tactic| with_reducible assumption)
local macro_rules | `(tactic| walk_at "cmp") => `(tactic| exact c_pl rfl (ne_ints (l := [_, _])))
local macro_rules | `(tactic| walk_at "cmp") => `(tactic| exact c_pl rfl (ne_ints (l := [_, _, _])))
local macro_rules | `(tactic| walk_at "cmp") => `(tactic| exact c_pl rfl (ne_ints (l := [_, _, _, _])))
def cB (o n : Int) : Dt → Bool
  | .int x => decide (0 ≤ x) && (decide (o ≤ x) && decide (x < o + n))
  | _ => false
theorem in_own {o n x : Int} (ho : 0 ≤ o) : cmpD .In (.int x) (.lst (rangeD o (o + n))) = some (cB o n (.int x)) := by
  rw [in_rg]
  congr 1
  show _ = (decide (0 ≤ x) && (decide (o ≤ x) && decide (x < o + n)))
  by_cases h : o ≤ x
  · rw [decide_eq_true h, decide_eq_true (show 0 ≤ x by omega)]
    simp
  · rw [decide_eq_false h]
    simp
abbrev nearL (o n d : Int) : List Dt := [.int (o - 1), .int o, .int (o + n - 1), .int (o + n - 1 + 1), .int (o + d)]
abbrev slT (k : Nat) (o n d : Int) (x5 x7 x8 x9 x10 x11 : Option Bn) (M : List Dt) : Sto := slS k o n x5 (some (.p (.lst (nearL o n d)))) x7 x8 x9 x10 x11 M
theorem sl_cA {N k : Nat} {o n d : Int} {x5 x7 x8 x9 x10 x11 : Option Bn} {M : List Dt} : evE pg (C (N + 9)) (D (N + 9)) (.comp (.cmp .In (.var 12) (.var 3)) [12] (.nm 12) (.var 6) (.cst (.bl true))) (slT k o n d x5 x7 x8 x9 x10 x11 M) = .ok (.lst ((nearL o n d).map fun y => .bl (cB o n y))) (slT k o n d x5 x7 x8 x9 x10 x11 M) := by
  have := e_comp (P := pg) (cf := C (N + 9)) (ci := D (N + 9)) (S := slT k o n d x5 x7 x8 x9 x10 x11 M) (e := .cmp .In (.var 12) (.var 3)) (own := [12]) (tg := .nm 12) (it := .var 6) (c := .cst (.bl true)) (q := fun _ => true) (v := fun y => .bl (cB o n y)) (e_var rfl) rfl (le_b rfl) rfl (fun y hy => by
    obtain ⟨i, rfl⟩ : ∃ i : Int, y = .int i := by
      simp only [List.mem_cons, List.not_mem_nil, or_false] at hy
      rcases hy with h | h | h | h | h <;> exact ⟨_, h⟩
    exact ⟨_, rfl, rfl, e_cst, fun _ => e_cmp (e_var rfl) (e_var rfl) (w_in rfl (r_cont (N := N + 6)))⟩)
  rw [filter_yes] at this
  exact this
theorem sl_cB {N k : Nat} {o n d : Int} {x5 x7 x8 x9 x10 x11 : Option Bn} {M : List Dt} (ho : 0 ≤ o) : evE pg (C (N + 9)) (D (N + 9)) (.comp (.cmp .In (.var 12) (.var 4)) [12] (.nm 12) (.var 6) (.cst (.bl true))) (slT k o n d x5 x7 x8 x9 x10 x11 M) = .ok (.lst ((nearL o n d).map fun y => .bl (cB o n y))) (slT k o n d x5 x7 x8 x9 x10 x11 M) := by
  have := e_comp (P := pg) (cf := C (N + 9)) (ci := D (N + 9)) (S := slT k o n d x5 x7 x8 x9 x10 x11 M) (e := .cmp .In (.var 12) (.var 4)) (own := [12]) (tg := .nm 12) (it := .var 6) (c := .cst (.bl true)) (q := fun _ => true) (v := fun y => .bl (cB o n y)) (e_var rfl) rfl (le_b rfl) rfl (fun y hy => by
    obtain ⟨i, rfl⟩ : ∃ i : Int, y = .int i := by
      simp only [List.mem_cons, List.not_mem_nil, or_false] at hy
      rcases hy with h | h | h | h | h <;> exact ⟨_, h⟩
    exact ⟨_, rfl, rfl, e_cst, fun _ => e_cmp (e_var rfl) (e_var rfl) (c_pl rfl (in_own ho))⟩)
  rw [filter_yes] at this
  exact this
theorem sl_cC {N k : Nat} {o n d : Int} {x5 x7 x8 x9 x10 x11 : Option Bn} {M : List Dt} (h : 0 ≤ o ∧ o < 1000000000000000000000) : evE pg (C (N + 9)) (D (N + 9)) (.comp (.cmp .In (.var 13) (.var 3)) [13] (.nm 13) (.lst [(.cst (.bl true)), (.cst (.non)), (.bi .str [(.var 1)]), (.lst [(.var 1)]), (.var 3), (.bin .Sub (.cst (.int 0)) (.cst (.int 1)))]) (.cst (.bl true))) (slT k o n d x5 x7 x8 x9 x10 x11 M) = .ok (.lst [.bl false, .bl false, .bl false, .bl false, .bl false, .bl false]) (slT k o n d x5 x7 x8 x9 x10 x11 M) := by
  have := e_comp (P := pg) (cf := C (N + 9)) (ci := D (N + 9)) (S := slT k o n d x5 x7 x8 x9 x10 x11 M) (e := .cmp .In (.var 13) (.var 3)) (own := [13]) (tg := .nm 13) (it := .lst [(.cst (.bl true)), (.cst (.non)), (.bi .str [(.var 1)]), (.lst [(.var 1)]), (.var 3), (.bin .Sub (.cst (.int 0)) (.cst (.int 1)))]) (c := .cst (.bl true)) (q := fun _ => true) (v := fun _ => .bl false) (xs := [.bl true, .non, .str (toString o), .lst [.int o], sloD o n, .int (0 - 1)])
    (e_lst (e_cons e_cst (e_cons e_cst (e_cons (e_bi (e_cons (e_var rfl) e_nil) (bi_str (tlog h))) (e_cons (e_lst (e_cons (e_var rfl) e_nil) (le_b rfl)) (e_cons (e_var rfl) (e_cons (e_bin e_cst e_cst rfl) e_nil)))))) (le_b rfl)) rfl (le_b rfl) rfl (fun y hy => by
    have hh : C (N + 9) i_Slots___contains__ [sloD o n, y] M = .ok (.p (.bl false)) M := by
      simp only [List.mem_cons, List.not_mem_nil, or_false] at hy
      rcases hy with h | h | h | h | h | h
      · subst h; exact r_cont_no (N := N + 6) rfl
      · subst h; exact r_cont_no (N := N + 6) rfl
      · subst h; exact r_cont_no (N := N + 6) rfl
      · subst h; exact r_cont_no (N := N + 6) rfl
      · subst h; exact r_cont_no (N := N + 6) rfl
      · subst h
        exact r_cont (N := N + 6)
    exact ⟨_, rfl, rfl, e_cst, fun _ => e_cmp (e_var rfl) (e_var rfl) (w_in rfl hh)⟩)
  exact this
theorem sl_q {o n : Int} : cmpD .NotEq (.lst [.int o, .int n, .int (o + n), .int (8 * n)]) (.lst [.int o, .int n, .int (o + n - 1 + 1), .int (8 * n)]) = some false := by
  rw [show o + n - 1 + 1 = o + n by omega]
  exact ne_ints (l := [o, n, o + n, 8 * n])
theorem r_slots {N k : Nat} {m : List Dt} {o n : Int} (p : Pot) (hk : k < m.length) (ho : 0 ≤ o ∧ o < 1000000000000000000000) (hn : 1 ≤ n ∧ n ≤ 16) : ∃ p', C (N + 10) i_l_slots_right [.cel k, .int o, .int n] (m.set k (potD p)) = .ok (.p (.bl true)) (m.set k (potD p')) := by
  obtain ⟨S1, h1, x5, x7, x8, x9, x10, x11, q1, rfl⟩ := sl_loop (N := N) (k := k) (m := m) (x6 := none) p hk ho.1 hn
  obtain ⟨d, p2, hd, h2⟩ := dw (N := N + 8) 20 q1 hk (by decide)
  have h3 := sl_if (N := N) (k := k) (m := m.set k (potD p)) (r := (slS k o n none none none none none none none (m.set k (potD p))).r) rfl rfl rfl ho hn
  refine ⟨p2, q_run (hg := rfl) ⟨rfl, le_b rfl⟩ rfl (s_cons (w_asg (w_make (e_cons (e_var rfl) (e_cons (e_var rfl) e_nil)) rfl rfl rfl (mk_slo (N := N + 5) ho.1 hn)) rfl)
    (s_cons (w_asg (w_call (e_cons (e_var rfl) (e_cons (e_var rfl) e_nil)) rfl rfl rfl (r_bytes (N := N + 8) hn)) rfl)
    (s_cons (s_iff_f (e_cmp (e_lst (e_cons (w_prop (e_var rfl) rfl (r_off (N := N + 8))) (e_cons (w_prop (e_var rfl) rfl (r_many (N := N + 8))) (e_cons (w_prop (e_var rfl) rfl (r_end (N := N + 8))) (e_cons (w_prop (e_var rfl) rfl (r_bits (N := N + 8))) e_nil)))) (le_b rfl)) (e_lst (e_cons (e_var rfl) (e_cons (e_var rfl) (e_cons (e_bin (e_ix (e_var rfl) (e_neg e_cst) (last_rg hn.1)) e_cst rfl) (e_cons (e_bin e_cst (e_bi (e_cons (e_var rfl) e_nil) (len_rg (by omega))) (op_mulL (by omega))) e_nil)))) (le_b rfl)) (c_pl rfl sl_q)) rfl s_nil)
    (s_cons h3 (s_cons h1
    (s_cons (w_asg (e_lst (e_cons (e_bin (e_var rfl) e_cst rfl) (e_cons (e_var rfl) (e_cons (e_ix (e_var rfl) (e_neg e_cst) (last_rg hn.1)) (e_cons (e_bin (e_ix (e_var rfl) (e_neg e_cst) (last_rg hn.1)) e_cst rfl) (e_cons (e_bin (e_var rfl) (w_call (e_cons (e_var rfl) (e_cons e_cst e_nil)) rfl rfl rfl h2) rfl) e_nil))))) (le_b rfl)) rfl)
    (s_cons (s_iff_f (e_cmp (sl_cA (N := N)) (sl_cB (N := N) ho.1) (c_pl rfl (ne_bls (l := [_, _, _, _, _])))) rfl s_nil)
    (s_stop (s_ret (e_cmp (sl_cC (N := N) ho) (e_bin (e_lst (e_cons e_cst e_nil) (le_b rfl)) e_cst (d := .lst [.bl false, .bl false, .bl false, .bl false, .bl false, .bl false]) (by kernel_rfl)) (c_pl rfl (k := true) (by kernel_rfl)))))))))))) rfl rfl⟩
end K11
namespace K11
open PySem PySem.Spec PyProof.Rows PyI
/-! the turns and the law -/
abbrev riS (k : Nat) (x1 x2 x3 : Option Bn) (M : List Dt) : Sto := ⟨[some (.p (.cel k)), x1, x2, x3], M⟩
theorem r_loop {N k : Nat} {m : List Dt} (p : Pot) (hk : k < m.length) : ∃ S', evS pg (C (N + 11)) (D (N + 11)) (b_l_right[1]'(by decide)) (riS k none none none (m.set k (potD p))) = .nx S' ∧ ∃ x1 x2 x3 q, S' = riS k x1 x2 x3 (m.set k (potD q)) := by
  refine s_for_inv (fun S => ∃ x1 x2 x3 q, S = riS k x1 x2 x3 (m.set k (potD q))) (e_rng1 e_cst rfl) rfl ⟨none, none, none, p, rfl⟩ ?_
  rintro y hy S ⟨x1, x2, x3, q, rfl⟩
  refine ⟨_, rfl, ?_⟩
  obtain ⟨d1, p1, hd1, h1⟩ := dw (N := N + 10) 20 q hk (by decide)
  obtain ⟨d2, p2, hd2, h2⟩ := dw (N := N + 10) 64 p1 hk (by decide)
  obtain ⟨d3, p3, hd3, h3⟩ := dw (N := N + 10) 99 p2 hk (by decide)
  obtain ⟨x, p4, hx, h4⟩ := pw (N := N + 9) [.int 0, .int d1, .int d2, .int (100000000000000000000 + d3)] p3 hk (by simp)
  obtain ⟨o, ho, rfl⟩ : ∃ v : Int, (0 ≤ v ∧ v < 1000000000000000000000) ∧ x = .int v := by
    simp only [List.mem_cons, List.not_mem_nil, or_false] at hx
    rcases hx with h | h | h | h <;> exact ⟨_, by omega, h⟩
  obtain ⟨d5, p5, hd5, h5⟩ := dw (N := N + 10) 16 p4 hk (by decide)
  obtain ⟨z, p6, hz, h6⟩ := pw (N := N + 9) [.int 1, .int 16, .int (1 + d5)] p5 hk (by simp)
  obtain ⟨n, hn, rfl⟩ : ∃ v : Int, (1 ≤ v ∧ v ≤ 16) ∧ z = .int v := by
    simp only [List.mem_cons, List.not_mem_nil, or_false] at hz
    rcases hz with h | h | h <;> exact ⟨_, by omega, h⟩
  obtain ⟨p7, h7⟩ := r_slots (N := N + 1) p6 hk ho hn
  obtain ⟨p8, h8⟩ := r_moved (N := N + 1) p7 hk ho.1 hn
  exact ⟨_, s_cons (w_asg (w_call (e_cons (e_var rfl) (e_cons (e_lst (e_cons e_cst (e_cons (w_call (e_cons (e_var rfl) (e_cons e_cst e_nil)) rfl rfl rfl h1) (e_cons (w_call (e_cons (e_var rfl) (e_cons e_cst e_nil)) rfl rfl rfl h2) (e_cons (e_bin (e_bin e_cst e_cst pow20) (w_call (e_cons (e_var rfl) (e_cons e_cst e_nil)) rfl rfl rfl h3) rfl) e_nil)))) (le_b rfl)) e_nil)) rfl rfl rfl h4) rfl)
    (s_cons (w_asg (w_call (e_cons (e_var rfl) (e_cons (e_lst (e_cons e_cst (e_cons e_cst (e_cons (e_bin e_cst (w_call (e_cons (e_var rfl) (e_cons e_cst e_nil)) rfl rfl rfl h5) rfl) e_nil))) (le_b rfl)) e_nil)) rfl rfl rfl h6) rfl)
    (s_cons (s_iff_f (e_or_f (e_not (w_call (e_cons (e_var rfl) (e_cons (e_var rfl) (e_cons (e_var rfl) e_nil))) rfl rfl rfl h7)) rfl (e_not (w_call (e_cons (e_var rfl) (e_cons (e_var rfl) (e_cons (e_var rfl) e_nil))) rfl rfl rfl h8))) rfl s_nil) s_nil)), _, _, _, p8, rfl⟩
theorem r_right {N k : Nat} {m : List Dt} (p : Pot) (hk : k < m.length) : ∃ p', C (N + 12) i_l_right [.cel k] (m.set k (potD p)) = .ok (.p (.bl true)) (m.set k (potD p')) := by
  obtain ⟨p1, h1⟩ := r_regs (N := N + 1) p hk
  obtain ⟨p2, h2⟩ := r_nexts (N := N + 1) p1 hk
  obtain ⟨p3, h3⟩ := r_unl (N := N + 1) p2 hk
  obtain ⟨S', h4, x1, x2, x3, q, rfl⟩ := r_loop (N := N) p3 hk
  exact ⟨q, q_run (hg := rfl) ⟨rfl, le_b rfl⟩ rfl (s_cons (s_iff_f (e_or_f (e_not (w_call (e_cons (e_var rfl) e_nil) rfl rfl rfl h1)) rfl (e_or_f (e_not (w_call (e_cons (e_var rfl) e_nil) rfl rfl rfl h2)) rfl (e_not (w_call (e_cons (e_var rfl) e_nil) rfl rfl rfl h3)))) rfl s_nil) (s_cons h4 (s_stop (s_ret e_cst)))) rfl rfl⟩
theorem r_pot {N k : Nat} {ns : List Int} {m : List Dt} (hk : k < 1000) : C (N + 1) i_l_pot [.scr ns, .int k] m = .ok (.p (.cel m.length)) (m ++ [potD (potOf ns k)]) := by
  show Cf pg (N + 1) _ _ _ = _
  rw [Cf_succ]
  exact pot_run (P := pg) (cf := Cf pg N) (ci := Df pg N) (g := i_l_pot) (shs := [(2, [], [.a 0, .a 1])]) rfl hk
theorem mem_rg {j : Nat} {y : Dt} (h : y ∈ rangeD 0 (j : Int)) : ∃ i : Nat, i < j ∧ y = .int (i : Int) := by
  unfold rangeD at h
  obtain ⟨i, hi, rfl⟩ := List.mem_map.mp h
  have := List.mem_range.mp hi
  exact ⟨i, by omega, by simp⟩
theorem bools_map {α : Type} {f : α → Bool} : ∀ {l : List α}, boolsD (l.map fun a => .bl (f a)) = some (l.map f)
  | [] => rfl
  | a :: l => by
    rw [List.map_cons, List.map_cons]
    unfold boolsD
    rw [bools_map]
    rfl
theorem all_b {P : Pg} {cf : Nat → List Dt → List Dt → Rc} {S : Sto} {ds : List Dt} {bs : List Bool} (h : boolsD ds = some bs) : bi1 P cf .all [.lst ds] S = .ok (.bl (bs.all id)) S := by
  simp only [bi1, biD, h, Option.map_some, okD]
theorem r_law {N : Nat} {ns : List Int} : ∃ m, C (N + 13) i_law [.scr ns] [] = .ok (.p (.bl true)) m := by
  have hi : evE pg (C (N + 12)) (D (N + 12)) (.rng1 (.bi .max [(.cst (.int 1)), (.bi .min [(.bi .len [(.var 0)]), (.cst (.int 4))])])) ⟨[some (.p (.scr ns)), none], []⟩ = .ok (.lst (rangeD 0 ((max 1 (min ns.length 4) : Nat) : Int))) ⟨[some (.p (.scr ns)), none], []⟩ :=
    e_rng1 (e_bi (e_cons e_cst (e_cons (e_bi (e_cons (e_bi (e_cons (e_var rfl) e_nil) rfl) (e_cons e_cst e_nil)) (mnN (b := 4))) e_nil)) (mxN (a := 1))) (small_of (by omega))
  have hlen : (rangeD 0 ((max 1 (min ns.length 4) : Nat) : Int)).length ≤ sizeLine := by
    rw [len_rangeD]
    exact le_s (by omega)
  obtain ⟨m', _, h⟩ := e_comp_inv (P := pg) (cf := C (N + 12)) (ci := D (N + 12)) (S := ⟨[some (.p (.scr ns)), none], []⟩) (e := .call i_l_right [] [(.call i_l_pot [] [(.var 0), (.var 1)])]) (own := [1]) (tg := .nm 1) (c := .cst (.bl true)) (v := fun _ => .bl true) (fun _ => True) hi rfl hlen rfl trivial (by
      intro y hy m _
      obtain ⟨i, h1, rfl⟩ := mem_rg hy
      obtain ⟨q, g⟩ := r_right (N := N) (k := m.length) (m := m ++ [potD (potOf ns i)]) (potOf ns i) cell_lt
      rw [← new_cell] at g
      exact ⟨_, rfl, e_cst, _, _, w_call (e_cons (w_call (e_cons (e_var rfl) (e_cons (e_var rfl) e_nil)) rfl rfl rfl (r_pot (N := N + 11) (by omega))) e_nil) rfl rfl rfl g, rfl, trivial⟩)
  have hb : boolsD ((rangeD 0 ((max 1 (min ns.length 4) : Nat) : Int)).map fun _ => .bl true) = some ((rangeD 0 ((max 1 (min ns.length 4) : Nat) : Int)).map fun _ => true) := bools_map (f := fun _ => true)
  refine ⟨m', q_run (hg := rfl) ⟨rfl, le_b rfl⟩ rfl (s_stop (s_ret (e_bi (e_cons h e_nil) (all_b hb)))) ?_ rfl⟩
  congr 1
  rw [List.all_map, List.all_eq_true]
  intro x _
  rfl
end K11
namespace K11
open PySem PySem.Spec PyProof.Rows PyI
abbrev R : PySem.W.OpenRow := PySem.W.OpenLaw.row PySem.Challenge.rw_unlikecalls_k11_whole_places_by_bytes
theorem run (w : World) : HandSHeadRun.RunEq R (PySem.W.view R.prog [lawIx]) (hookB 6 (tabB tb)) (obB 6 (tabB tb)) 8000 loose w := by
  intro os
  kernel_rfl
end K11
open PySem PySem.W PySem.Calls PyProof.Rows PyI
theorem PySem.Challenge.cw_unlikecalls_k11_whole_places_by_bytes_holds : PySem.Challenge.rw_unlikecalls_k11_whole_places_by_bytes.Holds := by
  w_on; o_law
  refine HandSHeadRun.head_any (r := K11.R) (q := PySem.W.view K11.R.prog [K11.lawIx]) (H := hookB 6 (tabB K11.tb)) (ob := obB 6 (tabB K11.tb)) (M := 8000) (loose := K11.loose) (d := HandSHeadRun.topDef K11.R.prog K11.lawIx) (kwd := []) obB_eq
    (by kernel_rfl) (fun s => by kernel_rfl) K11.run (by kernel_rfl) (by kernel_rfl) (by kernel_rfl) (by rfl) (by first | assumption | decide +kernel) (by decide +kernel) ⟨rfl, rfl, rfl, rfl, rfl, by decide +kernel⟩ ?hw ?hc
  case hw => w_witness2
  case hc =>
    refine walk_run (fuel := 13) (n := 63) (g := K11.i_law) rfl (by decide) (by kernel_rfl) ⟨by decide, by decide, by decide⟩ (by kernel_rfl) (by kernel_rfl) (by kernel_rfl) (fun ns _ => ?_)
    obtain ⟨m, h⟩ := K11.r_law (N := 0) (ns := ns)
    have h : Cf K11.pg 13 K11.i_law [.scr ns] [] = .ok (.p (.bl true)) m := h
    rw [Cf_eq] at h
    exact ⟨m, h⟩
