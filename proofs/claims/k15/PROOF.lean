import PyProof.Rows.All
import Wide.All
import OpenK.AllK
import Wide.FinOn
import HandS.ForMost
import HandS.ForExc
import HandS.ClsMeth
import HandS.Defaults
import HandS.Deep
import HandS.Style
import HandS.Walk
import HandS.FStr
import HandS.IsInst
import HandS.Property
import KE.KCallOwn
import HandS.RaiseMore
import KE.KOpsOwn
import PyProof.EqKinds
import HandS.ListEq
import HandS.SlotsOwn
import HandS.Conv
import PyProof.LongRange
import PyProof.ListRange
import KE.GoesMore
import HandS.New0
import HandS.Star
import HandS.HeadHook1
import HandS.Ends
import HandS.Head2
import PySem.Challenge.RW_unlikecalls_k15_whole_fills_done_as_work
set_option Elab.async false
set_option linter.all false
set_option maxRecDepth 100000
set_option maxHeartbeats 0
namespace PyI
open PySem PySem.Spec PyProof.Rows L2
/-! data -/
inductive Dt where
  | non | bl (b : Bool) | int (i : Int) | str (x : Str)
  | lst (xs : List Dt) | tup (xs : List Dt) | dct (ks : List Key) (vs : List Dt)
  | ins (c : Nat) (ns : List Str) (vs : List Dt)
  | cel (k : Nat) | cls (c : Nat) | ty (n : String) | scr (xs : List Int)
/-- what a slot holds: shared data, or an object that is this frame's alone -/
inductive Bn where
  | p (d : Dt) | o (d : Dt)
structure Fx where
  K : PySem.W.Frag
  ca : Nat → Addr
  fa : Nat → Addr
structure Wd where
  G : Hp
  A : List Addr
structure Le (w w' : Wd) : Prop where
  g : ∀ a o, w.G a = some o → w'.G a = some o
  a : ∃ m, w'.A = w.A ++ m
theorem Le.refl (w : Wd) : Le w w := ⟨fun _ _ h => h, [], by simp⟩
theorem Le.trans {w w1 w2 : Wd} (x : Le w w1) (y : Le w1 w2) : Le w w2 := by
  obtain ⟨m, hm⟩ := x.a
  obtain ⟨n, hn⟩ := y.a
  exact ⟨fun a o h => y.g a o (x.g a o h), m ++ n, by rw [hn, hm, List.append_assoc]⟩
theorem Le.at {w w' : Wd} (x : Le w w') {k : Nat} {a : Addr} (h : w.A[k]? = some a) : w'.A[k]? = some a := by
  obtain ⟨m, hm⟩ := x.a
  rw [hm]
  have hk : k < w.A.length := (List.getElem?_eq_some_iff.mp h).1
  rw [List.getElem?_append_left hk]
  exact h
theorem rd_mono {H H' : Hp} {a : Addr} {u : HO} (e : ∀ a o, H a = some o → H' a = some o) (h : Rd H a u) : Rd H' a u := by
  rcases h with h | ⟨o, h⟩
  · exact .inl (e _ _ h)
  · exact .inr ⟨o, e _ _ h⟩
theorem sqL_mono {K : PySem.W.Frag} {H H' : Hp} {a : Addr} {xs : List V} (e : ∀ a o, H a = some o → H' a = some o) (h : SqL K H a xs) : SqL K H' a xs := by
  rcases h with h | h
  · exact .inl (rd_mono e h)
  · exact .inr h
theorem sqT_mono {K : PySem.W.Frag} {H H' : Hp} {a : Addr} {xs : List V} (e : ∀ a o, H a = some o → H' a = some o) (h : SqT K H a xs) : SqT K H' a xs := by
  rcases h with h | h
  · exact .inl (rd_mono e h)
  · exact .inr h
mutual
def Dn (F : Fx) (w : Wd) : Dt → V → Prop
  | .non, v => v = .non
  | .bl b, v => v = .bl b
  | .int i, v => v = .int i
  | .str x, v => v = .str x
  | .lst ds, v => ∃ a vs, v = .ref a ∧ w.G a = some (.lst vs) ∧ Dns F w ds vs
  | .tup ds, v => ∃ a vs, v = .ref a ∧ SqT F.K w.G a vs ∧ Dns F w ds vs
  | .dct ks ds, v => ∃ a vs, v = .ref a ∧ w.G a = some (.dK (ks.zip vs)) ∧ ks.length = vs.length ∧ Dns F w ds vs
  | .ins c ns ds, v => ∃ a dx vs, v = .ref a ∧ w.G a = some (.ins (F.ca c) dx (ns.zip vs)) ∧ ns.length = vs.length ∧ Dns F w ds vs
  | .cel k, v => ∃ a, v = .ref a ∧ w.A[k]? = some a
  | .cls c, v => v = .ref (F.ca c)
  | .ty n, v => v = .ty n
  | .scr xs, v => ∃ a, v = .ref a ∧ SqL F.K w.G a (xs.map V.int)
def Dns (F : Fx) (w : Wd) : List Dt → List V → Prop
  | [], vs => vs = []
  | d :: ds, vs => ∃ v r, vs = v :: r ∧ Dn F w d v ∧ Dns F w ds r
end
mutual
theorem Dn.mono {F : Fx} {w w' : Wd} (l : Le w w') : ∀ (d : Dt) {v : V}, Dn F w d v → Dn F w' d v
  | .non, _, h => h
  | .bl _, _, h => h
  | .int _, _, h => h
  | .str _, _, h => h
  | .lst ds, _, ⟨a, vs, e, s, r⟩ => ⟨a, vs, e, l.g _ _ s, Dns.mono l ds r⟩
  | .tup ds, _, ⟨a, vs, e, s, r⟩ => ⟨a, vs, e, sqT_mono l.g s, Dns.mono l ds r⟩
  | .dct ks ds, _, ⟨a, vs, e, s, n, r⟩ => ⟨a, vs, e, l.g _ _ s, n, Dns.mono l ds r⟩
  | .ins c ns ds, _, ⟨a, dx, vs, e, s, n, r⟩ => ⟨a, dx, vs, e, l.g _ _ s, n, Dns.mono l ds r⟩
  | .cel k, _, ⟨a, e, h⟩ => ⟨a, e, l.at h⟩
  | .cls _, _, h => h
  | .ty _, _, h => h
  | .scr _, _, ⟨a, e, h⟩ => ⟨a, e, sqL_mono l.g h⟩
theorem Dns.mono {F : Fx} {w w' : Wd} (l : Le w w') : ∀ (ds : List Dt) {vs : List V}, Dns F w ds vs → Dns F w' ds vs
  | [], _, h => h
  | d :: ds, _, ⟨v, r, e, h, t⟩ => ⟨v, r, e, Dn.mono l d h, Dns.mono l ds t⟩
end
theorem Dns.length {F : Fx} {w : Wd} : ∀ {ds : List Dt} {vs : List V}, Dns F w ds vs → ds.length = vs.length
  | [], _, h => by cases h; rfl
  | d :: ds, _, ⟨v, r, e, _, t⟩ => by subst e; simp [Dns.length t]
theorem Dns.get {F : Fx} {w : Wd} : ∀ {ds : List Dt} {vs : List V} {i : Nat} {d : Dt}, Dns F w ds vs → ds[i]? = some d → ∃ v, vs[i]? = some v ∧ Dn F w d v
  | [], _, _, _, _, e => by simp at e
  | d :: ds, _, 0, _, ⟨v, r, e, h, t⟩, e2 => by
    simp at e2
    subst e
    subst e2
    exact ⟨v, rfl, h⟩
  | d :: ds, _, i + 1, d', ⟨v, r, e, h, t⟩, e2 => by
    subst e
    obtain ⟨v', h1, h2⟩ := Dns.get (i := i) (d := d') t (by simpa using e2)
    exact ⟨v', by simpa using h1, h2⟩
theorem Dns.append {F : Fx} {w : Wd} : ∀ {ds es : List Dt} {vs us : List V}, Dns F w ds vs → Dns F w es us → Dns F w (ds ++ es) (vs ++ us)
  | [], _, _, _, h, t => by cases h; exact t
  | d :: ds, _, _, _, ⟨v, r, e, h, t⟩, q => by
    subst e
    exact ⟨v, r ++ _, rfl, h, Dns.append t q⟩
theorem Dns.set {F : Fx} {w : Wd} {d : Dt} {v : V} (h : Dn F w d v) : ∀ {ds : List Dt} {vs : List V} (i : Nat), Dns F w ds vs → Dns F w (ds.set i d) (vs.set i v)
  | [], _, _, q => by cases q; exact rfl
  | _ :: _, _, 0, ⟨v', r, e, _, t⟩ => by subst e; exact ⟨v, r, rfl, h, t⟩
  | _ :: ds, _, i + 1, ⟨v', r, e, h', t⟩ => by subst e; exact ⟨v', r.set i v, rfl, h', Dns.set h i t⟩
/-- the content of an object that may change -/
def Mc (F : Fx) (w : Wd) (H : Hp) (a : Addr) : Dt → Prop
  | .lst ds => ∃ vs, H a = some (.lst vs) ∧ Dns F w ds vs
  | .ins c ns ds => ∃ dx vs, H a = some (.ins (F.ca c) dx (ns.zip vs)) ∧ ns.length = vs.length ∧ Dns F w ds vs
  | _ => False
theorem Mc.there {F : Fx} {w : Wd} {H : Hp} {a : Addr} : ∀ {d : Dt}, Mc F w H a d → ∃ o, H a = some o
  | .lst _, ⟨_, h, _⟩ => ⟨_, h⟩
  | .ins _ _ _, ⟨_, _, h, _⟩ => ⟨_, h⟩
  | .non, h | .bl _, h | .int _, h | .str _, h | .tup _, h | .dct _ _, h | .cel _, h | .cls _, h | .ty _, h | .scr _, h => h.elim
theorem Mc.move {F : Fx} {w w' : Wd} {H H' : Hp} {a : Addr} (l : Le w w') (e : ∀ o, H a = some o → H' a = some o) : ∀ {d : Dt}, Mc F w H a d → Mc F w' H' a d
  | .lst ds, ⟨vs, h, r⟩ => ⟨vs, e _ h, Dns.mono l ds r⟩
  | .ins _ _ ds, ⟨dx, vs, h, n, r⟩ => ⟨dx, vs, e _ h, n, Dns.mono l ds r⟩
  | .non, h | .bl _, h | .int _, h | .str _, h | .tup _, h | .dct _ _, h | .cel _, h | .cls _, h | .ty _, h | .scr _, h => h.elim
structure Sto where
  r : List (Option Bn)
  m : List Dt
/-- a frame: the heap and the world at its entry; ex: what the caller hands over to be changed -/
structure Fm where
  H0 : Hp
  w0 : Wd
  ex : List Addr
  xi : List Addr
/-- the cells -/
structure Cs (F : Fx) (w : Wd) (H : Hp) (m : List Dt) : Prop where
  fr : ∀ a o, w.G a = some o → H a = some o
  nd : w.A.Nodup
  ln : w.A.length = m.length
  ce : ∀ a ∈ w.A, w.G a = none
  co : ∀ (k : Nat) a d, w.A[k]? = some a → m[k]? = some d → Mc F w H a d
/-- from the frame's entry to now -/
structure Xt (f : Fm) (w : Wd) (H : Hp) : Prop where
  le : Le f.w0 w
  gn : ∀ a o, w.G a = some o → f.w0.G a = some o ∨ f.H0 a = none ∨ a ∈ f.ex
  an : ∀ a ∈ w.A, a ∈ f.w0.A ∨ f.H0 a = none
  pr : ∀ a o, f.H0 a = some o → a ∉ f.w0.A → a ∉ f.ex → H a = some o
  xs : ∀ a ∈ f.ex, ∃ o, H a = some o
def insB : Dt → Bool
  | .ins _ _ _ => true
  | _ => false
/-- an address of the frame's own: new, or handed in; an instance: handed in -/
def Ofr (f : Fm) (a : Addr) (d : Dt) : Prop := (f.H0 a = none ∨ a ∈ f.ex) ∧ (insB d = true → a ∈ f.xi)
structure Rr (F : Fx) (f : Fm) (w : Wd) (σ : L2.St) (H : Hp) (S : Sto) : Prop where
  cs : Cs F w H S.m
  xt : Xt f w H
  sl : σ.length = S.r.length
  pu : ∀ (i : Nat) d, S.r[i]? = some (some (.p d)) → ∃ v, σ[i]? = some (some v) ∧ Dn F w d v
  ow : ∀ (i : Nat) d, S.r[i]? = some (some (.o d)) → ∃ a, σ[i]? = some (some (.ref a)) ∧ w.G a = none ∧ a ∉ w.A ∧ Mc F w H a d ∧ Ofr f a d
  dj : ∀ (i j : Nat) a d e, S.r[i]? = some (some (.o d)) → S.r[j]? = some (some (.o e)) → σ[i]? = some (some (.ref a)) → σ[j]? = some (some (.ref a)) → i = j
theorem Cs.some {F : Fx} {w : Wd} {H : Hp} {m : List Dt} (c : Cs F w H m) {a : Addr} (h : a ∈ w.A) : ∃ o, H a = some o := by
  obtain ⟨k, hk⟩ := List.mem_iff_getElem?.mp h
  have hl : k < w.A.length := (List.getElem?_eq_some_iff.mp hk).1
  rw [c.ln] at hl
  exact (c.co k a _ hk (List.getElem?_eq_getElem hl)).there
theorem Cs.new {F : Fx} {w : Wd} {H : Hp} {m : List Dt} (c : Cs F w H m) {p : Addr} (h : H p = none) : w.G p = none ∧ p ∉ w.A := by
  constructor
  · cases e : w.G p with
    | none => rfl
    | some o =>
      rw [c.fr p o e] at h
      cases h
  · intro q
    obtain ⟨o, e⟩ := c.some q
    rw [e] at h
    cases h
theorem le_upd {w : Wd} {p : Addr} {o : HO} (h : w.G p = none) : Le w ⟨upd w.G p o, w.A⟩ :=
  ⟨fun a u e => by
    show upd w.G p o a = some u
    rw [upd_ne (ne_of_none e h)]
    exact e, [], by simp⟩
theorem Xt.mem {f : Fm} {w : Wd} {H : Hp} (x : Xt f w H) {a : Addr} (h : a ∈ f.w0.A) : a ∈ w.A := by
  obtain ⟨m, hm⟩ := x.le.a
  rw [hm]
  exact List.mem_append_left _ h
theorem Rr.new0 {F : Fx} {f : Fm} {w : Wd} {σ : L2.St} {H : Hp} {S : Sto} (R : Rr F f w σ H S) {p : Addr} (h : H p = none) : f.H0 p = none := by
  obtain ⟨gp, ap⟩ := R.cs.new h
  cases e : f.H0 p with
  | none => rfl
  | some u =>
    by_cases h1 : p ∈ f.w0.A
    · exact absurd (R.xt.mem h1) ap
    · by_cases h2 : p ∈ f.ex
      · obtain ⟨o, q⟩ := R.xt.xs p h2
        rw [q] at h
        cases h
      · rw [R.xt.pr p u e h1 h2] at h
        cases h
/-- the heap and the world grow, no slot and no cell changes -/
theorem Rr.grow {F : Fx} {f : Fm} {w w' : Wd} {σ : L2.St} {H H' : Hp} {S : Sto} (R : Rr F f w σ H S) (l : Le w w') (hA : w'.A = w.A) (eH : ∀ a o, H a = some o → H' a = some o)
    (fr : ∀ a o, w'.G a = some o → H' a = some o) (gn : ∀ a o, w'.G a = some o → w.G a = some o ∨ H a = none) : Rr F f w' σ H' S := by
  have notG : ∀ a o, H a = some o → w.G a = none → w'.G a = none := fun a o h1 h2 => by
    cases e : w'.G a with
    | none => rfl
    | some u =>
      rcases gn a u e with q | q
      · rw [h2] at q
        cases q
      · rw [h1] at q
        cases q
  refine ⟨⟨fr, by rw [hA]; exact R.cs.nd, by rw [hA]; exact R.cs.ln, fun a ha => ?_, fun k a d h1 h2 => ?_⟩, ⟨R.xt.le.trans l, fun a o h => ?_, fun a ha => ?_, fun a o h1 h2 h3 => eH _ _ (R.xt.pr a o h1 h2 h3), fun a ha => ?_⟩, R.sl, fun i d h => ?_, fun i d h => ?_, R.dj⟩
  · rw [hA] at ha
    obtain ⟨o, ho⟩ := R.cs.some ha
    exact notG a o ho (R.cs.ce a ha)
  · rw [hA] at h1
    exact (R.cs.co k a d h1 h2).move l (fun o q => eH a o q)
  · rcases gn a o h with q | q
    · exact R.xt.gn a o q
    · exact .inr (.inl (R.new0 q))
  · rw [hA] at ha
    exact R.xt.an a ha
  · obtain ⟨o, q⟩ := R.xt.xs a ha
    exact ⟨o, eH _ _ q⟩
  · obtain ⟨v, h1, h2⟩ := R.pu i d h
    exact ⟨v, h1, Dn.mono l d h2⟩
  · obtain ⟨a, h1, h2, h3, h4, h5⟩ := R.ow i d h
    obtain ⟨o, ho⟩ := h4.there
    exact ⟨a, h1, notG a o ho h2, by rw [hA]; exact h3, h4.move l (fun o q => eH a o q), h5⟩
/-- a new object that nobody will change -/
theorem Rr.alloc {F : Fx} {f : Fm} {w : Wd} {σ : L2.St} {H : Hp} {S : Sto} (R : Rr F f w σ H S) {p : Addr} {o : HO} (h : H p = none) :
    Rr F f ⟨upd w.G p o, w.A⟩ σ (upd H p o) S ∧ Le w ⟨upd w.G p o, w.A⟩ := by
  have l : Le w ⟨upd w.G p o, w.A⟩ := le_upd (R.cs.new h).1
  refine ⟨R.grow l rfl (fun a u e => by rw [upd_ne (ne_of_none e h)]; exact e) (fun a u e => ?_) (fun a u e => ?_), l⟩
  · have e2 : upd w.G p o a = some u := e
    by_cases q : a = p
    · subst q
      rw [upd_same] at e2 ⊢
      exact e2
    · rw [upd_ne q] at e2 ⊢
      exact R.cs.fr a u e2
  · by_cases q : a = p
    · subst q
      exact .inr h
    · have e2 : upd w.G p o a = some u := e
      rw [upd_ne q] at e2
      exact .inl e2
/-- a new object, not shared yet -/
theorem Rr.fresh {F : Fx} {f : Fm} {w : Wd} {σ : L2.St} {H : Hp} {S : Sto} (R : Rr F f w σ H S) {p : Addr} {o : HO} (h : H p = none) : Rr F f w σ (upd H p o) S :=
  R.grow (Le.refl w) rfl (fun a u e => by rw [upd_ne (ne_of_none e h)]; exact e) (fun a u e => by rw [upd_ne (ne_of_none (R.cs.fr a u e) h)]; exact R.cs.fr a u e) fun a u e => .inl e
theorem get_set {α : Type} {l : List α} {i j : Nat} {x y : α} (h : (l.set i x)[j]? = some y) : (j = i ∧ y = x) ∨ (j ≠ i ∧ l[j]? = some y) := by
  by_cases e : i = j
  · subst e
    have hl : i < (l.set i x).length := (List.getElem?_eq_some_iff.mp h).1
    rw [List.length_set] at hl
    rw [List.getElem?_set_self hl] at h
    exact .inl ⟨rfl, (Option.some.inj h).symm⟩
  · rw [List.getElem?_set_ne e] at h
    exact .inr ⟨fun q => e q.symm, h⟩
/-- a slot gets shared data -/
theorem Rr.setP {F : Fx} {f : Fm} {w : Wd} {σ : L2.St} {H : Hp} {S : Sto} (R : Rr F f w σ H S) {i : Nat} {d : Dt} {v : V} (h : Dn F w d v) :
    Rr F f w (σ.set i (some v)) H ⟨S.r.set i (some (.p d)), S.m⟩ := by
  have low : ∀ {j : Nat} {x : Option Bn}, (S.r.set i (some (.p d)))[j]? = some x → j < σ.length := fun {j x} q => by
    have := (List.getElem?_eq_some_iff.mp q).1
    rw [List.length_set] at this
    rw [R.sl]
    exact this
  refine ⟨R.cs, R.xt, by simp [R.sl], fun j e q => ?_, fun j e q => ?_, fun j k a e e' q q' s s' => ?_⟩
  · rcases get_set q with ⟨rfl, z⟩ | ⟨n, z⟩
    · cases z
      exact ⟨v, List.getElem?_set_self (low q), h⟩
    · obtain ⟨v', h1, h2⟩ := R.pu j e z
      exact ⟨v', by rw [List.getElem?_set_ne (Ne.symm n)]; exact h1, h2⟩
  · rcases get_set q with ⟨rfl, z⟩ | ⟨n, z⟩
    · cases z
    · obtain ⟨a, h1, h2⟩ := R.ow j e z
      exact ⟨a, by rw [List.getElem?_set_ne (Ne.symm n)]; exact h1, h2⟩
  · rcases get_set q with ⟨rfl, z⟩ | ⟨n, z⟩
    · cases z
    · rcases get_set q' with ⟨rfl, z'⟩ | ⟨n', z'⟩
      · cases z'
      · rw [List.getElem?_set_ne (Ne.symm n)] at s
        rw [List.getElem?_set_ne (Ne.symm n')] at s'
        exact R.dj j k a e e' z z' s s'
/-- a slot gets an object of the frame's own, held by no other slot -/
theorem Rr.setO {F : Fx} {f : Fm} {w : Wd} {σ : L2.St} {H : Hp} {S : Sto} (R : Rr F f w σ H S) {i : Nat} {d : Dt} {a : Addr} (h1 : w.G a = none) (h2 : a ∉ w.A) (h3 : Mc F w H a d) (h4 : Ofr f a d)
    (h5 : ∀ (j : Nat) e, S.r[j]? = some (some (.o e)) → σ[j]? = some (some (.ref a)) → False) :
    Rr F f w (σ.set i (some (.ref a))) H ⟨S.r.set i (some (.o d)), S.m⟩ := by
  have low : ∀ {j : Nat} {x : Option Bn}, (S.r.set i (some (.o d)))[j]? = some x → j < σ.length := fun {j x} q => by
    have := (List.getElem?_eq_some_iff.mp q).1
    rw [List.length_set] at this
    rw [R.sl]
    exact this
  refine ⟨R.cs, R.xt, by simp [R.sl], fun j e q => ?_, fun j e q => ?_, fun j k b e e' q q' s s' => ?_⟩
  · rcases get_set q with ⟨rfl, z⟩ | ⟨n, z⟩
    · cases z
    · obtain ⟨v', g1, g2⟩ := R.pu j e z
      exact ⟨v', by rw [List.getElem?_set_ne (Ne.symm n)]; exact g1, g2⟩
  · rcases get_set q with ⟨rfl, z⟩ | ⟨n, z⟩
    · cases z
      exact ⟨a, List.getElem?_set_self (low q), h1, h2, h3, h4⟩
    · obtain ⟨b, g1, g2⟩ := R.ow j e z
      exact ⟨b, by rw [List.getElem?_set_ne (Ne.symm n)]; exact g1, g2⟩
  · rcases get_set q with ⟨rfl, z⟩ | ⟨n, z⟩
    · rw [List.getElem?_set_self (low q)] at s
      cases s
      rcases get_set q' with ⟨rfl, z'⟩ | ⟨n', z'⟩
      · rfl
      · rw [List.getElem?_set_ne (Ne.symm n')] at s'
        exact (h5 k e' z' s').elim
    · rw [List.getElem?_set_ne (Ne.symm n)] at s
      rcases get_set q' with ⟨rfl, z'⟩ | ⟨n', z'⟩
      · rw [List.getElem?_set_self (low q')] at s'
        cases s'
        exact (h5 j e z s).elim
      · rw [List.getElem?_set_ne (Ne.symm n')] at s'
        exact R.dj j k b e e' z z' s s'
/-- what a frame's own object is to the heap -/
def hoOf (F : Fx) (H : Hp) (a : Addr) : HO := (H a).getD (.lst [])
theorem Mc.dn {F : Fx} {w : Wd} {H : Hp} {a : Addr} (h : w.G a = none) : ∀ {d : Dt}, Mc F w H a d → ∃ o, H a = some o ∧ Dn F ⟨upd w.G a o, w.A⟩ d (.ref a)
  | .lst ds, ⟨vs, e, r⟩ => ⟨_, e, a, vs, rfl, upd_same, Dns.mono (le_upd h) ds r⟩
  | .ins _ _ ds, ⟨dx, vs, e, n, r⟩ => ⟨_, e, a, dx, vs, rfl, upd_same, n, Dns.mono (le_upd h) ds r⟩
  | .non, h | .bl _, h | .int _, h | .str _, h | .tup _, h | .dct _ _, h | .cel _, h | .cls _, h | .ty _, h | .scr _, h => h.elim
/-- a slot's own object is shared from now on -/
theorem Rr.freeze {F : Fx} {f : Fm} {w : Wd} {σ : L2.St} {H : Hp} {S : Sto} (R : Rr F f w σ H S) {i : Nat} {d : Dt} (h : S.r[i]? = some (some (.o d))) :
    ∃ a w', σ[i]? = some (some (.ref a)) ∧ Le w w' ∧ Rr F f w' σ H ⟨S.r.set i (some (.p d)), S.m⟩ ∧ Dn F w' d (.ref a) := by
  obtain ⟨a, s1, g1, a1, m1, f1⟩ := R.ow i d h
  obtain ⟨o, ho, dn⟩ := m1.dn g1
  have l : Le w ⟨upd w.G a o, w.A⟩ := le_upd g1
  have hi : i < S.r.length := (List.getElem?_eq_some_iff.mp h).1
  refine ⟨a, _, s1, l, ⟨⟨fun b u e => ?_, R.cs.nd, R.cs.ln, fun b hb => ?_, fun k b e q1 q2 => (R.cs.co k b e q1 q2).move l (fun _ z => z)⟩, ⟨R.xt.le.trans l, fun b u e => ?_, R.xt.an, R.xt.pr, R.xt.xs⟩, by simp [R.sl], fun j e q => ?_, fun j e q => ?_, fun j k b e e' q q' s s' => ?_⟩, dn⟩
  · have e2 : upd w.G a o b = some u := e
    by_cases z : b = a
    · subst z
      rw [upd_same] at e2
      rw [ho, e2]
    · rw [upd_ne z] at e2
      exact R.cs.fr b u e2
  · show upd w.G a o b = none
    rw [upd_ne (fun z => by subst z; exact a1 hb)]
    exact R.cs.ce b hb
  · have e2 : upd w.G a o b = some u := e
    by_cases z : b = a
    · subst z
      exact .inr f1.1
    · rw [upd_ne z] at e2
      exact R.xt.gn b u e2
  · rcases get_set q with ⟨rfl, z⟩ | ⟨n, z⟩
    · cases z
      exact ⟨_, s1, dn⟩
    · obtain ⟨v', g1', g2'⟩ := R.pu j e z
      exact ⟨v', g1', Dn.mono l e g2'⟩
  · rcases get_set q with ⟨rfl, z⟩ | ⟨n, z⟩
    · cases z
    · obtain ⟨b, g1', g2', g3', g4', g5'⟩ := R.ow j e z
      refine ⟨b, g1', ?_, g3', g4'.move l (fun _ z => z), g5'⟩
      show upd w.G a o b = none
      rw [upd_ne (fun y => by subst y; exact n (R.dj j i b e d z h g1' s1))]
      exact g2'
  · rcases get_set q with ⟨rfl, z⟩ | ⟨n, z⟩
    · cases z
    · rcases get_set q' with ⟨rfl, z'⟩ | ⟨n', z'⟩
      · cases z'
      · exact R.dj j k b e e' z z' s s'
/-- an object of the frame's own is changed -/
theorem Rr.write {F : Fx} {f : Fm} {w : Wd} {σ : L2.St} {H H' : Hp} {S : Sto} (R : Rr F f w σ H S) {i : Nat} {d d' : Dt} {a : Addr} (h : S.r[i]? = some (some (.o d))) (ha : σ[i]? = some (some (.ref a)))
    (eH : ∀ b, b ≠ a → H' b = H b) (hm : Mc F w H' a d') (hk : insB d' = insB d) : Rr F f w σ H' ⟨S.r.set i (some (.o d')), S.m⟩ := by
  obtain ⟨a', s1, g1, a1, m1, f1⟩ := R.ow i d h
  rw [ha] at s1
  cases s1
  have hi : i < S.r.length := (List.getElem?_eq_some_iff.mp h).1
  refine ⟨⟨fun b u e => ?_, R.cs.nd, R.cs.ln, R.cs.ce, fun k b e q1 q2 => (R.cs.co k b e q1 q2).move (Le.refl w) (fun o z => ?_)⟩, ⟨R.xt.le, R.xt.gn, R.xt.an, fun b o q1 q2 q3 => ?_, fun b hb => ?_⟩, by simp [R.sl], fun j e q => ?_, fun j e q => ?_, fun j k b e e' q q' s s' => ?_⟩
  · rw [eH b (fun z => by subst z; rw [g1] at e; cases e)]
    exact R.cs.fr b u e
  · rw [eH b (fun y => by subst y; exact a1 (List.mem_of_getElem? q1))]
    exact z
  · have hb : b ≠ a := fun y => by
      subst y
      rcases f1.1 with z | z
      · rw [z] at q1
        cases q1
      · exact q3 z
    rw [eH b hb]
    exact R.xt.pr b o q1 q2 q3
  · by_cases y : b = a
    · subst y
      exact hm.there
    · rw [eH b y]
      exact R.xt.xs b hb
  · rcases get_set q with ⟨rfl, z⟩ | ⟨n, z⟩
    · cases z
    · exact R.pu j e z
  · rcases get_set q with ⟨rfl, z⟩ | ⟨n, z⟩
    · cases z
      exact ⟨a, ha, g1, a1, hm, f1.1, fun z => f1.2 (hk ▸ z)⟩
    · obtain ⟨b, g1', g2', g3', g4', g5'⟩ := R.ow j e z
      refine ⟨b, g1', g2', g3', g4'.move (Le.refl w) (fun o z' => ?_), g5'⟩
      rw [eH b (fun y => by subst y; exact n (R.dj j i b e d z h g1' ha))]
      exact z'
  · rcases get_set q with ⟨rfl, z⟩ | ⟨n, z⟩
    · rcases get_set q' with ⟨rfl, z'⟩ | ⟨n', z'⟩
      · rfl
      · exact R.dj j k b d e' h z' s s'
    · rcases get_set q' with ⟨rfl, z'⟩ | ⟨n', z'⟩
      · exact R.dj j k b e d z h s s'
      · exact R.dj j k b e e' z z' s s'
/-- a cell is changed -/
theorem Rr.cell {F : Fx} {f : Fm} {w : Wd} {σ : L2.St} {H H' : Hp} {S : Sto} (R : Rr F f w σ H S) {k : Nat} {d' : Dt} {a : Addr} (h : w.A[k]? = some a)
    (eH : ∀ b, b ≠ a → H' b = H b) (hm : Mc F w H' a d') : Rr F f w σ H' ⟨S.r, S.m.set k d'⟩ := by
  have am : a ∈ w.A := List.mem_of_getElem? h
  have ga := R.cs.ce a am
  have hk : k < w.A.length := (List.getElem?_eq_some_iff.mp h).1
  have uq : ∀ (j : Nat), w.A[j]? = some a → j = k := fun j hj => by
    have e1 := (List.getElem?_eq_some_iff.mp hj)
    have e2 := (List.getElem?_eq_some_iff.mp h)
    obtain ⟨l1, e1⟩ := e1
    obtain ⟨l2, e2⟩ := e2
    exact (List.getElem_inj R.cs.nd).mp (e1.trans e2.symm)
  refine ⟨⟨fun b u e => ?_, R.cs.nd, by simp [R.cs.ln], R.cs.ce, fun j b e q1 q2 => ?_⟩, ⟨R.xt.le, R.xt.gn, R.xt.an, fun b o q1 q2 q3 => ?_, fun b hb => ?_⟩, R.sl, R.pu, fun j e q => ?_, R.dj⟩
  · rw [eH b (fun z => by subst z; rw [ga] at e; cases e)]
    exact R.cs.fr b u e
  · rcases get_set q2 with ⟨rfl, z⟩ | ⟨n, z⟩
    · subst z
      rw [h] at q1
      cases q1
      exact hm
    · refine (R.cs.co j b e q1 z).move (Le.refl w) (fun o y => ?_)
      rw [eH b (fun x => by subst x; exact n (uq j q1))]
      exact y
  · have hb : b ≠ a := fun y => by
      subst y
      rcases R.xt.an b am with z | z
      · exact q2 z
      · rw [z] at q1
        cases q1
    rw [eH b hb]
    exact R.xt.pr b o q1 q2 q3
  · by_cases y : b = a
    · subst y
      exact hm.there
    · rw [eH b y]
      exact R.xt.xs b hb
  · obtain ⟨b, g1, g2, g3, g4, g5⟩ := R.ow j e q
    refine ⟨b, g1, g2, g3, g4.move (Le.refl w) (fun o y => ?_), g5⟩
    rw [eH b (fun x => by subst x; exact g3 am)]
    exact y
/-- behind a call: the callee's frame began at H, w and handed nothing over -/
theorem Rr.back {F : Fx} {f : Fm} {w w' : Wd} {σ : L2.St} {H H' : Hp} {S : Sto} {m' : List Dt} (R : Rr F f w σ H S) (c : Cs F w' H' m') (x : Xt ⟨H, w, [], []⟩ w' H') : Rr F f w' σ H' ⟨S.r, m'⟩ := by
  have notG : ∀ a o, H a = some o → w.G a = none → w'.G a = none := fun a o h1 h2 => by
    cases e : w'.G a with
    | none => rfl
    | some u =>
      rcases x.gn a u e with q | q | q
      · have q2 : w.G a = some u := q
        rw [h2] at q2
        cases q2
      · have q2 : H a = none := q
        rw [h1] at q2
        cases q2
      · cases q
  have notA : ∀ a o, H a = some o → a ∉ w.A → a ∉ w'.A := fun a o h1 h2 h3 => by
    rcases x.an a h3 with q | q
    · exact h2 q
    · have q2 : H a = none := q
      rw [h1] at q2
      cases q2
  have l : Le w w' := x.le
  have keep : ∀ a o, H a = some o → a ∉ w.A → H' a = some o := fun a o h1 h2 => x.pr a o h1 h2 (by simp)
  refine ⟨c, ⟨R.xt.le.trans l, fun a o h => ?_, fun a ha => ?_, fun a o h1 h2 h3 => ?_, fun a ha => ?_⟩, R.sl, fun i d h => ?_, fun i d h => ?_, R.dj⟩
  · rcases x.gn a o h with q | q | q
    · exact R.xt.gn a o q
    · exact .inr (.inl (R.new0 q))
    · cases q
  · rcases x.an a ha with q | q
    · exact R.xt.an a q
    · exact .inr (R.new0 q)
  · refine keep a o (R.xt.pr a o h1 h2 h3) (fun q => ?_)
    rcases R.xt.an a q with z | z
    · exact h2 z
    · rw [z] at h1
      cases h1
  · obtain ⟨o, q⟩ := R.xt.xs a ha
    by_cases z : a ∈ w.A
    · obtain ⟨m, hm⟩ := l.a
      exact c.some (by rw [hm]; exact List.mem_append_left _ z)
    · exact ⟨o, keep a o q z⟩
  · obtain ⟨v, h1, h2⟩ := R.pu i d h
    exact ⟨v, h1, Dn.mono l d h2⟩
  · obtain ⟨a, h1, h2, h3, h4, h5⟩ := R.ow i d h
    obtain ⟨o, ho⟩ := h4.there
    exact ⟨a, h1, notG a o ho h2, notA a o ho h3, h4.move l (fun o q => keep a o q h3), h5⟩
/-- the slots' own objects -/
def owns (σ : L2.St) (r : List (Option Bn)) : List Addr := (σ.zip r).filterMap fun p => match p with
  | (some (.ref a), some (.o _)) => some a
  | _ => none
theorem mem_owns {σ : L2.St} {r : List (Option Bn)} {a : Addr} : a ∈ owns σ r ↔ ∃ (i : Nat) (d : Dt), σ[i]? = some (some (.ref a)) ∧ r[i]? = some (some (.o d)) := by
  unfold owns
  rw [List.mem_filterMap]
  constructor
  · rintro ⟨⟨x, y⟩, hm, e⟩
    obtain ⟨i, hi⟩ := List.mem_iff_getElem?.mp hm
    rw [List.getElem?_zip_eq_some] at hi
    split at e
    · rename_i a' d' heq
      cases heq
      cases e
      exact ⟨i, _, hi.1, hi.2⟩
    · cases e
  · rintro ⟨i, d, h1, h2⟩
    exact ⟨(some (.ref a), some (.o d)), List.mem_iff_getElem?.mpr ⟨i, List.getElem?_zip_eq_some.mpr ⟨h1, h2⟩⟩, rfl⟩
/-- a frame within the frame, from here on; D: one more object that stays (none of ours) -/
theorem Rr.enter {F : Fx} {f : Fm} {w : Wd} {σ : L2.St} {H : Hp} {S : Sto} (R : Rr F f w σ H S) : Rr F ⟨H, w, owns σ S.r, f.xi⟩ w σ H S := by
  refine ⟨R.cs, ⟨Le.refl w, fun a o h => .inl h, fun a h => .inl h, fun a o h _ _ => h, fun a ha => ?_⟩, R.sl, R.pu, fun i d h => ?_, R.dj⟩
  · obtain ⟨i, d, h1, h2⟩ := mem_owns.mp ha
    obtain ⟨a', s1, _, _, m1, _⟩ := R.ow i d h2
    rw [h1] at s1
    cases s1
    exact m1.there
  · obtain ⟨a, s1, g1, a1, m1, z⟩ := R.ow i d h
    exact ⟨a, s1, g1, a1, m1, .inr (mem_owns.mpr ⟨i, d, s1, h⟩), z.2⟩
/-- and back -/
theorem Xt.leave {F : Fx} {f : Fm} {w w' : Wd} {σ : L2.St} {H H' : Hp} {S : Sto} (R : Rr F f w σ H S) (x : Xt ⟨H, w, owns σ S.r, f.xi⟩ w' H') (hA : ∀ a ∈ w.A, ∃ o, H' a = some o) : Xt f w' H' := by
  have ownF : ∀ a, a ∈ owns σ S.r → f.H0 a = none ∨ a ∈ f.ex := fun a ha => by
    obtain ⟨i, d, h1, h2⟩ := mem_owns.mp ha
    obtain ⟨a', s1, _, _, _, z⟩ := R.ow i d h2
    rw [h1] at s1
    cases s1
    exact z.1
  refine ⟨R.xt.le.trans x.le, fun a o h => ?_, fun a ha => ?_, fun a o h1 h2 h3 => ?_, fun a ha => ?_⟩
  · rcases x.gn a o h with q | q | q
    · exact R.xt.gn a o q
    · exact .inr (.inl (R.new0 q))
    · exact .inr (ownF a q)
  · rcases x.an a ha with q | q
    · exact R.xt.an a q
    · exact .inr (R.new0 q)
  · refine x.pr a o (R.xt.pr a o h1 h2 h3) (fun q => ?_) (fun q => ?_)
    · rcases R.xt.an a q with z | z
      · exact h2 z
      · rw [z] at h1
        cases h1
    · rcases ownF a q with z | z
      · rw [z] at h1
        cases h1
      · exact h3 z
  · obtain ⟨o, q⟩ := R.xt.xs a ha
    by_cases h1 : a ∈ w.A
    · exact hA a h1
    · by_cases h2 : a ∈ owns σ S.r
      · exact x.xs a h2
      · exact ⟨o, x.pr a o q h1 h2⟩
end PyI
namespace PyI
open PySem PySem.Spec PyProof.Rows L2
/-! terms -/
inductive Ar where
  | a (i : Nat) | d (v : Dt) | t (i : Nat)
inductive Bi where
  | len | abs | max | min | int | str | repr | all | divmod | list | tuple
  deriving DecidableEq
inductive Ty where
  | int | bool | str | list | tuple | dict | own (c : Nat)
inductive Tg where
  | nm (i : Nat) | tp (ts : List Tg)
inductive Tm where
  | var (i : Nat) | cst (d : Dt) | glo (x : Str) (d : Dt)
  | bin (op : Operator) (a b : Tm) | neg (a : Tm)
  | cmp (op : CmpOp) (a b : Tm) | chn (o1 o2 : CmpOp) (a b c : Tm)
  | and2 (a b : Tm) | or2 (a b : Tm) | not1 (a : Tm) | ife (c a b : Tm)
  | tup (es : List Tm) | lst (es : List Tm)
  | ix (a b : Tm) | fld (a : Tm) (f : Str)
  | bi (b : Bi) (es : List Tm) | isi (a : Tm) (ts : List Ty)
  | call (f : Nat) (ks : List Str) (es : List Tm)
  | make (c : Nat) (ks : List Str) (es : List Tm)
  | meth (a : Tm) (m : Str) (ks : List Str) (es : List Tm)
  | smeth (c : Nat) (m : Str) (f : Nat) (ks : List Str) (es : List Tm)
  | comp (e : Tm) (own : List Nat) (tg : Tg) (it : Tm) (c : Tm)
  | rng1 (a : Tm) | rng2 (a b : Tm)
  | fst (es : List Tm) | fms (a : Tm) | fmr (a : Tm)
  | split (a b : Tm)
  | lenB (i : Nat) | ixB (i : Nat) (b : Tm)
  | slcL (a b : Tm) | slcH (a b : Tm) | slcB (a b c : Tm) | enm (a : Tm) | lrg2 (a b : Tm) | join (a b : Tm) | mk0 (c : Nat) | makeS (c : Nat) (es : List Tm) | star (a : Tm) | icall (a : Tm) (ks : List Str) (es : List Tm) | bor (a : Tm) | rev (a : Tm)
inductive Sm where
  | asgF (i : Nat) (e : Tm) | parO (i j : Nat) (a b : Tm)
  | asg (tg : Tg) (e : Tm) | asgO (i : Nat) (e : Tm) | par (i j : Nat) (a b : Tm)
  | put (o i e : Tm) | putB (o : Nat) (i e : Tm) | fld (f : Str) (e : Tm)
  | tsub (o i : Tm) (j : Nat) (e : Tm)
  | iff (c : Tm) (a b : List Sm) | for_ (tg : Tg) (it : Tm) (b : List Sm) | whl (n : Nat) (c : Tm) (b : List Sm)
  | ret (e : Tm) | retO (i : Nat) | retF (e : Tm) | retN | exp (e : Tm) | pas | brk | cnt
  | rai (c : Nat) (es : List Tm) | app (i : Nat) (e : Tm) | nev | aug (i : Nat) (op : Operator) (e : Tm) | pop (i : Nat) | par3 (i j l : Nat) (a b c : Tm)
structure FnD where
  k : Nat
  n : Nat
  cell : Bool
  shs : List (Nat × List Str × List Ar)
  b : List Sm
  st : Bool
structure ClD where
  init : Nat
  shs : List (Nat × List Str × List Ar)
  meth : List (Str × Nat)
  prop : List (Str × Nat)
  stat : List (Str × Nat)
  flds : List Str
  up : List Nat
  bare : Bool
structure Pg where
  fn : List FnD
  cl : List ClD
  xf : List (Nat × List Str)
/-! results -/
inductive Rs (α : Type) where
  | ok (a : α) (S : Sto) | ex (c : Nat) (ns : List Str) (ds : List Dt) (S : Sto) | bad
def Rs.bind {α β : Type} (x : Rs α) (k : α → Sto → Rs β) : Rs β := match x with
  | .ok a S => k a S
  | .ex c ns ds S => .ex c ns ds S
  | .bad => .bad
theorem Rs.bind_assoc {α β γ : Type} (x : Rs α) (k : α → Sto → Rs β) (l : β → Sto → Rs γ) : (x.bind k).bind l = x.bind fun a S => (k a S).bind l := by
  cases x <;> rfl
inductive Rc where
  | ok (b : Bn) (m : List Dt) | ex (c : Nat) (ns : List Str) (ds : List Dt) (m : List Dt) | bad
inductive Rt where
  | nx (S : Sto) | rt (b : Bn) (S : Sto) | bk (S : Sto) | ct (S : Sto) | ex (c : Nat) (ns : List Str) (ds : List Dt) (S : Sto) | bad
/-! operations on data -/
mutual
def toPy : Dt → Option PyData
  | .non => some .none
  | .bl b => some (.bool b)
  | .int i => some (.int i)
  | .str x => some (.str x)
  | .lst ds => (toPys ds).map .list
  | .tup ds => (toPys ds).map .tuple
  | .dct _ _ => none
  | .ins _ _ _ => none
  | .cel _ => none
  | .cls _ => none
  | .ty _ => none
  | .scr _ => none
def toPys : List Dt → Option (List PyData)
  | [] => some []
  | d :: ds => match toPy d, toPys ds with
    | some x, some xs => some (x :: xs)
    | _, _ => none
end
def mulOk (i j : Int) : Bool := (decide (-(2 ^ 64) < i) && decide (i < 2 ^ 64)) || (decide (-(2 ^ 64) < j) && decide (j < 2 ^ 64))
def opD : Operator → Dt → Dt → Option Dt
  | .Add, .int i, .int j => some (.int (i + j))
  | .Add, .str x, .str y => if x.length + y.length ≤ sizeLine then some (.str (x ++ y)) else none
  | .Add, .lst xs, .lst ys => if xs.length + ys.length ≤ sizeLine then some (.lst (xs ++ ys)) else none
  | .Sub, .int i, .int j => some (.int (i - j))
  | .Mult, .int i, .int j => if mulOk i j then some (.int (i * j)) else none
  | .Mult, .lst xs, .int k => if -(2 ^ 63) ≤ k ∧ k < 2 ^ 63 ∧ xs.length * k.toNat ≤ sizeLine then some (.lst (List.replicate k.toNat xs).flatten) else none
  | .FloorDiv, .int i, .int j => if 0 < j ∧ j < 1073741824 then some (.int (i / j)) else none
  | .Mod, .int i, .int j => if 0 < j then some (.int (i % j)) else none
  | .Pow, .int i, .int j => if 0 ≤ j ∧ j ≤ 1000000 ∧ i.natAbs < 2 ^ 64 then some (.int (i ^ j.toNat)) else none
  | _, _, _ => none
def eqD (a b : Dt) : Option Bool := match toPy a, toPy b with
  | some x, some y => if SeqAt.shaped x && SeqAt.shaped y then some (PyData.eqv x y) else none
  | _, _ => none
def dtV : Dt → V
  | .bl b => .bl b
  | .int i => .int i
  | .str x => .str x
  | _ => .non
mutual
/-- the same data -/
def dtF : Dt → Dt → Bool
  | .non, .non => true
  | .bl a, .bl b => decide (a = b)
  | .int a, .int b => decide (a = b)
  | .str a, .str b => decide (a = b)
  | .lst as, .lst bs => dtsF as bs
  | .tup as, .tup bs => dtsF as bs
  | .ins c ns as, .ins d ms bs => decide (c = d) && decide (ns = ms) && dtsF as bs
  | .cel a, .cel b => decide (a = b)
  | _, _ => false
def dtsF : List Dt → List Dt → Bool
  | [], [] => true
  | a :: as, b :: bs => dtF a b && dtsF as bs
  | _, _ => false
end
def flatD : Dt → Bool
  | .non | .bl _ | .int _ | .str _ => true
  | _ => false
def inLD (a : Dt) (ds : List Dt) : Option Bool := match toPy a, toPys ds with
  | some x, some xs => if SeqAt.shaped x && SeqAt.shaped (.list xs) then some (xs.any fun z => PyData.eqv z x) else none
  | _, _ => none
def inTD (a : Dt) (ds : List Dt) : Option Bool := if flatD a && ds.all flatD then some (inV (dtV a) (ds.map dtV)) else none
def cmpD : CmpOp → Dt → Dt → Option Bool
  | .Lt, .int i, .int j => some (decide (i < j))
  | .LtE, .int i, .int j => some (decide (i ≤ j))
  | .Gt, .int i, .int j => some (decide (j < i))
  | .GtE, .int i, .int j => some (decide (j ≤ i))
  | .Eq, a, b => eqD a b
  | .NotEq, a, b => (eqD a b).map (!·)
  | .Is, .non, .non => some true
  | .Is, .int _, .non | .Is, .str _, .non | .Is, .bl _, .non => some false
  | .IsNot, .non, .non => some false
  | .IsNot, .int _, .non | .IsNot, .str _, .non | .IsNot, .bl _, .non => some true
  | .Is, .bl a, .bl b => some (decide (a = b))
  | .In, .str x, .str y => some (!(Builtin.Str.occurrences y x 0 y.length 1).isEmpty)
  | .NotIn, .str x, .str y => some (!(!(Builtin.Str.occurrences y x 0 y.length 1).isEmpty))
  | .In, a, .lst ds => inLD a ds
  | .In, a, .tup ds => inTD a ds
  | .NotIn, a, .lst ds => (inLD a ds).map (!·)
  | .NotIn, a, .tup ds => (inTD a ds).map (!·)
  | _, _, _ => none
def boolsD : List Dt → Option (List Bool)
  | [] => some []
  | .bl b :: ds => (boolsD ds).map (b :: ·)
  | _ => none
def biD : Bi → List Dt → Option Dt
  | .len, [.str x] => if x.length ≤ sizeLine then some (.int x.length) else none
  | .len, [.lst ds] => some (.int ds.length)
  | .len, [.tup ds] => some (.int ds.length)
  | .len, [.scr xs] => some (.int xs.length)
  | .abs, [.int i] => some (.int (if i < 0 then -i else i))
  | .max, [.int i, .int j] => some (.int (if j > i then j else i))
  | .min, [.int i, .int j] => some (.int (if j < i then j else i))
  | .int, [.int i] => some (.int i)
  | .int, [.str x] => if x.length ≤ 640 then (PySem.intText? x).map .int else none
  | .str, [.int i] => if i.natAbs.log2 < 1920 then some (.str (toString i)) else none
  | .repr, [a] => match toPy a with
    | some x => if x.showable && decide (x.shown.length ≤ sizeLine) && decide (x.depth ≤ 20) then some (.str x.shown) else none
    | none => none
  | .all, [.lst ds] => (boolsD ds).map fun bs => .bl (bs.all id)
  | .divmod, [.int i, .int j] => if 0 < j ∧ j < 1073741824 then some (.tup [.int (i / j), .int (i % j)]) else none
  | .list, [.lst ds] => some (.lst ds)
  | .list, [.tup ds] => some (.lst ds)
  | .tuple, [.lst ds] => some (.tup ds)
  | _, _ => none
def atD (ds : List Dt) (i : Int) : Option Dt := atI ds i
def ixD (m : List Dt) : Dt → Dt → Option Dt
  | .lst ds, .int i => atI ds i
  | .tup ds, .int i => atI ds i
  | .scr xs, .int i => (atI xs i).map .int
  | .cel k, .int i => match m[k]? with
    | some (.lst ds) => atI ds i
    | _ => none
  | .str x, .int i => if x.length ≤ sizeLine then (atI x.cps.toList i).map fun c => .str ⟨#[c]⟩ else none
  | _, _ => none
def cutL {α : Type} (xs : List α) (lo hi : Option Int) : List α := (xs.drop (HT.sIx xs.length 0 lo)).take (HT.sIx xs.length xs.length hi - HT.sIx xs.length 0 lo)
def slD (x : Dt) (lo hi : Option Int) : Option Dt := match x with
  | .lst ds => some (.lst (cutL ds lo hi))
  | .tup ds => if HT.sIx ds.length 0 lo = 0 ∧ HT.sIx ds.length ds.length hi = ds.length then none else some (.tup (cutL ds lo hi))
  | .str z => if z.length ≤ sizeLine then some (.str (cutS z lo hi)) else none
  | _ => none
def enmL : Nat → List Dt → List Dt
  | _, [] => []
  | i, d :: ds => .tup [.int (i : Nat), d] :: enmL (i + 1) ds
def enmD (x : Dt) : Option (List Dt) := match x with
  | .lst ds => some (enmL 0 ds)
  | .tup ds => some (enmL 0 ds)
  | _ => none
def strsD : List Dt → Option (List Str)
  | [] => some []
  | .str x :: ds => (strsD ds).map (x :: ·)
  | _ => none
def joinOk (s : Str) (ts : List Str) : Bool := decide ((ts.map (·.length)).sum + ts.length * s.length ≤ 16777216)
def lookD (f : Str) : List Str → List Dt → Option Dt
  | n :: ns, d :: ds => if f = n then some d else lookD f ns ds
  | _, _ => none
def isB : Dt → Ty → Option Bool
  | .non, .int | .non, .bool | .non, .str | .non, .list | .non, .tuple | .non, .dict => some false
  | .bl _, .int | .bl _, .bool => some true
  | .bl _, .str | .bl _, .list | .bl _, .tuple | .bl _, .dict => some false
  | .int _, .int => some true
  | .int _, .bool | .int _, .str | .int _, .list | .int _, .tuple | .int _, .dict => some false
  | .str _, .str => some true
  | .str _, .int | .str _, .bool | .str _, .list | .str _, .tuple | .str _, .dict => some false
  | .lst _, .list => some true
  | .lst _, .int | .lst _, .bool | .lst _, .str | .lst _, .tuple | .lst _, .dict => some false
  | .tup _, .tuple => some true
  | .tup _, .int | .tup _, .bool | .tup _, .str | .tup _, .list | .tup _, .dict => some false
  | .non, .own _ | .bl _, .own _ | .int _, .own _ | .str _, .own _ | .lst _, .own _ | .tup _, .own _ => some false
  | _, _ => none
def isC (x : ClD) : Ty → Bool
  | .own c => x.up.contains c
  | _ => false
def isT (P : Pg) (d : Dt) (t : Ty) : Option Bool := match d with
  | .ins c _ _ => (P.cl[c]?).map fun x => isC x t
  | d => isB d t
def isTs (P : Pg) (d : Dt) : List Ty → Option Bool
  | [] => some false
  | t :: ts => match isT P d t with
    | some true => some true
    | some false => isTs P d ts
    | none => none
def pick (ds : List Dt) : List Ar → Option (List Dt)
  | [] => some []
  | .a i :: r => match ds[i]?, pick ds r with
    | some d, some t => some (d :: t)
    | _, _ => none
  | .d v :: r => (pick ds r).map (v :: ·)
  | .t i :: r => if (ds.drop i).length ≤ sizeLine then (pick ds r).map (.tup (ds.drop i) :: ·) else none
mutual
def tgD : Tg → Dt → List (Option Bn) → Option (List (Option Bn))
  | .nm i, d, r => if i < r.length then some (r.set i (some (.p d))) else none
  | .tp ts, .tup ds, r => if ts.length = ds.length then tgsD ts ds r else none
  | .tp _, _, _ => none
def tgsD : List Tg → List Dt → List (Option Bn) → Option (List (Option Bn))
  | [], [], r => some r
  | t :: ts, d :: ds, r => match tgD t d r with
    | some r' => tgsD ts ds r'
    | none => none
  | _, _, _ => none
end
def wipeB (r : List (Option Bn)) : List Nat → List (Option Bn)
  | [] => r
  | i :: is => (wipeB r is).set i none
def pureAt (r : List (Option Bn)) (i : Nat) : Bool := match r[i]? with
  | some (some (.o _)) => false
  | some _ => true
  | none => false
def backB (r0 : List (Option Bn)) : List Nat → List (Option Bn) → List (Option Bn)
  | [], r => r
  | i :: is, r => (backB r0 is r).set i ((r0[i]?).getD none)
def itemsD : Dt → Option (List Dt)
  | .lst ds => some ds
  | .tup ds => some ds
  | .str x => some (x.cps.toList.map fun c => .str ⟨#[c]⟩)
  | .scr xs => some (xs.map .int)
  | _ => none
def compL (ev cnd : Sto → Rs Dt) (tg : Tg) (own : List Nat) : List Dt → List Dt → Sto → Rs (List Dt)
  | [], acc, S => .ok acc S
  | x :: xs, acc, S => match tgD tg x (wipeB S.r own) with
    | none => .bad
    | some r' => match cnd ⟨r', S.m⟩ with
      | .ok (.bl true) S2 => match ev S2 with
        | .ok d S3 => compL ev cnd tg own xs (acc ++ [d]) S3
        | _ => .bad
      | .ok (.bl false) S2 => compL ev cnd tg own xs acc S2
      | _ => .bad
/-- the run of a comprehension over what its source gives -/
def compR (me mc : Sto → Rs Dt) (tg : Tg) (vs : List Nat) (x : Dt) (S1 : Sto) : Rs Dt := match itemsD x with
    | some ds => if ds.length ≤ sizeLine ∧ vs.all (pureAt S1.r) = true then
        match compL me mc tg vs ds [] S1 with
        | .ok acc S2 => .ok (.lst acc) ⟨backB S1.r vs S2.r, S2.m⟩
        | _ => .bad
      else .bad
    | none => .bad
def rangeD (lo hi : Int) : List Dt := (List.range (hi - lo).toNat).map fun i => .int (lo + (i : Nat))
def smallI (i : Int) : Bool := decide (-(2 ^ 62) ≤ i) && decide (i < 2 ^ 62)
def rng1D (x : Dt) (S : Sto) : Rs Dt := match x with
  | .int i => if smallI i = true then .ok (.lst (rangeD 0 i)) S else .bad
  | _ => .bad
def rng2D (x y : Dt) (S : Sto) : Rs Dt := match x, y with
  | .int i, .int j => if (smallI i && smallI j) = true then .ok (.lst (rangeD i j)) S else .bad
  | _, _ => .bad
def lrgD (i : Int) (y : Dt) (S : Sto) : Rs Dt := match y with
  | .int j => if (j - i).toNat ≤ 65536 then .ok (.lst (rangeD i j)) S else .bad
  | _ => .bad
def joinD (s : Str) (y : Dt) (S : Sto) : Rs Dt := match y with
  | .lst ds => match strsD ds with
    | some ts => if joinOk s ts = true then .ok (.str (Txt.join s ts)) S else .bad
    | none => .bad
  | _ => .bad
def shOf (n : Nat) (ks : List Str) : List (Nat × List Str × List Ar) → Option (List Ar)
  | [] => none
  | t :: r => if t.1 = n ∧ t.2.1 = ks then some t.2.2 else shOf n ks r
theorem shOf_mem {n : Nat} {ks : List Str} {sh : List Ar} : ∀ {l : List (Nat × List Str × List Ar)}, shOf n ks l = some sh → (n, ks, sh) ∈ l
  | [], h => by cases h
  | ⟨a, b, c⟩ :: r, h => by
    unfold shOf at h
    split at h
    · rename_i e
      cases h
      obtain ⟨e1, e2⟩ := e
      subst e1
      subst e2
      exact List.mem_cons_self
    · exact List.mem_cons_of_mem _ (shOf_mem h)
def starSh (k : Nat) : List Ar := (List.range k).map Ar.a ++ [.t k]
def Pg.shf (P : Pg) (f n : Nat) (ks : List Str) : Option (List Ar) := (P.fn[f]?).bind fun x => if x.st = true then (if ks = [] ∧ x.k ≤ n + 1 ∧ 1 ≤ x.k then some (starSh (x.k - 1)) else none) else shOf n ks x.shs
def Pg.stI (P : Pg) (c : Nat) : Option FnD := match P.cl[c]? with
  | some x => match P.fn[x.init]? with
    | some fd => if fd.st = true then some fd else none
    | none => none
  | none => none
def Pg.shc (P : Pg) (c n : Nat) (ks : List Str) : Option (List Ar) := match P.stI c with
  | some fd => if ks = [] ∧ fd.k ≤ n + 2 ∧ 2 ≤ fd.k then some (starSh (fd.k - 2)) else none
  | none => (P.cl[c]?).bind fun x => shOf n ks x.shs
/-- arguments, some of them starred -/
def splD : List Bool → List Dt → Option (List Dt)
  | [], [] => some []
  | false :: fs, d :: ds => (splD fs ds).map (d :: ·)
  | true :: fs, .lst xs :: ds => (splD fs ds).map (xs ++ ·)
  | true :: fs, .tup xs :: ds => (splD fs ds).map (xs ++ ·)
  | _, _ => none
def isSt : Tm → Bool
  | .star _ => true
  | _ => false
def revD (d : Dt) (S : Sto) : Rs Dt := match d with
  | .lst xs => .ok (.lst xs.reverse) S
  | _ => .bad
def starK (d : Dt) (S : Sto) : Rs Dt := match d with
  | .lst xs => .ok (.lst xs) S
  | .tup xs => .ok (.tup xs) S
  | _ => .bad
def frz1 : Option Bn → Option Bn
  | some (.o (.lst ds)) => some (.p (.lst ds))
  | some (.o _) => none
  | x => x
/-- the frame's own lists, lent -/
def frzB (r : List (Option Bn)) : List (Option Bn) := r.map frz1
def flatC : Dt → Bool
  | .lst ds => ds.all flatD
  | _ => false
def borK (S : Sto) (r : Rs Dt) : Rs Dt := match r with
  | .ok d S' => if flatD d = true ∧ S'.m.length = S.m.length ∧ S'.m.all flatC = true then .ok d ⟨S.r, S'.m⟩ else .bad
  | _ => .bad
def Pg.fld (P : Pg) (c : Nat) (f : Str) : Bool := match P.cl[c]? with
  | some x => x.flds.contains f
  | none => false
def Pg.meth (P : Pg) (c : Nat) (m : Str) : Option Nat := (P.cl[c]?).bind fun x => x.meth.lookup m
def Pg.prop (P : Pg) (c : Nat) (m : Str) : Option Nat := (P.cl[c]?).bind fun x => x.prop.lookup m
def upR (x : Rc) (S : Sto) : Rs Dt := match x with
  | .ok (.p d) m => .ok d ⟨S.r, m⟩
  | .ok (.o d) m => .ok d ⟨S.r, m⟩
  | .ex c ns ds m => .ex c ns ds ⟨S.r, m⟩
  | .bad => .bad
/-- a call that lets nothing out -/
def upN (x : Rc) (S : Sto) : Rs Dt := match x with
  | .ok (.p d) m => .ok d ⟨S.r, m⟩
  | .ok (.o d) m => .ok d ⟨S.r, m⟩
  | _ => .bad
def upP (o : Option (List Dt)) (g : List Dt → List Dt → Rc) (S : Sto) : Rs Dt := match o with
  | some xs => upR (g xs S.m) S
  | none => .bad
def okD (x : Option Dt) (S : Sto) : Rs Dt := match x with
  | some d => .ok d S
  | none => .bad
section
variable (P : Pg) (cf : Nat → List Dt → List Dt → Rc) (ci : Nat → List Dt → List Dt → Rc)
def strB (d : Dt) (S : Sto) : Rs Dt := match d with
  | .str y => .ok (.str y) S
  | _ => .bad
def lenB' (d : Dt) (S : Sto) : Rs Dt := match d with
  | .int n => if 0 ≤ n ∧ n < 2 ^ 63 then .ok (.int n) S else .bad
  | _ => .bad
def bi1 (b : Bi) (ds : List Dt) (S : Sto) : Rs Dt := match b, ds with
  | .len, [.ins c ns vs] => match P.meth c "__len__" with
    | some f => (upN (cf f [.ins c ns vs] S.m) S).bind lenB'
    | none => .bad
  | .str, [.ins c ns vs] => match P.meth c "__str__" with
    | some f => (upN (cf f [.ins c ns vs] S.m) S).bind strB
    | none => .bad
  | .repr, [.ins c ns vs] => match P.meth c "__repr__" with
    | some f => (upN (cf f [.ins c ns vs] S.m) S).bind strB
    | none => .bad
  | b, ds => okD (biD b ds) S
def typed (P : Pg) : Dt → Bool
  | .non | .bl _ | .int _ | .str _ | .lst _ | .tup _ => true
  | .ins c _ _ => (P.cl[c]?).isSome
  | _ => false
def blB (d : Dt) (S : Sto) : Rs Dt := match d with
  | .bl y => .ok (.bl y) S
  | _ => .bad
def negB (d : Dt) (S : Sto) : Rs Dt := match d with
  | .bl y => .ok (.bl (!y)) S
  | _ => .bad
def eqBk : Dt → Bool
  | .non | .bl _ | .int _ | .str _ | .lst _ | .tup _ => true
  | _ => false
def flatI : Dt → Bool
  | .ins _ _ vs => vs.all flatD
  | _ => false
def sameI : Dt → Dt → Bool
  | .ins _ ns as, .ins _ ms bs => decide (ns = ms) && dtsF as bs
  | _, _ => false
/-- == of two instances within lists: the same object is never asked -/
def eqOwn (x y : Dt) (m : List Dt) : Option Bool := match x with
  | .ins c ns vs => match P.meth c "__eq__" with
    | some f => if (typed P y && flatI (.ins c ns vs) && flatI y) = true then (match cf f [.ins c ns vs, y] m with
      | .ok (.p (.bl r)) m' => if dtsF m' m = true then (if r = true then some true else if sameI (.ins c ns vs) y = true then none else some false) else none
      | _ => none) else none
    | none => none
  | x => eqD x y
def lsEq (m : List Dt) : List Dt → List Dt → Option Bool
  | [], [] => some true
  | x :: xs, y :: ys => match eqOwn P cf x y m with
    | some true => lsEq m xs ys
    | r => r
  | _, _ => some false
def lstEq (as bs m : List Dt) : Option Bool := match eqD (.lst as) (.lst bs) with
  | some b => some b
  | none => if as.length = bs.length then lsEq P cf m as bs else some false
def cmp1 (op : CmpOp) (a b : Dt) (S : Sto) : Rs Dt := match op, a, b with
  | .Eq, .ins c ns vs, b => match P.meth c "__eq__" with
    | some f => if typed P b = true then upN (cf f [.ins c ns vs, b] S.m) S else .bad
    | none => .bad
  | .Eq, a, .ins c ns vs => match P.meth c "__eq__" with
    | some f => if eqBk a = true then upN (cf f [.ins c ns vs, a] S.m) S else .bad
    | none => .bad
  | .In, a, .ins c ns vs => match P.meth c "__contains__" with
    | some f => (upN (cf f [.ins c ns vs, a] S.m) S).bind blB
    | none => .bad
  | .NotIn, a, .ins c ns vs => match P.meth c "__contains__" with
    | some f => (upN (cf f [.ins c ns vs, a] S.m) S).bind negB
    | none => .bad
  | .Eq, .lst as, .lst bs => okD ((lstEq P cf as bs S.m).map .bl) S
  | op, a, b => okD ((cmpD op a b).map .bl) S
def opMeth : Operator → Option Str
  | .Add => some "__add__"
  | .Sub => some "__sub__"
  | .Mult => some "__mul__"
  | .RShift => some "__rshift__"
  | _ => none
def opRefl : Operator → Option Str
  | .Add => some "__radd__"
  | .Sub => some "__rsub__"
  | .Mult => some "__rmul__"
  | .RShift => some "__rrshift__"
  | _ => none
def noOpM (x : ClD) (op : Operator) : Bool := ((opMeth op).bind (x.meth.lookup ·)).isNone && ((opRefl op).bind (x.meth.lookup ·)).isNone
/-- what may stand to the right of an own operator -/
def typedO (P : Pg) (op : Operator) (c : Nat) : Dt → Bool
  | .ins c' _ _ => match P.cl[c']? with
    | some x => decide (c' = c) || noOpM x op
    | none => false
  | d => typed P d
/-- an operator, own ones too -/
def bin1 (op : Operator) (a b : Dt) (S : Sto) : Rs Dt := match a with
  | .ins c ns vs => match (opMeth op).bind (P.meth c) with
    | some f => if typedO P op c b = true then upR (cf f [.ins c ns vs, b] S.m) S else .bad
    | none => .bad
  | a => okD (opD op a b) S
/-- op= at a name -/
def aug1 (op : Operator) (a b : Dt) (S : Sto) : Rs Dt := match a with
  | .ins c ns vs => bin1 P cf op (.ins c ns vs) b S
  | _ => .bad
mutual
def evE : Tm → Sto → Rs Dt
  | .var i, S => match S.r[i]? with
    | some (some (.p d)) => .ok d S
    | some (some (.o (.lst ds))) => .ok (.lst ds) ⟨S.r.set i (some (.p (.lst ds))), S.m⟩
    | _ => .bad
  | .cst d, S => .ok d S
  | .glo _ d, S => .ok d S
  | .bin op a b, S => (evE a S).bind fun x S1 => (evE b S1).bind fun y S2 => bin1 P cf op x y S2
  | .neg a, S => (evE a S).bind fun x S1 => match x with
    | .int i => .ok (.int (-i)) S1
    | _ => .bad
  | .cmp op a b, S => (evE a S).bind fun x S1 => (evE b S1).bind fun y S2 => cmp1 P cf op x y S2
  | .chn o1 o2 a b c, S => (evE a S).bind fun x S1 => (evE b S1).bind fun y S2 => (okD ((cmpD o1 x y).map .bl) S2).bind fun k S3 => match k with
    | .bl true => (evE c S3).bind fun z S4 => okD ((cmpD o2 y z).map .bl) S4
    | .bl false => .ok (.bl false) S3
    | _ => .bad
  | .and2 a b, S => (evE a S).bind fun x S1 => match x with
    | .bl true => evE b S1
    | .bl false => .ok (.bl false) S1
    | _ => .bad
  | .or2 a b, S => (evE a S).bind fun x S1 => match x with
    | .bl true => .ok (.bl true) S1
    | .bl false => evE b S1
    | _ => .bad
  | .not1 a, S => (evE a S).bind fun x S1 => match x with
    | .bl k => .ok (.bl (!k)) S1
    | _ => .bad
  | .ife c a b, S => (evE c S).bind fun x S1 => match x with
    | .bl true => evE a S1
    | .bl false => evE b S1
    | _ => .bad
  | .tup es, S => (evEs es S).bind fun ds S1 => if ds.length ≤ sizeLine then .ok (.tup ds) S1 else .bad
  | .lst es, S => (evEs es S).bind fun ds S1 => if ds.length ≤ sizeLine then .ok (.lst ds) S1 else .bad
  | .ix a b, S => (evE a S).bind fun x S1 => (evE b S1).bind fun y S2 => okD (ixD S2.m x y) S2
  | .fld a f, S => (evE a S).bind fun x S1 => match x with
    | .ins c ns vs => match P.prop c f with
      | some g => upN (cf g [.ins c ns vs] S1.m) S1
      | none => if P.fld c f then okD (lookD f ns vs) S1 else .bad
    | _ => .bad
  | .bi b es, S => (evEs es S).bind fun ds S1 => bi1 P cf b ds S1
  | .isi a ts, S => (evE a S).bind fun x S1 => okD ((isTs P x ts).map .bl) S1
  | .call f ks es, S => (evEs es S).bind fun ds S1 => match P.shf f (ds.length - ks.length) ks with
    | some sh => upP (pick ds sh) (cf f) S1
    | none => .bad
  | .make c ks es, S => (evEs es S).bind fun ds S1 => match P.shc c (ds.length - ks.length) ks with
    | some sh => upP (pick ds sh) (ci c) S1
    | none => .bad
  | .meth a m ks es, S => (evE a S).bind fun x S1 => match x with
    | .ins c ns vs => match P.meth c m, lookD m ns vs with
      | some g, none => (evEs es S1).bind fun ds S2 => match P.shf g (ds.length + 1 - ks.length) ks with
        | some sh => upP (pick (.ins c ns vs :: ds) sh) (cf g) S2
        | none => .bad
      | _, _ => .bad
    | _ => .bad
  | .star a, S => (evE a S).bind starK
  | .makeS c es, S => (evEs es S).bind fun ds0 S1 => match splD (es.map isSt) ds0 with
    | some ds => match P.shc c ds.length [] with
      | some sh => upP (pick ds sh) (ci c) S1
      | none => .bad
    | none => .bad
  | .icall a ks es, S => (evE a S).bind fun x S1 => match x with
    | .ins c ns vs => match P.meth c "__call__" with
      | some g => (evEs es S1).bind fun ds S2 => match P.shf g (ds.length + 1 - ks.length) ks with
        | some sh => upP (pick (.ins c ns vs :: ds) sh) (cf g) S2
        | none => .bad
      | none => .bad
    | _ => .bad
  | .smeth _ _ f ks es, S => (evEs es S).bind fun ds S1 => match P.shf f (ds.length - ks.length) ks with
    | some sh => upP (pick ds sh) (cf f) S1
    | none => .bad
  | .comp e own tg it c, S => (evE it S).bind (compR (evE e) (evE c) tg own)
  | .rng1 a, S => (evE a S).bind rng1D
  | .rng2 a b, S => (evE a S).bind fun x S1 => (evE b S1).bind (rng2D x)
  | .fst es, S => (evJ es Str.empty S).bind fun x S1 => .ok (.str x) S1
  | .fms a, S => (evE a S).bind fun x S1 => match x with
    | .str y => if y.length ≤ sizeLine then .ok (.str y) S1 else .bad
    | .int i => if i.natAbs.log2 < 1920 then .ok (.str (toString i)) S1 else .bad
    | _ => .bad
  | .fmr a, S => (evE a S).bind fun x S1 => match x with
    | .str y => if (reprText y).length ≤ sizeLine then .ok (.str (reprText y)) S1 else .bad
    | .int i => if i.natAbs.log2 < 1920 then .ok (.str (toString i)) S1 else .bad
    | _ => .bad
  | .split a b, S => (evE a S).bind fun x S1 => match x with
    | .str s => (evE b S1).bind fun y S2 => match y with
      | .str t => if (t.length == 0) = false ∧ s.length + 2 ≤ sizeLine then .ok (.lst ((Txt.split s t).map .str)) S2 else .bad
      | _ => .bad
    | _ => .bad
  | .lenB i, S => match S.r[i]? with
    | some (some (.o (.lst ds))) => .ok (.int ds.length) S
    | _ => .bad
  | .ixB i b, S => match S.r[i]? with
    | some (some (.o _)) => (evE b S).bind fun y S1 => match S1.r[i]?, y with
      | some (some (.o (.lst ds))), .int j => okD (atI ds j) S1
      | _, _ => .bad
    | _ => .bad
  | .slcL a b, S => (evE a S).bind fun x S1 => (evE b S1).bind fun y S2 => match y with
    | .int i => okD (slD x (some i) none) S2
    | _ => .bad
  | .slcH a b, S => (evE a S).bind fun x S1 => (evE b S1).bind fun y S2 => match y with
    | .int i => okD (slD x none (some i)) S2
    | _ => .bad
  | .slcB a b c, S => (evE a S).bind fun x S1 => (evE b S1).bind fun y S2 => match y with
    | .int i => (evE c S2).bind fun z S3 => match z with
      | .int j => okD (slD x (some i) (some j)) S3
      | _ => .bad
    | _ => .bad
  | .enm a, S => (evE a S).bind fun x S1 => okD ((enmD x).map .lst) S1
  | .lrg2 a b, S => (evE a S).bind fun x S1 => match x with
    | .int i => (evE b S1).bind (lrgD i)
    | _ => .bad
  | .join a b, S => (evE a S).bind fun x S1 => match x with
    | .str s => (evE b S1).bind (joinD s)
    | _ => .bad
  | .bor a, S => borK S (evE a ⟨frzB S.r, S.m⟩)
  | .rev a, S => (evE a S).bind revD
  | .mk0 c, S => match P.cl[c]? with
    | some x => if x.bare = true then .ok (.ins c [] []) S else .bad
    | none => .bad
def evEs : List Tm → Sto → Rs (List Dt)
  | [], S => .ok [] S
  | e :: es, S => (evE e S).bind fun d S1 => (evEs es S1).bind fun ds S2 => .ok (d :: ds) S2
def evJ : List Tm → Str → Sto → Rs Str
  | [], acc, S => .ok acc S
  | e :: es, acc, S => (evE e S).bind fun d S1 => match d with
    | .str y => if (acc ++ y).length ≤ sizeLine then evJ es (acc ++ y) S1 else .bad
    | _ => .bad
end
/-- what a call hands back, as it is -/
def upB (r : Rc) (S : Sto) : Rs Bn := match r with
  | .ok (.p d) m' => .ok (.p d) ⟨S.r, m'⟩
  | .ok (.o (.lst ds)) m' => .ok (.o (.lst ds)) ⟨S.r, m'⟩
  | .ok (.o _) _ => .bad
  | .ex c ns ds m' => .ex c ns ds ⟨S.r, m'⟩
  | .bad => .bad
def upPB (o : Option (List Dt)) (g : List Dt → List Dt → Rc) (S : Sto) : Rs Bn := match o with
  | some xs => upB (g xs S.m) S
  | none => .bad
def evB : Tm → Sto → Rs Bn
  | .call f ks es, S => (evEs P cf ci es S).bind fun ds S1 => match P.shf f (ds.length - ks.length) ks with
    | some sh => upPB (pick ds sh) (cf f) S1
    | none => .bad
  | .meth a m ks es, S => (evE P cf ci a S).bind fun x S1 => match x with
    | .ins c ns vs => match P.meth c m, lookD m ns vs with
      | some g, none => (evEs P cf ci es S1).bind fun ds S2 => match P.shf g (ds.length + 1 - ks.length) ks with
        | some sh => upPB (pick (.ins c ns vs :: ds) sh) (cf g) S2
        | none => .bad
      | _, _ => .bad
    | _ => .bad
  | .icall a ks es, S => (evE P cf ci a S).bind fun x S1 => match x with
    | .ins c ns vs => match P.meth c "__call__" with
      | some g => (evEs P cf ci es S1).bind fun ds S2 => match P.shf g (ds.length + 1 - ks.length) ks with
        | some sh => upPB (pick (.ins c ns vs :: ds) sh) (cf g) S2
        | none => .bad
      | none => .bad
    | _ => .bad
  | _, _ => .bad
def putD (f : Str) (d : Dt) : List Str → List Dt → List Str × List Dt
  | n :: ns, v :: vs => if f = n then (n :: ns, d :: vs) else let p := putD f d ns vs; (n :: p.1, v :: p.2)
  | _, _ => ([f], [d])
def setC (m : List Dt) (o i d : Dt) : Option (List Dt) := match o, i with
  | .cel k, .int j => match m[k]? with
    | some (.lst ds) => (ixN ds.length j).map fun n => m.set k (.lst (ds.set n d))
    | _ => none
  | _, _ => none
def toRt {α : Type} (x : Rs α) (k : α → Sto → Rt) : Rt := match x with
  | .ok a S => k a S
  | .ex c ns ds S => .ex c ns ds S
  | .bad => .bad
def forL (body : Sto → Rt) (tg : Tg) : List Dt → Sto → Rt
  | [], S => .nx S
  | x :: xs, S => match tgD tg x S.r with
    | none => .bad
    | some r' => match body ⟨r', S.m⟩ with
      | .nx S' => forL body tg xs S'
      | .ct S' => forL body tg xs S'
      | .bk S' => .nx S'
      | r => r
def whL (cnd : Sto → Rs Bool) (body : Sto → Rt) : Nat → Sto → Rt
  | 0, _ => .bad
  | n + 1, S => toRt (cnd S) fun b S1 => if b = true then
      match body S1 with
      | .nx S' => whL cnd body n S'
      | .ct S' => whL cnd body n S'
      | .bk S' => .nx S'
      | r => r
    else .nx S1
def tst (m : Sto → Rs Dt) (S : Sto) : Rs Bool := (m S).bind fun d S1 => match d with
  | .bl b => .ok b S1
  | _ => .bad
def freshTm : Tm → Bool
  | .lst _ => true
  | .bi .list _ => true
  | .comp _ _ _ _ _ => true
  | _ => false
mutual
def evS : Sm → Sto → Rt
  | .asg tg e, S => toRt (evE P cf ci e S) fun d S1 => match tgD tg d S1.r with
    | some r' => .nx ⟨r', S1.m⟩
    | none => .bad
  | .asgF i e, S => toRt (evB P cf ci e S) fun b S1 => if i < S1.r.length then .nx ⟨S1.r.set i (some b), S1.m⟩ else .bad
  | .parO i j a b, S => toRt (evE P cf ci a S) fun x S1 => toRt (evE P cf ci b S1) fun y S2 => if i < S2.r.length ∧ j < S2.r.length then .nx ⟨(S2.r.set i (some (.p x))).set j (some (.o y)), S2.m⟩ else .bad
  | .asgO i e, S => toRt (evE P cf ci e S) fun d S1 => if i < S1.r.length then .nx ⟨S1.r.set i (some (.o d)), S1.m⟩ else .bad
  | .par i j a b, S => toRt (evE P cf ci a S) fun x S1 => toRt (evE P cf ci b S1) fun y S2 => if i < S2.r.length ∧ j < S2.r.length then .nx ⟨(S2.r.set i (some (.p x))).set j (some (.p y)), S2.m⟩ else .bad
  | .par3 i j l a b c, S => toRt (evE P cf ci a S) fun x S1 => toRt (evE P cf ci b S1) fun y S2 => toRt (evE P cf ci c S2) fun z S3 => if i < S3.r.length ∧ j < S3.r.length ∧ l < S3.r.length then .nx ⟨((S3.r.set i (some (.p x))).set j (some (.p y))).set l (some (.p z)), S3.m⟩ else .bad
  | .put o i e, S => toRt (evE P cf ci e S) fun d S1 => toRt (evE P cf ci o S1) fun x S2 => toRt (evE P cf ci i S2) fun y S3 => match setC S3.m x y d with
    | some m' => .nx ⟨S3.r, m'⟩
    | none => .bad
  | .putB o i e, S => toRt (evE P cf ci e S) fun d S1 => match S1.r[o]? with
    | some (some (.o _)) => toRt (evE P cf ci i S1) fun y S2 => match S2.r[o]?, y with
      | some (some (.o (.lst ds))), .int j => match ixN ds.length j with
        | some n => .nx ⟨S2.r.set o (some (.o (.lst (ds.set n d)))), S2.m⟩
        | none => .bad
      | _, _ => .bad
    | _ => .bad
  | .fld f e, S => toRt (evE P cf ci e S) fun d S1 => match S1.r[(0 : Nat)]? with
    | some (some (Bn.o (Dt.ins c ns vs))) => if P.fld c f = true ∧ ns.length < 1000 then .nx ⟨S1.r.set 0 (some (.o (.ins c (putD f d ns vs).1 (putD f d ns vs).2))), S1.m⟩ else .bad
    | _ => .bad
  | .tsub o i j e, S => toRt (evE P cf ci e S) fun t S1 => match t with
    | .tup [d1, d2] => toRt (evE P cf ci o S1) fun x S2 => toRt (evE P cf ci i S2) fun y S3 => match setC S3.m x y d1 with
      | some m' => if j < S3.r.length then .nx ⟨S3.r.set j (some (.p d2)), m'⟩ else .bad
      | none => .bad
    | _ => .bad
  | .iff c a b, S => toRt (tst (evE P cf ci c) S) fun k S1 => if k = true then evSs a S1 else evSs b S1
  | .for_ tg it b, S => toRt (evE P cf ci it S) fun d S1 => match itemsD d with
    | some ds => forL (evSs b) tg ds S1
    | none => .bad
  | .whl n c b, S => whL (tst (evE P cf ci c)) (evSs b) n S
  | .ret e, S => toRt (evE P cf ci e S) fun d S1 => .rt (.p d) S1
  | .retO i, S => match S.r[i]? with
    | some (some (.o (.lst ds))) => .rt (.o (.lst ds)) S
    | _ => .bad
  | .retF e, S => toRt (evE P cf ci e S) fun d S1 => .rt (.o d) S1
  | .retN, S => .rt (.p .non) S
  | .exp e, S => toRt (evE P cf ci e S) fun _ S1 => .nx S1
  | .pas, S => .nx S
  | .brk, S => .bk S
  | .cnt, S => .ct S
  | .rai c es, S => toRt (evEs P cf ci es S) fun ds S1 => match P.xf.lookup c with
    | some ns => if ns.length = ds.length then .ex c ns ds S1 else .bad
    | none => .bad
  | .app i e, S => match S.r[i]? with
    | some (some (.o (.lst _))) => toRt (evE P cf ci e S) fun d S1 => match S1.r[i]? with
      | some (some (.o (.lst ds))) => if ds.length < sizeLine then .nx ⟨S1.r.set i (some (.o (.lst (ds ++ [d])))), S1.m⟩ else .bad
      | _ => .bad
    | _ => .bad
  | .nev, _ => .bad
  | .pop i, S => match S.r[i]? with
    | some (some (.o (.lst ds))) => if 0 < ds.length then .nx ⟨S.r.set i (some (.o (.lst ds.dropLast))), S.m⟩ else .bad
    | _ => .bad
  | .aug i op e, S => match S.r[i]? with
    | some (some (.p x)) => toRt (evE P cf ci e S) fun y S1 => toRt (aug1 P cf op x y S1) fun z S2 => if i < S2.r.length then .nx ⟨S2.r.set i (some (.p z)), S2.m⟩ else .bad
    | _ => .bad
def evSs : List Sm → Sto → Rt
  | [], S => .nx S
  | s :: ss, S => match evS s S with
    | .nx S1 => evSs ss S1
    | r => r
end
/-- a def's run -/
def fnRun (f : Nat) (xs m : List Dt) : Rc := match P.fn[f]? with
  | none => .bad
  | some fd => if xs.length = fd.k ∧ fd.k ≤ fd.n then
      match evSs P cf ci fd.b ⟨xs.map (fun d => some (.p d)) ++ List.replicate (fd.n - fd.k) none, m⟩ with
      | .nx S => if fd.cell = true then .bad else .ok (.p .non) S.m
      | .rt b S => if fd.cell = true then (match b with
          | .o d => .ok (.p (.cel S.m.length)) (S.m ++ [d])
          | .p _ => .bad) else .ok b S.m
      | .ex c ns ds S => .ex c ns ds S.m
      | _ => .bad
    else .bad
/-- a new instance -/
def clRun (c : Nat) (xs m : List Dt) : Rc := match P.cl[c]? with
  | none => .bad
  | some cd => match P.fn[cd.init]? with
    | none => .bad
    | some fd => if xs.length + 1 = fd.k ∧ fd.k ≤ fd.n then
        match evSs P cf ci fd.b ⟨some (.o (.ins c [] [])) :: (xs.map (fun d => some (.p d)) ++ List.replicate (fd.n - fd.k) none), m⟩ with
        | .nx S => match S.r[(0 : Nat)]? with
          | some (some (Bn.o (Dt.ins c' ns vs))) => .ok (.p (.ins c' ns vs)) S.m
          | _ => .bad
        | .ex c ns ds S => .ex c ns ds S.m
        | _ => .bad
      else .bad
end
def runs (P : Pg) : Nat → (Nat → List Dt → List Dt → Rc) × (Nat → List Dt → List Dt → Rc)
  | 0 => (fun _ _ _ => .bad, fun _ _ _ => .bad)
  | n + 1 => (fnRun P (runs P n).1 (runs P n).2, clRun P (runs P n).1 (runs P n).2)
end PyI
namespace PyI
open PySem PySem.Spec PyProof.Rows L2
/-! readings -/
section
variable (F : Fx) (f : Fm) (W : WX)
def Po {α β : Type} (σ : L2.St) (w : Wd) (r : Rs α) (Rel : Wd → α → β → Prop) (Q : β → Hp → Prop) : Prop := match r with
  | .ok a S' => ∀ b w' H', Rr F f w' σ H' S' → Le w w' → Rel w' a b → Q b H'
  | .ex c ns ds S' => ∀ dx vs w' H', Rr F f w' σ H' S' → Le w w' → w'.G dx = some (.xd (ns.zip vs)) → ns.length = vs.length → Dns F w' ds vs → W (.ref (F.ca c)) (some dx) σ H'
  | .bad => False
def Rd1 {α β : Type} (m : Sto → Rs α) (Rel : Wd → α → β → Prop) : L2.St → Hp → (β → Hp → Prop) → Prop := fun σ H Q => ∃ w S, Rr F f w σ H S ∧ Po F f W σ w (m S) Rel Q
end
section
variable {F : Fx} {f : Fm} {W : WX}
theorem Po.le {α β : Type} {σ : L2.St} {w w1 : Wd} {r : Rs α} {Rel : Wd → α → β → Prop} {Q : β → Hp → Prop} (l : Le w w1) (h : Po F f W σ w r Rel Q) : Po F f W σ w1 r Rel Q := by
  cases r with
  | ok a S => exact fun b w' H' R l' r => h b w' H' R (l.trans l') r
  | ex c ns ds S => exact fun dx vs w' H' R l' => h dx vs w' H' R (l.trans l')
  | bad => exact h
theorem Rd1.go {α β γ δ : Type} {m : Sto → Rs α} {k : α → Sto → Rs γ} {Rel1 : Wd → α → β → Prop} {Rel : Wd → γ → δ → Prop} {σ : L2.St} {H : Hp} {w : Wd} {S : Sto} {Q : δ → Hp → Prop} {Q1 : β → Hp → Prop}
    (R : Rr F f w σ H S) (h : Po F f W σ w ((m S).bind k) Rel Q)
    (hk : ∀ a b w1 H1 S1, m S = .ok a S1 → Rr F f w1 σ H1 S1 → Le w w1 → Rel1 w1 a b → Po F f W σ w1 (k a S1) Rel Q → Q1 b H1) : Rd1 F f W m Rel1 σ H Q1 := by
  refine ⟨w, S, R, ?_⟩
  cases e : m S with
  | ok a S1 =>
    rw [e] at h
    exact fun b w1 H1 R1 l1 r1 => hk a b w1 H1 S1 e R1 l1 r1 (Po.le l1 h)
  | ex c ns ds S1 =>
    rw [e] at h
    exact h
  | bad =>
    rw [e] at h
    exact h
theorem Po.ok {α β : Type} {σ : L2.St} {w : Wd} {a : α} {S : Sto} {Rel : Wd → α → β → Prop} {Q : β → Hp → Prop} {H : Hp} {b : β} (h : Po F f W σ w (.ok a S) Rel Q) (R : Rr F f w σ H S) (r : Rel w a b) : Q b H := h b w H R (Le.refl w) r
theorem Po.new {σ : L2.St} {w : Wd} {d : Dt} {S : Sto} {Q : VK} {H : Hp} {p : Addr} {o : HO} (h : Po F f W σ w (.ok d S) (Dn F) Q) (R : Rr F f w σ H S) (hp : H p = none) (r : Dn F ⟨upd w.G p o, w.A⟩ d (.ref p)) : Q (.ref p) (upd H p o) :=
  h _ _ _ (R.alloc hp).1 (R.alloc (o := o) hp).2 r
end
theorem peImp {X : Cx} {e : Expr} {t t' : TE} (h : PE X e t) (i : ∀ σ H Q, t' σ H Q → t σ H Q) : PE X e t' := ⟨fun pins s σ H Q I q => h.run pins s σ H Q I (i σ H Q q)⟩
theorem ptImp {X : Cx} {e : Expr} {t t' : TT} (h : PT X e t) (i : ∀ σ H Q, t' σ H Q → t σ H Q) : PT X e t' := ⟨fun pins s σ H Q I q => h.run pins s σ H Q I (i σ H Q q)⟩
theorem paImp {X : Cx} {e : List Expr} {t t' : TA} (h : PA X e t) (i : ∀ σ H Q, t' σ H Q → t σ H Q) : PA X e t' := ⟨fun pos pins s σ H Q I q => h.run pos pins s σ H Q I (i σ H Q q)⟩
theorem pssImp {X : Cx} {e : List Stmt} {t t' : TS} (h : PSs X e t) (i : ∀ D σ H, t' D σ H → t D σ H) : PSs X e t' := ⟨fun pins s σ H D I q => h.run pins s σ H D I (i D σ H q)⟩
theorem psImp {X : Cx} {e : Stmt} {t t' : TS} (h : PS X e t) (i : ∀ D σ H, t' D σ H → t D σ H) : PS X e t' := ⟨fun pins s σ H D I q => h.run pins s σ H D I (i D σ H q)⟩
/-! data and the library's data -/
mutual
theorem dp_of {F : Fx} {w : Wd} {H : Hp} (fr : ∀ a o, w.G a = some o → H a = some o) : ∀ (d : Dt) {v : V} {p : PyData}, Dn F w d v → toPy d = some p → Dp F.K H v p
  | .non, _, _, h, e => by cases h; cases e; exact .non
  | .bl _, _, _, h, e => by cases h; cases e; exact .bl _
  | .int _, _, _, h, e => by cases h; cases e; exact .int _
  | .str _, _, _, h, e => by cases h; cases e; exact .str _
  | .lst ds, _, p, ⟨a, vs, e1, s, r⟩, e => by
    subst e1
    simp only [toPy] at e
    cases q : toPys ds with
    | none => rw [q] at e; cases e
    | some ps => rw [q] at e; cases e; exact .lst (SqL.of (fr _ _ s)) (dps_of fr ds r q)
  | .tup ds, _, p, ⟨a, vs, e1, s, r⟩, e => by
    subst e1
    simp only [toPy] at e
    cases q : toPys ds with
    | none => rw [q] at e; cases e
    | some ps => rw [q] at e; cases e; exact .tup (sqT_mono fr s) (dps_of fr ds r q)
  | .dct _ _, _, _, _, e | .ins _ _ _, _, _, _, e | .cel _, _, _, _, e | .cls _, _, _, _, e | .ty _, _, _, _, e | .scr _, _, _, _, e => by cases e
theorem dps_of {F : Fx} {w : Wd} {H : Hp} (fr : ∀ a o, w.G a = some o → H a = some o) : ∀ (ds : List Dt) {vs : List V} {ps : List PyData}, Dns F w ds vs → toPys ds = some ps → DpAll F.K H vs ps
  | [], _, _, h, e => by cases h; cases e; exact .nil
  | d :: ds, _, ps, ⟨v, r, e1, h, t⟩, e => by
    subst e1
    simp only [toPys] at e
    cases q : toPy d with
    | none => rw [q] at e; cases e
    | some x =>
      cases q2 : toPys ds with
      | none => rw [q, q2] at e; cases e
      | some xs => rw [q, q2] at e; cases e; exact .cons (dp_of fr d h q) (dps_of fr ds t q2)
end
theorem flat_dn {F : Fx} {w : Wd} : ∀ {d : Dt} {v : V}, flatD d = true → Dn F w d v → v = dtV d ∧ flatV v = true
  | .non, _, _, h | .bl _, _, _, h | .int _, _, _, h | .str _, _, _, h => by cases h; exact ⟨rfl, rfl⟩
  | .lst _, _, e, _ | .tup _, _, e, _ | .dct _ _, _, e, _ | .ins _ _ _, _, e, _ | .cel _, _, e, _ | .cls _, _, e, _ | .ty _, _, e, _ | .scr _, _, e, _ => by cases e
theorem flat_dns {F : Fx} {w : Wd} : ∀ {ds : List Dt} {vs : List V}, ds.all flatD = true → Dns F w ds vs → vs = ds.map dtV ∧ vs.all flatV = true
  | [], _, _, h => by cases h; exact ⟨rfl, rfl⟩
  | d :: ds, _, e, ⟨v, r, e1, h, t⟩ => by
    subst e1
    rw [List.all_cons, Bool.and_eq_true] at e
    obtain ⟨h1, h2⟩ := flat_dn e.1 h
    obtain ⟨h3, h4⟩ := flat_dns e.2 t
    exact ⟨by rw [h1, h3]; rfl, by rw [List.all_cons, h2, h4]; rfl⟩
/-! operators -/
section
variable {X : Cx} {F : Fx} {f : Fm} {W : WX}
def rOp (F : Fx) (f : Fm) (W : WX) (g : Dt → Dt → Option Dt) : R2 := fun x y H Q => ∃ σ w S a b d, Rr F f w σ H S ∧ Dn F w a x ∧ Dn F w b y ∧ g a b = some d ∧ Po F f W σ w (.ok d S) (Dn F) Q
theorem CMul.of {i j : Int} (h : mulOk i j = true) : CMul i j := by
  simp only [mulOk, Bool.or_eq_true, Bool.and_eq_true, decide_eq_true_eq] at h
  exact h
theorem dns_rep {w : Wd} {ds : List Dt} {vs : List V} : ∀ (n : Nat), Dns F w ds vs → Dns F w (List.replicate n ds).flatten (List.replicate n vs).flatten
  | 0, _ => rfl
  | n + 1, h => by
    rw [List.replicate_succ, List.replicate_succ, List.flatten_cons, List.flatten_cons]
    exact h.append (dns_rep n h)
theorem opD_ok (hK : X.K = F.K) (op : Operator) : OpR X (binaryOp op) (rOp F f W (opD op)) := by
  intro pins s σ H x y v u Q I rx ry h
  obtain ⟨τ, w, S, a, b, d, R, da, db, e, q⟩ := h
  have int2 : ∀ {i j : Int} {k : Int}, a = .int i → b = .int j → d = .int k → x = .int i ∧ y = .int j ∧ Q (.int k) H := fun {i j k} h1 h2 h3 => by
    subst h1; subst h2; subst h3
    exact ⟨da, db, q.ok R rfl⟩
  unfold opD at e
  split at e
  · cases e
    obtain ⟨h1, h2, h3⟩ := int2 rfl rfl rfl
    exact op_add pins s σ H x y v u Q I rx ry ⟨_, _, h1, h2, h3⟩
  · rename_i x1 y1
    split at e
    · cases e
      exact op_add_str pins s σ H x y v u Q I rx ry ⟨x1, y1, da, db, by assumption, q.ok R rfl⟩
    · cases e
  · rename_i xs ys
    split at e
    · rename_i hl
      cases e
      obtain ⟨l1, vs, e1, g1, r1⟩ := da
      obtain ⟨l2, us, e2, g2, r2⟩ := db
      refine op_cat pins s σ H x y v u Q I rx ry ⟨l1, l2, vs, us, e1, e2, R.cs.fr _ _ g1, R.cs.fr _ _ g2, ?_, fun p hp => ?_⟩
      · rw [← r1.length, ← r2.length]
        exact hl
      · have l := (R.alloc (o := .lst (vs ++ us)) hp).2
        exact q.new R hp ⟨p, vs ++ us, rfl, upd_same, (Dns.mono l _ r1).append (Dns.mono l _ r2)⟩
    · cases e
  · cases e
    obtain ⟨h1, h2, h3⟩ := int2 rfl rfl rfl
    exact op_sub pins s σ H x y v u Q I rx ry ⟨_, _, h1, h2, h3⟩
  · split at e
    · rename_i hm
      cases e
      obtain ⟨h1, h2, h3⟩ := int2 rfl rfl rfl
      exact op_mul pins s σ H x y v u Q I rx ry ⟨_, _, h1, h2, CMul.of hm, h3⟩
    · cases e
  · rename_i xs k
    split at e
    · rename_i hm
      cases e
      obtain ⟨l1, vs, e1, g1, r1⟩ := da
      refine op_rep pins s σ H x y v u Q I rx ry ⟨l1, k, vs, e1, db, R.cs.fr _ _ g1, hm.1, hm.2.1, ?_, fun p hp => ?_⟩
      · rw [← r1.length]
        exact hm.2.2
      · have l := (R.alloc (o := .lst (List.replicate k.toNat vs).flatten) hp).2
        exact q.new R hp ⟨p, _, rfl, upd_same, dns_rep k.toNat (Dns.mono l _ r1)⟩
    · cases e
  · split at e
    · rename_i hm
      cases e
      obtain ⟨h1, h2, h3⟩ := int2 rfl rfl rfl
      exact op_fdiv pins s σ H x y v u Q I rx ry ⟨_, _, h1, h2, hm, h3⟩
    · cases e
  · split at e
    · rename_i hm
      cases e
      obtain ⟨h1, h2, h3⟩ := int2 rfl rfl rfl
      exact op_mod pins s σ H x y v u Q I rx ry ⟨_, _, h1, h2, hm, h3⟩
    · cases e
  · split at e
    · rename_i hm
      cases e
      obtain ⟨h1, h2, h3⟩ := int2 rfl rfl rfl
      exact op_pow pins s σ H x y v u Q I rx ry ⟨_, _, h1, h2, hm, h3⟩
    · cases e
  · cases e
theorem eqD_ok (hK : X.K = F.K) (hu : X.A.units + 64 < cLine) : OpR X (compareOp .Eq) (rOp F f W fun a b => (eqD a b).map .bl) := by
  intro pins s σ H x y v u Q I rx ry h
  obtain ⟨τ, w, S, a, b, d, R, da, db, e, q⟩ := h
  have e : (eqD a b).map Dt.bl = some d := e
  unfold eqD at e
  split at e
  · rename_i pa pb ea eb
    split at e
    · rename_i hs
      cases e
      rw [Bool.and_eq_true] at hs
      refine op_eqD hu pins s σ H x y v u Q I rx ry ⟨pa, pb, ?_, ?_, hs.1, hs.2, q.ok R rfl⟩
      · rw [hK]; exact dp_of R.cs.fr a da ea
      · rw [hK]; exact dp_of R.cs.fr b db eb
    · cases e
  · cases e
theorem neD_ok (hK : X.K = F.K) (hu : X.A.units + 64 < cLine) : OpR X (compareOp .NotEq) (rOp F f W fun a b => ((eqD a b).map (!·)).map .bl) := by
  intro pins s σ H x y v u Q I rx ry h
  obtain ⟨τ, w, S, a, b, d, R, da, db, e, q⟩ := h
  have e : ((eqD a b).map (!·)).map Dt.bl = some d := e
  unfold eqD at e
  split at e
  · rename_i pa pb ea eb
    split at e
    · rename_i hs
      cases e
      rw [Bool.and_eq_true] at hs
      refine op_neD hu pins s σ H x y v u Q I rx ry ⟨pa, pb, ?_, ?_, hs.1, hs.2, q.ok R rfl⟩
      · rw [hK]; exact dp_of R.cs.fr a da ea
      · rw [hK]; exact dp_of R.cs.fr b db eb
    · cases e
  · cases e
theorem inT_ok (hK : X.K = F.K) (neg : Bool) {w : Wd} {S : Sto} {a : Dt} {ds : List Dt} {k : Bool} {τ σ : L2.St} {H : Hp} {x y : V} {Q : VK} (R : Rr F f w τ H S) (da : Dn F w a x) (db : Dn F w (.tup ds) y) (e : inTD a ds = some k)
    (q : Q (.bl (if neg then !k else k)) H) : rIn X.K neg x y H Q := by
  obtain ⟨p, vs, e2, sq, r⟩ := db
  unfold inTD at e
  split at e
  · rename_i hf
    rw [Bool.and_eq_true] at hf
    cases e
    obtain ⟨h1, h2⟩ := flat_dn hf.1 da
    obtain ⟨h3, h4⟩ := flat_dns hf.2 r
    refine ⟨p, vs, e2, .inr ?_, h2, h4, ?_⟩
    · rw [hK]; exact sqT_mono R.cs.fr sq
    · rw [h1, h3]; exact q
  · cases e
theorem inL_ok (hK : X.K = F.K) {w : Wd} {S : Sto} {a : Dt} {ds : List Dt} {k : Bool} {τ : L2.St} {H : Hp} {x y : V} (R : Rr F f w τ H S) (da : Dn F w a x) (db : Dn F w (.lst ds) y) (e : inLD a ds = some k) :
    ∃ d es, Dp X.K H x d ∧ Dp X.K H y (.list es) ∧ SeqAt.shaped d = true ∧ SeqAt.shaped (.list es) = true ∧ k = es.any fun z => PyData.eqv z d := by
  unfold inLD at e
  split at e
  · rename_i pa pb ea eb
    split at e
    · rename_i hs
      cases e
      rw [Bool.and_eq_true] at hs
      refine ⟨pa, pb, ?_, ?_, hs.1, hs.2, rfl⟩
      · rw [hK]; exact dp_of R.cs.fr a da ea
      · rw [hK]; exact dp_of (p := .list pb) R.cs.fr (.lst ds) db (by simp only [toPy]; rw [eb]; rfl)
    · cases e
  · cases e
theorem cmpD_ok (hK : X.K = F.K) (hu : X.A.units + 65 < cLine) (op : CmpOp) : OpR X (compareOp op) (rOp F f W fun a b => (cmpD op a b).map .bl) := by
  intro pins s σ H x y v u Q I rx ry h
  obtain ⟨τ, w, S, a, b, d, R, da, db, e, q⟩ := h
  replace e : (cmpD op a b).map Dt.bl = some d := e
  unfold cmpD at e
  split at e
  · cases e; exact op_lt pins s σ H x y v u Q I rx ry ⟨_, _, da, db, q.ok R rfl⟩
  · cases e; exact op_le pins s σ H x y v u Q I rx ry ⟨_, _, da, db, q.ok R rfl⟩
  · cases e; exact op_gt pins s σ H x y v u Q I rx ry ⟨_, _, da, db, q.ok R rfl⟩
  · cases e; exact op_ge pins s σ H x y v u Q I rx ry ⟨_, _, da, db, q.ok R rfl⟩
  · exact eqD_ok hK (by omega) pins s σ H x y v u Q I rx ry ⟨τ, w, S, a, b, d, R, da, db, e, q⟩
  · exact neD_ok hK (by omega) pins s σ H x y v u Q I rx ry ⟨τ, w, S, a, b, d, R, da, db, e, q⟩
  · cases e; cases da; exact op_isN pins s σ H .non y v u Q I rx ry ⟨db, q.ok R rfl⟩
  · cases e; cases da; exact op_isN pins s σ H _ y v u Q I rx ry ⟨db, q.ok R rfl⟩
  · cases e; cases da; exact op_isN pins s σ H _ y v u Q I rx ry ⟨db, q.ok R rfl⟩
  · cases e; cases da; exact op_isN pins s σ H _ y v u Q I rx ry ⟨db, q.ok R rfl⟩
  · cases e; cases da; exact op_notN pins s σ H .non y v u Q I rx ry ⟨db, q.ok R rfl⟩
  · cases e; cases da; exact op_notN pins s σ H _ y v u Q I rx ry ⟨db, q.ok R rfl⟩
  · cases e; cases da; exact op_notN pins s σ H _ y v u Q I rx ry ⟨db, q.ok R rfl⟩
  · cases e; cases da; exact op_notN pins s σ H _ y v u Q I rx ry ⟨db, q.ok R rfl⟩
  · cases e; exact op_isBl pins s σ H x y v u Q I rx ry ⟨_, _, da, db, q.ok R rfl⟩
  · cases e; exact op_in_str pins s σ H x y v u Q I rx ry ⟨_, _, da, db, q.ok R rfl⟩
  · cases e; exact op_notin_str pins s σ H x y v u Q I rx ry ⟨_, _, da, db, q.ok R rfl⟩
  · rename_i ds
    cases z : inLD a ds with
    | none => rw [z] at e; cases e
    | some k =>
      rw [z] at e
      cases e
      obtain ⟨pa, es, h1, h2, h3, h4, h5⟩ := inL_ok hK R da db z
      exact op_inD hu pins s σ H x y v u Q I rx ry ⟨pa, es, h1, h2, h3, h4, by rw [← h5]; exact q.ok R rfl⟩
  · rename_i ds
    cases z : inTD a ds with
    | none => rw [z] at e; cases e
    | some k =>
      rw [z] at e
      cases e
      exact op_in_seq pins s σ H x y v u Q I rx ry (inT_ok (σ := σ) hK false R da db z (q.ok R rfl))
  · rename_i ds
    cases z : inLD a ds with
    | none => rw [z] at e; cases e
    | some k =>
      rw [z] at e
      cases e
      obtain ⟨pa, es, h1, h2, h3, h4, h5⟩ := inL_ok hK R da db z
      exact op_notInD hu pins s σ H x y v u Q I rx ry ⟨pa, es, h1, h2, h3, h4, by rw [← h5]; exact q.ok R rfl⟩
  · rename_i ds
    cases z : inTD a ds with
    | none => rw [z] at e; cases e
    | some k =>
      rw [z] at e
      cases e
      exact op_notIn_seq pins s σ H x y v u Q I rx ry (inT_ok (σ := σ) hK true R da db z (q.ok R rfl))
  · cases e
/-! subscripts -/
theorem ixD_ok (hK : X.K = F.K) : IxR X (fun x y H Q => ∃ σ w S a b d, Rr F f w σ H S ∧ Dn F w a x ∧ Dn F w b y ∧ ixD S.m a b = some d ∧ Po F f W σ w (.ok d S) (Dn F) Q) := by
  intro value slice pins s σ H x y v u Q I rx ry h hs
  obtain ⟨τ, w, S, a, b, d, R, da, db, e, q⟩ := h
  have geti : ∀ {ds : List Dt} {vs : List V} {i : Int}, Dns F w ds vs → atI ds i = some d → ∃ z, atI vs i = some z ∧ Dn F w d z := fun {ds vs i} r e => by
    unfold atI at e ⊢
    rw [r.length] at e
    cases z : ixN vs.length i with
    | none => rw [z] at e; cases e
    | some j => rw [z] at e; exact r.get e
  unfold ixD at e
  split at e
  · obtain ⟨p, vs, e1, g1, r1⟩ := da
    obtain ⟨z, h1, h2⟩ := geti r1 e
    exact ix_list value slice pins s σ H x y v u Q I rx ry ⟨p, vs, _, z, e1, db, SqL.of (R.cs.fr _ _ g1), h1, q.ok R h2⟩ hs
  · obtain ⟨p, vs, e1, g1, r1⟩ := da
    obtain ⟨z, h1, h2⟩ := geti r1 e
    exact ix_tup value slice pins s σ H x y v u Q I rx ry ⟨p, vs, _, z, e1, db, by rw [hK]; exact sqT_mono R.cs.fr g1, h1, q.ok R h2⟩ hs
  · rename_i xs i
    obtain ⟨p, e1, g1⟩ := da
    cases z : atI xs i with
    | none => rw [z] at e; cases e
    | some k =>
      rw [z] at e
      cases e
      refine ix_list value slice pins s σ H x y v u Q I rx ry ⟨p, xs.map V.int, i, .int k, e1, db, by rw [hK]; exact sqL_mono R.cs.fr g1, ?_, q.ok R rfl⟩ hs
      unfold atI at z ⊢
      rw [List.length_map]
      cases y : ixN xs.length i with
      | none => rw [y] at z; cases z
      | some j =>
        rw [y] at z
        show (xs.map V.int)[j]? = _
        rw [List.getElem?_map, show xs[j]? = some k from z]
        rfl
  · rename_i k i
    split at e
    · rename_i ds hm
      obtain ⟨p, e1, g1⟩ := da
      obtain ⟨vs, g2, r1⟩ := R.cs.co k p _ g1 hm
      obtain ⟨z, h1, h2⟩ := geti r1 e
      exact ix_list value slice pins s σ H x y v u Q I rx ry ⟨p, vs, _, z, e1, db, SqL.of g2, h1, q.ok R h2⟩ hs
    · cases e
  · rename_i x1 i
    split at e
    · rename_i hl
      cases z : atI x1.cps.toList i with
      | none => rw [z] at e; cases e
      | some c =>
        rw [z] at e
        cases e
        exact ix_str value slice pins s σ H x y v u Q I rx ry ⟨x1, i, c, da, db, hl, z, q.ok R rfl⟩ hs
    · cases e
  · cases e
end
/-! truth of a test -/
section
variable {X : Cx} {F : Fx} {f : Fm} {W : WX}
abbrev RE (F : Fx) (f : Fm) (W : WX) (m : Sto → Rs Dt) : TE := Rd1 F f W m (Dn F)
def BlR (w : Wd) (d : Dt) (b : Bool) : Prop := d = .bl b
abbrev RT (F : Fx) (f : Fm) (W : WX) (m : Sto → Rs Dt) : TT := Rd1 F f W m BlR
abbrev REs (F : Fx) (f : Fm) (W : WX) (m : Sto → Rs (List Dt)) : TA := Rd1 F f W m (Dns F)
variable {a b c : Expr} {pos : Pos} {ma mb mc : Sto → Rs Dt}
theorem se_bin {op : Operator} (hK : X.K = F.K) (ha : PE X a (RE F f W ma)) (hb : PE X b (RE F f W mb)) :
    PE X (.BinOp a op b pos) (RE F f W fun S => (ma S).bind fun x S1 => (mb S1).bind fun y S2 => okD (opD op x y) S2) := by
  refine peImp (pe_op (opD_ok (f := f) (W := W) hK op) ha hb) fun σ H Q ⟨w, S, R, h⟩ => ?_
  refine Rd1.go R h fun d1 x w1 H1 S1 _ R1 l1 r1 h1 => ?_
  refine Rd1.go R1 h1 fun d2 y w2 H2 S2 _ R2 l2 r2 h2 => ?_
  cases e : opD op d1 d2 with
  | none => rw [e] at h2; exact h2.elim
  | some d => rw [e] at h2; exact ⟨σ, w2, S2, d1, d2, d, R2, Dn.mono l2 d1 r1, r2, e, h2⟩
theorem se_cmp {op : CmpOp} (hK : X.K = F.K) (hu : X.A.units + 65 < cLine) (hm : behindInMarks op b = false) (ha : PE X a (RE F f W ma)) (hb : PE X b (RE F f W mb)) :
    PE X (.Compare a [op] [b] pos) (RE F f W fun S => (ma S).bind fun x S1 => (mb S1).bind fun y S2 => okD ((cmpD op x y).map .bl) S2) := by
  refine peImp (pe_cmpR (cmpD_ok (f := f) (W := W) hK hu op) ha hb hm) fun σ H Q ⟨w, S, R, h⟩ => ?_
  refine Rd1.go R h fun d1 x w1 H1 S1 _ R1 l1 r1 h1 => ?_
  refine Rd1.go R1 h1 fun d2 y w2 H2 S2 _ R2 l2 r2 h2 => ?_
  cases e : (cmpD op d1 d2).map Dt.bl with
  | none => rw [e] at h2; exact h2.elim
  | some d => rw [e] at h2; exact ⟨σ, w2, S2, d1, d2, d, R2, Dn.mono l2 d1 r1, r2, e, h2⟩
theorem se_ix (hK : X.K = F.K) (hs : PlainIx b) (ha : PE X a (RE F f W ma)) (hb : PE X b (RE F f W mb)) :
    PE X (.Subscript a b pos) (RE F f W fun S => (ma S).bind fun x S1 => (mb S1).bind fun y S2 => okD (ixD S2.m x y) S2) := by
  refine peImp (pe_ix (ixD_ok (f := f) (W := W) hK) ha hb hs) fun σ H Q ⟨w, S, R, h⟩ => ?_
  refine Rd1.go R h fun d1 x w1 H1 S1 _ R1 l1 r1 h1 => ?_
  refine Rd1.go R1 h1 fun d2 y w2 H2 S2 _ R2 l2 r2 h2 => ?_
  cases e : ixD S2.m d1 d2 with
  | none => rw [e] at h2; exact h2.elim
  | some d => rw [e] at h2; exact ⟨σ, w2, S2, d1, d2, d, R2, Dn.mono l2 d1 r1, r2, e, h2⟩
theorem se_var {i : Nat} {x : Str} (hN : X.N[i]? = some x) (hv : Vis X.env.scope x) (hd : (x == ("__debug__" : Str)) = false) (hcd : (x == ("__classdict__" : Str)) = false) :
    PE X (.Name x pos) (RE F f W fun S => match S.r[i]? with
    | some (some (.p d)) => .ok d S
    | some (some (.o (.lst ds))) => .ok (.lst ds) ⟨S.r.set i (some (.p (.lst ds))), S.m⟩
    | _ => .bad) := by
  refine peImp (pe_var hN hv hd hcd) fun σ H Q ⟨w, S, R, h⟩ => ?_
  dsimp only at h
  split at h
  · rename_i d e
    obtain ⟨v, h1, h2⟩ := R.pu i d e
    exact ⟨v, h1, h.ok R h2⟩
  · rename_i ds e
    obtain ⟨a, w', h1, l, R', dn⟩ := R.freeze e
    exact ⟨.ref a, h1, h _ _ _ R' l dn⟩
  · exact h.elim
theorem se_c {e : Expr} {v : V} {d : Dt} (he : PE X e (tC v)) (hd : ∀ w, Dn F w d v) : PE X e (RE F f W fun S => .ok d S) :=
  peImp he fun σ H Q ⟨w, S, R, h⟩ => h.ok R (hd w)
theorem se_neg (ha : PE X a (RE F f W ma)) : PE X (.UnaryOp .USub a pos) (RE F f W fun S => (ma S).bind fun x S1 => match x with
    | .int i => .ok (.int (-i)) S1
    | _ => .bad) := by
  refine peImp (pe_un un_neg ha) fun σ H Q ⟨w, S, R, h⟩ => ?_
  refine Rd1.go R h fun d1 x w1 H1 S1 _ R1 l1 r1 h1 => ?_
  cases d1 with
  | int i => exact ⟨i, r1, h1.ok R1 rfl⟩
  | _ => exact h1.elim
theorem se_not (ha : PE X a (RE F f W ma)) : PE X (.UnaryOp .Not a pos) (RE F f W fun S => (ma S).bind fun x S1 => match x with
    | .bl k => .ok (.bl (!k)) S1
    | _ => .bad) := by
  refine peImp (pe_not ha) fun σ H Q ⟨w, S, R, h⟩ => ?_
  refine Rd1.go R h fun d1 x w1 H1 S1 _ R1 l1 r1 h1 => ?_
  cases d1 with
  | bl k => exact ⟨k, r1, h1.ok R1 rfl⟩
  | _ => exact h1.elim
end
/-! slices -/
section
variable {X : Cx} {F : Fx} {f : Fm} {W : WX}
theorem Dns.drop {w : Wd} : ∀ {ds : List Dt} {vs : List V} (n : Nat), Dns F w ds vs → Dns F w (ds.drop n) (vs.drop n)
  | _, _, 0, h => h
  | [], _, n + 1, h => by cases h; exact rfl
  | d :: ds, _, n + 1, ⟨v, r, e, _, t⟩ => by subst e; exact Dns.drop n t
theorem Dns.take {w : Wd} : ∀ {ds : List Dt} {vs : List V} (n : Nat), Dns F w ds vs → Dns F w (ds.take n) (vs.take n)
  | _, _, 0, _ => rfl
  | [], _, n + 1, h => by cases h; exact rfl
  | d :: ds, _, n + 1, ⟨v, r, e, h, t⟩ => by subst e; exact ⟨v, r.take n, rfl, h, Dns.take n t⟩
theorem cut_dn {w : Wd} {ds : List Dt} {vs : List V} {lo hi : Option Int} (h : Dns F w ds vs) : Dns F w (cutL ds lo hi) (cutV vs lo hi) := by
  unfold cutL cutV
  rw [h.length]
  exact (h.drop _).take _
theorem slD_ok (hK : X.K = F.K) : SlR X (fun x lo hi H Q => ∃ σ w S a d, Rr F f w σ H S ∧ Dn F w a x ∧ slD a lo hi = some d ∧ Po F f W σ w (.ok d S) (Dn F) Q) := by
  intro pins s σ H x v vl vu lo hi sl Q I rx hs pl pu h
  obtain ⟨τ, w, S, a, d, R, da, e, q⟩ := h
  unfold slD at e
  split at e
  · cases e
    obtain ⟨p, vs, e1, g1, r1⟩ := da
    refine sl_list pins s σ H x v vl vu lo hi sl Q I rx hs pl pu ⟨p, vs, e1, SqL.of (R.cs.fr _ _ g1), fun p2 hp => ?_⟩
    have l := (R.alloc (o := .lst (cutV vs lo hi)) hp).2
    exact q.new R hp ⟨p2, _, rfl, upd_same, cut_dn (Dns.mono l _ r1)⟩
  · rename_i ds
    split at e
    · cases e
    · rename_i hw
      cases e
      obtain ⟨p, vs, e1, g1, r1⟩ := da
      refine sl_tup pins s σ H x v vl vu lo hi sl Q I rx hs pl pu ⟨p, vs, e1, by rw [hK]; exact sqT_mono R.cs.fr g1, by rw [← r1.length]; exact hw, fun p2 hp => ?_⟩
      have l := (R.alloc (o := .tup (cutV vs lo hi)) hp).2
      exact q.new R hp ⟨p2, _, rfl, .inl (.inl upd_same), cut_dn (Dns.mono l _ r1)⟩
  · split at e
    · rename_i hl
      cases e
      exact sl_str pins s σ H x v vl vu lo hi sl Q I rx hs pl pu ⟨_, da, hl, q.ok R rfl⟩
    · cases e
  · cases e
variable {a b c : Expr} {pos p2 : Pos} {ma mb mc : Sto → Rs Dt}
theorem dns_rev {w : Wd} : ∀ {ds : List Dt} {vs : List V}, Dns F w ds vs → Dns F w ds.reverse vs.reverse
  | [], _, h => by cases h; rfl
  | d :: ds, _, ⟨v, r, e, h, t⟩ => by
    subst e
    rw [List.reverse_cons, List.reverse_cons]
    exact (dns_rev t).append (show Dns F w [d] [v] from ⟨v, [], rfl, h, rfl⟩)
theorem se_rev {kk : Nat} {p1 p3 p4 : Pos} (hK : X.K = F.K) (ha : PE X a (RE F f W ma)) : PE X (.Subscript a (.Slice none none (some (.UnaryOp .USub (.Constant (.int 1) kk p1) p4)) p3) pos) (RE F f W fun S => (ma S).bind revD) := by
  refine peImp (pe_revL ha) fun σ H Q ⟨w, S, R, h⟩ => ?_
  refine Rd1.go R h fun d1 x w1 H1 S1 _ R1 l1 r1 h1 => ?_
  cases d1 with
  | lst ds =>
    obtain ⟨a0, vs, e1, g1, q1⟩ := r1
    refine ⟨a0, vs, e1, SqL.of (R1.cs.fr _ _ g1), fun p hp => ?_⟩
    have l := (R1.alloc (o := .lst vs.reverse) hp).2
    exact h1.new R1 hp ⟨p, _, rfl, upd_same, dns_rev (Dns.mono l _ q1)⟩
  | _ => exact h1.elim
theorem se_slcL (hK : X.K = F.K) (ha : PE X a (RE F f W ma)) (hb : PE X b (RE F f W mb)) : PE X (.Subscript a (.Slice (some b) none none p2) pos) (RE F f W fun S => (ma S).bind fun x S1 => (mb S1).bind fun y S2 => match y with
    | .int i => okD (slD x (some i) none) S2
    | _ => .bad) := by
  refine peImp (pe_slice (slD_ok (f := f) (W := W) hK) ha (po_some hb) po_none) fun σ H Q ⟨w, S, R, h⟩ => ?_
  refine Rd1.go R h fun d1 x w1 H1 S1 _ R1 l1 r1 h1 => ?_
  refine Rd1.go R1 h1 fun d2 y w2 H2 S2 _ R2 l2 r2 h2 => ?_
  cases d2 with
  | int i =>
    refine ⟨i, r2, ?_⟩
    dsimp only at h2
    cases e : slD d1 (some i) none with
    | none => rw [e] at h2; exact h2.elim
    | some d => rw [e] at h2; exact ⟨σ, w2, S2, d1, d, R2, Dn.mono l2 d1 r1, e, h2⟩
  | _ => exact h2.elim
theorem se_slcH (hK : X.K = F.K) (ha : PE X a (RE F f W ma)) (hb : PE X b (RE F f W mb)) : PE X (.Subscript a (.Slice none (some b) none p2) pos) (RE F f W fun S => (ma S).bind fun x S1 => (mb S1).bind fun y S2 => match y with
    | .int i => okD (slD x none (some i)) S2
    | _ => .bad) := by
  refine peImp (pe_slice (slD_ok (f := f) (W := W) hK) ha po_none (po_some hb)) fun σ H Q ⟨w, S, R, h⟩ => ?_
  refine Rd1.go R h fun d1 x w1 H1 S1 _ R1 l1 r1 h1 => ?_
  refine Rd1.go R1 h1 fun d2 y w2 H2 S2 _ R2 l2 r2 h2 => ?_
  cases d2 with
  | int i =>
    refine ⟨i, r2, ?_⟩
    dsimp only at h2
    cases e : slD d1 none (some i) with
    | none => rw [e] at h2; exact h2.elim
    | some d => rw [e] at h2; exact ⟨σ, w2, S2, d1, d, R2, Dn.mono l2 d1 r1, e, h2⟩
  | _ => exact h2.elim
theorem se_slcB (hK : X.K = F.K) (ha : PE X a (RE F f W ma)) (hb : PE X b (RE F f W mb)) (hc : PE X c (RE F f W mc)) : PE X (.Subscript a (.Slice (some b) (some c) none p2) pos) (RE F f W fun S => (ma S).bind fun x S1 => (mb S1).bind fun y S2 => match y with
    | .int i => (mc S2).bind fun z S3 => match z with
      | .int j => okD (slD x (some i) (some j)) S3
      | _ => .bad
    | _ => .bad) := by
  refine peImp (pe_slice (slD_ok (f := f) (W := W) hK) ha (po_some hb) (po_some hc)) fun σ H Q ⟨w, S, R, h⟩ => ?_
  refine Rd1.go R h fun d1 x w1 H1 S1 _ R1 l1 r1 h1 => ?_
  refine Rd1.go R1 h1 fun d2 y w2 H2 S2 _ R2 l2 r2 h2 => ?_
  cases d2 with
  | int i =>
    refine ⟨i, r2, ?_⟩
    dsimp only at h2
    refine Rd1.go R2 h2 fun d3 z w3 H3 S3 _ R3 l3 r3 h3 => ?_
    cases d3 with
    | int j =>
      refine ⟨j, r3, ?_⟩
      dsimp only at h3
      cases e : slD d1 (some i) (some j) with
      | none => rw [e] at h3; exact h3.elim
      | some d => rw [e] at h3; exact ⟨σ, w3, S3, d1, d, R3, Dn.mono (l2.trans l3) d1 r1, e, h3⟩
    | _ => exact h3.elim
  | _ => exact h2.elim
end
end PyI
namespace PyI
open PySem PySem.Spec PyProof.Rows L2
/-! ### what a callee promises -/
section
variable (F : Fx)
/-- a value that is handed back -/
def Vb (w' : Wd) (H H' : Hp) : Bn → V → Prop
  | .p d, v => Dn F w' d v
  | .o d, v => ∃ a, v = .ref a ∧ w'.G a = none ∧ a ∉ w'.A ∧ Mc F w' H' a d ∧ H a = none
def PoC (w : Wd) (H : Hp) (r : Rc) (Q : VK) (E : XK) : Prop := match r with
  | .ok b m' => ∀ v w' H', Cs F w' H' m' → Xt ⟨H, w, [], []⟩ w' H' → Vb F w' H H' b v → Q v H'
  | .ex c ns ds m' => ∀ dx vs w' H', Cs F w' H' m' → Xt ⟨H, w, [], []⟩ w' H' → w'.G dx = some (.xd (ns.zip vs)) → ns.length = vs.length → Dns F w' ds vs → E (.ref (F.ca c)) (some dx) H'
  | .bad => False
/-- the promise of a def, for its given arguments by shape -/
def spS (g : List Dt → List Dt → Rc) (sh : List Ar) : Sp := fun vs H Q E => ∃ w m ds xs, Cs F w H m ∧ Dns F w ds vs ∧ pick ds sh = some xs ∧ PoC F w H (g xs m) Q E
end
/-- a callable thing at f keeps the promise sp when it is given n values by place and the keywords ks -/
def CalG (P : Program) (w : World) (K : PySem.W.Frag) (mg : Str → Option Value) (base : Heap) (k : Nat) (f : Addr) (n : Nat) (ks : List Str) (sp : Sp) : Prop :=
  ∀ (A : Around) (outer : List Env) (s : Shared) (H : Hp) (us ws : List Value) (vs zs : List V) (Q : VK) (E : XK), Room k A → A.guards = some [] → Env0 P w K mg base A outer s H → us.length = n → ws.length = ks.length →
    Vals vs us → Vals zs ws → sp (vs ++ zs) H Q E → codeAny (model P w) A (.call (.ref f) ⟨us, ks.zip ws⟩) (CR (L2.CX P w) outer P w H s Q E) s
section
variable {X : Cx} {W : WX} {k n : Nat} {f : Addr} {ks : List Str} {sp : Sp}
theorem run_G {pins : List (Addr × Obj)} {σ : L2.St} {H : Hp} {s : Shared} {Q : VK} {us ws : List Value} {vs zs : List V} (C : CalG X.prog X.w X.K X.mg X.base k f n ks sp) (hr : Room k X.A) (hg : X.A.guards = some []) (tk : Takes X W)
    (I : Inv X pins σ H s) (h1 : us.length = n) (h2 : ws.length = ks.length) (r : Vals vs us) (rz : Vals zs ws) (h : sp (vs ++ zs) H Q (WE W σ)) :
    wpAny (model X.prog X.w) X.A (PySem.call (.ref f) us (ks.zip ws)) (EP X pins σ Q) X.xe s := by
  refine wpAny_call (codeAny_mono (C X.A X.stack s H us ws vs zs Q (WE W σ) hr hg I.env0 h1 h2 r rz h) fun r s' hq => ?_)
  cases r with
  | error e => exact passAt tk σ pins H s e s' I hq
  | ok fl =>
    cases fl with
    | ret u => exact I.after hq
    | next => exact False.elim hq
    | brk => exact False.elim hq
    | cont => exact False.elim hq
end
/-! ### arguments -/
def plainEs (es : List Expr) : Bool := es.all fun e => match e with
  | .Starred _ _ => false
  | _ => true
def kwName : Keyword → Option Str
  | ⟨n, _, _⟩ => n
def kwExpr : Keyword → Expr
  | ⟨_, e, _⟩ => e
def kwNames (kws : List Keyword) : List Str := kws.filterMap kwName
theorem star_cons {e : Expr} {es : List Expr} {env : Env} (h : plainEs (e :: es) = true) : starEach (e :: es) env = (false, eval e env) :: starEach es env := by
  cases e <;> first | rfl | (simp [plainEs] at h)
theorem plain_tail {e : Expr} {es : List Expr} (h : plainEs (e :: es) = true) : plainEs es = true := by
  unfold plainEs at h ⊢
  rw [List.all_cons, Bool.and_eq_true] at h
  exact h.2
theorem star_any {env : Env} {pos : Pos} : ∀ {es : List Expr}, plainEs es = true → (backTo pos (starEach es env)).any (·.1) = false
  | [], _ => rfl
  | e :: es, h => by
    rw [star_cons h]
    show (false || (backTo pos (starEach es env)).any (·.1)) = false
    rw [star_any (plain_tail h)]
    rfl
theorem kw_all {env : Env} {pos : Pos} : ∀ {kws : List Keyword}, kws.all (fun k => (kwName k).isSome) = true → (backToKw pos (keywordEach kws env)).all (·.1.isSome) = true
  | [], _ => rfl
  | ⟨n, e, p⟩ :: kws, h => by
    rw [List.all_cons, Bool.and_eq_true] at h
    show (n.isSome && (backToKw pos (keywordEach kws env)).all (·.1.isSome)) = true
    rw [kw_all h.2, show n.isSome = true from h.1]
    rfl
theorem kw_none {env : Env} {pos : Pos} : ∀ {kws : List Keyword}, kws.all (fun k => (kwName k).isSome) = true → (backToKw pos (keywordEach kws env)).any (·.1.isNone) = false
  | [], _ => rfl
  | ⟨n, e, p⟩ :: kws, h => by
    rw [List.all_cons, Bool.and_eq_true] at h
    show (n.isNone || (backToKw pos (keywordEach kws env)).any (·.1.isNone)) = false
    rw [kw_none h.2]
    cases n with
    | none => cases h.1
    | some _ => rfl
theorem kw_names {env : Env} {pos : Pos} : ∀ {kws : List Keyword}, (backToKw pos (keywordEach kws env)).filterMap (·.1) = kwNames kws
  | [] => rfl
  | ⟨n, e, p⟩ :: kws => by
    show ((n, _) :: backToKw pos (keywordEach kws env)).filterMap (·.1) = kwNames (⟨n, e, p⟩ :: kws)
    unfold kwNames
    rw [List.filterMap_cons, List.filterMap_cons, kw_names (kws := kws)]
    rfl
section
variable {X : Cx} {pos : Pos} {es : List Expr} {kws : List Keyword} {ta tk : TA}
/-- a call's arguments, then the call -/
theorem call_with {pins : List (Addr × Obj)} {σ : L2.St} {H : Hp} {s : Shared} {fv : Value} {first : List Value} {e : Expr} {Rq : List V → List V → Hp → Prop} {Q : Value → Shared → Prop} (hk : PySem.W.keepIn X.K fv = true) (hp : plainEs (e :: es) = true) (hn : kws.all (fun k => (kwName k).isSome) = true)
    (ha : PA X (e :: es) ta) (hkk : PK X kws tk) (I : Inv X pins σ H s) (h : ta σ H fun vs H1 => tk σ H1 fun zs H2 => Rq vs zs H2)
    (fin : ∀ us ws vs zs s2 H2, Inv X pins σ H2 s2 → Vals vs us → Vals zs ws → Rq vs zs H2 → wpAny (model X.prog X.w) X.A (PySem.call fv (first ++ us) ((kwNames kws).zip ws)) Q X.xe s2) :
    wpAny (model X.prog X.w) X.A (callWith pos fv first (backTo pos (starEach (e :: es) X.env)) (backToKw pos (keywordEach kws X.env))) Q X.xe s := by
  refine PySem.W.callWith_KW (h₀ := X.base) I.ok.mod.kin hk (kw_all hn) (thn (ha.run pos pins s σ H _ I h) fun us s1 hh => ?_) (by rw [star_any hp, kw_none hn]; rfl) (star_cons hp)
  obtain ⟨vs, H1, I1, r1, q1⟩ := hh
  refine thn (hkk.run pos pins s1 σ H1 _ I1 q1) fun ws s2 hh => ?_
  obtain ⟨zs, H2, I2, r2, q2⟩ := hh
  refine ⟨I2.kIn, ?_⟩
  rw [kw_names]
  exact fin us ws vs zs s2 H2 I2 r1 r2 q2
theorem call_with0 {pins : List (Addr × Obj)} {σ : L2.St} {H : Hp} {s : Shared} {fv : Value} {first : List Value} {Rq : List V → Hp → Prop} {Q : Value → Shared → Prop} (hk : PySem.W.keepIn X.K fv = true) (hn : kws.all (fun k => (kwName k).isSome) = true)
    (hkk : PK X kws tk) (I : Inv X pins σ H s) (h : tk σ H fun zs H2 => Rq zs H2)
    (fin : ∀ ws zs s2 H2, Inv X pins σ H2 s2 → Vals zs ws → Rq zs H2 → wpAny (model X.prog X.w) X.A (PySem.call fv (first ++ []) ((kwNames kws).zip ws)) Q X.xe s2) :
    wpAny (model X.prog X.w) X.A (callWith pos fv first (backTo pos (starEach [] X.env)) (backToKw pos (keywordEach kws X.env))) Q X.xe s := by
  refine PySem.W.callWith_KW0 (h₀ := X.base) I.ok.mod.kin hk (kw_all hn) (thn (hkk.run pos pins s σ H _ I h) fun ws s2 hh => ?_) (by rw [kw_none hn]; rfl)
  obtain ⟨zs, H2, I2, r2, q2⟩ := hh
  refine ⟨I2.kIn, ?_⟩
  rw [kw_names]
  exact fin ws zs s2 H2 I2 r2 q2
end
/-- the arguments of a call, all of them -/
structure PArg (X : Cx) (es : List Expr) (kws : List Keyword) (t : TA) : Prop where
  run : ∀ (pos : Pos) (pins : List (Addr × Obj)) (s : Shared) (σ : L2.St) (H : Hp) (fv : Value) (first : List Value) (Rq : List V → Hp → Prop) (Q : Value → Shared → Prop), PySem.W.keepIn X.K fv = true → Inv X pins σ H s → t σ H Rq →
    (∀ us ws vs zs s2 H2, Inv X pins σ H2 s2 → us.length = es.length → ws.length = kws.length → Vals vs us → Vals zs ws → Rq (vs ++ zs) H2 → wpAny (model X.prog X.w) X.A (PySem.call fv (first ++ us) ((kwNames kws).zip ws)) Q X.xe s2) →
    wpAny (model X.prog X.w) X.A (callWith pos fv first (backTo pos (starEach es X.env)) (backToKw pos (keywordEach kws X.env))) Q X.xe s
section
variable {X : Cx} {F : Fx} {f : Fm} {W : WX} {es : List Expr} {kws : List Keyword} {m1 m2 : Sto → Rs (List Dt)}
theorem pArg_of (hp : plainEs es = true) (hn : kws.all (fun k => (kwName k).isSome) = true) (h0 : es = [] → ∀ S, m1 S = .ok [] S) (hl1 : ∀ S ds S1, m1 S = .ok ds S1 → ds.length = es.length) (hl2 : ∀ S ds S1, m2 S = .ok ds S1 → ds.length = kws.length)
    (ha : PA X es (REs F f W m1)) (hk : PK X kws (REs F f W m2)) : PArg X es kws (REs F f W fun S => (m1 S).bind fun ds S1 => (m2 S1).bind fun es S2 => .ok (ds ++ es) S2) := by
  refine ⟨fun pos pins s σ H fv first Rq Q kp I h fin => ?_⟩
  obtain ⟨w, S, R, h⟩ := h
  cases es with
  | nil =>
    dsimp only at h
    rw [h0 rfl] at h
    refine call_with0 (Rq := fun zs H2 => zs.length = kws.length ∧ Rq zs H2) kp hn hk I (Rd1.go (k := fun es S2 => .ok ([] ++ es) S2) R h fun d2 y w2 H2 S2 e2 R2 l2 r2 h2 => ⟨?_, ?_⟩) fun ws zs s2 H2 I2 rz q => ?_
    · rw [← r2.length, hl2 _ _ _ e2]
    · exact h2.ok R2 r2
    · exact fin [] ws [] zs s2 H2 I2 rfl (by rw [← rz.length]; exact q.1) .nil rz q.2
  | cons e es =>
    refine call_with (Rq := fun vs zs H2 => vs.length = (e :: es).length ∧ zs.length = kws.length ∧ Rq (vs ++ zs) H2) kp hp hn ha hk I (Rd1.go R h fun d1 x w1 H1 S1 e1 R1 l1 r1 h1 => Rd1.go R1 h1 fun d2 y w2 H2 S2 e2 R2 l2 r2 h2 => ⟨?_, ?_, ?_⟩) fun us ws vs zs s2 H2 I2 ru rz q => ?_
    · rw [← r1.length, hl1 _ _ _ e1]
    · rw [← r2.length, hl2 _ _ _ e2]
    · exact h2.ok R2 ((Dns.mono l2 _ r1).append r2)
    · exact fin us ws vs zs s2 H2 I2 (by rw [← ru.length]; exact q.1) (by rw [← rz.length]; exact q.2.1) ru rz q.2.2
end
/-! ### from a call back to the frame -/
section
variable {F : Fx} {f : Fm} {W : WX}
theorem Rr.freezeV {w : Wd} {σ : L2.St} {H : Hp} {S : Sto} (R : Rr F f w σ H S) {a : Addr} {d : Dt} (g1 : w.G a = none) (a1 : a ∉ w.A) (m1 : Mc F w H a d) (f0 : f.H0 a = none) (no : ∀ (j : Nat) e, S.r[j]? = some (some (.o e)) → σ[j]? = some (some (.ref a)) → False) :
    ∃ w', Le w w' ∧ Rr F f w' σ H S ∧ Dn F w' d (.ref a) := by
  obtain ⟨o, ho, dn⟩ := m1.dn g1
  have l : Le w ⟨upd w.G a o, w.A⟩ := le_upd g1
  refine ⟨_, l, ⟨⟨fun b u e => ?_, R.cs.nd, R.cs.ln, fun b hb => ?_, fun k b e q1 q2 => (R.cs.co k b e q1 q2).move l (fun _ z => z)⟩, ⟨R.xt.le.trans l, fun b u e => ?_, R.xt.an, R.xt.pr, R.xt.xs⟩, R.sl, fun j e q => ?_, fun j e q => ?_, R.dj⟩, dn⟩
  · have e2 : upd w.G a o b = some u := e
    by_cases z : b = a
    · subst z
      rw [upd_same] at e2
      rw [ho, e2]
    · rw [upd_ne z] at e2
      exact R.cs.fr b u e2
  · show upd w.G a o b = none
    rw [upd_ne (fun z => by subst z; exact a1 hb)]
    exact R.cs.ce b hb
  · have e2 : upd w.G a o b = some u := e
    by_cases z : b = a
    · subst z
      exact .inr (.inl f0)
    · rw [upd_ne z] at e2
      exact R.xt.gn b u e2
  · obtain ⟨v', g1', g2'⟩ := R.pu j e q
    exact ⟨v', g1', Dn.mono l e g2'⟩
  · obtain ⟨b, g1', g2', g3', g4', g5'⟩ := R.ow j e q
    refine ⟨b, g1', ?_, g3', g4'.move l (fun _ z => z), g5'⟩
    show upd w.G a o b = none
    rw [upd_ne (fun y => by subst y; exact no j e q g1')]
    exact g2'
/-- what a call hands back, as shared data of the caller -/
theorem poC_of {w : Wd} {σ : L2.St} {H : Hp} {S : Sto} {r : Rc} {Q : VK} (R : Rr F f w σ H S) (h : Po F f W σ w (upR r S) (Dn F) Q) : PoC F w H r Q (WE W σ) := by
  cases r with
  | ok b m' =>
    intro v w' H' c x vb
    have R' := R.back c x
    cases b with
    | p d => exact h v w' H' R' x.le vb
    | o d =>
      obtain ⟨a, rfl, g1, a1, m1, hn⟩ := vb
      obtain ⟨w2, l2, R2, dn⟩ := R'.freezeV g1 a1 m1 (R.new0 hn) (fun j e q1 q2 => by
        obtain ⟨b, s1, _, _, m4, _⟩ := R.ow j e q1
        rw [q2] at s1
        cases s1
        obtain ⟨o, ho⟩ := m4.there
        rw [hn] at ho
        cases ho)
      exact h (.ref a) w2 H' R2 (x.le.trans l2) dn
  | ex c ns ds m' =>
    intro dx vs w' H' cs x g n r
    exact h dx vs w' H' (R.back cs x) x.le g n r
  | bad => exact h
end
/-! ### calls of defs, of methods, makings -/
section
variable {X : Cx} {F : Fx} {f : Fm} {W : WX} {k : Nat} {es : List Expr} {kws : List Keyword} {m : Sto → Rs (List Dt)} {x : Str} {p pos apos : Pos}
theorem upP_some {o : Option (List Dt)} {g : List Dt → List Dt → Rc} {S : Sto} {σ : L2.St} {w : Wd} {Q : VK} (h : Po F f W σ w (upP o g S) (Dn F) Q) : ∃ xs, o = some xs ∧ Po F f W σ w (upR (g xs S.m) S) (Dn F) Q := by
  cases o with
  | none => exact h.elim
  | some xs => exact ⟨xs, rfl, h⟩
/-- a global name that may be called: a def or a class -/
theorem se_call {g : List Dt → List Dt → Rc} {shl : Nat → Option (List Ar)} {fa : Addr} (C : ∀ sh, shl es.length = some sh → CalG X.prog X.w X.K X.mg X.base k fa es.length (kwNames kws) (spS F g sh)) (hkw : (kwNames kws).length = kws.length) (hr : Room k X.A) (hg : X.A.guards = some []) (tk : Takes X W)
    (hgl : Gl X x) (hm : X.mg x = some (.ref fa)) (hk : PySem.W.keepIn X.K (.ref fa) = true) (hdb : (x == ("__debug__" : Str)) = false) (hlen : ∀ S ds S1, m S = .ok ds S1 → ds.length = es.length + kws.length) (ha : PArg X es kws (REs F f W m)) :
    PE X (.Call (.Name x p) es kws pos) (RE F f W fun S => (m S).bind fun ds S1 => match shl (ds.length - (kwNames kws).length) with
      | some sh => upP (pick ds sh) g S1
      | none => .bad) := by
  refine ⟨fun pins s σ H Q I h => ?_⟩
  obtain ⟨w, S, R, h⟩ := h
  refine wpAny_Call_Name_kw (ld_glob I hgl hm ?_ hdb)
  refine ha.run pos pins s σ H (.ref fa) [] (fun vs H2 => ∃ sh, shl es.length = some sh ∧ spS F g sh vs H2 Q (WE W σ)) (EP X pins σ Q) hk I (Rd1.go R h fun ds vs w1 H1 S1 em R1 l1 r1 h1 => ?_) fun us ws vs zs s2 H2 I2 l1 l2 ru rz q => ?_
  · have hl := hlen _ _ _ em
    have e1 : ds.length - (kwNames kws).length = es.length := by rw [hkw]; omega
    rw [e1] at h1
    cases e : shl es.length with
    | none => rw [e] at h1; exact h1.elim
    | some sh =>
      rw [e] at h1
      obtain ⟨xs, e2, h2⟩ := upP_some h1
      exact ⟨sh, rfl, w1, S1.m, ds, xs, R1.cs, r1, e2, poC_of R1 h2⟩
  · obtain ⟨sh, e, q⟩ := q
    exact run_G (C sh e) hr hg tk I2 l1 (by rw [hkw]; exact l2) ru rz q
theorem look_dn {w : Wd} {f0 : Str} : ∀ {ds : List Dt} {vs : List V} {ns : List Str}, Dns F w ds vs → ns.length = vs.length → (∀ d, lookD f0 ns ds = some d → ∃ v, (ns.zip vs).lookup f0 = some v ∧ Dn F w d v) ∧ (lookD f0 ns ds = none → (ns.zip vs).lookup f0 = none)
  | [], _, ns, h, hl => by
    cases h
    cases ns with
    | nil => exact ⟨fun d e => (by cases e), fun _ => rfl⟩
    | cons _ _ => cases hl
  | d :: ds, _, ns, ⟨v, r, e, h, t⟩, hl => by
    subst e
    cases ns with
    | nil => cases hl
    | cons n ns =>
      have ih := look_dn (f0 := f0) t (ns := ns) (by simpa using hl)
      unfold lookD
      rw [List.zip_cons_cons, List.lookup_cons]
      by_cases q : f0 = n
      · have b : (f0 == n) = true := by simpa using q
        rw [b, if_pos q]
        exact ⟨fun d' e => by cases e; exact ⟨v, rfl, h⟩, fun e => by cases e⟩
      · have b : (f0 == n) = false := by simpa using q
        rw [b, if_neg q]
        exact ih
/-- o.m(..) -/
theorem se_meth {mo : Sto → Rs Dt} {o : Expr} {mt : Str} {P : Pg} {cf : Nat → List Dt → List Dt → Rc} (he : PE X o (RE F f W mo))
    (hC : ∀ c g, P.meth c mt = some g → Cls X.K (F.ca c) ∧ Meth X.K (F.ca c) mt (F.fa g) ∧ ∀ sh, P.shf g (es.length + 1) (kwNames kws) = some sh → CalG X.prog X.w X.K X.mg X.base k (F.fa g) (es.length + 1) (kwNames kws) (spS F (cf g) sh))
    (hkw : (kwNames kws).length = kws.length) (hr : Room k X.A) (hg : X.A.guards = some []) (tk : Takes X W) (hlen : ∀ S ds S1, m S = .ok ds S1 → ds.length = es.length + kws.length) (ha : PArg X es kws (REs F f W m))
    {pl : Sem Bool} (ht : eval (.Call (.Attribute o mt apos) es kws pos) X.env = (do
      let ov ← eval o X.env
      standAt apos.atName
      let (f, first) ← holding [ov] (getMethod ov mt pl)
      callWith pos f first (backTo pos (starEach es X.env)) (backToKw pos (keywordEach kws X.env)))) :
    PE X (.Call (.Attribute o mt apos) es kws pos) (RE F f W fun S => (mo S).bind fun x S1 => match x with
    | .ins c ns vs => match P.meth c mt, lookD mt ns vs with
      | some g, none => (m S1).bind fun ds S2 => match P.shf g (ds.length + 1 - (kwNames kws).length) (kwNames kws) with
        | some sh => upP (pick (.ins c ns vs :: ds) sh) (cf g) S2
        | none => .bad
      | _, _ => .bad
    | _ => .bad) := by
  refine ⟨fun pins s σ H Q I h => ?_⟩
  obtain ⟨w, S, R, h⟩ := h
  refine PySem.W.methodCall_KW (pl := pl) (thn (he.run pins s σ H (fun x H1 => ∃ (c : Nat) (ns : List Str) (vs : List Dt) (g : Nat) (w1 : Wd) (S1 : Sto), P.meth c mt = some g ∧ lookD mt ns vs = none ∧ Rr F f w1 σ H1 S1 ∧ Dn F w1 (.ins c ns vs) x ∧
      Po F f W σ w1 ((m S1).bind fun ds S2 => match P.shf g (ds.length + 1 - (kwNames kws).length) (kwNames kws) with
        | some sh => upP (pick (.ins c ns vs :: ds) sh) (cf g) S2
        | none => .bad) (Dn F) Q) I (Rd1.go R h fun d x w1 H1 S1 _ R1 l1 r1 h1 => ?_)) fun u s1 hh => ?_) ht
  · cases d with
    | ins c ns vs =>
      dsimp only at h1
      cases e1 : P.meth c mt with
      | none => rw [e1] at h1; exact h1.elim
      | some g =>
        cases e2 : lookD mt ns vs with
        | some _ => rw [e1, e2] at h1; exact h1.elim
        | none =>
          rw [e1, e2] at h1
          exact ⟨c, ns, vs, g, w1, S1, e1, e2, R1, r1, h1⟩
    | _ => exact h1.elim
  · obtain ⟨x, H1, I1, rx, c, ns, ds0, g, w1, S1, e1, e2, R1, dx0, h1⟩ := hh
    obtain ⟨a, dx, vs, ex, ga, hl, rs⟩ := id dx0
    subst ex
    obtain rfl : u = Value.ref a := rx
    obtain ⟨cl, mth, cal⟩ := hC c g e1
    refine getmeth_ok I1 (R1.cs.fr _ _ ga) cl mth ((look_dn (ns := ns) (f0 := mt) rs hl).2 e2) ?_
    refine ha.run pos pins s1 σ H1 (.ref (F.fa g)) [.ref a] (fun zs H2 => ∃ sh, P.shf g (es.length + 1) (kwNames kws) = some sh ∧ spS F (cf g) sh (.ref a :: zs) H2 Q (WE W σ)) (EP X pins σ Q) mth.kp I1 (Rd1.go R1 h1 fun ds zs w2 H2 S2 em R2 l2 r2 h2 => ?_) fun us ws vs' zs s2 H2 I2 l1 l2 ru rz q => ?_
    · have hl2 := hlen _ _ _ em
      have e3 : ds.length + 1 - (kwNames kws).length = es.length + 1 := by rw [hkw]; omega
      rw [e3] at h2
      cases e : P.shf g (es.length + 1) (kwNames kws) with
      | none => rw [e] at h2; exact h2.elim
      | some sh =>
        rw [e] at h2
        obtain ⟨xs, e4, h3⟩ := upP_some h2
        exact ⟨sh, rfl, w2, S2.m, .ins c ns ds0 :: ds, xs, R2.cs, ⟨.ref a, zs, rfl, Dn.mono l2 _ dx0, r2⟩, e4, poC_of R2 h3⟩
    · obtain ⟨sh, e, q⟩ := q
      exact run_G (us := .ref a :: us) (vs := .ref a :: vs') (cal sh e) hr hg tk I2 (by rw [List.length_cons, l1]) (by rw [hkw]; exact l2) (.cons rfl ru) rz q
end
end PyI
namespace PyI
open PySem PySem.Spec PyProof.Rows L2
/-! ### tests -/
theorem tst_bind {α : Type} {m : Sto → Rs Dt} {S : Sto} {A B : Sto → Rs α} : ((m S).bind fun x S1 => match x with
    | .bl true => A S1
    | .bl false => B S1
    | _ => .bad) = (tst m S).bind fun k S1 => if k = true then A S1 else B S1 := by
  unfold tst
  cases m S with
  | ok d S1 =>
    cases d with
    | bl b => cases b <;> rfl
    | _ => rfl
  | ex _ _ _ _ => rfl
  | bad => rfl
section
variable {X : Cx} {F : Fx} {f : Fm} {W : WX} {a b c : Expr} {pos : Pos} {ma mb mc : Sto → Rs Dt}
abbrev RB (F : Fx) (f : Fm) (W : WX) (m : Sto → Rs Dt) : TT := Rd1 F f W (tst m) (fun _ (x y : Bool) => x = y)
theorem Po.tst {m : Sto → Rs Dt} {σ : L2.St} {w : Wd} {S : Sto} {Q : Bool → Hp → Prop} (h : Po F f W σ w (tst m S) (fun _ (x y : Bool) => x = y) Q) : Po F f W σ w (m S) (Dn F) (fun x H' => ∃ k, x = .bl k ∧ Q k H') := by
  unfold PyI.tst at h
  cases e : m S with
  | ok d S1 =>
    rw [e] at h
    cases d with
    | bl k => exact fun v w' H' R' l' r' => ⟨k, r', h k w' H' R' l' rfl⟩
    | _ => exact (h : False).elim
  | ex _ _ _ _ => rw [e] at h; exact h
  | bad => rw [e] at h; exact h
/-- an expression whose value is a truth, as a test -/
theorem st_val {e : Expr} (h : PE X e (RE F f W ma)) (he : ∀ whole, isTrue e X.env whole = (do let v ← whole; standAt e.pos; holding [v] (truthy v))) : PT X e (RB F f W ma) := by
  refine ptImp (pt_val h he) fun σ H Q ⟨w, S, R, h⟩ => ?_
  exact ⟨w, S, R, h.tst⟩
theorem st_not (ha : PT X a (RB F f W ma)) : PT X (.UnaryOp .Not a pos) (RB F f W fun S => (ma S).bind fun x S1 => match x with
    | .bl k => .ok (.bl (!k)) S1
    | _ => .bad) := by
  refine ptImp (pt_not ha) fun σ H Q ⟨w, S, R, h⟩ => ?_
  have e : tst (fun S => (ma S).bind fun x S1 => match x with
    | .bl k => .ok (.bl (!k)) S1
    | _ => .bad) S = (tst ma S).bind fun k S1 => .ok (!k) S1 := by
    unfold tst
    dsimp only
    cases ma S with
    | ok d S1 => cases d <;> rfl
    | ex _ _ _ _ => rfl
    | bad => rfl
  rw [e] at h
  refine Rd1.go R h fun d x w1 H1 S1 _ R1 l1 r1 h1 => ?_
  subst r1
  exact h1 _ w1 H1 R1 (Le.refl _) rfl
def mAnd (ma mb : Sto → Rs Dt) (S : Sto) : Rs Dt := (ma S).bind fun x S1 => match x with
    | .bl true => mb S1
    | .bl false => .ok (.bl false) S1
    | _ => .bad
def mOr (ma mb : Sto → Rs Dt) (S : Sto) : Rs Dt := (ma S).bind fun x S1 => match x with
    | .bl true => .ok (.bl true) S1
    | .bl false => mb S1
    | _ => .bad
theorem tst_and {S : Sto} : tst (mAnd ma mb) S = (tst ma S).bind fun k S1 => if k = true then tst mb S1 else .ok false S1 := by
  unfold tst mAnd
  cases ma S with
  | ok d S1 =>
    cases d with
    | bl b => cases b <;> rfl
    | _ => rfl
  | ex _ _ _ _ => rfl
  | bad => rfl
theorem tst_or {S : Sto} : tst (mOr ma mb) S = (tst ma S).bind fun k S1 => if k = true then .ok true S1 else tst mb S1 := by
  unfold tst mOr
  cases ma S with
  | ok d S1 =>
    cases d with
    | bl b => cases b <;> rfl
    | _ => rfl
  | ex _ _ _ _ => rfl
  | bad => rfl
theorem pwImp {e : Expr} {t t' : TT} (h : PW X e t) (i : ∀ σ H Q, t' σ H Q → t σ H Q) : PW X e t' := ⟨fun whole pins s σ H Q I q => h.run whole pins s σ H Q I (i σ H Q q)⟩
theorem sw_and {rest : List Expr} (ha : PT X a (RB F f W ma)) (hb : PW X (.BoolOp .And (b :: rest) pos) (RB F f W mb)) : PW X (.BoolOp .And (a :: b :: rest) pos) (RB F f W (mAnd ma mb)) := by
  refine pwImp (pw_and ha hb) fun σ H Q ⟨w, S, R, h⟩ => ?_
  rw [tst_and] at h
  refine Rd1.go R h fun d x w1 H1 S1 _ R1 l1 r1 h1 => ?_
  subst r1
  cases d with
  | true => exact ⟨w1, S1, R1, h1⟩
  | false => exact h1 _ w1 H1 R1 (Le.refl _) rfl
theorem sw_or {rest : List Expr} (ha : PT X a (RB F f W ma)) (hb : PW X (.BoolOp .Or (b :: rest) pos) (RB F f W mb)) : PW X (.BoolOp .Or (a :: b :: rest) pos) (RB F f W (mOr ma mb)) := by
  refine pwImp (pw_or ha hb) fun σ H Q ⟨w, S, R, h⟩ => ?_
  rw [tst_or] at h
  refine Rd1.go R h fun d x w1 H1 S1 _ R1 l1 r1 h1 => ?_
  subst r1
  cases d with
  | true => exact h1 _ w1 H1 R1 (Le.refl _) rfl
  | false => exact ⟨w1, S1, R1, h1⟩
theorem se_and {rest : List Expr} (ha : PE X a (RE F f W ma)) (hb : PE X (.BoolOp .And (b :: rest) pos) (RE F f W mb)) : PE X (.BoolOp .And (a :: b :: rest) pos) (RE F f W (mAnd ma mb)) := by
  refine peImp (pe_and ha hb) fun σ H Q ⟨w, S, R, h⟩ => ?_
  refine Rd1.go R h fun d x w1 H1 S1 _ R1 l1 r1 h1 => ?_
  cases d with
  | bl k =>
    refine ⟨k, r1, ?_⟩
    cases k with
    | true => exact ⟨w1, S1, R1, h1⟩
    | false => exact h1.ok R1 rfl
  | _ => exact h1.elim
theorem se_or {rest : List Expr} (ha : PE X a (RE F f W ma)) (hb : PE X (.BoolOp .Or (b :: rest) pos) (RE F f W mb)) : PE X (.BoolOp .Or (a :: b :: rest) pos) (RE F f W (mOr ma mb)) := by
  refine peImp (pe_or ha hb) fun σ H Q ⟨w, S, R, h⟩ => ?_
  refine Rd1.go R h fun d x w1 H1 S1 _ R1 l1 r1 h1 => ?_
  cases d with
  | bl k =>
    refine ⟨k, r1, ?_⟩
    cases k with
    | true => exact h1.ok R1 rfl
    | false => exact ⟨w1, S1, R1, h1⟩
  | _ => exact h1.elim
theorem se_ife (hc : PT X c (RB F f W mc)) (ha : PE X a (RE F f W ma)) (hb : PE X b (RE F f W mb)) : PE X (.IfExp c a b pos) (RE F f W fun S => (mc S).bind fun x S1 => match x with
    | .bl true => ma S1
    | .bl false => mb S1
    | _ => .bad) := by
  refine peImp (pe_ifExp hc ha hb) fun σ H Q ⟨w, S, R, h⟩ => ?_
  dsimp only at h
  rw [tst_bind] at h
  refine Rd1.go R h fun d x w1 H1 S1 _ R1 l1 r1 h1 => ?_
  subst r1
  cases d with
  | true => exact ⟨w1, S1, R1, h1⟩
  | false => exact ⟨w1, S1, R1, h1⟩
/-! ### chains -/
theorem se_chn {o1 o2 : CmpOp} (hK : X.K = F.K) (hu : X.A.units + 65 < cLine) (hm : lastMarks [o1, o2] [b, c] = false) (ha : PE X a (RE F f W ma)) (hb : PE X b (RE F f W mb)) (hc : PE X c (RE F f W mc)) :
    PE X (.Compare a [o1, o2] [b, c] pos) (RE F f W fun S => (ma S).bind fun x S1 => (mb S1).bind fun y S2 => (okD ((cmpD o1 x y).map .bl) S2).bind fun k S3 => match k with
    | .bl true => (mc S3).bind fun z S4 => okD ((cmpD o2 y z).map .bl) S4
    | .bl false => .ok (.bl false) S3
    | _ => .bad) ∧
    PT X (.Compare a [o1, o2] [b, c] pos) (RB F f W fun S => (ma S).bind fun x S1 => (mb S1).bind fun y S2 => (okD ((cmpD o1 x y).map .bl) S2).bind fun k S3 => match k with
    | .bl true => (mc S3).bind fun z S4 => okD ((cmpD o2 y z).map .bl) S4
    | .bl false => .ok (.bl false) S3
    | _ => .bad) := by
  have core : ∀ σ H (Q : VK) w S, Rr F f w σ H S → Po F f W σ w ((ma S).bind fun x S1 => (mb S1).bind fun y S2 => (okD ((cmpD o1 x y).map .bl) S2).bind fun k S3 => match k with
    | .bl true => (mc S3).bind fun z S4 => okD ((cmpD o2 y z).map .bl) S4
    | .bl false => .ok (.bl false) S3
    | _ => .bad) (Dn F) Q → tChain (rOp F f W fun a b => (cmpD o1 a b).map .bl) (rOp F f W fun a b => (cmpD o2 a b).map .bl) (RE F f W ma) (RE F f W mb) (RE F f W mc) σ H Q := by
    intro σ H Q w S R h
    refine Rd1.go R h fun d1 x w1 H1 S1 _ R1 l1 r1 h1 => ?_
    refine Rd1.go R1 h1 fun d2 y w2 H2 S2 _ R2 l2 r2 h2 => ?_
    cases e : cmpD o1 d1 d2 with
    | none => rw [e] at h2; exact h2.elim
    | some k =>
      rw [e] at h2
      refine ⟨σ, w2, S2, d1, d2, .bl k, R2, Dn.mono l2 d1 r1, r2, by show (cmpD o1 d1 d2).map Dt.bl = _; rw [e]; rfl, fun z w3 H3 R3 l3 r3 => ⟨k, r3, ?_⟩⟩
      cases k with
      | true =>
        refine Rd1.go (k := fun z S4 => okD ((cmpD o2 d2 z).map .bl) S4) R3 (Po.le l3 h2) fun d3 v w4 H4 S4 _ R4 l4 r4 h4 => ?_
        cases e2 : (cmpD o2 d2 d3).map Dt.bl with
        | none => rw [e2] at h4; exact h4.elim
        | some d => rw [e2] at h4; exact ⟨σ, w4, S4, d2, d3, d, R4, Dn.mono (l3.trans l4) d2 r2, r4, e2, h4⟩
      | false => exact h2 _ w3 H3 R3 l3 rfl
  constructor
  · exact peImp (pe_chain (cmpD_ok (f := f) (W := W) hK hu o1) (cmpD_ok (f := f) (W := W) hK hu o2) ha hb hc hm) fun σ H Q ⟨w, S, R, h⟩ => core σ H Q w S R h
  · refine ptImp (pt_chain (cmpD_ok (f := f) (W := W) hK hu o1) (cmpD_ok (f := f) (W := W) hK hu o2) ha hb hc hm) fun σ H Q ⟨w, S, R, h⟩ => ?_
    exact core σ H _ w S R h.tst
/-! ### lists of expressions, displays -/
theorem sa_nil : PA X [] (REs F f W fun S => .ok [] S) := paImp pa_nil fun σ H Q ⟨w, S, R, h⟩ => h.ok R rfl
theorem sa_cons {es : List Expr} {ms : Sto → Rs (List Dt)} (hp : plainEs (a :: es) = true) (ha : PE X a (RE F f W ma)) (hs : PA X es (REs F f W ms)) :
    PA X (a :: es) (REs F f W fun S => (ma S).bind fun d S1 => (ms S1).bind fun ds S2 => .ok (d :: ds) S2) := by
  refine paImp (pa_cons ha hs (star_cons hp)) fun σ H Q ⟨w, S, R, h⟩ => ?_
  refine Rd1.go R h fun d x w1 H1 S1 _ R1 l1 r1 h1 => ?_
  refine Rd1.go R1 h1 fun ds xs w2 H2 S2 _ R2 l2 r2 h2 => ?_
  exact h2.ok R2 ⟨x, xs, rfl, Dn.mono l2 d r1, r2⟩
theorem pkImp {e : List Keyword} {t t' : TA} (h : PK X e t) (i : ∀ σ H Q, t' σ H Q → t σ H Q) : PK X e t' := ⟨fun pos pins s σ H Q I q => h.run pos pins s σ H Q I (i σ H Q q)⟩
theorem sk_nil : PK X [] (REs F f W fun S => .ok [] S) := pkImp pk_nil fun σ H Q ⟨w, S, R, h⟩ => h.ok R rfl
theorem sk_cons {kws : List Keyword} {nm : Option Str} {kp : Pos} {ms : Sto → Rs (List Dt)} (ha : PE X a (RE F f W ma)) (hs : PK X kws (REs F f W ms)) :
    PK X (⟨nm, a, kp⟩ :: kws) (REs F f W fun S => (ma S).bind fun d S1 => (ms S1).bind fun ds S2 => .ok (d :: ds) S2) := by
  refine pkImp (pk_cons ha hs) fun σ H Q ⟨w, S, R, h⟩ => ?_
  refine Rd1.go R h fun d x w1 H1 S1 _ R1 l1 r1 h1 => ?_
  refine Rd1.go R1 h1 fun ds xs w2 H2 S2 _ R2 l2 r2 h2 => ?_
  exact h2.ok R2 ⟨x, xs, rfl, Dn.mono l2 d r1, r2⟩
theorem se_tup {es : List Expr} {k : Nat} {ms : Sto → Rs (List Dt)} (hs : PA X es (REs F f W ms)) : PE X (.Tuple es k pos) (RE F f W fun S => (ms S).bind fun ds S1 => if ds.length ≤ sizeLine then .ok (.tup ds) S1 else .bad) := by
  refine peImp (pe_tup hs) fun σ H Q ⟨w, S, R, h⟩ => ?_
  refine Rd1.go R h fun ds xs w1 H1 S1 _ R1 l1 r1 h1 => ?_
  split at h1
  · rename_i hl
    refine ⟨by rw [← r1.length]; exact hl, fun p hp => ?_⟩
    exact h1.new R1 hp ⟨p, xs, rfl, SqT.of upd_same, Dns.mono (R1.alloc (o := .tup xs) hp).2 ds r1⟩
  · exact h1.elim
theorem se_lst {es : List Expr} {ms : Sto → Rs (List Dt)} (hs : PA X es (REs F f W ms)) : PE X (.List es pos) (RE F f W fun S => (ms S).bind fun ds S1 => if ds.length ≤ sizeLine then .ok (.lst ds) S1 else .bad) := by
  refine peImp (pe_lst hs) fun σ H Q ⟨w, S, R, h⟩ => ?_
  refine Rd1.go R h fun ds xs w1 H1 S1 _ R1 l1 r1 h1 => ?_
  split at h1
  · rename_i hl
    refine ⟨by rw [← r1.length]; exact hl, fun p hp => ?_⟩
    exact h1.new R1 hp ⟨p, xs, rfl, upd_same, Dns.mono (R1.alloc (o := .lst xs) hp).2 ds r1⟩
  · exact h1.elim
end
end PyI
namespace PyI
open PySem PySem.W PySem.Calls PyProof.Rows
/-! ### own operators -/
section
variable {prog : Program} {w : World} {M : Model} {A : Around} {E : Value → Shared → Prop} {s : Shared} {K : Frag} {x C C2 L f : Addr} {h₀ : Heap} {m : Str → Option Value} {ox : Obj} {od : Option Obj} {nm : String}
def noOpB (K : Frag) (C : Addr) (nm : String) : Bool := (clsIn K C).any fun cd => cd.mro.all fun c => (findIn K c (PySem.dunder nm) == some none) && (findIn K c (dunderR nm) == some none)
theorem fills_no {h : Heap} (X : K.In h) (hn : noOpB K C2 nm = true) : Looks M h (fillsNumberSlot (.ref C2) nm) false := by
  obtain ⟨cd, hcd, hm⟩ := any_some hn
  intro A Q E s k q
  unfold fillsNumberSlot
  refine wpAny_bind ((looks_clsIn X hcd).andThen (f := fun cd => pure cd.mro) .now A _ E s k ?_)
  revert hm
  generalize cd.mro = l
  intro hm
  induction l with
  | nil => exact wpAny_pure q
  | cons c l ih =>
    rw [List.all_cons, Bool.and_eq_true, Bool.and_eq_true] at hm
    obtain ⟨⟨h1, h2⟩, h3⟩ := hm
    have L1 := looks_findIn (M := M) (X.keeps k) (beq_iff_eq.mp h1)
    have L2 := looks_findIn (M := M) (X.keeps k) (beq_iff_eq.mp h2)
    have ih := ih h3
    obtain ⟨hh, g, d, tt, os⟩ := s
    rw [List.anyM_cons]
    refine wpAny_bind ?_
    cases c with
    | type T =>
      repeat lk
      exact ih
    | _ =>
      simp only [List.anyM_cons, List.anyM_nil] at ih ⊢
      repeat lk
      exact ih
/-- what an operator's first part hands back: a value -/
def Op1 (prog : Program) (w : World) (A : Around) (E : Value → Shared → Prop) (s : Shared) (nm : String) (a b : Value) (Q : Value → Shared → Prop) : Prop := wpAny (model prog w) A (binaryOp1 nm a b) (fun r s' => ∃ v, r = some v ∧ Q v s') E s
theorem op1_other {b : Value} {Q : Value → Shared → Prop} (X : K.In s.heap) (I : InstAt s.heap x ox C od) (hb : Looks (model prog w) s.heap (typeOf b) (.ref C2)) (hne : C ≠ C2) (hc : selfFirst K C = true)
    (hs : findIn K (.ref C) (PySem.dunder nm) = some (some (.ref f))) (hf : isFn K (.ref f) = true) (hn : noOpB K C2 nm = true)
    (h : wpAny (model prog w) A (call (.ref f) [.ref x, b]) (W.CmpBack Q) E s) : Op1 prog w A E s nm (.ref x) b Q := by
  obtain ⟨cd, rest, hcd, hm⟩ := ksp_first hc
  have one := ksp_try X I hs hf h
  obtain ⟨hh, g, d, tt, os⟩ := s
  have L1 : Looks (model prog w) hh (typeOf (.ref x)) (.ref C) := I.type
  have L3 : Looks (model prog w) hh (fillsNumberSlot (.ref C) nm) true := fills_K X hcd hm hs
  have L4 : Looks (model prog w) hh (fillsNumberSlot (.ref C2) nm) false := fills_no X hn
  have hne2 : (Value.ref C == Value.ref C2) = false := Bool.eq_false_iff.mpr fun q => hne (by injection (beq_iff_eq.mp q))
  unfold Op1 binaryOp1
  refine wpAny_bind (L1.at (wpAny_bind (hb.at (wpAny_bind (L3.at ?_)))))
  simp only [hne2, Bool.false_eq_true, if_false]
  ksp_lk
  refine wpAny_mono one (fun r s' hr' => ?_) fun _ _ e => e
  obtain ⟨v, rfl, hq⟩ := hr'
  ksp_lk
  exact ⟨v, rfl, hq⟩
theorem op1_same {b : Value} {Q : Value → Shared → Prop} (X : K.In s.heap) (I : InstAt s.heap x ox C od) (hb : Looks (model prog w) s.heap (typeOf b) (.ref C)) (hc : selfFirst K C = true)
    (hs : findIn K (.ref C) (PySem.dunder nm) = some (some (.ref f))) (hf : isFn K (.ref f) = true)
    (h : wpAny (model prog w) A (call (.ref f) [.ref x, b]) (W.CmpBack Q) E s) : Op1 prog w A E s nm (.ref x) b Q := by
  obtain ⟨cd, rest, hcd, hm⟩ := ksp_first hc
  have one := ksp_try X I hs hf h
  obtain ⟨hh, g, d, tt, os⟩ := s
  have L1 : Looks (model prog w) hh (typeOf (.ref x)) (.ref C) := I.type
  have L3 : Looks (model prog w) hh (fillsNumberSlot (.ref C) nm) true := fills_K X hcd hm hs
  unfold Op1 binaryOp1
  refine wpAny_bind (L1.at (wpAny_bind (hb.at (wpAny_bind (L3.at ?_)))))
  simp only [beq_self_eq_true, if_true]
  ksp_lk
  refine wpAny_mono one (fun r s' hr' => ?_) fun _ _ e => e
  obtain ⟨v, rfl, hq⟩ := hr'
  ksp_lk
  exact ⟨v, rfl, hq⟩
theorem op1_ty {T : String} {b : Value} {fo ro rc : Option Value} {Q : Value → Shared → Prop} (X : K.In s.heap) (I : InstAt s.heap x ox C od) (L2 : Looks (model prog w) s.heap (typeOf b) (.type T)) (hc : selfFirst K C = true)
    (hs : findIn K (.ref C) (PySem.dunder nm) = some (some (.ref f))) (hf : isFn K (.ref f) = true) (hr : findIn K (.ref C) (dunderR nm) = some rc) (hp : rc = none ∨ ∃ g : Addr, rc = some (.ref g))
    (h1 : findIn K (.type T) (PySem.dunder nm) = some fo) (h2 : findIn K (.type T) (dunderR nm) = some ro) (hsub : subIn K (.type T) (.ref C) = some false)
    (h : wpAny (model prog w) A (call (.ref f) [.ref x, b]) (W.CmpBack Q) E s) : Op1 prog w A E s nm (.ref x) b Q := by
  obtain ⟨cd, rest, hcd, hm⟩ := ksp_first hc
  have one := ksp_try X I hs hf h
  obtain ⟨hh, g, d, tt, os⟩ := s
  have L1 : Looks (model prog w) hh (typeOf (.ref x)) (.ref C) := I.type
  have L3 : Looks (model prog w) hh (fillsNumberSlot (.ref C) nm) true := fills_K X hcd hm hs
  have L4 : Looks (model prog w) hh (fillsNumberSlot (.type T) nm) ((fo.isSome && !isSeqSlot fo) || (ro.isSome && !isSeqSlot ro)) := ksp_fillsT X h1 h2
  have L5 : Looks (model prog w) hh (isSubtype (.type T) (.ref C)) false := looks_subIn X hsub
  have L6 : Looks (model prog w) hh (numberSlotInPython (.ref C) nm) true := ksp_inPy X hs hr hp
  have L7 : Looks (model prog w) hh (numberSlotInPython (.type T) nm) false := Looks.of_pure rfl
  have L8 : Looks (model prog w) hh (typeLookup (.type T) (dunderR nm)) ro := looks_findIn X h2
  generalize ((fo.isSome && !isSeqSlot fo) || (ro.isSome && !isSeqSlot ro)) = right at L4
  have hne : (Value.ref C == Value.type T) = false := Bool.eq_false_iff.mpr fun q => by cases beq_iff_eq.mp q
  unfold Op1 binaryOp1
  refine wpAny_bind (L1.at (wpAny_bind (L2.at (wpAny_bind (L3.at ?_)))))
  simp only [hne, Bool.false_eq_true, if_false]
  cases right with
  | false =>
    ksp_lk
    refine wpAny_mono one (fun r s' hr' => ?_) fun _ _ e => e
    obtain ⟨v, rfl, hq⟩ := hr'
    ksp_lk
    exact ⟨v, rfl, hq⟩
  | true =>
    ksp_lk
    refine wpAny_mono one (fun r s' hr' => ?_) fun _ _ e => e
    obtain ⟨v, rfl, hq⟩ := hr'
    ksp_lk
    exact ⟨v, rfl, hq⟩
theorem bin_of {op : Operator} {a b : Value} {Q : Value → Shared → Prop} (h : Op1 prog w A E s op.info.2 a b Q) : wpAny (model prog w) A (binaryOp op a b) Q E s := by
  rcases hi : op.info with ⟨sym, nm'⟩
  rw [hi] at h
  simp only [binaryOp, hi]
  refine wpAny_holding (wpAny_bind (wpAny_mono h (fun r s' hr => ?_) fun _ _ e => e))
  obtain ⟨v, rfl, hq⟩ := hr
  exact wpAny_pure hq
/-- no own in-place operator -/
def noInB (K : Frag) (C : Addr) (nm : String) : Bool := (clsIn K C).any fun cd => cd.mro.all fun c => findIn K c (dunderI nm) == some none
theorem fillsI_no {h : Heap} {add : Bool} (X : K.In h) (hn : noInB K C nm = true) : Looks M h (fillsInplaceSlot (.ref C) nm add) false := by
  obtain ⟨cd, hcd, hm⟩ := any_some hn
  intro A Q E s k q
  unfold fillsInplaceSlot
  refine wpAny_bind ((looks_clsIn X hcd).andThen (f := fun cd => pure cd.mro) .now A _ E s k ?_)
  revert hm
  generalize cd.mro = l
  intro hm
  induction l with
  | nil => exact wpAny_pure q
  | cons c l ih =>
    rw [List.all_cons, Bool.and_eq_true] at hm
    obtain ⟨h1, h3⟩ := hm
    have L1 := looks_findIn (M := M) (X.keeps k) (beq_iff_eq.mp h1)
    have ih := ih h3
    obtain ⟨hh, g, d, tt, os⟩ := s
    rw [List.anyM_cons]
    refine wpAny_bind ?_
    repeat lk
    exact ih
theorem inpl_of {op : Operator} {b : Value} {Q : Value → Shared → Prop} (X : K.In s.heap) (I : InstAt s.heap x ox C od) (hi : noInB K C op.info.2 = true) (h : Op1 prog w A E s op.info.2 (.ref x) b Q) : wpAny (model prog w) A (inplaceOp op (.ref x) b) Q E s := by
  unfold inplaceOp
  refine wpAny_holding (wpAny_bind (I.type.here (wpAny_bind ((fillsI_no X hi).here ?_))))
  simp only [Bool.false_eq_true, if_false]
  refine wpAny_bind (wpAny_mono h (fun r s' hr => ?_) fun _ _ e => e)
  obtain ⟨v, rfl, hq⟩ := hr
  exact wpAny_pure hq
end
end PyI
namespace PyI
open PySem PySem.W PySem.Calls PyProof.Rows PySem.SeqAt
open AutoSeq1 (wpAny_loadPart')
section
variable {prog : Program} {w : World} {M : Model} {A : Around} {E : Value → Shared → Prop} {s : Shared} {K : Frag} {x C C2 L f : Addr} {h₀ : Heap} {m : Str → Option Value} {ox : Obj} {od : Option Obj} {nm : String}
theorem eq_back {a : Value} {T id : String} {Q : Value → Shared → Prop} (hu : A.units < cLine) (X : K.In s.heap) (I : InstAt s.heap x ox C od) (ha : s.TypeIs a T) (h1 : Slot T (cmpInfo .Eq).2.1 id) (hsub : subIn K (.ref C) (.type T) = some false)
    (hc1 : ∀ Q' : Value → Shared → Prop, Q' .notImplemented s → wpAny M A (call (.builtin id) [a, .ref x]) Q' E s)
    (hs : findIn K (.ref C) "__eq__" = some (some (.ref f))) (hf : isFn K (.ref f) = true)
    (h : wpAny M A (call (.ref f) [.ref x, a]) (W.CmpBack Q) E s) : wpAny M A (richCompare .Eq a (.ref x)) Q E s := by
  have one : wpAny M A (tryCompare (.ref x) (cmpInfo .Eq).2.2 a) (fun r s' => ∃ v, r = some v ∧ Q v s') E s := by
    unfold tryCompare
    refine wpAny_bind (ifBound_K X I hs hf (wpAny_mono h (fun v s' hv => ?_) fun _ _ e => e))
    cases v <;> first | exact hv.elim | exact wpAny_pure ⟨_, rfl, hv⟩
  have hne : (Value.type T != Value.ref C) = true := by
    have : (Value.type T == Value.ref C) = false := Bool.eq_false_iff.mpr fun q => by cases beq_iff_eq.mp q
    rw [bne, this]
    rfl
  simp only [richCompare, cmpInfo, ha.oneThing_none] at h1 one ⊢
  refine wpAny_holding ?_
  refine wpAny_bind (wpAny_cRoomFor_or (.inr hu) ?_)
  refine wpAny_bind (wpAny_typeOf ha (wpAny_bind (I.type.here ?_)))
  simp only [hne, if_true]
  refine wpAny_bind ((looks_subIn X hsub).here ?_)
  simp only [Bool.false_eq_true, if_false, Bool.not_false, if_true]
  refine wpAny_bind (m := tryCompare a _ _) (wpAny_tryCompare_declines ha h1 (hc1 _ ⟨rfl, ?_⟩))
  refine wpAny_bind (m := tryCompare (.ref x) _ a) (wpAny_mono one (fun r s' hr => ?_) fun _ _ e => e)
  obtain ⟨v, rfl, hq⟩ := hr
  exact wpAny_pure hq
end
theorem int_dec_bool (b : Bool) (l : Addr) (c : Value) (dd : Option Addr) (sl : Array (Option Value)) :
    Meets (Builtin.«int.__eq__» ⟨[.bool b, .ref l], []⟩) (fun _ R s => s.heap.get? l = some { cls := c, dict := dd, data := .plain, slots := sl } ∧ R (.ok (.ret .notImplemented)) s) :=
  .of_wp fun prog w A R s h => by obtain ⟨hp, g, d, tk, os⟩ := s; obtain ⟨hl, h⟩ := h; wp_walk using wpAny_loadPart' hl, wpAny_load hl; exact ⟨_, rfl, h⟩
theorem int_dec_int (b : Int) (u : Tok) (l : Addr) (c : Value) (dd : Option Addr) (sl : Array (Option Value)) :
    Meets (Builtin.«int.__eq__» ⟨[.int b u, .ref l], []⟩) (fun _ R s => s.heap.get? l = some { cls := c, dict := dd, data := .plain, slots := sl } ∧ R (.ok (.ret .notImplemented)) s) :=
  .of_wp fun prog w A R s h => by obtain ⟨hp, g, d, tk, os⟩ := s; obtain ⟨hl, h⟩ := h; wp_walk using wpAny_loadPart' hl, wpAny_load hl; exact ⟨_, rfl, h⟩
theorem str_dec (b : Str) (u : Tok) (l : Addr) (c : Value) (dd : Option Addr) (sl : Array (Option Value)) :
    Meets (Builtin.«str.__eq__» ⟨[.str b u, .ref l], []⟩) (fun _ R s => s.heap.get? l = some { cls := c, dict := dd, data := .plain, slots := sl } ∧ R (.ok (.ret .notImplemented)) s) :=
  .of_wp fun prog w A R s h => by obtain ⟨hp, g, d, tk, os⟩ := s; obtain ⟨hl, h⟩ := h; wp_walk using wpAny_loadPart' hl, wpAny_load hl; exact ⟨_, rfl, h⟩
theorem list_dec (l p C : Addr) (K : Frag) (ox : Obj) (od : Option Obj) (items : Array Value) (n : Nat) (dd : Option Addr) (sl : Array (Option Value)) (hs : subIn K (.ref C) (.type "list") = some false) :
    Meets (Builtin.«list.__eq__» ⟨[.ref l, .ref p], []⟩) (fun _ R s => s.heap.get? l = some { cls := .type "list", dict := dd, data := .seq items n, slots := sl } ∧ K.In s.heap ∧ InstAt s.heap p ox C od ∧ R (.ok (.ret .notImplemented)) s) :=
  .of_wp fun prog w A R s h => by
    obtain ⟨hp, g, d, tk, os⟩ := s
    obtain ⟨hl, hX, hI, h⟩ := h
    have L1 : Looks (model prog w) hp (isInstance (.ref p) (.type "list")) false := hI.type.andThen (looks_subIn hX hs)
    refine wpAny_bind (wpAny_of_eq (a := (Value.ref l, [Value.ref p])) (by first | rfl | kernel_rfl) ?_)
    refine wpAny_bind (L1.at ?_)
    exact wpAny_pure ⟨_, rfl, h⟩
theorem tuple_dec (l p C : Addr) (K : Frag) (ox : Obj) (od : Option Obj) (items : Array Value) (n : Nat) (dd : Option Addr) (sl : Array (Option Value)) (hs : subIn K (.ref C) (.type "tuple") = some false) :
    Meets (Builtin.«tuple.__eq__» ⟨[.ref l, .ref p], []⟩) (fun _ R s => s.heap.get? l = some { cls := .type "tuple", dict := dd, data := .seq items n, slots := sl } ∧ K.In s.heap ∧ InstAt s.heap p ox C od ∧ R (.ok (.ret .notImplemented)) s) :=
  .of_wp fun prog w A R s h => by
    obtain ⟨hp, g, d, tk, os⟩ := s
    obtain ⟨hl, hX, hI, h⟩ := h
    have L1 : Looks (model prog w) hp (isInstance (.ref p) (.type "tuple")) false := hI.type.andThen (looks_subIn hX hs)
    refine wpAny_bind (wpAny_of_eq (a := (Value.ref l, [Value.ref p])) (by first | rfl | kernel_rfl) ?_)
    refine wpAny_bind (L1.at ?_)
    exact wpAny_pure ⟨_, rfl, h⟩
/-- the kinds of values whose own == declines an instance -/
inductive Dcl (s : Shared) : Value → Prop where
  | non : Dcl s .none
  | bl (b : Bool) : Dcl s (.bool b)
  | int (i : Int) (t : Tok) : Dcl s (.int i t)
  | str (x : Str) (t : Tok) : Dcl s (.str x t)
  | lst {l : Addr} {items : Array Value} (h : s.heap.IsList l items) : Dcl s (.ref l)
  | tup {l : Addr} {items : Array Value} (h : s.heap.IsTuple l items) : Dcl s (.ref l)
section
variable {prog : Program} {w : World} {A : Around} {E : Value → Shared → Prop} {s : Shared} {K : Frag} {x C dx f : Addr} {od : Option Obj}
theorem eq_back_of {a : Value} {Q : Value → Shared → Prop} (hu : A.units < cLine) (X : K.In s.heap) (I : InstAt s.heap x (instObj C dx) C od) (ha : Dcl s a) (hsub : ∀ T ∈ ["NoneType", "bool", "int", "str", "list", "tuple"], subIn K (.ref C) (.type T) = some false)
    (hs : findIn K (.ref C) "__eq__" = some (some (.ref f))) (hf : isFn K (.ref f) = true)
    (h : wpAny (model prog w) A (call (.ref f) [.ref x, a]) (W.CmpBack Q) E s) : wpAny (model prog w) A (richCompare .Eq a (.ref x)) Q E s := by
  have hx : s.heap.get? x = some ⟨.ref C, some dx, .plain, #[]⟩ := I.at_
  cases ha with
  | non => exact eq_back hu X I rfl F.slot_NoneType_eq (hsub _ (by decide)) (fun _ hq => call_gives F.slot_NoneType_eq rfl F.entry_NoneType_eq (F.args_NoneType_eq_2 _ _) (NoneType___eq___none_ref_0 x) hq) hs hf h
  | bl b => exact eq_back hu X I rfl F.slot_bool_eq (hsub _ (by decide)) (fun _ hq => call_meets F.slot_bool_eq rfl F.entry_int_eq (F.args_int_eq_2 _ _) (int_dec_bool b x _ _ _) ⟨hx, hq⟩) hs hf h
  | int i t => exact eq_back hu X I (typeIs_int s i t) F.slot_int_eq (hsub _ (by decide)) (fun _ hq => call_meets F.slot_int_eq (typeIs_int s i t) F.entry_int_eq (F.args_int_eq_2 _ _) (int_dec_int i t x _ _ _) ⟨hx, hq⟩) hs hf h
  | str z t => exact eq_back hu X I (typeIs_str s z t) F.slot_str_eq (hsub _ (by decide)) (fun _ hq => call_meets F.slot_str_eq (typeIs_str s z t) F.entry_str_eq (F.args_str_eq_2 _ _) (str_dec z t x _ _ _) ⟨hx, hq⟩) hs hf h
  | @lst l items hl =>
    obtain ⟨⟨cls, dd, data, sl⟩, ho, hc, n, hd⟩ := id hl
    simp only at hc hd
    subst hc hd
    exact eq_back hu X I ⟨_, ho, rfl⟩ F.slot_list_eq (hsub _ (by decide)) (fun _ hq => call_meets F.slot_list_eq ⟨_, ho, rfl⟩ F.entry_list_eq (F.args_list_eq_2 _ _) (list_dec l x C K _ od items n dd sl (hsub _ (by decide))) ⟨ho, X, I, hq⟩) hs hf h
  | @tup l items hl =>
    obtain ⟨⟨cls, dd, data, sl⟩, ho, hc, n, hd⟩ := id hl
    simp only at hc hd
    subst hc hd
    exact eq_back hu X I ⟨_, ho, rfl⟩ F.slot_tuple_eq (hsub _ (by decide)) (fun _ hq => call_meets F.slot_tuple_eq ⟨_, ho, rfl⟩ F.entry_tuple_eq (F.args_tuple_eq_2 _ _) (tuple_dec l x C K _ od items n dd sl (hsub _ (by decide))) ⟨ho, X, I, hq⟩) hs hf h
end
end PyI
namespace PyI
open PySem PySem.Spec PyProof.Rows L2
open MeetsSeq MeetsSeq2 MeetsSeq3 SeqRoads2
/-! ### == of lists, the items' == by steps that may lay objects -/
theorem eq_loopG {prog : Program} {w : World} {l b : Addr} {N : Nat} {e : Nat → Bool} {St : Nat → Shared → Prop} {A : Around} {R : Result → Shared → Prop}
    (hs : ∀ j s, St j s → ∃ items items2 : Array Value, s.heap.IsList l items ∧ s.heap.IsList b items2 ∧ items.size = N ∧ items2.size = N ∧
      ((∀ i < j, e i = true) → ∀ (h1 : j < items.size) (h2 : j < items2.size) (Q : Bool → Shared → Prop) (E : Value → Shared → Prop), (∀ s', St (j + 1) s' → Q (e j) s') → wpAny (model prog w) A.in1 (eqBool items[j] items2[j]) Q E s)) (k : Nat) :
    ∀ (i : Nat) (s : Shared), N - i = k → i ≤ N → (∀ j < i, e j = true) → St i s → (∀ j s', St j s' → R (.ok (.ret (.bool (((List.range N).drop i).all e)))) s') →
      wpAny (model prog w) A.in1 (Builtin.«list.__eq__.loop» ⟨[.ref l, .ref b, rawInt i, rawInt 2], []⟩) (fun fin s' => match fin with | .done f => R (.ok f) s' | .again c' => c'.quiet = true ∧ codeAny (model prog w) A c' R s') (fun e s' => R (.error e) s') s := by
  induction k with
  | zero =>
    intro i s hk hiN hpv st h
    obtain ⟨items, items2, hl, hb, z1, z2, _⟩ := hs i s st
    obtain ⟨⟨c1, dd, dt, sl⟩, hl, hc1, n, hd1⟩ := hl
    obtain ⟨⟨c2, dd2, dt2, sl2⟩, hb, hc2, n2, hd2⟩ := hb
    simp only at hc1 hd1 hc2 hd2
    subst hc1 hd1 hc2 hd2
    have h := h i s st
    clear st
    obtain ⟨hp, g, d, tk, os⟩ := s
    wp_walk using AutoSeq1.wpAny_loadPart' hl, AutoSeq1.wpAny_loadPart' hb
    have hi1 : items[((i : Nat) : Int).toNat]? = none := by simp; omega
    have hi2 : items2[((i : Nat) : Int).toNat]? = none := by simp; omega
    have hd : (List.range N).drop i = [] := by simp; omega
    rw [hd] at h
    rw [hi1, hi2]
    wp_walk using AutoSeq1.wpAny_loadPart' hl, AutoSeq1.wpAny_loadPart' hb
    show R (.ok (.ret (.bool (items.size == items2.size)))) _
    rw [z1, z2]
    simpa using h
  | succ k ih =>
    intro i s hk hiN hpv st h
    obtain ⟨items, items2, hl, hb, z1, z2, step⟩ := hs i s st
    obtain ⟨⟨c1, dd, dt, sl⟩, hl, hc1, n, hd1⟩ := hl
    obtain ⟨⟨c2, dd2, dt2, sl2⟩, hb, hc2, n2, hd2⟩ := hb
    simp only at hc1 hd1 hc2 hd2
    subst hc1 hd1 hc2 hd2
    have hlt : i < items.size := by omega
    have hlt2 : i < items2.size := by omega
    have hi1 : items[((i : Nat) : Int).toNat]? = some items[i] := by simp [hlt]
    have hi2 : items2[((i : Nat) : Int).toNat]? = some items2[i] := by simp [hlt2]
    have hN : i < N := by omega
    have hd : (List.range N).drop i = i :: (List.range N).drop (i + 1) := by simp [List.drop_eq_getElem_cons, hN]
    have hc : ((i : Int) + 1) = ((i + 1 : Nat) : Int) := by push_cast; rfl
    rw [hd, List.all_cons] at h
    have step := step hpv hlt hlt2
    clear st
    obtain ⟨hp, g, d, tk, os⟩ := s
    wp_walk using AutoSeq1.wpAny_loadPart' hl, AutoSeq1.wpAny_loadPart' hb
    rw [hi1, hi2]
    refine wpAny_bind (step _ _ fun s' st' => ?_)
    cases hb' : e i with
    | true =>
      rw [hb'] at h
      obtain ⟨hp', g', d', tk', os'⟩ := s'
      wp_walk
      rw [hc]
      exact ⟨plainId_quiet plain_eq_loop _, codeAny_builtin entry_eq_loop (by
        rw [Around.under_plainId plain_eq_loop _]
        exact ih (i + 1) _ (by omega) (by omega) (fun j hj => by
          rcases Nat.lt_succ_iff_lt_or_eq.mp hj with z | z
          · exact hpv j z
          · rw [z]; exact hb') st' fun j s2 q => by simpa using h j s2 q)⟩
    | false =>
      rw [hb'] at h
      obtain ⟨jt, jt2, jl, jb, y1, y2, _⟩ := hs (i + 1) s' st'
      obtain ⟨⟨c1, dd, dt, sl⟩, jl, hc1, n, hd1⟩ := jl
      obtain ⟨⟨c2, dd2, dt2, sl2⟩, jb, hc2, n2, hd2⟩ := jb
      simp only at hc1 hd1 hc2 hd2
      subst hc1 hd1 hc2 hd2
      have h := h _ _ st'
      clear st'
      obtain ⟨hp', g', d', tk', os'⟩ := s'
      have hi3 : jt[((i : Nat) : Int).toNat]? = some (jt[i]'(by omega)) := by simp
      have hi4 : jt2[((i : Nat) : Int).toNat]? = some (jt2[i]'(by omega)) := by simp
      wp_walk using AutoSeq1.wpAny_loadPart' jl, AutoSeq1.wpAny_loadPart' jb
      rw [hi3, hi4]
      wp_walk
      simpa using h
theorem list_eqG {prog : Program} {w : World} {l b : Addr} {N N2 : Nat} {e : Nat → Bool} {St : Nat → Shared → Prop} {A : Around} {R : Result → Shared → Prop} {s : Shared} {items items2 : Array Value} (hl : s.heap.IsList l items) (hb : s.heap.IsList b items2) (z1 : items.size = N) (z2 : items2.size = N2)
    (hdif : N ≠ N2 → R (.ok (.ret (.bool false))) s)
    (hsame : N = N2 → St 0 s ∧ (∀ j s, St j s → ∃ items items2 : Array Value, s.heap.IsList l items ∧ s.heap.IsList b items2 ∧ items.size = N ∧ items2.size = N ∧
      ((∀ i < j, e i = true) → ∀ (h1 : j < items.size) (h2 : j < items2.size) (Q : Bool → Shared → Prop) (E : Value → Shared → Prop), (∀ s', St (j + 1) s' → Q (e j) s') → wpAny (model prog w) A.in1 (eqBool items[j] items2[j]) Q E s)) ∧
      ∀ j s', St j s' → R (.ok (.ret (.bool ((List.range N).all e)))) s') :
      wpAny (model prog w) A.in1 (Builtin.«list.__eq__» ⟨[.ref l, .ref b], []⟩) (fun fin s' => match fin with | .done f => R (.ok f) s' | .again c' => c'.quiet = true ∧ codeAny (model prog w) A c' R s') (fun e s' => R (.error e) s') s := by
  obtain ⟨⟨c1, dd, dt, sl⟩, hl, hc1, n, hd1⟩ := hl
  obtain ⟨⟨c2, dd2, dt2, sl2⟩, hb, hc2, n2, hd2⟩ := hb
  simp only at hc1 hd1 hc2 hd2
  subst hc1 hd1 hc2 hd2
  have f3 := AutoSeq1.sub_list_list
  by_cases hN : N = N2
  · obtain ⟨st, hs, hR⟩ := hsame hN
    have hne : ¬ (items.size != items2.size) = true := by simp [z1, z2, hN]
    obtain ⟨hp, g, d, tk, os⟩ := s
    wp_walk using AutoSeq1.wpAny_loadPart' hl, AutoSeq1.wpAny_loadPart' hb
    exact ⟨plainId_quiet plain_eq_loop _, codeAny_builtin entry_eq_loop (by
      rw [Around.under_plainId plain_eq_loop _]
      exact eq_loopG hs _ 0 _ rfl (by omega) (fun j hj => absurd hj (Nat.not_lt_zero j)) st (by simpa using hR))⟩
  · have hne : (items.size != items2.size) = true := by simp [z1, z2, hN]
    have hdif := hdif hN
    obtain ⟨hp, g, d, tk, os⟩ := s
    wp_walk using AutoSeq1.wpAny_loadPart' hl, AutoSeq1.wpAny_loadPart' hb
    exact hdif
end PyI
namespace PyI
open PySem PySem.Spec PyProof.Rows L2
def bTys : List String := ["NoneType", "bool", "int", "str", "list", "tuple", "dict"]
/-- C.m is a staticmethod around the def at g -/
structure StM (K : PySem.W.Frag) (C : Addr) (m : Str) (g : Addr) : Prop where
  rd : ClX.CRead K C (.type "type")
  at_ : ∃ p, PySem.W.findCls K (.ref C) (.type "type") m = some (.get (.builtin "staticmethod.__get__") (.ref p) .none (.ref C)) ∧ ∃ rest, PySem.W.recIn K p "staticmethod" = some (.ref g :: rest)
  kp : PySem.W.keepIn K (.ref g) = true
/-- an own operator of the class at C -/
structure OpF (K : PySem.W.Frag) (F : Fx) (P : Pg) (C : Addr) (op : Operator) (nm : String) : Prop where
  first : PySem.W.selfFirst K C = true
  refl : ∃ rc, PySem.W.findIn K (.ref C) (dunderR nm) = some rc ∧ (rc = none ∨ ∃ g : Addr, rc = some (.ref g))
  ty : ∀ T ∈ bTys, (∃ fo, PySem.W.findIn K (.type T) (PySem.dunder nm) = some fo) ∧ (∃ ro, PySem.W.findIn K (.type T) (dunderR nm) = some ro) ∧ PySem.W.subIn K (.type T) (.ref C) = some false
  cl : ∀ c' x', P.cl[c']? = some x' → F.ca c' = C ∨ noOpM x' op = false ∨ (C ≠ F.ca c' ∧ noOpB K (F.ca c') nm = true)
  inp : noInB K C nm = true
structure BareC (K : PySem.W.Frag) (C : Addr) : Prop where
  makes : PySem.W.makesIn K C = true
  init : PySem.W.findIn K (.ref C) "__init__" = some (some (.builtin "object.__init__"))
  kp : PySem.W.keepIn K (.ref C) = true
/-- what the top has written of the class c -/
structure ClT (K : PySem.W.Frag) (F : Fx) (P : Pg) (c : Nat) (x : ClD) : Prop where
  cls : Cls K (F.ca c)
  tc : PySem.W.findIn K (.ref (F.ca c)) "__class__" = some (some (.builtin "object.__class__"))
  tn : PySem.W.specialIn K (.builtin "object.__class__") "__get__" = some (some (.builtin "getset_descriptor.__get__"))
  tt : PySem.W.takesIn K (.builtin "object.__class__") = some true
  tm : PySem.W.mroIn K (F.ca c) (.type "object") = some true
  meth : ∀ m g, x.meth.lookup m = some g → Meth K (F.ca c) m (F.fa g)
  prop : ∀ m g, x.prop.lookup m = some g → ∃ p, PropOf K (F.ca c) m p (F.fa g)
  stat : ∀ m g, x.stat.lookup m = some g → StM K (F.ca c) m (F.fa g)
  noat : ∀ f ∈ x.flds, NoAttr K (F.ca c) f
  nfT : ∀ T ∈ bTys, PySem.W.notFirst K (F.ca c) (.type T) = true
  nfC : ∀ g, x.meth.lookup ("__eq__" : Str) = some g → ∀ c' x', P.cl[c']? = some x' → PySem.W.notFirst K (F.ca c) (.ref (F.ca c')) = true
  kTC : ∀ T ∈ bTys, PySem.W.kitOne K (.type T) (.ref (F.ca c)) = some false
  kCT : ∀ T ∈ bTys, PySem.W.kitOne K (.ref (F.ca c)) (.type T) = some false
  kCC : ∀ c' x', P.cl[c']? = some x' → PySem.W.kitOne K (.ref (F.ca c)) (.ref (F.ca c')) = some (x.up.contains c')
  sT : ∀ T ∈ bTys, PySem.W.subIn K (.ref (F.ca c)) (.type T) = some false
  ops : ∀ op g, (opMeth op).bind (x.meth.lookup ·) = some g → OpF K F P (F.ca c) op op.info.2
  bare : x.bare = true → BareC K (F.ca c)
  cal : ∀ g, x.meth.lookup ("__call__" : Str) = some g → PySem.W.fnIn K (F.fa g) = true
def ClsT (K : PySem.W.Frag) (F : Fx) (P : Pg) : Prop := ∀ c x, P.cl[c]? = some x → ClT K F P c x
/-- a datum's type -/
def tyD (F : Fx) (P : Pg) : Dt → Option Value
  | .non => some (.type "NoneType")
  | .bl _ => some (.type "bool")
  | .int _ => some (.type "int")
  | .str _ => some (.type "str")
  | .lst _ => some (.type "list")
  | .tup _ => some (.type "tuple")
  | .ins c _ _ => (P.cl[c]?).map fun _ => .ref (F.ca c)
  | _ => none
theorem tyD_some {F : Fx} {P : Pg} : ∀ {d : Dt}, typed P d = true → ∃ t, tyD F P d = some t
  | .non, _ | .bl _, _ | .int _, _ | .str _, _ | .lst _, _ | .tup _, _ => ⟨_, rfl⟩
  | .ins c _ _, h => by
    obtain ⟨x, hx⟩ := Option.isSome_iff_exists.mp (show (P.cl[c]?).isSome = true from h)
    exact ⟨_, by simp only [tyD, hx]; rfl⟩
  | .dct _ _, h | .cel _, h | .cls _, h | .ty _, h | .scr _, h => by cases h
theorem typedO_typed {P : Pg} {op : Operator} {c : Nat} : ∀ {d : Dt}, typedO P op c d = true → typed P d = true
  | .ins c' _ _, h => by
    show (P.cl[c']?).isSome = true
    have h : (match P.cl[c']? with
      | some x => decide (c' = c) || noOpM x op
      | none => false) = true := h
    cases e : P.cl[c']? with
    | none => rw [e] at h; cases h
    | some x => rfl
  | .non, h | .bl _, h | .int _, h | .str _, h | .lst _, h | .tup _, h | .dct _ _, h | .cel _, h | .cls _, h | .ty _, h | .scr _, h => h
theorem tyX_of {K : PySem.W.Frag} {F : Fx} {P : Pg} {w : Wd} {H : Hp} (hK : K = F.K) (T : ClsT K F P) (fr : ∀ a o, w.G a = some o → H a = some o) : ∀ (d : Dt) {v : V} {t : Value}, Dn F w d v → tyD F P d = some t → TyX K H v t
  | .non, _, _, h, e => by cases h; cases e; exact .base .non
  | .bl _, _, _, h, e => by cases h; cases e; exact .base (.bl _)
  | .int _, _, _, h, e => by cases h; cases e; exact .base (.int _)
  | .str _, _, _, h, e => by cases h; cases e; exact .base (.str _)
  | .lst _, _, _, ⟨a, vs, e1, s, _⟩, e => by subst e1; cases e; exact .base (.lst (fr _ _ s))
  | .tup _, _, _, ⟨a, vs, e1, s, _⟩, e => by
    subst e1
    cases e
    rcases s with (s | ⟨o, s⟩) | ⟨o, its, n, hk, hc, _⟩
    · exact .base (.tup (fr _ _ s))
    · exact .fTuple (fr _ _ s)
    · rw [hK]; exact .kTuple hk hc
  | .ins c _ _, _, _, ⟨a, dx, vs, e1, s, _⟩, e => by
    subst e1
    cases q : P.cl[c]? with
    | none => simp only [tyD, q] at e; cases e
    | some x =>
      simp only [tyD, q] at e
      cases e
      have t := T c x q
      exact .base (.ins (fr _ _ s) t.cls t.tc t.tn t.tt t.tm)
  | .dct _ _, _, _, _, e | .cel _, _, _, _, e | .cls _, _, _, _, e | .ty _, _, _, _, e | .scr _, _, _, _, e => by cases e
/-- a class as a value -/
def tyVal (F : Fx) : Ty → Value
  | .int => .type "int"
  | .bool => .type "bool"
  | .str => .type "str"
  | .list => .type "list"
  | .tuple => .type "tuple"
  | .dict => .type "dict"
  | .own c => .ref (F.ca c)
def tyV (F : Fx) : Ty → V
  | .int => .ty "int"
  | .bool => .ty "bool"
  | .str => .ty "str"
  | .list => .ty "list"
  | .tuple => .ty "tuple"
  | .dict => .ty "dict"
  | .own c => .ref (F.ca c)
theorem clsV_of (F : Fx) (t : Ty) : ClsV (tyV F t) (tyVal F t) := by cases t <;> constructor
theorem clsVs (F : Fx) : ∀ ts : List Ty, Paired ClsV (ts.map (tyV F)) (ts.map (tyVal F))
  | [] => .nil
  | t :: ts => .cons (clsV_of F t) (clsVs F ts)
def tyKnown (P : Pg) : Ty → Bool
  | .own c => (P.cl[c]?).isSome
  | _ => true
theorem kit_of_isB {K : PySem.W.Frag} {F : Fx} {P : Pg} (T : ClsT K F P) {d : Dt} {t : Ty} {b : Bool} (ht : tyKnown P t = true) (e : isB d t = some b) : ∃ u, tyD F P d = some u ∧ PySem.W.kitOne K u (tyVal F t) = some b := by
  have own : ∀ {c : Nat}, tyKnown P (.own c) = true → ∃ x, P.cl[c]? = some x := fun {c} h => Option.isSome_iff_exists.mp h
  unfold isB at e
  split at e <;> cases e <;>
    first
      | exact ⟨_, rfl, kit_ty (by decide +kernel)⟩
      | (obtain ⟨x, hx⟩ := own ht; exact ⟨_, rfl, (T _ x hx).kTC _ (by decide)⟩)
theorem kit_of_isT {K : PySem.W.Frag} {F : Fx} {P : Pg} (T : ClsT K F P) {d : Dt} {t : Ty} {b : Bool} (ht : tyKnown P t = true) (e : isT P d t = some b) : ∃ u, tyD F P d = some u ∧ PySem.W.kitOne K u (tyVal F t) = some b := by
  unfold isT at e
  split at e
  · rename_i c ns vs
    cases q : P.cl[c]? with
    | none => rw [q] at e; cases e
    | some x =>
      rw [q] at e
      have e : some (isC x t) = some b := e
      refine ⟨.ref (F.ca c), by simp only [tyD, q]; rfl, ?_⟩
      rw [← e]
      have tc := T c x q
      cases t with
      | own c' =>
        obtain ⟨x', hx'⟩ := Option.isSome_iff_exists.mp (show (P.cl[c']?).isSome = true from ht)
        exact tc.kCC c' x' hx'
      | int => exact tc.kCT "int" (by decide)
      | bool => exact tc.kCT "bool" (by decide)
      | str => exact tc.kCT "str" (by decide)
      | list => exact tc.kCT "list" (by decide)
      | tuple => exact tc.kCT "tuple" (by decide)
      | dict => exact tc.kCT "dict" (by decide)
  · exact kit_of_isB T ht e
theorem kit_of_isTs {K : PySem.W.Frag} {F : Fx} {P : Pg} (T : ClsT K F P) {d : Dt} {u : Value} (hu : tyD F P d = some u) : ∀ {ts : List Ty} {b : Bool}, ts.all (tyKnown P) = true → isTs P d ts = some b → PySem.W.kitAny K u (ts.map (tyVal F)) = some b
  | [], b, _, e => by cases e; rfl
  | t :: ts, b, ht, e => by
    rw [List.all_cons, Bool.and_eq_true] at ht
    unfold isTs at e
    unfold PySem.W.kitAny
    rw [List.map_cons]
    dsimp only
    cases q : isT P d t with
    | none => rw [q] at e; cases e
    | some k =>
      rw [q] at e
      obtain ⟨u', h1, h2⟩ := kit_of_isT T ht.1 q
      rw [hu] at h1
      cases h1
      rw [h2]
      cases k with
      | true => cases e; rfl
      | false => exact kit_of_isTs T hu ht.2 e
section
variable {X : Cx} {F : Fx} {f : Fm} {W : WX} {P : Pg} {a : Expr} {p pos : Pos} {ma : Sto → Rs Dt}
/-- isinstance(e, T) -/
theorem se_isi1 {c : Expr} {t : Ty} (hK : X.K = F.K) (T : ClsT X.K F P) (ht : tyKnown P t = true) (hgl : Gl X "isinstance") (hm : X.mg "isinstance" = none) (hp : plainEs [a, c] = true) (ha : PE X a (RE F f W ma)) (hc : PE X c (tC (tyV F t))) :
    PE X (.Call (.Name "isinstance" p) [a, c] [] pos) (RE F f W fun S => (ma S).bind fun x S1 => okD ((isTs P x [t]).map .bl) S1) := by
  have hp2 : plainEs [c] = true := plain_tail hp
  refine peImp (pe_callB (r := rIsi X.K) call_isi hgl hm boot_isinstance (pa_cons ha (pa_cons hc pa_nil (star_cons hp2)) (star_cons hp)) (by decide) (by decide) (star_cons hp) (star_any hp2)) fun σ H Q ⟨w, S, R, h⟩ => ?_
  refine Rd1.go R h fun d x w1 H1 S1 _ R1 l1 r1 h1 => ?_
  cases e : isTs P d [t] with
  | none => rw [e] at h1; exact h1.elim
  | some b =>
    rw [e] at h1
    have e2 : isT P d t = some b := by
      unfold isTs at e
      cases q : isT P d t with
      | none => rw [q] at e; cases e
      | some k =>
        rw [q] at e
        cases k with
        | true => cases e; rfl
        | false => cases e; rfl
    obtain ⟨u, hu, hk⟩ := kit_of_isT T ht e2
    exact ⟨x, tyV F t, u, tyVal F t, b, rfl, clsV_of F t, tyX_of hK T R1.cs.fr d r1 hu, hk, h1.ok R1 rfl⟩
/-- isinstance(e, (T1, T2, ..)) -/
theorem se_isiT {es : List Expr} {ts : List Ty} {kk : Nat} {tpos : Pos} (hK : X.K = F.K) (T : ClsT X.K F P) (ht : ts.all (tyKnown P) = true) (hl : 1 ≤ ts.length ∧ ts.length ≤ sizeLine) (hgl : Gl X "isinstance") (hm : X.mg "isinstance" = none) (hp : plainEs [a, .Tuple es kk tpos] = true) (ha : PE X a (RE F f W ma)) (hes : PA X es (fun _ H Q => Q (ts.map (tyV F)) H)) :
    PE X (.Call (.Name "isinstance" p) [a, .Tuple es kk tpos] [] pos) (RE F f W fun S => (ma S).bind fun x S1 => okD ((isTs P x ts).map .bl) S1) := by
  have hp2 : plainEs [.Tuple es kk tpos] = true := plain_tail hp
  refine peImp (pe_callB (r := rIsiT X.K) call_isiT hgl hm boot_isinstance (pa_cons ha (pa_cons (pe_tup hes) pa_nil (star_cons hp2)) (star_cons hp)) (by decide) (by decide) (star_cons hp) (star_any hp2)) fun σ H Q ⟨w, S, R, h⟩ => ?_
  refine Rd1.go R h fun d x w1 H1 S1 _ R1 l1 r1 h1 => ?_
  cases e : isTs P d ts with
  | none => rw [e] at h1; exact h1.elim
  | some b =>
    rw [e] at h1
    have hu : ∃ u, tyD F P d = some u := by
      cases ts with
      | nil => simp at hl
      | cons t ts =>
        rw [List.all_cons, Bool.and_eq_true] at ht
        unfold isTs at e
        cases q : isT P d t with
        | none => rw [q] at e; cases e
        | some k =>
          obtain ⟨u, h1, _⟩ := kit_of_isT T ht.1 q
          exact ⟨u, h1⟩
    obtain ⟨u, hu⟩ := hu
    refine ⟨by rw [List.length_map]; exact hl.2, fun p hp => ?_⟩
    have R2 := R1.fresh (o := .tup (ts.map (tyV F))) hp
    exact ⟨x, p, ts.map (tyV F), u, ts.map (tyVal F), b, rfl, upd_same, clsVs F ts, tyX_of hK T R2.cs.fr d r1 hu, kit_of_isTs T hu ht e, h1.ok R2 rfl⟩
end
end PyI
namespace PyI
open PySem PySem.Spec PyProof.Rows L2
/-! ### calls that let nothing out -/
section
variable {X : Cx} {F : Fx} {f : Fm} {W : WX}
theorem run_N {k n : Nat} {fa : Addr} {ks : List Str} {sp : Sp} {A : Around} {pins : List (Addr × Obj)} {σ : L2.St} {H : Hp} {s : Shared} {Q : VK} {E' : Value → Shared → Prop} {us ws : List Value} {vs zs : List V} (C : CalG X.prog X.w X.K X.mg X.base k fa n ks sp) (hr : Room k A) (hg : A.guards = some [])
    (e0 : Env0 X.prog X.w X.K X.mg X.base A X.stack s H) (I : Inv X pins σ H s) (h1 : us.length = n) (h2 : ws.length = ks.length) (r : Vals vs us) (rz : Vals zs ws) (h : sp (vs ++ zs) H Q (fun _ _ _ => False)) :
    wpAny (model X.prog X.w) A (PySem.call (.ref fa) us (ks.zip ws)) (EP X pins σ Q) E' s := by
  refine wpAny_call (codeAny_mono (C A X.stack s H us ws vs zs Q (fun _ _ _ => False) hr hg e0 h1 h2 r rz h) fun r s' hq => ?_)
  cases r with
  | error e =>
    obtain ⟨_, _, _, _, _, _, _, _, _, _, _, _, z⟩ := hq
    exact z.elim
  | ok fl =>
    cases fl with
    | ret u => exact I.after hq
    | next => exact False.elim hq
    | brk => exact False.elim hq
    | cont => exact False.elim hq
theorem poN_of {w : Wd} {σ : L2.St} {H : Hp} {S : Sto} {r : Rc} {Q : VK} (R : Rr F f w σ H S) (h : Po F f W σ w (upN r S) (Dn F) Q) : PoC F w H r Q (fun _ _ _ => False) := by
  cases r with
  | ok b m' =>
    have h' : PoC F w H (.ok b m') Q (WE W σ) := poC_of R (by cases b <;> exact h)
    exact h'
  | ex c ns ds m' => exact h.elim
  | bad => exact h
/-- what the program's table promises of its defs -/
def FnsT (X : Cx) (F : Fx) (P : Pg) (k : Nat) (cf : Nat → List Dt → List Dt → Rc) : Prop := ∀ g n ks sh, P.shf g n ks = some sh → CalG X.prog X.w X.K X.mg X.base k (F.fa g) n ks (spS F (cf g) sh)
def selfSh : List Ar := [.a 0]
variable {P : Pg} {k : Nat} {cf : Nat → List Dt → List Dt → Rc} {a b : Expr} {pos p : Pos} {ma mb : Sto → Rs Dt}
/-- e.f -/
theorem se_fld {fl : Str} (T : ClsT X.K F P) (FT : FnsT X F P k cf) (hsh : ∀ c g, P.prop c fl = some g → P.shf g 1 [] = some selfSh) (hr : Room (k + 1) X.A) (hg : X.A.guards = some []) (hab : attributeBase a fl X.env (eval a X.env) = eval a X.env) (ha : PE X a (RE F f W ma)) :
    PE X (.Attribute a fl pos) (RE F f W fun S => (ma S).bind fun x S1 => match x with
    | .ins c ns vs => match P.prop c fl with
      | some g => upN (cf g [.ins c ns vs] S1.m) S1
      | none => if P.fld c fl then okD (lookD fl ns vs) S1 else .bad
    | _ => .bad) := by
  refine ⟨fun pins s σ H Q I h => ?_⟩
  obtain ⟨w, S, R, h⟩ := h
  refine attr_of hab (thn (ha.run pins s σ H (fun x H1 => ∃ (c : Nat) (ns : List Str) (vs : List Dt) (w1 : Wd) (S1 : Sto), Rr F f w1 σ H1 S1 ∧ Dn F w1 (.ins c ns vs) x ∧ Po F f W σ w1 (match P.prop c fl with
      | some g => upN (cf g [.ins c ns vs] S1.m) S1
      | none => if P.fld c fl then okD (lookD fl ns vs) S1 else .bad) (Dn F) Q) I (Rd1.go R h fun d x w1 H1 S1 _ R1 l1 r1 h1 => ?_)) fun u s1 hh => ?_)
  · cases d with
    | ins c ns vs => exact ⟨c, ns, vs, w1, S1, R1, r1, h1⟩
    | _ => exact h1.elim
  · obtain ⟨x, H1, I1, rx, c, ns, ds, w1, S1, R1, dn, h1⟩ := hh
    obtain ⟨a, dx, vs, ex, ga, hl, rs⟩ := id dn
    subst ex
    obtain rfl : u = Value.ref a := rx
    have ha' := R1.cs.fr _ _ ga
    cases e : P.prop c fl with
    | some g =>
      rw [e] at h1
      unfold Pg.prop at e
      cases q : P.cl[c]? with
      | none => rw [q] at e; cases e
      | some cx =>
        rw [q] at e
        have tc := T c cx q
        obtain ⟨pp, hp⟩ := tc.prop fl g e
        obtain ⟨mA, O, _, _, _, _⟩ := ins_get I1.hok ha'
        obtain ⟨od, J, _⟩ := O.look
        obtain ⟨rest, hrec⟩ := hp.rec_
        have hc : (PySem.W.clsIn X.K (F.ca c)).isSome = true := by
          obtain ⟨cd, hc, _⟩ := PySem.W.any_some tc.cls.hd
          rw [hc]
          rfl
        have I2 := I1.tok (s1.toks + 1)
        have cal := FT g 1 [] selfSh (hsh c g (by unfold Pg.prop; rw [q]; exact e))
        refine PySem.W.get_bind I1.kIn J (PySem.W.plainGet_of (tc.cls.get fl)).1 (PySem.W.findObj_data hc hp.at_ hp.get hp.tak) (PySem.W.plainGet_of (tc.cls.get fl)).2 (wpAny_call (PySem.W.prop_get (s := { s1 with toks := s1.toks + 1 }) I1.kIn hrec ?_))
        have sp : spS F (cf g) selfSh [.ref a] H1 Q (fun _ _ _ => False) := ⟨w1, S1.m, [.ins c ns ds], [.ins c ns ds], R1.cs, ⟨.ref a, [], rfl, dn, rfl⟩, rfl, poN_of R1 h1⟩
        refine codeAny_mono (cal X.A.in1 X.stack { s1 with toks := s1.toks + 1 } H1 [.ref a] [] [.ref a] [] Q (fun _ _ _ => False) hr.in1 hg I2.env0.in1 rfl rfl (.cons rfl .nil) .nil sp) fun r s' hq => ?_
        cases r with
        | error er =>
          obtain ⟨_, _, _, _, _, _, _, _, _, _, _, _, z⟩ := hq
          exact z.elim
        | ok fl =>
          cases fl with
          | ret u =>
            obtain ⟨v, H', I3, rv, q3⟩ := I2.after hq
            show wpAny _ _ (handedOut u) _ _ _
            rw [PySem.W.handedOut_of (handed_of rv)]
            exact wpAny_pure ⟨v, H', I3, rv, q3⟩
          | next => exact False.elim hq
          | brk => exact False.elim hq
          | cont => exact False.elim hq
    | none =>
      rw [e] at h1
      dsimp only at h1
      split at h1
      · rename_i hf
        unfold Pg.fld at hf
        cases q : P.cl[c]? with
        | none => rw [q] at hf; cases hf
        | some cx =>
          rw [q] at hf
          have tc := T c cx q
          cases e2 : lookD fl ns ds with
          | none => rw [e2] at h1; exact h1.elim
          | some d =>
            rw [e2] at h1
            obtain ⟨v, h3, h4⟩ := (look_dn (f0 := fl) rs hl).1 d e2
            exact getattr_ok I1 ha' tc.cls (tc.noat fl (by simpa using hf)) h3 fun u' s' I' ru => ⟨v, H1, I', ru, h1.ok R1 h4⟩
      · exact h1.elim
/-! ### comparisons, own == among them -/
def rCmp (F : Fx) (f : Fm) (W : WX) (g : Dt → Dt → Sto → Rs Dt) : R2 := fun x y H Q => ∃ σ w S a b, Rr F f w σ H S ∧ Dn F w a x ∧ Dn F w b y ∧ Po F f W σ w (g a b S) (Dn F) Q
def eqSh : List Ar := [.a 0, .a 1]
def eqTyped (F : Fx) (P : Pg) (d : Dt) : Bool := (tyD F P d).isSome
theorem notFirst_of {K : PySem.W.Frag} {c g : Nat} {cx : ClD} (tc : ClT K F P c cx) (he : cx.meth.lookup ("__eq__" : Str) = some g) : ∀ {d : Dt} {t : Value}, tyD F P d = some t → PySem.W.notFirst K (F.ca c) t = true
  | .non, _, e => by cases e; exact tc.nfT "NoneType" (by decide)
  | .bl _, _, e => by cases e; exact tc.nfT "bool" (by decide)
  | .int _, _, e => by cases e; exact tc.nfT "int" (by decide)
  | .str _, _, e => by cases e; exact tc.nfT "str" (by decide)
  | .lst _, _, e => by cases e; exact tc.nfT "list" (by decide)
  | .tup _, _, e => by cases e; exact tc.nfT "tuple" (by decide)
  | .ins c' _ _, t, e => by
    cases q : P.cl[c']? with
    | none => simp only [tyD, q] at e; cases e
    | some x' =>
      simp only [tyD, q] at e
      cases e
      exact tc.nfC g he c' x' q
  | .dct _ _, _, e | .cel _, _, e | .cls _, _, e | .ty _, _, e | .scr _, _, e => by cases e
theorem dcl_of {pins : List (Addr × Obj)} {σ τ : L2.St} {H : Hp} {s : Shared} {w : Wd} {S : Sto} (hK : X.K = F.K) (I : Inv X pins σ H s) (R : Rr F f w τ H S) : ∀ {a : Dt} {x : V} {v : Value}, Dn F w a x → RelV x v → eqBk a = true → Dcl s v
  | .non, _, v, h, r, _ => by cases h; cases (show v = Value.none from r); exact .non
  | .bl b, _, v, h, r, _ => by cases h; cases (show v = Value.bool b from r); exact .bl b
  | .int i, _, v, h, r, _ => by
    cases h
    obtain ⟨t, e⟩ := (show ∃ t, v = Value.int i t from r)
    cases e
    exact .int i t
  | .str z, _, v, h, r, _ => by
    cases h
    obtain ⟨t, e⟩ := (show ∃ t, v = Value.str z t from r)
    cases e
    exact .str z t
  | .lst ds, _, v, ⟨p, vs, e1, g1, _⟩, r, _ => by
    subst e1
    cases (show v = Value.ref p from r)
    obtain ⟨its, _, pl, _⟩ := I.list (SqL.of (R.cs.fr _ _ g1))
    exact .lst pl.isList
  | .tup ds, _, v, ⟨p, vs, e1, g1, _⟩, r, _ => by
    subst e1
    cases (show v = Value.ref p from r)
    obtain ⟨its, _, pl, _⟩ := I.tuple (a := p) (xs := vs) (by rw [hK]; exact sqT_mono R.cs.fr g1)
    exact .tup pl
  | .dct _ _, _, _, _, _, e | .ins _ _ _, _, _, _, _, e | .cel _, _, _, _, _, e | .cls _, _, _, _, _, e | .ty _, _, _, _, _, e | .scr _, _, _, _, _, e => by cases e
theorem po_bl {σ : L2.St} {w : Wd} {r : Rs Dt} {Q : VK} (h : Po F f W σ w (r.bind blB) (Dn F) Q) : Po F f W σ w r (Dn F) (fun z H => ∃ k, z = .bl k ∧ Q (.bl k) H) := by
  cases r with
  | ok d S =>
    cases d with
    | bl k => exact fun b w' H' R l rel => ⟨k, rel, h (.bl k) w' H' R l rfl⟩
    | _ => exact h.elim
  | ex c ns ds S => exact h
  | bad => exact h
theorem po_neg {σ : L2.St} {w : Wd} {r : Rs Dt} {Q : VK} (h : Po F f W σ w (r.bind negB) (Dn F) Q) : Po F f W σ w r (Dn F) (fun z H => ∃ k, z = .bl k ∧ Q (.bl (!k)) H) := by
  cases r with
  | ok d S =>
    cases d with
    | bl k => exact fun b w' H' R l rel => ⟨k, rel, h (.bl (!k)) w' H' R l rfl⟩
    | _ => exact h.elim
  | ex c ns ds S => exact h
  | bad => exact h
mutual
theorem dtF_eq : ∀ {a b : Dt}, dtF a b = true → a = b
  | .non, b, h => by cases b <;> first | rfl | (simp [dtF] at h)
  | .bl _, b, h => by cases b <;> simp [dtF] at h <;> rw [h]
  | .int _, b, h => by cases b <;> simp [dtF] at h <;> rw [h]
  | .str _, b, h => by cases b <;> simp [dtF] at h <;> rw [h]
  | .lst as, b, h => by
    cases b with
    | lst bs => simp only [dtF] at h; rw [dtsF_eq h]
    | _ => simp [dtF] at h
  | .tup as, b, h => by
    cases b with
    | tup bs => simp only [dtF] at h; rw [dtsF_eq h]
    | _ => simp [dtF] at h
  | .ins c ns as, b, h => by
    cases b with
    | ins d ms bs =>
      simp only [dtF, Bool.and_eq_true, decide_eq_true_eq] at h
      rw [h.1.1, h.1.2, dtsF_eq h.2]
    | _ => simp [dtF] at h
  | .cel _, b, h => by cases b <;> simp [dtF] at h <;> rw [h]
  | .dct _ _, b, h => by cases b <;> simp [dtF] at h
  | .cls _, b, h => by cases b <;> simp [dtF] at h
  | .ty _, b, h => by cases b <;> simp [dtF] at h
  | .scr _, b, h => by cases b <;> simp [dtF] at h
theorem dtsF_eq : ∀ {a b : List Dt}, dtsF a b = true → a = b
  | [], b, h => by cases b <;> first | rfl | (simp [dtsF] at h)
  | x :: xs, b, h => by
    cases b with
    | nil => simp [dtsF] at h
    | cons y ys =>
      simp only [dtsF, Bool.and_eq_true] at h
      rw [dtF_eq h.1, dtsF_eq h.2]
end
theorem dtV_inj : ∀ {a b : Dt}, flatD a = true → flatD b = true → dtV a = dtV b → a = b
  | .non, b, _, h, e => by cases b <;> first | rfl | (cases h; done) | (cases e; done)
  | .bl _, b, _, h, e => by cases b <;> first | (cases e; rfl) | (cases h; done) | (cases e; done)
  | .int _, b, _, h, e => by cases b <;> first | (cases e; rfl) | (cases h; done) | (cases e; done)
  | .str _, b, _, h, e => by cases b <;> first | (cases e; rfl) | (cases h; done) | (cases e; done)
  | .lst _, _, h, _, _ | .tup _, _, h, _, _ | .dct _ _, _, h, _, _ | .ins _ _ _, _, h, _, _ | .cel _, _, h, _, _ | .cls _, _, h, _, _ | .ty _, _, h, _, _ | .scr _, _, h, _, _ => by cases h
theorem dtVs_inj : ∀ {a b : List Dt}, a.all flatD = true → b.all flatD = true → a.map dtV = b.map dtV → a = b
  | [], [], _, _, _ => rfl
  | [], _ :: _, _, _, e => by cases e
  | _ :: _, [], _, _, e => by cases e
  | x :: xs, y :: ys, h1, h2, e => by
    rw [List.all_cons, Bool.and_eq_true] at h1 h2
    rw [List.map_cons, List.map_cons] at e
    injection e with e1 e2
    rw [dtV_inj h1.1 h2.1 e1, dtVs_inj h1.2 h2.2 e2]
theorem dtF_self_flat : ∀ {a : Dt}, flatD a = true → dtF a a = true
  | .non, _ => by simp [dtF]
  | .bl _, _ => by simp [dtF]
  | .int _, _ => by simp [dtF]
  | .str _, _ => by simp [dtF]
  | .lst _, h | .tup _, h | .dct _ _, h | .ins _ _ _, h | .cel _, h | .cls _, h | .ty _, h | .scr _, h => by cases h
theorem dtsF_self_flat : ∀ {a : List Dt}, a.all flatD = true → dtsF a a = true
  | [], _ => by simp [dtsF]
  | x :: xs, h => by
    rw [List.all_cons, Bool.and_eq_true] at h
    simp only [dtsF, dtF_self_flat h.1, dtsF_self_flat h.2, Bool.and_self]
/-- two instances at one address, with plain fields, are the same data -/
theorem same_flat {w : Wd} {c c' : Nat} {ns ns' : List Str} {vs vs' : List Dt} {v : V} (h1 : Dn F w (.ins c ns vs) v) (h2 : Dn F w (.ins c' ns' vs') v) (f1 : vs.all flatD = true) (f2 : vs'.all flatD = true) : sameI (.ins c ns vs) (.ins c' ns' vs') = true := by
  obtain ⟨a, dx, us, e, g, l, r⟩ := h1
  obtain ⟨a', dx', us', e', g', l', r'⟩ := h2
  subst e
  cases e'
  rw [g] at g'
  injection g' with g'
  injection g' with e1 e2 e3
  have en : ns = ns' := by
    have := congrArg (List.map Prod.fst) e3
    rwa [List.map_fst_zip (by omega), List.map_fst_zip (by omega)] at this
  have ev : us = us' := by
    have := congrArg (List.map Prod.snd) e3
    rwa [List.map_snd_zip (by omega), List.map_snd_zip (by omega)] at this
  have q1 := (flat_dns f1 r).1
  have q2 := (flat_dns f2 r').1
  have := dtVs_inj f1 f2 (by rw [← q1, ← q2, ev])
  rw [en, this]
  simp only [sameI, dtsF_self_flat f2, Bool.and_self, decide_true]
def EqSh (P : Pg) : Prop := ∀ c g m, (m = ("__eq__" : Str) ∨ m = ("__contains__" : Str)) → P.meth c m = some g → P.shf g 2 [] = some eqSh
theorem eqOwn_ok {pins : List (Addr × Obj)} {σ τ : L2.St} {H : Hp} {s : Shared} {w : Wd} {S : Sto} {x y : Dt} {vx vy : V} {v u : Value} {r : Bool} {Q : Bool → Shared → Prop} {E : Value → Shared → Prop} (hK : X.K = F.K) (T : ClsT X.K F P) (FT : FnsT X F P k cf) (hsh : EqSh P) (hr : Room (k + 1) X.A) (hg : X.A.guards = some [])
    (I : Inv X pins σ H s) (R : Rr F f w τ H S) (dx : Dn F w x vx) (dy : Dn F w y vy) (rx : RelV vx v) (ry : RelV vy u) (e : eqOwn P cf x y S.m = some r)
    (h : ∀ H' s' w', Inv X pins σ H' s' → Le w w' → Rr F f w' τ H' S → Q r s') : wpAny (model X.prog X.w) X.A.in1 (eqBool v u) Q E s := by
  unfold eqOwn at e
  split at e
  · rename_i c ns vs
    cases e2 : P.meth c "__eq__" with
    | none => rw [e2] at e; cases e
    | some g =>
      rw [e2] at e
      dsimp only at e
      split at e
      · rename_i ht
        simp only [Bool.and_eq_true] at ht
        obtain ⟨⟨ht, fx⟩, fy⟩ := ht
        split at e
        · rename_i r' m' er
          split at e
          · rename_i hm
            have hm := dtsF_eq hm
            subst hm
            unfold Pg.meth at e2
            cases qc : P.cl[c]? with
            | none => rw [qc] at e2; cases e2
            | some cx =>
              rw [qc] at e2
              have tc := T c cx qc
              have mt := tc.meth "__eq__" g e2
              obtain ⟨p, dz, vs', ex, ga, hl, rs⟩ := id dx
              subst ex
              obtain rfl : v = Value.ref p := rx
              have ha := R.cs.fr _ _ ga
              obtain ⟨t, ht⟩ := tyD_some (F := F) ht
              obtain ⟨Pt, Z, pt, _⟩ := kit_of I ry (tyX_of hK T R.cs.fr y dy ht)
              obtain ⟨mA, J, _⟩ := ins_get I.hok ha
              obtain ⟨od, J, _⟩ := J.look
              obtain ⟨m, hF⟩ := I.fr
              unfold eqBool
              refine wpAny_holding ?_
              refine wpAny_ite_split (fun hab => ?_) (fun _ => wpAny_bind ?_)
              · -- the same object
                have hab := eq_of_beq hab
                subst hab
                have es : sameI (.ins c ns vs) y = true ∨ r' = true := by
                  cases y with
                  | ins c' ns' vs' =>
                    have evy : vy = .ref p := by
                      obtain ⟨p2, _, _, e3, _⟩ := dy
                      subst e3
                      cases (show Value.ref p = Value.ref p2 from ry)
                      rfl
                    subst evy
                    exact .inl (same_flat dx dy fx fy)
                  | _ => cases fy
                rcases es with z | z
                · rw [z] at e
                  cases r' with
                  | true => cases e; exact wpAny_pure (M := model X.prog X.w) (E := E) (h H s w I (Le.refl w) R)
                  | false => cases e
                · rw [z] at e
                  cases e
                  exact wpAny_pure (M := model X.prog X.w) (E := E) (h H s w I (Le.refl w) R)
              · have er' : r' = r := by
                  cases r' with
                  | true => cases e; rfl
                  | false =>
                    split at e
                    · rename_i z; cases z
                    · split at e
                      · cases e
                      · cases e; rfl
                subst er'
                refine PySem.W.cmp_K (op := .Eq) (tb := t) hr.in1.units0 hF I.ok.mod.kin J (Z.ty _ _ I.kIn pt) (notFirst_of tc e2 ht) mt.at_ mt.fn ?_
                have sp : spS F (cf g) eqSh ([.ref p, vy] ++ []) H (fun z H' => z = .bl r' ∧ ∃ w', Le w w' ∧ Rr F f w' τ H' S) (fun _ _ _ => False) := ⟨w, S.m, [.ins c ns vs, y], [.ins c ns vs, y], R.cs, ⟨.ref p, [vy], rfl, dx, vy, [], rfl, dy, rfl⟩, rfl, poN_of (W := fun _ _ _ _ => True) R (by rw [er]; exact fun b w' H' R' l' rel => ⟨rel, w', l', R'⟩)⟩
                refine thn (run_N (A := X.A.in1) (us := [.ref p, u]) (ws := []) (vs := [.ref p, vy]) (zs := []) (FT g 2 [] eqSh (hsh c g _ (.inl rfl) (by unfold Pg.meth; rw [qc]; exact e2))) hr.in1 hg I.env0.in1 I rfl rfl (.cons rfl (.cons ry .nil)) .nil sp) fun r0 s' hh => ?_
                obtain ⟨z, H', I', rz, ez, w', l', R'⟩ := hh
                subst ez
                refine SlX.cmpback rz ?_
                cases (show r0 = Value.bool r' from rz)
                exact wpAny_truthy_bool (h H' s' w' I' l' R')
          · cases e
        · cases e
      · cases e
  · unfold eqD at e
    split at e
    · rename_i pa pb ea eb
      split at e
      · rename_i hs
        cases e
        rw [Bool.and_eq_true] at hs
        obtain ⟨as, r1⟩ := Dp.reads I pa vx v (by rw [hK]; exact dp_of R.cs.fr _ dx ea) rx
        obtain ⟨bs, r2⟩ := Dp.reads I pb vy u (by rw [hK]; exact dp_of R.cs.fr _ dy eb) ry
        refine SeqAt.eqAt_reads pa pb X.A.in1 s v u as bs r1 r2 (SeqAt.canLay_of_shaped hs.1) (SeqAt.canLay_of_shaped hs.2) (SeqAt.room_of_shaped hs.1 hr.in1.units) _ _ _ _ (h H s w I (Le.refl w) R)
      · cases e
    · cases e
theorem lsEq_at {m : List Dt} : ∀ {as bs : List Dt} {r : Bool}, as.length = bs.length → lsEq P cf m as bs = some r → ∃ e : Nat → Bool, (List.range as.length).all e = r ∧ ∀ j, (∀ i < j, e i = true) → ∀ x y, as[j]? = some x → bs[j]? = some y → eqOwn P cf x y m = some (e j)
  | [], [], _, _, h => by cases h; exact ⟨fun _ => true, rfl, fun j _ x y h => by simp at h⟩
  | [], _ :: _, _, h, _ => by cases h
  | _ :: _, [], _, h, _ => by cases h
  | x :: xs, y :: ys, r, hl, h => by
    unfold lsEq at h
    cases q : eqOwn P cf x y m with
    | none => rw [q] at h; cases h
    | some b =>
      rw [q] at h
      cases b with
      | true =>
        obtain ⟨e, h1, h2⟩ := lsEq_at (by simpa using hl) h
        refine ⟨fun i => match i with | 0 => true | i + 1 => e i, ?_, ?_⟩
        · rw [← h1, List.length_cons, List.range_succ_eq_map, List.all_cons, List.all_map]
          rfl
        · intro j hj
          cases j with
          | zero => intro x' y' e1 e2; cases e1; cases e2; exact q
          | succ j => exact fun x' y' e1 e2 => h2 j (fun i hi => hj (i + 1) (by omega)) x' y' (by simpa using e1) (by simpa using e2)
      | false =>
        cases h
        refine ⟨fun i => match i with | 0 => false | _ + 1 => true, ?_, ?_⟩
        · rw [List.length_cons, List.range_succ_eq_map, List.all_cons]; rfl
        · intro j hj
          cases j with
          | zero => intro x' y' e1 e2; cases e1; cases e2; exact q
          | succ j => exact absurd (hj 0 (by omega)) (by simp)
theorem vals_at {vs : List V} : ∀ {us : List Value}, Vals vs us → ∀ (j : Nat) (h : j < us.length), ∃ v, vs[j]? = some v ∧ RelV v us[j] := by
  intro us r
  induction r with
  | nil => intro j h; cases h
  | cons r1 _ ih =>
    intro j h
    cases j with
    | zero => exact ⟨_, rfl, r1⟩
    | succ j => exact ih j (by simpa using h)
theorem lst_cmp {pins : List (Addr × Obj)} {σ τ : L2.St} {H : Hp} {s : Shared} {w : Wd} {S : Sto} {as bs : List Dt} {vx vy : V} {v u : Value} {r : Bool} {Q : Value → Shared → Prop} {E : Value → Shared → Prop} (hK : X.K = F.K) (T : ClsT X.K F P) (FT : FnsT X F P k cf) (hsh : EqSh P) (hr : Room (k + 1) X.A) (hg : X.A.guards = some [])
    (I : Inv X pins σ H s) (R : Rr F f w τ H S) (dx : Dn F w (.lst as) vx) (dy : Dn F w (.lst bs) vy) (rx : RelV vx v) (ry : RelV vy u) (e : (if as.length = bs.length then lsEq P cf S.m as bs else some false) = some r)
    (h : ∀ H' s' w', Inv X pins σ H' s' → Le w w' → Rr F f w' τ H' S → Q (.bool r) s') : wpAny (model X.prog X.w) X.A (richCompare .Eq v u) Q E s := by
  obtain ⟨p, vs, e1, g1, d1⟩ := dx
  obtain ⟨q, us, e2, g2, d2⟩ := dy
  subst e1; subst e2
  obtain rfl : v = Value.ref p := rx
  obtain rfl : u = Value.ref q := ry
  have read : ∀ {H' : Hp} {s' : Shared} {w' : Wd}, Inv X pins σ H' s' → Le w w' → Rr F f w' τ H' S → ∃ i1 i2 : List Value, Vals vs i1 ∧ Vals us i2 ∧ s'.heap.IsList p i1.toArray ∧ s'.heap.IsList q i2.toArray ∧ i1.length = as.length ∧ i2.length = bs.length := fun I' l' R' => by
    obtain ⟨i1, v1, p1, _⟩ := I'.list (SqL.of (R'.cs.fr _ _ (l'.g _ _ g1)))
    obtain ⟨i2, v2, p2, _⟩ := I'.list (SqL.of (R'.cs.fr _ _ (l'.g _ _ g2)))
    exact ⟨i1, i2, v1, v2, p1.isList, p2.isList, by rw [d1.length, v1.length], by rw [d2.length, v2.length]⟩
  obtain ⟨i1, i2, v1, v2, l1, l2, n1, n2⟩ := read I (Le.refl w) R
  have ta : s.TypeIs (.ref p) "list" := by obtain ⟨o, ho, hc, _⟩ := l1; exact ⟨_, ho, hc⟩
  have tb : s.TypeIs (.ref q) "list" := by obtain ⟨o, ho, hc, _⟩ := l2; exact ⟨_, ho, hc⟩
  refine wpAny_richCompare_same_room (op := .Eq) ta tb PySem.F.slot_list_eq (call_meetsIn PySem.F.slot_list_eq ta PySem.F.entry_list_eq (PySem.F.args_list_eq_2 _ _) (fun A R s h => h) ?_) hr.units0
  by_cases hl : as.length = bs.length
  · rw [if_pos hl] at e
    obtain ⟨fe, h1, h2⟩ := lsEq_at hl e
    refine list_eqG (N := as.length) (N2 := bs.length) (e := fe) (St := fun _ s' => ∃ H' w', Inv X pins σ H' s' ∧ Le w w' ∧ Rr F f w' τ H' S) l1 l2 (by simpa using n1) (by simpa using n2) (fun z => absurd hl z) fun _ => ⟨⟨H, w, I, Le.refl w, R⟩, ?_, ?_⟩
    · rintro j s' ⟨H', w', I', l', R'⟩
      obtain ⟨i1, i2, v1, v2, l1, l2, n1, n2⟩ := read I' l' R'
      refine ⟨_, _, l1, l2, by simpa using n1, by simpa [hl] using n2, fun hp h1 h3 Q E hq => ?_⟩
      have h1' : j < i1.length := by simpa using h1
      have h3' : j < i2.length := by simpa using h3
      obtain ⟨va, ea, ra⟩ := vals_at v1 j h1'
      obtain ⟨vb, eb, rb⟩ := vals_at v2 j h3'
      have ja : j < as.length := by omega
      have jb : j < bs.length := by omega
      obtain ⟨va', ea', da⟩ := d1.get (List.getElem?_eq_getElem ja)
      obtain ⟨vb', eb', db⟩ := d2.get (List.getElem?_eq_getElem jb)
      rw [ea] at ea'; cases ea'
      rw [eb] at eb'; cases eb'
      exact eqOwn_ok hK T FT hsh hr hg I' R' (Dn.mono l' _ da) (Dn.mono l' _ db) ra rb (h2 j hp _ _ (List.getElem?_eq_getElem ja) (List.getElem?_eq_getElem jb)) fun H2 s2 w2 I2 l2 R2 => hq s2 ⟨H2, w2, I2, l'.trans l2, R2⟩
    · rintro j s' ⟨H', w', I', l', R'⟩
      rw [h1]
      exact ⟨(fun x => nomatch x), h H' s' w' I' l' R'⟩
  · rw [if_neg hl] at e
    cases e
    exact list_eqG (N := as.length) (N2 := bs.length) (e := fun _ => true) (St := fun _ _ => False) l1 l2 (by simpa using n1) (by simpa using n2) (fun _ => ⟨(fun x => nomatch x), h H s w I (Le.refl w) R⟩) fun z => absurd z hl
theorem cmp1_ok (hK : X.K = F.K) (T : ClsT X.K F P) (FT : FnsT X F P k cf) (hsh : EqSh P) (hr1 : Room (k + 1) X.A) (hg : X.A.guards = some []) (op : CmpOp) : OpR X (compareOp op) (rCmp F f W (cmp1 P cf op)) := by
  intro pins s σ H x y v u Q I rx ry h
  have hr : Room k X.A := hr1.mono (by omega)
  obtain ⟨τ, w, S, a, b, R, da, db, q⟩ := h
  have plain : Po F f W τ w (okD ((cmpD op a b).map .bl) S) (Dn F) Q → wpAny (model X.prog X.w) X.A (compareOp op v u) (EP X pins σ Q) X.xe s := fun q => by
    cases e : (cmpD op a b).map Dt.bl with
    | none => rw [e] at q; exact q.elim
    | some d =>
      rw [e] at q
      exact cmpD_ok (f := f) (W := W) hK (by have := hr.un; omega) op pins s σ H x y v u Q I rx ry ⟨τ, w, S, a, b, d, R, da, db, e, q⟩
  unfold cmp1 at q
  split at q
  · rename_i c ns vs
    cases e : P.meth c "__eq__" with
    | none => rw [e] at q; exact q.elim
    | some g =>
      rw [e] at q
      dsimp only at q
      split at q
      · rename_i ht
        unfold Pg.meth at e
        cases qc : P.cl[c]? with
        | none => rw [qc] at e; cases e
        | some cx =>
          rw [qc] at e
          have tc := T c cx qc
          have mt := tc.meth "__eq__" g e
          obtain ⟨p, dx, vs', ex, ga, hl, rs⟩ := id da
          subst ex
          obtain rfl : v = Value.ref p := rx
          have ha := R.cs.fr _ _ ga
          obtain ⟨t, ht⟩ := tyD_some (F := F) ht
          obtain ⟨Pt, Z, pt, _⟩ := kit_of I ry (tyX_of hK T R.cs.fr b db ht)
          obtain ⟨mA, J, _⟩ := ins_get I.hok ha
          obtain ⟨od, J, _⟩ := J.look
          obtain ⟨m, hF⟩ := I.fr
          show wpAny (model X.prog X.w) X.A (richCompare .Eq (.ref p) u) (EP X pins σ Q) X.xe s
          refine PySem.W.cmp_K (op := .Eq) (tb := t) hr.units0 hF I.ok.mod.kin J (Z.ty _ _ I.kIn pt) (notFirst_of tc e ht) mt.at_ mt.fn ?_
          have sp : spS F (cf g) eqSh ([.ref p, y] ++ []) H Q (fun _ _ _ => False) := ⟨w, S.m, [.ins c ns vs, b], [.ins c ns vs, b], R.cs, ⟨.ref p, [y], rfl, da, y, [], rfl, db, rfl⟩, rfl, poN_of R q⟩
          refine thn (run_N (us := [.ref p, u]) (ws := []) (vs := [.ref p, y]) (zs := []) (FT g 2 [] eqSh (hsh c g _ (.inl rfl) (by unfold Pg.meth; rw [qc]; exact e))) hr hg I.env0 I rfl rfl (.cons rfl (.cons ry .nil)) .nil sp) fun r s' hh => ?_
          obtain ⟨z, H', I', rz, qz⟩ := hh
          exact SlX.cmpback rz ⟨z, H', I', rz, qz⟩
      · exact q.elim
  · rename_i c ns vs hni
    cases e : P.meth c "__eq__" with
    | none => rw [e] at q; exact q.elim
    | some g =>
      rw [e] at q
      dsimp only at q
      split at q
      · rename_i ht
        unfold Pg.meth at e
        cases qc : P.cl[c]? with
        | none => rw [qc] at e; cases e
        | some cx =>
          rw [qc] at e
          have tc := T c cx qc
          have mt := tc.meth "__eq__" g e
          obtain ⟨p, dx, vs', ex, ga, hl, rs⟩ := id db
          subst ex
          obtain rfl : u = Value.ref p := ry
          have ha := R.cs.fr _ _ ga
          obtain ⟨mA, J, _⟩ := ins_get I.hok ha
          obtain ⟨od, J, _⟩ := J.look
          have sp : spS F (cf g) eqSh ([.ref p, x] ++ []) H Q (fun _ _ _ => False) := ⟨w, S.m, [.ins c ns vs, a], [.ins c ns vs, a], R.cs, ⟨.ref p, [x], rfl, db, x, [], rfl, da, rfl⟩, rfl, poN_of R q⟩
          have fin : wpAny (model X.prog X.w) X.A (call (.ref (F.fa g)) [.ref p, v]) (PySem.W.CmpBack (EP X pins σ Q)) X.xe s := by
            refine thn (run_N (us := [.ref p, v]) (ws := []) (vs := [.ref p, x]) (zs := []) (FT g 2 [] eqSh (hsh c g _ (.inl rfl) (by unfold Pg.meth; rw [qc]; exact e))) hr hg I.env0 I rfl rfl (.cons rfl (.cons rx .nil)) .nil sp) fun r s' hh => ?_
            obtain ⟨z, H', I', rz, qz⟩ := hh
            exact SlX.cmpback rz ⟨z, H', I', rz, qz⟩
          show wpAny (model X.prog X.w) X.A (richCompare .Eq v (.ref p)) (EP X pins σ Q) X.xe s
          exact eq_back_of hr.units0 I.kIn J (dcl_of hK I R da rx ht) (fun T hT => tc.sT T (by revert hT; revert T; decide)) mt.at_ mt.fn fin
      · exact q.elim
  · rename_i c ns vs
    cases e : P.meth c "__contains__" with
    | none => rw [e] at q; exact q.elim
    | some g =>
      rw [e] at q
      dsimp only at q
      unfold Pg.meth at e
      cases qc : P.cl[c]? with
      | none => rw [qc] at e; cases e
      | some cx =>
        rw [qc] at e
        have tc := T c cx qc
        have mt := tc.meth "__contains__" g e
        obtain ⟨p, dx, vs', ex, ga, hl, rs⟩ := id db
        subst ex
        obtain rfl : u = Value.ref p := ry
        have ha := R.cs.fr _ _ ga
        obtain ⟨mA, J, _⟩ := ins_get I.hok ha
        obtain ⟨od, J, _⟩ := J.look
        obtain ⟨m, hF⟩ := I.fr
        have sp : spS F (cf g) eqSh ([.ref p, x] ++ []) H (fun z H => ∃ k, z = .bl k ∧ Q (.bl (k)) H) (fun _ _ _ => False) := ⟨w, S.m, [.ins c ns vs, a], [.ins c ns vs, a], R.cs, ⟨.ref p, [x], rfl, db, x, [], rfl, da, rfl⟩, rfl, poN_of R (po_bl q)⟩
        refine PySem.W.in_K hF I.ok.mod.kin J mt.at_ mt.fn ?_
        refine thn (run_N (us := [.ref p, v]) (ws := []) (vs := [.ref p, x]) (zs := []) (FT g 2 [] eqSh (hsh c g _ (.inr rfl) (by unfold Pg.meth; rw [qc]; exact e))) hr hg I.env0 I rfl rfl (.cons rfl (.cons rx .nil)) .nil sp) fun r s' hh => ?_
        obtain ⟨z, H', I', rz, k0, ez, qz⟩ := hh
        subst ez
        cases (show r = Value.bool k0 from rz)
        exact wpAny_truthy_bool ⟨.bl k0, H', I', rfl, qz⟩
  · rename_i c ns vs
    cases e : P.meth c "__contains__" with
    | none => rw [e] at q; exact q.elim
    | some g =>
      rw [e] at q
      dsimp only at q
      unfold Pg.meth at e
      cases qc : P.cl[c]? with
      | none => rw [qc] at e; cases e
      | some cx =>
        rw [qc] at e
        have tc := T c cx qc
        have mt := tc.meth "__contains__" g e
        obtain ⟨p, dx, vs', ex, ga, hl, rs⟩ := id db
        subst ex
        obtain rfl : u = Value.ref p := ry
        have ha := R.cs.fr _ _ ga
        obtain ⟨mA, J, _⟩ := ins_get I.hok ha
        obtain ⟨od, J, _⟩ := J.look
        obtain ⟨m, hF⟩ := I.fr
        have sp : spS F (cf g) eqSh ([.ref p, x] ++ []) H (fun z H => ∃ k, z = .bl k ∧ Q (.bl (!k)) H) (fun _ _ _ => False) := ⟨w, S.m, [.ins c ns vs, a], [.ins c ns vs, a], R.cs, ⟨.ref p, [x], rfl, db, x, [], rfl, da, rfl⟩, rfl, poN_of R (po_neg q)⟩
        refine PySem.W.notIn_K hF I.ok.mod.kin J mt.at_ mt.fn ?_
        refine thn (run_N (us := [.ref p, v]) (ws := []) (vs := [.ref p, x]) (zs := []) (FT g 2 [] eqSh (hsh c g _ (.inr rfl) (by unfold Pg.meth; rw [qc]; exact e))) hr hg I.env0 I rfl rfl (.cons rfl (.cons rx .nil)) .nil sp) fun r s' hh => ?_
        obtain ⟨z, H', I', rz, k0, ez, qz⟩ := hh
        subst ez
        cases (show r = Value.bool k0 from rz)
        exact wpAny_truthy_bool ⟨.bl (!k0), H', I', rfl, qz⟩
  · rename_i as bs
    unfold lstEq at q
    cases e : eqD (.lst as) (.lst bs) with
    | some b =>
      rw [e] at q
      refine plain ?_
      show Po F f W τ w (okD ((eqD (.lst as) (.lst bs)).map .bl) S) (Dn F) Q
      rw [e]
      exact q
    | none =>
      rw [e] at q
      dsimp only at q
      cases e2 : (if as.length = bs.length then lsEq P cf S.m as bs else some false) with
      | none => rw [e2] at q; exact q.elim
      | some r =>
        rw [e2] at q
        exact lst_cmp hK T FT hsh hr1 hg I R da db rx ry e2 fun H' s' w' I' l' R' => ⟨.bl r, H', I', rfl, q _ _ _ R' l' rfl⟩
  · exact plain q
theorem se_cmp1 {op : CmpOp} (ho : OpR X (compareOp op) (rCmp F f W (cmp1 P cf op))) (hm : behindInMarks op b = false) (ha : PE X a (RE F f W ma)) (hb : PE X b (RE F f W mb)) :
    PE X (.Compare a [op] [b] pos) (RE F f W fun S => (ma S).bind fun x S1 => (mb S1).bind fun y S2 => cmp1 P cf op x y S2) ∧
    PT X (.Compare a [op] [b] pos) (RB F f W fun S => (ma S).bind fun x S1 => (mb S1).bind fun y S2 => cmp1 P cf op x y S2) := by
  constructor
  · refine peImp (pe_cmpR ho ha hb hm) fun σ H Q ⟨w, S, R, h⟩ => ?_
    refine Rd1.go R h fun d1 x w1 H1 S1 _ R1 l1 r1 h1 => ?_
    refine Rd1.go R1 h1 fun d2 y w2 H2 S2 _ R2 l2 r2 h2 => ?_
    exact ⟨σ, w2, S2, d1, d2, R2, Dn.mono l2 d1 r1, r2, h2⟩
  · refine ptImp (pt_cmpR ho ha hb hm) fun σ H Q ⟨w, S, R, h⟩ => ?_
    have h := h.tst
    refine Rd1.go R h fun d1 x w1 H1 S1 _ R1 l1 r1 h1 => ?_
    refine Rd1.go R1 h1 fun d2 y w2 H2 S2 _ R2 l2 r2 h2 => ?_
    exact ⟨σ, w2, S2, d1, d2, R2, Dn.mono l2 d1 r1, r2, h2⟩
/-! ### operators, own ones among them -/
def OpSh (P : Pg) : Prop := ∀ op c g, (opMeth op).bind (P.meth c) = some g → P.shf g 2 [] = some eqSh
theorem opMeth_is {op : Operator} {nm : Str} (h : opMeth op = some nm) : nm = PySem.dunder op.info.2 := by
  cases op <;> cases h <;> decide +kernel
theorem op1_own {pins : List (Addr × Obj)} {σ τ : L2.St} {H : Hp} {s : Shared} {w : Wd} {S : Sto} {c g : Nat} {cx : ClD} {ns : List Str} {vs : List Dt} {b : Dt} {x y : V} {v u : Value} {op : Operator} {Q : VK} {f0 : Fm} (hK : X.K = F.K) (T : ClsT X.K F P) (FT : FnsT X F P k cf) (hr : Room k X.A) (hg : X.A.guards = some []) (tk : Takes X W)
    (hsh : OpSh P) (I : Inv X pins σ H s) (R : Rr F f w σ H S) (da : Dn F w (.ins c ns vs) x) (db : Dn F w b y) (rx : RelV x v) (ry : RelV y u) (qc : P.cl[c]? = some cx) (e : (opMeth op).bind (cx.meth.lookup ·) = some g) (hto : typedO P op c b = true)
    (q : Po F f W σ w (upR (cf g [.ins c ns vs, b] S.m) S) (Dn F) Q) : ∃ p dx od, v = Value.ref p ∧ PySem.W.InstAt s.heap p (PySem.W.instObj (F.ca c) dx) (F.ca c) (some od) ∧ noInB X.K (F.ca c) op.info.2 = true ∧ Op1 X.prog X.w X.A X.xe s op.info.2 v u (EP X pins σ Q) := by
  have tc := T c cx qc
  have of := tc.ops op g e
  have e0 := e
  obtain ⟨nm, e1, e2⟩ := Option.bind_eq_some_iff.mp e
  have hn := opMeth_is e1
  subst hn
  have mt := tc.meth _ g e2
  obtain ⟨p, dx, vs', ex, ga, hl, rs⟩ := id da
  subst ex
  obtain rfl : v = Value.ref p := rx
  have ha := R.cs.fr _ _ ga
  obtain ⟨t, ht⟩ := tyD_some (F := F) (typedO_typed hto)
  obtain ⟨Pt, Z, pt, _⟩ := kit_of I ry (tyX_of hK T R.cs.fr b db ht)
  obtain ⟨mA, J, _⟩ := ins_get I.hok ha
  obtain ⟨od, J, _⟩ := J.look
  refine ⟨p, dx, od, rfl, J, of.inp, ?_⟩
  have sp : spS F (cf g) eqSh ([.ref p, y] ++ []) H Q (WE W σ) := ⟨w, S.m, [.ins c ns vs, b], [.ins c ns vs, b], R.cs, ⟨.ref p, [y], rfl, da, y, [], rfl, db, rfl⟩, rfl, poC_of R q⟩
  have fin : wpAny (model X.prog X.w) X.A (call (.ref (F.fa g)) [.ref p, u]) (PySem.W.CmpBack (EP X pins σ Q)) X.xe s := by
    refine thn (run_G (us := [.ref p, u]) (ws := []) (vs := [.ref p, y]) (zs := []) (FT g 2 [] eqSh (hsh op c g (by unfold Pg.meth; rw [qc]; exact e0))) hr hg tk I rfl rfl (.cons rfl (.cons ry .nil)) .nil sp) fun r s' hh => ?_
    obtain ⟨z, H', I', rz, qz⟩ := hh
    exact SlX.cmpback rz ⟨z, H', I', rz, qz⟩
  have zt : PySem.W.Looks (model X.prog X.w) s.heap (typeOf u) t := Z.ty _ _ I.kIn pt
  obtain ⟨rc, hrc, hp⟩ := of.refl
  have ty : ∀ T0 : String, T0 ∈ bTys → t = .type T0 → Op1 X.prog X.w X.A X.xe s op.info.2 (.ref p) u (EP X pins σ Q) := fun T0 h1 h2 => by
    subst h2
    obtain ⟨⟨fo, t1⟩, ⟨ro, t2⟩, t3⟩ := of.ty T0 h1
    exact op1_ty I.kIn J zt of.first mt.at_ mt.fn hrc hp t1 t2 t3 fin
  cases b with
  | non => cases ht; exact ty "NoneType" (by decide) rfl
  | bl _ => cases ht; exact ty "bool" (by decide) rfl
  | int _ => cases ht; exact ty "int" (by decide) rfl
  | str _ => cases ht; exact ty "str" (by decide) rfl
  | lst _ => cases ht; exact ty "list" (by decide) rfl
  | tup _ => cases ht; exact ty "tuple" (by decide) rfl
  | ins c' _ _ =>
    cases q2 : P.cl[c']? with
    | none => simp only [tyD, q2] at ht; cases ht
    | some x' =>
      simp only [tyD, q2] at ht
      cases ht
      have hc : c' = c ∨ noOpM x' op = true := by
        simp only [typedO, q2, Bool.or_eq_true, decide_eq_true_eq] at hto
        exact hto
      rcases of.cl c' x' q2 with z | z | ⟨z1, z2⟩
      · rw [z] at zt
        exact op1_same I.kIn J zt of.first mt.at_ mt.fn fin
      · rcases hc with hc | hc
        · subst hc
          exact op1_same I.kIn J zt of.first mt.at_ mt.fn fin
        · rw [z] at hc
          cases hc
      · exact op1_other I.kIn J zt z1 of.first mt.at_ mt.fn z2 fin
  | dct _ _ => cases ht
  | cel _ => cases ht
  | cls _ => cases ht
  | ty _ => cases ht
  | scr _ => cases ht
theorem bin1_own {op : Operator} {a b : Dt} {S : Sto} {σ : L2.St} {w : Wd} {Q : VK} (q : Po F f W σ w (bin1 P cf op a b S) (Dn F) Q) : (∃ c ns vs cx g, a = .ins c ns vs ∧ P.cl[c]? = some cx ∧ (opMeth op).bind (cx.meth.lookup ·) = some g ∧ typedO P op c b = true ∧ Po F f W σ w (upR (cf g [.ins c ns vs, b] S.m) S) (Dn F) Q) ∨ ((∀ c ns vs, a ≠ .ins c ns vs) ∧ ∃ d, opD op a b = some d ∧ Po F f W σ w (.ok d S) (Dn F) Q) := by
  unfold bin1 at q
  split at q
  · rename_i c ns vs
    left
    cases e : (opMeth op).bind (P.meth c) with
    | none => rw [e] at q; exact q.elim
    | some g =>
      rw [e] at q
      dsimp only at q
      split at q
      · rename_i ht
        obtain ⟨nm, e1, e2⟩ := Option.bind_eq_some_iff.mp e
        unfold Pg.meth at e2
        cases qc : P.cl[c]? with
        | none => rw [qc] at e2; cases e2
        | some cx =>
          rw [qc] at e2
          exact ⟨c, ns, vs, cx, g, rfl, qc, by rw [e1]; exact e2, ht, q⟩
      · exact q.elim
  · rename_i hne
    right
    refine ⟨fun c ns vs e => hne c ns vs e, ?_⟩
    cases e : opD op a b with
    | none => rw [e] at q; exact q.elim
    | some d => rw [e] at q; exact ⟨d, rfl, q⟩
theorem se_bin1 {op : Operator} (hK : X.K = F.K) (T : ClsT X.K F P) (FT : FnsT X F P k cf) (hr : Room k X.A) (hg : X.A.guards = some []) (tk : Takes X W) (hsh : OpSh P) (ha : PE X a (RE F f W ma)) (hb : PE X b (RE F f W mb)) :
    PE X (.BinOp a op b pos) (RE F f W fun S => (ma S).bind fun x S1 => (mb S1).bind fun y S2 => bin1 P cf op x y S2) := by
  refine ⟨fun pins s σ H Q I h => ?_⟩
  obtain ⟨w, S, R, h⟩ := h
  refine wpAny_BinOp (binT (R := fun x y H2 => ∃ w S a b, Rr F f w σ H2 S ∧ Dn F w a x ∧ Dn F w b y ∧ Po F f W σ w (bin1 P cf op a b S) (Dn F) Q) ha hb I ?_ fun v u s2 x y H2 I2 rx ry q => ?_)
  · refine Rd1.go R h fun d1 x w1 H1 S1 _ R1 l1 r1 h1 => ?_
    refine Rd1.go R1 h1 fun d2 y w2 H2 S2 _ R2 l2 r2 h2 => ?_
    exact ⟨w2, S2, d1, d2, R2, Dn.mono l2 d1 r1, r2, h2⟩
  · obtain ⟨w2, S2, a2, b2, R2, da, db, q⟩ := q
    rcases bin1_own q with ⟨c, ns, vs, cx, g, rfl, qc, e, ht, q⟩ | ⟨_, d, e, q⟩
    · obtain ⟨p, dx, od, _, _, _, z⟩ := op1_own (f0 := f) (τ := σ) hK T FT hr hg tk hsh I2 R2 da db rx ry qc e ht q
      exact bin_of z
    · exact opD_ok (f := f) (W := W) hK op pins s2 σ H2 x y v u Q I2 rx ry ⟨σ, w2, S2, a2, b2, d, R2, da, db, e, q⟩
end
end PyI
namespace PyI
open PySem PySem.Spec PyProof.Rows L2
/-! ### built-ins -/
def biN : Bi → Str
  | .len => "len" | .abs => "abs" | .max => "max" | .min => "min" | .int => "int" | .str => "str" | .repr => "repr" | .all => "all" | .divmod => "divmod" | .list => "list" | .tuple => "tuple"
def biV : Bi → Value
  | .len => .builtin "len" | .abs => .builtin "abs" | .max => .builtin "max" | .min => .builtin "min" | .int => .type "int" | .str => .type "str" | .repr => .builtin "repr" | .all => .builtin "all" | .divmod => .builtin "divmod" | .list => .type "list" | .tuple => .type "tuple"
theorem bools_dn {F : Fx} {w : Wd} : ∀ {ds : List Dt} {vs : List V} {bs : List Bool}, Dns F w ds vs → boolsD ds = some bs → vs = bs.map V.bl
  | [], _, _, h, e => by cases h; cases e; rfl
  | d :: ds, _, bs, ⟨v, r, e1, h, t⟩, e => by
    subst e1
    cases d with
    | bl b =>
      cases h
      simp only [boolsD] at e
      cases q : boolsD ds with
      | none => rw [q] at e; cases e
      | some cs =>
        rw [q] at e
        cases e
        rw [bools_dn t q]
        rfl
    | _ => cases e
mutual
theorem noDict_py : ∀ (d : Dt) {x : PyData}, toPy d = some x → x.hasDict = false
  | .non, _, e | .bl _, _, e | .int _, _, e | .str _, _, e => by cases e; rfl
  | .lst ds, x, e => by
    simp only [toPy] at e
    cases q : toPys ds with
    | none => rw [q] at e; cases e
    | some ps => rw [q] at e; cases e; simpa [PyData.hasDict] using noDict_pys ds q
  | .tup ds, x, e => by
    simp only [toPy] at e
    cases q : toPys ds with
    | none => rw [q] at e; cases e
    | some ps => rw [q] at e; cases e; simpa [PyData.hasDict] using noDict_pys ds q
  | .dct _ _, _, e | .ins _ _ _, _, e | .cel _, _, e | .cls _, _, e | .ty _, _, e | .scr _, _, e => by cases e
theorem noDict_pys : ∀ (ds : List Dt) {xs : List PyData}, toPys ds = some xs → PyData.hasDictAll xs = false
  | [], _, e => by cases e; rfl
  | d :: ds, xs, e => by
    simp only [toPys] at e
    cases q : toPy d with
    | none => rw [q] at e; cases e
    | some x =>
      cases q2 : toPys ds with
      | none => rw [q, q2] at e; cases e
      | some ys =>
        rw [q, q2] at e
        cases e
        simp [PyData.hasDictAll, noDict_py d q, noDict_pys ds q2]
end
section
variable {X : Cx} {F : Fx} {f : Fm} {W : WX} {P : Pg} {k : Nat} {cf : Nat → List Dt → List Dt → Rc}
def rBi (F : Fx) (f : Fm) (W : WX) (g : List Dt → Sto → Rs Dt) : List V → Hp → VK → Prop := fun vs H Q => ∃ σ w S ds, Rr F f w σ H S ∧ Dns F w ds vs ∧ Po F f W σ w (g ds S) (Dn F) Q
theorem one_dn {w : Wd} {d : Dt} {vs : List V} (h : Dns F w [d] vs) : ∃ v, vs = [v] ∧ Dn F w d v := by
  obtain ⟨v, r, e, h1, h2⟩ := h
  cases h2
  exact ⟨v, e, h1⟩
theorem two_dn {w : Wd} {d e : Dt} {vs : List V} (h : Dns F w [d, e] vs) : ∃ v u, vs = [v, u] ∧ Dn F w d v ∧ Dn F w e u := by
  obtain ⟨v, r, e1, h1, u, r2, e2, h2, h3⟩ := h
  cases h3
  subst e2
  exact ⟨v, u, e1, h1, h2⟩
theorem biD_ok (hK : X.K = F.K) (hc : X.calm = true) (hr : Room k X.A) (hg : X.A.guards = some []) (b : Bi) : CallR X (biV b) (rBi F f W fun ds S => okD (biD b ds) S) := by
  intro pins s σ H xs us Q I r h
  obtain ⟨τ, w, S, ds, R, rd, q⟩ := h
  dsimp only at q
  cases e : biD b ds with
  | none => rw [e] at q; exact q.elim
  | some d =>
    rw [e] at q
    have q : Po F f W τ w (.ok d S) (Dn F) Q := q
    unfold biD at e
    split at e
    · rename_i x
      split at e
      · rename_i hl
        cases e
        obtain ⟨v, rfl, h1⟩ := one_dn rd
        exact call_len pins s σ H _ us Q I r ⟨v, x.length, rfl, by cases h1; exact ⟨hl, rfl⟩, q.ok R rfl⟩
      · cases e
    · cases e
      obtain ⟨v, rfl, h1⟩ := one_dn rd
      obtain ⟨a, vs, rfl, g1, r1⟩ := h1
      exact call_len_seq pins s σ H _ us Q I r ⟨a, vs, rfl, .inl (SqL.of (R.cs.fr _ _ g1)), q.ok R (by rw [← r1.length]; rfl)⟩
    · cases e
      obtain ⟨v, rfl, h1⟩ := one_dn rd
      obtain ⟨a, vs, rfl, g1, r1⟩ := h1
      exact call_len_seq pins s σ H _ us Q I r ⟨a, vs, rfl, .inr (by rw [hK]; exact sqT_mono R.cs.fr g1), q.ok R (by rw [← r1.length]; rfl)⟩
    · cases e
      obtain ⟨v, rfl, h1⟩ := one_dn rd
      obtain ⟨a, rfl, g1⟩ := h1
      exact call_len_seq pins s σ H _ us Q I r ⟨a, _, rfl, .inl (by rw [hK]; exact sqL_mono R.cs.fr g1), q.ok R (by rw [List.length_map]; rfl)⟩
    · cases e
      obtain ⟨v, rfl, h1⟩ := one_dn rd
      cases h1
      exact call_abs pins s σ H _ us Q I r ⟨_, rfl, q.ok R rfl⟩
    · cases e
      obtain ⟨v, u, rfl, h1, h2⟩ := two_dn rd
      cases h1
      cases h2
      exact call_max2 hc pins s σ H _ us Q I r ⟨_, _, rfl, q.ok R rfl⟩
    · cases e
      obtain ⟨v, u, rfl, h1, h2⟩ := two_dn rd
      cases h1
      cases h2
      exact call_min2 hc pins s σ H _ us Q I r ⟨_, _, rfl, q.ok R rfl⟩
    · cases e
      obtain ⟨v, rfl, h1⟩ := one_dn rd
      cases h1
      exact call_int1 pins s σ H _ us Q I r (.inl ⟨_, rfl, q.ok R rfl⟩)
    · rename_i x
      split at e
      · rename_i hl
        obtain ⟨v, rfl, h1⟩ := one_dn rd
        cases h1
        cases e2 : PySem.intText? x with
        | none => rw [e2] at e; cases e
        | some n =>
          rw [e2] at e
          cases e
          exact call_int_str pins s σ H _ us Q I r ⟨x, n, rfl, e2, hl, q.ok R rfl⟩
      · cases e
    · split at e
      · rename_i hl
        cases e
        obtain ⟨v, rfl, h1⟩ := one_dn rd
        cases h1
        exact call_str_int pins s σ H _ us Q I r ⟨_, rfl, hl, q.ok R rfl⟩
      · cases e
    · rename_i a
      split at e
      · rename_i x ea
        split at e
        · rename_i hs
          cases e
          rw [Bool.and_eq_true, Bool.and_eq_true] at hs
          obtain ⟨⟨s1, s2⟩, s3⟩ := hs
          obtain ⟨v, rfl, h1⟩ := one_dn rd
          obtain ⟨u, rfl, ru⟩ := vals1 r
          have dp : Dp X.K H v x := by rw [hK]; exact dp_of R.cs.fr a h1 ea
          have s2 := of_decide_eq_true s2
          have s3 := of_decide_eq_true s3
          have hun := hr.un
          have fin : ∀ tk, ∃ v' H', Inv X pins σ H' { s with toks := tk } ∧ Q v' H' ∧ v' = .str x.shown := fun tk => ⟨.str x.shown, H, I.tok tk, q.ok R rfl, rfl⟩
          have rf : ∀ (p : Addr) (as : List Addr), Reads s.heap (.ref p) x as → x.hasDict = false → wpAny (model X.prog X.w) X.A (PySem.call (.builtin "repr") [.ref p]) (EP X pins σ Q) X.xe s := fun p as rd hd =>
            repr_of_reads' rd s1 (PyData.noDict_hsm hd) hg (by omega) (fun _ _ z => z) (fun h' u tk hk => ⟨.str x.shown, H, I.kept (t' := tk) hk, ⟨_, rfl⟩, q.ok R rfl⟩) s2
          obtain ⟨as, rds⟩ := Dp.reads I x v u dp ru
          cases dp with
          | non =>
            cases ru
            exact PySem.P.repr_of_none ⟨.str _, H, I.tok _, ⟨_, rfl⟩, q.ok R rfl⟩
          | bl b =>
            cases ru
            exact PySem.P.repr_of_bool ⟨.str _, H, I.tok _, ⟨_, rfl⟩, q.ok R (by cases b <;> rfl)⟩
          | int i =>
            obtain ⟨t, rfl⟩ := ru
            exact PySem.P.repr_of_int (by simpa [PyData.showable] using s1) ⟨.str _, H, I.tok _, ⟨_, rfl⟩, q.ok R rfl⟩
          | str x =>
            obtain ⟨t, rfl⟩ := ru
            exact PySem.P.repr_of_str ⟨.str _, H, I.tok _, ⟨_, rfl⟩, q.ok R rfl⟩ s2
          | lst _ _ =>
            cases ru
            exact rf _ _ rds (noDict_py a ea)
          | tup _ _ =>
            cases ru
            exact rf _ _ rds (noDict_py a ea)
        · cases e
      · cases e
    · rename_i ds'
      obtain ⟨v, rfl, h1⟩ := one_dn rd
      obtain ⟨a, vs, rfl, g1, r1⟩ := h1
      cases e2 : boolsD ds' with
      | none => rw [e2] at e; cases e
      | some bs =>
        rw [e2] at e
        cases e
        have ev := bools_dn r1 e2
        subst ev
        exact cr_all hc pins s σ H _ us Q I r ⟨a, bs, rfl, SqL.of (R.cs.fr _ _ g1), q.ok R rfl⟩
    · split at e
      · rename_i hl
        cases e
        obtain ⟨v, u, rfl, h1, h2⟩ := two_dn rd
        cases h1
        cases h2
        exact call_divmod pins s σ H _ us Q I r ⟨_, _, rfl, hl, fun p hp => q.new R hp ⟨p, _, rfl, SqT.of upd_same, _, _, rfl, rfl, _, _, rfl, rfl, rfl⟩⟩
      · cases e
    · cases e
      obtain ⟨v, rfl, h1⟩ := one_dn rd
      obtain ⟨a, vs, rfl, g1, r1⟩ := h1
      exact call_list_of pins s σ H _ us Q I r ⟨a, vs, rfl, .inl (SqL.of (R.cs.fr _ _ g1)), fun p hp => q.new R hp ⟨p, vs, rfl, upd_same, Dns.mono (R.alloc (o := .lst vs) hp).2 _ r1⟩⟩
    · cases e
      obtain ⟨v, rfl, h1⟩ := one_dn rd
      obtain ⟨a, vs, rfl, g1, r1⟩ := h1
      exact call_list_of pins s σ H _ us Q I r ⟨a, vs, rfl, .inr (by rw [hK]; exact sqT_mono R.cs.fr g1), fun p hp => q.new R hp ⟨p, vs, rfl, upd_same, Dns.mono (R.alloc (o := .lst vs) hp).2 _ r1⟩⟩
    · cases e
      obtain ⟨v, rfl, h1⟩ := one_dn rd
      obtain ⟨a, vs, rfl, g1, r1⟩ := h1
      cases r with
      | cons r rr =>
        cases rr
        exact rl_tuple pins s σ H _ _ Q I r (.inl ⟨a, vs, rfl, SqL.of (R.cs.fr _ _ g1), fun p hp => q.new R hp ⟨p, vs, rfl, SqT.of upd_same, Dns.mono (R.alloc (o := .tup vs) hp).2 _ r1⟩⟩)
    · cases e
theorem meth_at {c g : Nat} {m : Str} (T : ClsT X.K F P) (e : P.meth c m = some g) : ∃ cx, ClT X.K F P c cx ∧ Meth X.K (F.ca c) m (F.fa g) := by
  unfold Pg.meth at e
  cases q : P.cl[c]? with
  | none => rw [q] at e; cases e
  | some cx =>
    rw [q] at e
    exact ⟨cx, T c cx q, (T c cx q).meth m g e⟩
theorem po_str {r : Rc} {S : Sto} {σ : L2.St} {w : Wd} {Q : VK} (h : Po F f W σ w ((upN r S).bind strB) (Dn F) Q) : ∃ y, Po F f W σ w (upN r S) (Dn F) (fun v H' => v = .str y ∧ Q v H') := by
  cases e : upN r S with
  | ok d S' =>
    rw [e] at h
    cases d with
    | str y => exact ⟨y, fun v w' H' R l dn => ⟨dn, h v w' H' R l dn⟩⟩
    | _ => exact (h : False).elim
  | ex _ _ _ _ =>
    cases r with
    | ok b m => cases b <;> cases e
    | ex _ _ _ _ => cases e
    | bad => cases e
  | bad => rw [e] at h; exact (h : False).elim
theorem po_len {r : Rc} {S : Sto} {σ : L2.St} {w : Wd} {Q : VK} (h : Po F f W σ w ((upN r S).bind lenB') (Dn F) Q) : ∃ n : Int, (0 ≤ n ∧ n < 2 ^ 63) ∧ Po F f W σ w (upN r S) (Dn F) (fun v H' => v = .int n ∧ Q v H') := by
  cases e : upN r S with
  | ok d S' =>
    rw [e] at h
    cases d with
    | int n =>
      have h : Po F f W σ w (if 0 ≤ n ∧ n < 2 ^ 63 then .ok (.int n) S' else .bad) (Dn F) Q := h
      split at h
      · rename_i hn
        exact ⟨n, hn, fun v w' H' R l dn => ⟨dn, h v w' H' R l dn⟩⟩
      · exact h.elim
    | _ => exact (h : False).elim
  | ex _ _ _ _ =>
    cases r with
    | ok b m => cases b <;> cases e
    | ex _ _ _ _ => cases e
    | bad => cases e
  | bad => rw [e] at h; exact (h : False).elim
theorem bi1_ok (hK : X.K = F.K) (T : ClsT X.K F P) (FT : FnsT X F P k cf) (hsh : ∀ c g m, (m = ("__len__" : Str) ∨ m = ("__str__" : Str) ∨ m = ("__repr__" : Str)) → P.meth c m = some g → P.shf g 1 [] = some selfSh) (hc : X.calm = true) (hr : Room (k + 2) X.A) (hg : X.A.guards = some []) (b : Bi) :
    CallR X (biV b) (rBi F f W (bi1 P cf b)) := by
  intro pins s σ H xs us Q I r h
  obtain ⟨τ, w, S, ds, R, rd, q⟩ := h
  unfold bi1 at q
  have hr1 : Room (k + 1) X.A.in1 := hr.in1
  have hr2 : Room k X.A.in1.in1 := hr1.in1
  have go : ∀ {c g : Nat} {ns : List Str} {vs : List Dt} {m : Str} {Q' : VK} {p : Addr} {A : Around}, Room k A → A.guards = some [] → Env0 X.prog X.w X.K X.mg X.base A X.stack s H → (m = ("__len__" : Str) ∨ m = ("__str__" : Str) ∨ m = ("__repr__" : Str)) → P.meth c m = some g → Dn F w (.ins c ns vs) (.ref p) →
      Po F f W τ w (upN (cf g [.ins c ns vs] S.m) S) (Dn F) Q' → wpAny (model X.prog X.w) A (PySem.call (.ref (F.fa g)) [.ref p]) (EP X pins σ Q') X.xe s := by
    intro c g ns vs m Q' p A h1 h2 h3 hm e dn h
    exact run_N (us := [.ref p]) (ws := []) (vs := [.ref p]) (zs := []) (FT g 1 [] selfSh (hsh c g m hm e)) h1 h2 h3 I rfl rfl (.cons rfl .nil) .nil ⟨w, S.m, [.ins c ns vs], [.ins c ns vs], R.cs, ⟨.ref p, [], rfl, dn, rfl⟩, rfl, poN_of R h⟩
  split at q
  · rename_i c ns vs
    obtain ⟨v, rfl, dn⟩ := one_dn rd
    obtain ⟨u, rfl, ru⟩ := vals1 r
    obtain ⟨p, dx, vs', ex, ga, hl, rs⟩ := id dn
    subst ex
    obtain rfl : u = Value.ref p := ru
    cases e : P.meth c "__len__" with
    | none => rw [e] at q; exact q.elim
    | some g =>
      rw [e] at q
      obtain ⟨n, hn, q⟩ := po_len q
      obtain ⟨cx, tc, mt⟩ := meth_at T e
      obtain ⟨mA, J, _⟩ := ins_get I.hok (R.cs.fr _ _ ga)
      obtain ⟨od, J, _⟩ := J.look
      obtain ⟨m, hF⟩ := I.fr
      refine PySem.W.len_K hF I.ok.mod.kin J mt.at_ mt.fn (thn (go (hr1.mono (Nat.le_succ k)) hg I.env0.in1 (.inl rfl) e dn q) fun z s' hh => ?_)
      obtain ⟨v, H', I', rv, rfl, qv⟩ := hh
      obtain ⟨t, rfl⟩ := rv
      exact ⟨hn, .int n, H', I'.tok _, ⟨_, rfl⟩, qv⟩
  · rename_i c ns vs
    obtain ⟨v, rfl, dn⟩ := one_dn rd
    obtain ⟨u, rfl, ru⟩ := vals1 r
    obtain ⟨p, dx, vs', ex, ga, hl, rs⟩ := id dn
    subst ex
    obtain rfl : u = Value.ref p := ru
    cases e : P.meth c "__str__" with
    | none => rw [e] at q; exact q.elim
    | some g =>
      rw [e] at q
      obtain ⟨y, q⟩ := po_str q
      obtain ⟨cx, tc, mt⟩ := meth_at T e
      obtain ⟨mA, J, _⟩ := ins_get I.hok (R.cs.fr _ _ ga)
      obtain ⟨od, J, _⟩ := J.look
      refine PySem.W.kso_call hr2.units0 I.kIn J mt.at_ mt.fn (thn (go hr2 hg I.env0.in1.in1 (.inr (.inl rfl)) e dn q) fun z s' hh => ?_)
      obtain ⟨v, H', I', rv, rfl, qv⟩ := hh
      obtain ⟨t, rfl⟩ := rv
      exact ⟨.str y, H', I', ⟨t, rfl⟩, qv⟩
  · rename_i c ns vs
    obtain ⟨v, rfl, dn⟩ := one_dn rd
    obtain ⟨u, rfl, ru⟩ := vals1 r
    obtain ⟨p, dx, vs', ex, ga, hl, rs⟩ := id dn
    subst ex
    obtain rfl : u = Value.ref p := ru
    cases e : P.meth c "__repr__" with
    | none => rw [e] at q; exact q.elim
    | some g =>
      rw [e] at q
      obtain ⟨y, q⟩ := po_str q
      obtain ⟨cx, tc, mt⟩ := meth_at T e
      obtain ⟨mA, J, _⟩ := ins_get I.hok (R.cs.fr _ _ ga)
      obtain ⟨od, J, _⟩ := J.look
      obtain ⟨m, hF⟩ := I.fr
      refine PySem.W.repr_K hr1.units0 hF I.ok.mod.kin J mt.at_ mt.fn (thn (go (hr1.mono (Nat.le_succ k)) hg I.env0.in1 (.inr (.inr rfl)) e dn q) fun z s' hh => ?_)
      obtain ⟨v, H', I', rv, rfl, qv⟩ := hh
      obtain ⟨t, rfl⟩ := rv
      exact ⟨.str y, H', I', ⟨t, rfl⟩, qv⟩
  · exact biD_ok (f := f) (W := W) hK hc hr hg b pins s σ H xs us Q I r ⟨τ, w, S, ds, R, rd, q⟩
/-- b(e, ..), a built-in -/
theorem se_bi {b : Bi} {e : Expr} {es : List Expr} {ms : Sto → Rs (List Dt)} {p pos : Pos} (ho : CallR X (biV b) (rBi F f W (bi1 P cf b))) (hgl : Gl X (biN b)) (hm : X.mg (biN b) = none) (hp : plainEs (e :: es) = true) (ha : PA X (e :: es) (REs F f W ms)) :
    PE X (.Call (.Name (biN b) p) (e :: es) [] pos) (RE F f W fun S => (ms S).bind fun ds S1 => bi1 P cf b ds S1) := by
  have h : PE X (.Call (.Name (biN b) p) (e :: es) [] pos) (tCB (rBi F f W (bi1 P cf b)) (REs F f W ms)) := by
    have s1 := star_cons (env := X.env) hp
    have s2 := star_any (env := X.env) (pos := pos) (plain_tail hp)
    cases b with
    | len => exact pe_callB ho hgl hm PySem.boot_len ha (by decide) (by decide) s1 s2
    | abs => exact pe_callB ho hgl hm boot_abs ha (by decide) (by decide) s1 s2
    | max => exact pe_callB ho hgl hm boot_max ha (by decide) (by decide) s1 s2
    | min => exact pe_callB ho hgl hm boot_min ha (by decide) (by decide) s1 s2
    | int => exact pe_callTy ho hgl hm boot_int ha (by decide) (by decide) s1 s2
    | str => exact pe_callTy ho hgl hm boot_str ha (by decide) (by decide) s1 s2
    | repr => exact pe_callB ho hgl hm boot_repr ha (by decide) (by decide) s1 s2
    | all => exact pe_callB ho hgl hm boot_all ha (by decide) (by decide) s1 s2
    | divmod => exact pe_callB ho hgl hm boot_divmod ha (by decide) (by decide) s1 s2
    | list => exact pe_callTy ho hgl hm boot_list ha (by decide) (by decide) s1 s2
    | tuple => exact pe_callTy ho hgl hm boot_tuple ha (by decide) (by decide) s1 s2
  refine peImp h fun σ H Q ⟨w, S, R, h⟩ => ?_
  exact Rd1.go R h fun ds xs w1 H1 S1 _ R1 l1 r1 h1 => ⟨σ, w1, S1, ds, R1, r1, h1⟩
/-! ### texts -/
theorem strs_dn (w : Wd) : ∀ ys : List Str, Dns F w (ys.map .str) (ys.map V.str)
  | [] => rfl
  | y :: ys => ⟨.str y, ys.map V.str, rfl, rfl, strs_dn w ys⟩
variable {a b : Expr} {pos p apos : Pos} {ma mb : Sto → Rs Dt}
theorem se_fms (ha : PE X a (RE F f W ma)) : PE X (.FormattedValue a (-1) none pos) (RE F f W fun S => (ma S).bind fun x S1 => match x with
    | .str y => if y.length ≤ sizeLine then .ok (.str y) S1 else .bad
    | .int i => if i.natAbs.log2 < 1920 then .ok (.str (toString i)) S1 else .bad
    | _ => .bad) := by
  refine peImp (pe_fmt ha) fun σ H Q ⟨w, S, R, h⟩ => ?_
  refine Rd1.go R h fun d x w1 H1 S1 _ R1 l1 r1 h1 => ?_
  cases d with
  | str y =>
    dsimp only at h1
    split at h1
    · exact .inl ⟨y, r1, by assumption, h1.ok R1 rfl⟩
    · exact h1.elim
  | int i =>
    dsimp only at h1
    split at h1
    · exact .inr ⟨i, r1, by assumption, h1.ok R1 rfl⟩
    · exact h1.elim
  | _ => exact h1.elim
theorem se_fmr (ha : PE X a (RE F f W ma)) : PE X (.FormattedValue a 114 none pos) (RE F f W fun S => (ma S).bind fun x S1 => match x with
    | .str y => if (reprText y).length ≤ sizeLine then .ok (.str (reprText y)) S1 else .bad
    | .int i => if i.natAbs.log2 < 1920 then .ok (.str (toString i)) S1 else .bad
    | _ => .bad) := by
  refine peImp (pe_fmtR ha) fun σ H Q ⟨w, S, R, h⟩ => ?_
  refine Rd1.go R h fun d x w1 H1 S1 _ R1 l1 r1 h1 => ?_
  cases d with
  | str y =>
    dsimp only at h1
    split at h1
    · exact .inl ⟨y, r1, by assumption, h1.ok R1 rfl⟩
    · exact h1.elim
  | int i =>
    dsimp only at h1
    split at h1
    · exact .inr ⟨i, r1, by assumption, h1.ok R1 rfl⟩
    · exact h1.elim
  | _ => exact h1.elim
theorem se_split (hbase : attributeBase a "split" X.env (eval a X.env) = eval a X.env) (hline : (apos.endLine == pos.line) = true) (hp : plainEs [b] = true) (ha : PE X a (RE F f W ma)) (hb : PE X b (RE F f W mb)) :
    PE X (.Call (.Attribute a "split" apos) [b] [] pos) (RE F f W fun S => (ma S).bind fun x S1 => match x with
    | .str s => (mb S1).bind fun y S2 => match y with
      | .str t => if (t.length == 0) = false ∧ s.length + 2 ≤ sizeLine then .ok (.lst ((Txt.split s t).map .str)) S2 else .bad
      | _ => .bad
    | _ => .bad) := by
  refine peImp (pe_split ha hb (star_cons hp) hbase hline) fun σ H Q ⟨w, S, R, h⟩ => ?_
  refine Rd1.go R h fun d x w1 H1 S1 _ R1 l1 r1 h1 => ?_
  cases d with
  | str s =>
    cases r1
    refine ⟨⟨s, rfl⟩, ?_⟩
    refine Rd1.go R1 h1 fun d2 y w2 H2 S2 _ R2 l2 r2 h2 => ?_
    cases d2 with
    | str t =>
      cases r2
      dsimp only at h2
      split at h2
      · rename_i hh
        exact ⟨s, t, rfl, rfl, hh.1, hh.2, fun q hq => h2.new R2 hq ⟨q, _, rfl, upd_same, strs_dn _ _⟩⟩
      · exact h2.elim
    | _ => exact h2.elim
  | _ => exact h1.elim
theorem strsD_dn {w : Wd} : ∀ {ds : List Dt} {vs : List V} {ts : List Str}, strsD ds = some ts → Dns F w ds vs → vs = ts.map V.str
  | [], _, _, e, h => by cases e; cases h; rfl
  | d :: ds, _, ts, e, ⟨v, r, e1, h, t⟩ => by
    subst e1
    cases d with
    | str x =>
      simp only [strsD] at e
      cases q : strsD ds with
      | none => rw [q] at e; cases e
      | some us =>
        rw [q] at e
        cases e
        cases h
        rw [strsD_dn q t]
        rfl
    | _ => simp [strsD] at e
theorem se_join (hbase : attributeBase a "join" X.env (eval a X.env) = eval a X.env) (hline : (apos.endLine == pos.line) = true) (hp : plainEs [b] = true) (ha : PE X a (RE F f W ma)) (hb : PE X b (RE F f W mb)) :
    PE X (.Call (.Attribute a "join" apos) [b] [] pos) (RE F f W fun S => (ma S).bind fun x S1 => match x with
    | .str s => (mb S1).bind (joinD s)
    | _ => .bad) := by
  refine peImp (pe_join ha hb (star_cons hp) hbase hline) fun σ H Q ⟨w, S, R, h⟩ => ?_
  refine Rd1.go R h fun d x w1 H1 S1 _ R1 l1 r1 h1 => ?_
  cases d with
  | str s =>
    cases r1
    refine ⟨⟨s, rfl⟩, ?_⟩
    refine Rd1.go R1 h1 fun d2 y w2 H2 S2 _ R2 l2 r2 h2 => ?_
    cases d2 with
    | lst ds =>
      unfold joinD at h2
      dsimp only at h2
      cases e : strsD ds with
      | none => rw [e] at h2; exact h2.elim
      | some ts =>
        rw [e] at h2
        dsimp only at h2
        split at h2
        · rename_i hh
          obtain ⟨p, vs, e1, g1, rs⟩ := r2
          subst e1
          rw [strsD_dn e rs] at g1
          exact ⟨s, p, ts, rfl, rfl, .inl (SqL.of (R2.cs.fr _ _ g1)), of_decide_eq_true hh, h2.ok R2 rfl⟩
        · exact h2.elim
    | _ => exact h2.elim
  | _ => exact h1.elim
end
end PyI
namespace PyI
open PySem PySem.Spec PyProof.Rows L2
section
variable {X : Cx} {F : Fx} {f : Fm} {W : WX} {P : Pg} {k : Nat} {cf ci : Nat → List Dt → List Dt → Rc} {a b : Expr} {pos p apos : Pos} {ma mb : Sto → Rs Dt}
/-! ### f-strings -/
theorem str_empty_app (x : Str) : Str.empty ++ x = x := by
  obtain ⟨a⟩ := x
  show (⟨#[] ++ a⟩ : Str) = ⟨a⟩
  rw [Array.empty_append]
theorem tJs_of {σ : L2.St} {Q : VK} : ∀ (cs : List Tm) {acc : Str} {H : Hp} {w : Wd} {S : Sto}, Rr F f w σ H S → Po F f W σ w ((evJ P cf ci cs acc S).bind fun x S1 => .ok (.str x) S1) (Dn F) Q → tJs (cs.map fun c => RE F f W (evE P cf ci c)) acc σ H (fun out H1 => Q (.str out) H1)
  | [], acc, H, w, S, R, h => by
    unfold evJ at h
    exact h.ok R rfl
  | c :: cs, acc, H, w, S, R, h => by
    unfold evJ at h
    rw [Rs.bind_assoc] at h
    refine Rd1.go R h fun d x w1 H1 S1 _ R1 l1 r1 h1 => ?_
    cases d with
    | str y =>
      dsimp only at h1
      split at h1
      · rename_i hl
        exact ⟨y, r1, hl, tJs_of cs R1 h1⟩
      · exact h1.elim
    | _ => exact h1.elim
theorem se_fst1 {c : Tm} (ha : PE X a (RE F f W (evE P cf ci c))) : PE X (.JoinedStr [a] pos) (RE F f W (evE P cf ci (.fst [c]))) := by
  refine peImp (pe_joined1 ha) fun σ H Q ⟨w, S, R, h⟩ => ?_
  refine ⟨w, S, R, ?_⟩
  unfold evE evJ at h
  cases e : evE P cf ci c S with
  | ok d S1 =>
    rw [e] at h
    cases d with
    | str y =>
      have h : Po F f W σ w ((if (Str.empty ++ y).length ≤ sizeLine then evJ P cf ci [] (Str.empty ++ y) S1 else .bad).bind fun x S1 => .ok (.str x) S1) (Dn F) Q := h
      split at h
      · unfold evJ at h
        rw [str_empty_app] at h
        exact h
      · exact h.elim
    | _ => exact (h : False).elim
  | ex _ _ _ _ => rw [e] at h; exact h
  | bad => rw [e] at h; exact h
theorem se_fst {v1 v2 : Expr} {rest : List Expr} {cs : List Tm} (h : PJ X (v1 :: v2 :: rest) (cs.map fun c => RE F f W (evE P cf ci c))) : PE X (.JoinedStr (v1 :: v2 :: rest) pos) (RE F f W (evE P cf ci (.fst cs))) := by
  refine peImp (pe_joined h) fun σ H Q ⟨w, S, R, h⟩ => ?_
  unfold evE at h
  exact tJs_of cs R h
/-! ### objects of the frame's own, looked at -/
theorem se_lenB {i : Nat} {x : Str} (hN : X.N[i]? = some x) (hv : Vis X.env.scope x) (hd : (x == ("__debug__" : Str)) = false) (hcd : (x == ("__classdict__" : Str)) = false) (hgl : Gl X "len") (hm : X.mg "len" = none) :
    PE X (.Call (.Name "len" p) [.Name x apos] [] pos) (RE F f W fun S => match S.r[i]? with
    | some (some (.o (.lst ds))) => .ok (.int ds.length) S
    | _ => .bad) := by
  refine peImp (pe_callB call_len_seq hgl hm PySem.boot_len (pa_cons (pe_var hN hv hd hcd) pa_nil) (by decide) (by decide)) fun σ H Q ⟨w, S, R, h⟩ => ?_
  dsimp only at h
  split at h
  · rename_i ds e
    obtain ⟨a, s1, _, _, ⟨vs, h1, r1⟩, _⟩ := R.ow i _ e
    exact ⟨.ref a, s1, a, vs, rfl, .inl (SqL.of h1), h.ok R (by rw [← r1.length]; rfl)⟩
  · exact h.elim
theorem at_dn {w : Wd} {ds : List Dt} {vs : List V} {i : Int} {d : Dt} (r : Dns F w ds vs) (e : atI ds i = some d) : ∃ z, atI vs i = some z ∧ Dn F w d z := by
  unfold atI at e ⊢
  rw [r.length] at e
  cases z : ixN vs.length i with
  | none => rw [z] at e; cases e
  | some j => rw [z] at e; exact r.get e
theorem se_ixB {i : Nat} {x : Str} (hN : X.N[i]? = some x) (hv : Vis X.env.scope x) (hd : (x == ("__debug__" : Str)) = false) (hcd : (x == ("__classdict__" : Str)) = false) (hs : PlainIx b) (hb : PE X b (RE F f W mb)) :
    PE X (.Subscript (.Name x apos) b pos) (RE F f W fun S => match S.r[i]? with
    | some (some (.o _)) => (mb S).bind fun y S1 => match S1.r[i]?, y with
      | some (some (.o (.lst ds))), .int j => okD (atI ds j) S1
      | _, _ => .bad
    | _ => .bad) := by
  refine peImp (pe_ix ix_list (pe_var hN hv hd hcd) hb hs) fun σ H Q ⟨w, S, R, h⟩ => ?_
  dsimp only at h
  split at h
  · rename_i d0 e0
    obtain ⟨a0, s0, _⟩ := R.ow i _ e0
    refine ⟨.ref a0, s0, ?_⟩
    refine Rd1.go R h fun d y w1 H1 S1 em R1 l1 r1 h1 => ?_
    clear em
    split at h1
    · rename_i ds j e1
      obtain ⟨a, s1, _, _, ⟨vs, g1, r2⟩, _⟩ := R1.ow i _ e1
      rw [s0] at s1
      cases s1
      cases e2 : atI ds j with
      | none => rw [e2] at h1; exact h1.elim
      | some d =>
        rw [e2] at h1
        obtain ⟨z, h3, h4⟩ := at_dn r2 e2
        exact ⟨a0, vs, j, z, rfl, r1, SqL.of g1, h3, h1.ok R1 h4⟩
    · exact h1.elim
  · exact h.elim
end
end PyI
namespace PyI
open PySem PySem.W PySem.Calls PyProof.Rows
/-! ### list(range(a, b)) of great ints -/
section
variable {prog : Program} {w : World} {A : Around} {E : Value → Shared → Prop} {s : Shared} {r : Addr} {a b c : Int} {t u v : Tok} {n : Nat}
abbrev ItL (a c : Int) (n : Nat) : Array Value → Prop := fun acc => ItemsOf (fun i x => ∃ k, x = .int (a + i * c) k) acc n
theorem ext_long {R : Result → Shared → Prop} (hq : A.handled = none) (hr : IsRange s.heap r a b c t u v) (big : Builtin.Range.small a b c = false) (size : Builtin.Range.rangeSize a b c = n) (few : n ≤ 2 ^ 24) (L : Addr) (res : Value) (c0 : Nat) (hL : s.heap.get? L = some { cls := .type "list", data := .seq #[] c0 })
    (go : ∀ h' tk acc c', (∀ p o, p ≠ L → s.heap.get? p = some o → h'.get? p = some o) → h'.get? L = some { cls := .type "list", dict := none, data := .seq acc c', slots := #[] } → ItL a c n acc → R (.ok (.ret res)) { s with heap := h', toks := tk }) :
    wpAny (model prog w) A.in1 (Builtin.List.listExtendWith (.ref L) (.ref r) res) (fun fin s' => match fin with
      | .done f => R (.ok f) s'
      | .again c' => c'.quiet = true ∧ codeAny (model prog w) A c' R s') (fun e s' => R (.error e) s') s := by
  have ne1 : L ≠ r := fun e => by rw [e, hr] at hL; simp at hL
  have lt1 := Heap.lt_size hL
  have ne2 : L ≠ s.heap.objs.size := Nat.ne_of_lt lt1
  have out : L ∉ [s.heap.objs.size] := fun z => ne2 (List.mem_singleton.mp z)
  have wk := (Walks.longrange (prog := prog) (w := w) (A := A.in1) hq s.heap.objs.size a c n).toS
  have loop : ∀ (h : Heap) (c1 tk : Nat), IsLongIter h s.heap.objs.size (a + ((0 : Nat) : Int) * c) ((n : Int) - ((0 : Nat) : Int)) c → (∀ p o, p ≠ L → s.heap.get? p = some o → h.get? p = some o) → h.get? L = some { cls := .type "list", data := .seq #[] c1 } →
      codeAny (model prog w) A (.builtin "list.extend.loop" ⟨[.ref L, .ref s.heap.objs.size, res], []⟩) R { s with heap := h, toks := tk } := by
    intro h c1 tk it kp at1
    refine codeAny_extend_loopS wk (by rw [sizeLine_eq]; omega) L out res n 0 _ #[] c1 rfl (Nat.zero_le _) it at1 (ItemsOf.nil _) fun s2 acc c2 mv at2 its => ?_
    rw [Moved.eq_with mv]
    refine go s2.heap s2.toks acc c2 (fun p o hp e => mv.heap p o (fun z => ?_) (kp p o hp e)) at2 its
    rcases List.mem_cons.mp z with y | y
    · exact hp y
    · rw [List.mem_singleton.mp y] at e
      exact absurd (Heap.lt_size e) (Nat.lt_irrefl _)
  unfold Builtin.List.listExtendWith
  refine wpAny_bind (wpAny_typeOf (T := "range") ⟨_, hr, rfl⟩ ?_)
  have e1 : Builtin.List.listSameRef (.ref L) (.ref r) = false := by simp [Builtin.List.listSameRef, ne1]
  have e2 : (Value.type "range" == Value.type "list") = false := by decide
  have e3 : (Value.type "range" == Value.type "tuple") = false := by decide
  simp only [e1, e2, e3, Bool.or_false, Bool.false_eq_true, if_false]
  refine wpAny_bind (wpAny_pyIter_longrange hr big ?_)
  refine wpAny_bind (wpAny_holding (wpAny_hint_range (n := n) (Heap.get?_push_of_some _ hr) size few ?_))
  have it1 : IsLongIter (s.heap.push { cls := .type "longrange_iterator", data := .fields #[rawInt a, rawInt (Builtin.Range.rangeSize a b c), rawInt c] }) s.heap.objs.size (a + ((0 : Nat) : Int) * c) ((n : Int) - ((0 : Nat) : Int)) c := by
    show Heap.get? _ _ = _
    rw [size]
    simpa using Heap.get?_push_size _ rfl
  have at1 := Heap.get?_push_of_some { cls := .type "longrange_iterator", data := .fields #[rawInt a, rawInt (Builtin.Range.rangeSize a b c), rawInt c] } hL
  refine wpAny_ite_split (fun _ => ?_) (fun _ => wpAny_pure ⟨plainId_quiet F.plain_extend_loop _, loop _ c0 _ it1 (fun p o _ e => Heap.get?_push_of_some _ e) at1⟩)
  refine wpAny_bind (wpAny_rule (wpAny_bind ?_))
  show wpAny _ _ (updateSeq L (·.push .none) >>= fun _ => updateSeq L (·.pop)) _ _ _
  refine wpAny_bind (wpAny_updateSeq at1 rfl ?_)
  have at2 := Heap.get?_update_self (Obj.mapSeq (·.push Value.none)) at1 rfl
  refine wpAny_updateSeq (hz := by seq_fits) at2 rfl ?_
  have at3 := Heap.get?_update_self (Obj.mapSeq (·.pop)) at2 rfl
  refine wpAny_pure ⟨plainId_quiet F.plain_extend_loop _, loop _ _ _ ?_ (fun p o hp e => ?_) at3⟩
  · exact (Heap.get?_update_other _ _ ne2).trans ((Heap.get?_update_other _ _ ne2).trans it1)
  · exact (Heap.get?_update_other _ _ (Ne.symm hp)).trans ((Heap.get?_update_other _ _ (Ne.symm hp)).trans (Heap.get?_push_of_some _ e))
theorem list_long {Q : Value → Shared → Prop} (hq : A.handled = none) (hr : IsRange s.heap r a b c t u v) (big : Builtin.Range.small a b c = false) (size : Builtin.Range.rangeSize a b c = n) (few : n ≤ 2 ^ 24)
    (go : ∀ h' tk acc c', (∀ p o, s.heap.get? p = some o → h'.get? p = some o) → h'.get? s.heap.objs.size = some { cls := .type "list", dict := none, data := .seq acc c', slots := #[] } → ItL a c n acc → Q (.ref s.heap.objs.size) { s with heap := h', toks := tk }) :
    wpAny (model prog w) A (call (.type "list") [.ref r]) Q E s := by
  refine callType_codes (Q₁ := fun o s1 => o = .ref s.heap.objs.size ∧ s1 = { s with heap := s.heap.push { cls := .type "list", data := .seq #[] } }) F.called_list (F.typeCall_list_1 _) F.entry_list_init (code_list_new _ ⟨rfl, rfl⟩) fun o s1 z => ?_
  obtain ⟨rfl, rfl⟩ := z
  have at0 : (s.heap.push { cls := .type "list", data := .seq #[] }).get? s.heap.objs.size = some { cls := .type "list", data := .seq #[] } := Heap.get?_push_size _ rfl
  have rg := Heap.get?_push_of_some { cls := .type "list", data := .seq #[] } hr
  have ne : s.heap.objs.size ≠ r := fun e => by rw [← e] at hr; exact absurd (Heap.lt_size hr) (Nat.lt_irrefl _)
  refine ⟨⟨_, at0, rfl⟩, F.args_list_init_2 _ _, ?_⟩
  show wpAny _ _ (do let old ← Builtin.List.listItems (.ref s.heap.objs.size); Builtin.List.listUpdate (.ref s.heap.objs.size) (fun _ => #[]); letGo old.toList.reverse; Builtin.List.listExtendWith (.ref s.heap.objs.size) (.ref r) .none) _ _ _
  refine wpAny_bind ?_
  unfold Builtin.List.listItems
  refine wpAny_bind (wpAny_seqItems at0 rfl (wpAny_pure ?_))
  show wpAny _ _ (updateSeq s.heap.objs.size (fun _ => #[]) >>= fun _ => letGo (#[] : Array Value).toList.reverse >>= fun _ => Builtin.List.listExtendWith (.ref s.heap.objs.size) (.ref r) .none) _ _ _
  refine wpAny_bind (wpAny_updateSeq at0 rfl ?_)
  have at1 := Heap.get?_update_self (Obj.mapSeq (fun _ => (#[] : Array Value))) at0 rfl
  have keep : ∀ p o, p ≠ s.heap.objs.size → (s.heap.push { cls := .type "list", data := .seq #[] }).get? p = some o → ((s.heap.push { cls := .type "list", data := .seq #[] }).update s.heap.objs.size (Obj.mapSeq (fun _ => (#[] : Array Value)))).get? p = some o :=
    fun p o hp e => (Heap.get?_update_other _ _ (Ne.symm hp)).trans e
  refine wpAny_bind (wpAny_letGo ?_)
  refine ext_long (A := A.in1) hq (keep r _ (Ne.symm ne) rg) big size few s.heap.objs.size .none _ at1 fun h' tk acc c' hk at2 its => ?_
  exact ⟨rfl, go h' tk acc c' (fun p o e => hk p o (Nat.ne_of_lt (Heap.lt_size e)) (keep p o (Nat.ne_of_lt (Heap.lt_size e)) (Heap.get?_push_of_some _ e))) at2 its⟩
theorem list_any {Q : Value → Shared → Prop} (hq : A.handled = none) (hr : IsRange s.heap r a b c t u v) (size : Builtin.Range.rangeSize a b c = n) (few : n ≤ 2 ^ 24)
    (go : ∀ h' tk acc c', (∀ p o, s.heap.get? p = some o → h'.get? p = some o) → h'.get? s.heap.objs.size = some { cls := .type "list", dict := none, data := .seq acc c', slots := #[] } → ItL a c n acc → Q (.ref s.heap.objs.size) { s with heap := h', toks := tk }) :
    wpAny (model prog w) A (call (.type "list") [.ref r]) Q E s := by
  cases e : Builtin.Range.small a b c with
  | true => exact call_list_range hq hr e size few go
  | false => exact list_long hq hr e size few go
end
end PyI
namespace PyI
open PySem PySem.Spec PyProof.Rows L2
/-- list(range(..)), of ints of any size -/
theorem pe_listAny {X : Cx} {e : Expr} {te : L2.St → Hp → (Int → Int → Hp → Prop) → Prop} {p pos : Pos} (hc : X.calm = true) (hg : Gl X "list") (hm : X.mg "list" = none) (he : PRg X e te) (na : starEach [e] X.env = (false, eval e X.env) :: starEach [] X.env) :
    PE X (.Call (.Name "list" p) [e] [] pos) (fun σ H Q => te σ H fun a b H1 => (b - a).toNat ≤ 2 ^ 24 ∧ ∀ q, H1 q = none → Q (.ref q) (upd H1 q (.lst (rgV a b)))) := by
  refine ⟨fun pins s σ H Q I h => ?_⟩
  refine Call_ (ld_blt I hg hm boot_list (PyProof.Rows.callWith_type1 (args_cons (thn (he pins s σ H _ I h) fun x s1 ⟨r, a, b, t, u, v, H1, ex, hr, I1, few, q⟩ => args_nil ?_) na) na))
  subst ex
  refine list_any (n := (b - a).toNat) (I1.ok.hd hc) hr (rangeSize_nat a b) few fun h' tk acc c' hk e' hi => ?_
  refine ⟨.ref s1.heap.objs.size, upd H1 s1.heap.objs.size (.lst (rgV a b)), I1.laid hk (Nat.le_refl _) (show ObjOk X.prog X.w _ _ _ (.lst (rgV a b)) from ⟨?_, acc.toList, c', vals_rg hi, ?_⟩), rfl, q _ (I1.hok.fresh (Nat.le_refl _))⟩
  · rw [rgV_length, sizeLine_eq]
    omega
  · rw [Array.toArray_toList]
    exact e'
end PyI
namespace PyI
open PySem PySem.Spec PyProof.Rows L2
/-! ### enumerate over a tuple -/
theorem meets_enumerate_newT (l : Addr) (items : Array Value) (n : Nat) (dct : Option Addr) (sl : Array (Option Value)) :
    Meets (Builtin.«enumerate.__new__» ⟨[.type "enumerate", .ref l], []⟩) (fun _ R s => s.heap.get? l = some { cls := .type "tuple", dict := dct, data := .seq items n, slots := sl } ∧
      R (.ok (.ret (.ref (s.heap.push { cls := .type "tuple_iterator", data := .fields #[.ref l, .int 0 0] }).objs.size)))
        { s with heap := (s.heap.push { cls := .type "tuple_iterator", data := .fields #[.ref l, .int 0 0] }).push { cls := .type "enumerate", data := .fields #[.none, .bool false, .ref s.heap.objs.size, rawInt 0, .none, .none] } }) :=
  .of_wp fun prog w A R s h => by
    obtain ⟨hp, g, d, tk, os⟩ := s; obtain ⟨hl, h⟩ := h
    have hsub := sub_enumerate
    have hL : Heap.IsTuple (Shared.heap ⟨hp, g, d, tk, os⟩) l items := ⟨_, hl, rfl, n, rfl⟩
    wp_walk using AutoSeq1.wpAny_loadPart' hl
    refine wpAny_stack_any fun st => wpAny_pure ?_
    split
    · rename_i c _ _ _ _ _
      cases (c == Value.type "enumerate")
      · wp_walk using AutoSeq1.wpAny_loadPart' hl, wpAny_pyIter_tuple hL
        exact ⟨_, rfl, h⟩
      · wp_walk using AutoSeq1.wpAny_loadPart' hl, wpAny_pyIter_tuple hL
        exact ⟨_, rfl, h⟩
    · wp_walk using AutoSeq1.wpAny_loadPart' hl, wpAny_pyIter_tuple hL
      exact ⟨_, rfl, h⟩
theorem call_enumerate_tuple {prog : Program} {w : World} {A : Around} {E : Value → Shared → Prop} {s : Shared} {l : Addr} {items : Array Value} {Q : Value → Shared → Prop} (hL : s.heap.IsTuple l items)
    (h : ∀ h', IsEnum h' (s.heap.objs.size + 1) s.heap.objs.size 0 .none → h'.IsTupleIter s.heap.objs.size l 0 → h'.objs.size = s.heap.objs.size + 2 →
      (∀ b o, s.heap.get? b = some o → h'.get? b = some o) → Q (.ref (s.heap.objs.size + 1)) { s with heap := h' }) :
    wpAny (model prog w) A (call (.type "enumerate") [.ref l]) Q E s := by
  obtain ⟨⟨c, dct, dt, sl⟩, hl, hc, n, hd⟩ := hL
  replace hc : c = .type "tuple" := hc
  replace hd : dt = .seq items n := hd
  subst hc hd
  refine callType_new F.called_enumerate (by decide) (F.typeCall_enumerate_1 _) (F.newCall_enumerate_1 _) (fun obj => F.args_object_init_2 obj _) F.entry_enumerate_new
    (meets_enumerate_newT l items n dct sl) ⟨hl, ?_⟩
  have hz : (s.heap.push { cls := .type "tuple_iterator", data := .fields #[.ref l, .int 0 0] }).objs.size = s.heap.objs.size + 1 := Heap.size_push ..
  show _ ∧ _
  rw [hz]
  have he : IsEnum ((s.heap.push { cls := .type "tuple_iterator", data := .fields #[.ref l, .int 0 0] }).push
      { cls := .type "enumerate", data := .fields #[.none, .bool false, .ref s.heap.objs.size, rawInt 0, .none, .none] }) (s.heap.objs.size + 1) s.heap.objs.size 0 .none := by
    have := Heap.get?_push_size (s.heap.push { cls := .type "tuple_iterator", data := .fields #[.ref l, .int 0 0] })
      (o := { cls := .type "enumerate", data := .fields #[.none, .bool false, .ref s.heap.objs.size, rawInt 0, .none, .none] }) rfl
    rw [hz] at this; exact this
  refine ⟨⟨_, he, rfl⟩, h _ he ⟨_, Heap.get?_push_of_some _ (Heap.get?_push_size _ rfl), rfl, rfl⟩ (by rw [Heap.size_push, hz]) fun b o x => Heap.get?_push_of_some _ (Heap.get?_push_of_some _ x)⟩
/-- the tuple at a, each item in a new pair -/
def IteT (K : PySem.W.Frag) (a : Addr) : It :=
  ⟨fun i H => ∃ (xs : List V) (x : V), SqT K H a xs ∧ xs[i]? = some x, fun i H v H' => ∃ T x, v = .ref T ∧ H T = none ∧ H' = upd H T (.tup [.int (i : Nat), x]) ∧ ∀ xs, SqT K H a xs → xs[i]? = some x, fun i H => ∃ xs : List V, SqT K H a xs ∧ xs.length ≤ i⟩
theorem turn_enumT {P : Program} {w : World} {K : PySem.W.Frag} {elts : List Expr} {kk : Nat} {tpos : Pos} (a e it : Addr) (hne : e ≠ it) (hai : a ≠ it) (hae : e ≠ a) :
    Turn P w K (.Tuple elts kk tpos) (IteT K a) [e, it] e (fun i h => (∃ old, IsEnum h e it ((i : Nat) : Int) old) ∧ h.IsTupleIter it a i) where
  mem := by simp
  obj := fun i h st b hb => by
    obtain ⟨⟨old, he⟩, ⟨o, ho, hc, hd⟩⟩ := st
    have e' : b = e ∨ b = it := by simpa using hb
    rcases e' with z | z
    · rw [z]; exact ⟨_, he, fun v q => nomatch q⟩
    · rw [z]; exact ⟨o, ho, fun v q => by rw [hd] at q; cases q⟩
  keep := fun i h h' st k => by
    obtain ⟨⟨old, he⟩, ⟨o, ho, r⟩⟩ := st
    exact ⟨⟨old, k e (by simp) _ he⟩, ⟨o, k it (by simp) o ho, r⟩⟩
  item := by
    intro X hP hw hK hc i pins s σ H E I hf st hg
    subst hP hw hK
    obtain ⟨⟨old, he⟩, hit⟩ := st
    obtain ⟨xs, x, hq, hx⟩ := hg
    obtain ⟨its, rv, p, hz⟩ := I.tuple hq
    obtain ⟨u, hu, ru⟩ := rv.get hx
    have hel : e < s.heap.objs.size := Heap.lt_size he
    have hil : it < s.heap.objs.size := by obtain ⟨_, q, _⟩ := hit; exact Heap.lt_size q
    have p' : s.heap.IsTuple a its.toArray := p
    have hd : X.A.in1.handled = none := I.ok.hd hc
    refine wpAny_pyNext_enum_itemD (Draws.tuple hd it a hai its.toArray) he ⟨hit, p'⟩ (by have := (List.getElem?_eq_some_iff.mp hu).1; simpa using this) hne (by simp [hne, hae]) fun x' h' tk hPx ho hs' hT hsz hk => ?_
    have ex : x' = u := by
      have : its[i]? = some x' := by simpa using hPx
      rw [hu] at this
      cases this
      rfl
    subst ex
    refine ⟨_, rfl, wpAny_letOwnedTupleGo_enum (s := { s with heap := h', toks := tk + 1 }) ho fun h'' he' sb => ?_⟩
    have hT2 : h''.get? s.heap.objs.size = some { cls := .type "tuple", data := .seq #[.int i tk, x'] } := (sb.2 _ (Nat.ne_of_gt hel)).trans hT
    have new : ObjOk X.prog X.w (upd H s.heap.objs.size (.tup [.int (i : Nat), x])) h'' s.heap.objs.size (.tup [.int (i : Nat), x]) :=
      ⟨by show 2 ≤ sizeLine; decide, [.int i tk, x'], .cons ⟨_, rfl⟩ (.cons ru .nil), ⟨_, hT2, rfl, _, rfl⟩⟩
    have I1 : Inv X pins σ (upd H s.heap.objs.size (.tup [.int (i : Nat), x])) { s with heap := h'', toks := tk + 1 } :=
      I.turnedNew (ch := [e, it]) (fun b ob hb q => (sb.2 b (fun z => hb (by simp [z]))).trans (hk b ob (fun z => hb (by simp [z])) (fun z => hb (by simp [z])) q)) hf (Nat.le_refl _) new
    refine ⟨.ref s.heap.objs.size, _, I1, rfl, ⟨_, x, rfl, I.hok.fresh (Nat.le_refl _), rfl, fun ys hy => by rw [I.tuple_inj hy hq]; exact hx⟩, ⟨⟨x', ?_⟩, ?_⟩, fun b hb => ?_⟩
    · have e1 : ((i + 1 : Nat) : Int) = (i : Int) + 1 := by omega
      rw [e1]; exact he'
    · obtain ⟨o, ho2, r2⟩ := hs'.1
      exact ⟨o, (sb.2 it (Ne.symm hne)).trans ho2, r2⟩
    · have hb' : b < s.heap.objs.size := by
        have e' : b = e ∨ b = it := by simpa using hb
        rcases e' with z | z
        · rw [z]; exact hel
        · rw [z]; exact hil
      rw [upd_ne (Nat.ne_of_lt hb')]
      exact (hf b hb).1
  done := by
    intro X hP hw hK hc i pins s σ H E I hf st hg
    subst hP hw hK
    obtain ⟨⟨old, he⟩, hit⟩ := st
    obtain ⟨xs, hq, hx⟩ := hg
    obtain ⟨its, rv, p, hz⟩ := I.tuple hq
    obtain ⟨f0, f1, f2, f3, f4, f5⟩ := hf it (by simp)
    have hl := rv.length
    have hd : X.A.in1.handled = none := I.ok.hd hc
    have p' : s.heap.IsTuple a its.toArray := p
    have D : Draws X.prog X.w X.A.in1 it [it, a] i (fun _ _ => True) (fun j h => j = i ∧ h.IsTupleIter it a i ∧ h.IsTuple a its.toArray) :=
      ⟨fun _ _ st => let ⟨o, ho, _⟩ := st.2.1; ⟨o, ho⟩, fun _ _ _ st hk => ⟨st.1, st.2.1.at fun o e => hk it (by simp) o e, st.2.2.at fun o e => hk a (by simp) o e⟩, fun j s Q E hj st hQ => absurd st.1 (Nat.ne_of_lt hj), fun s Q E st hE => wpAny_nextOf_tuple_end hd st.2.1 st.2.2 (by simp; omega) hE⟩
    exact wpAny_pyNext_enum_endD D he ⟨rfl, hit, p'⟩ fun h' eb => ⟨rfl, I.turned (t' := s.toks) (fun b o hb q => eb b o hb q) f0 f1 f3 f4 f5⟩
  self := fun A i s Q E st h => let ⟨⟨_, he⟩, _⟩ := st; wpAny_pyIter_enum he h
def iEnumT (K : PySem.W.Frag) (ta : TA) : TI := fun σ H R => ta σ H fun vs H1 => ∃ a xs, vs = [.ref a] ∧ ((SqL K H1 a xs ∧ R (Ite K a) H1) ∨ (SqT K H1 a xs ∧ R (IteT K a) H1))
theorem pi_enumT {X : Cx} {e : Expr} {ta : TA} {p pos tpos : Pos} {elts : List Expr} {kk : Nat} (hg : Gl X "enumerate") (hm : X.mg "enumerate" = none) (ha : PA X [e] ta) (hs : starEach [e] X.env = [(false, eval e X.env)]) :
    PI X (.Tuple elts kk tpos) (.Call (.Name "enumerate" p) [e] [] pos) (iEnumT X.K ta) := by
  refine ⟨fun pins s σ H R I h => ?_⟩
  refine Call_ (ld_blt I hg hm boot_enumerate (PyProof.Rows.callWith_type1 (thn (ha.run pos pins s σ H _ I h) fun us s1 ⟨vs, H1, I1, r1, q1⟩ => ?_) hs rfl))
  obtain ⟨a, xs, ex, q⟩ := q1
  subst ex
  cases r1 with
  | cons r rr =>
    cases rr
    cases r
    have fp : ∀ b ∈ [s1.heap.objs.size + 1, s1.heap.objs.size], s1.heap.objs.size ≤ b := fun b hb => by
      have e' : b = s1.heap.objs.size + 1 ∨ b = s1.heap.objs.size := by simpa using hb
      rcases e' with z | z
      · rw [z]; exact Nat.le_add_right _ _
      · rw [z]; exact Nat.le_refl _
    rcases q with ⟨hq, q⟩ | ⟨hq, q⟩
    · obtain ⟨its, rv, p', hz⟩ := I1.list hq
      refine call_enumerate_list p'.isList fun h' he hit hsz hk => wpAny_pyIter_enum he ?_
      have I2 : Inv X pins σ H1 { s1 with heap := h' } := I1.kept (t' := s1.toks) hk
      exact ⟨s1.heap.objs.size + 1, [s1.heap.objs.size + 1, s1.heap.objs.size], _, _, H1, rfl, I2, turn_enum a (s1.heap.objs.size + 1) s1.heap.objs.size, ⟨⟨.none, he⟩, hit, Nat.succ_ne_self _⟩, fun b hb => I1.fpOk (fp b hb) (I1.hok.fresh (fp b hb)), q⟩
    · obtain ⟨its, rv, p', hz⟩ := I1.tuple hq
      have p'' : s1.heap.IsTuple a its.toArray := p'
      have hal : a < s1.heap.objs.size := by obtain ⟨o, ho, _⟩ := p''; exact Heap.lt_size ho
      refine call_enumerate_tuple p'' fun h' he hit hsz hk => wpAny_pyIter_enum he ?_
      have I2 : Inv X pins σ H1 { s1 with heap := h' } := I1.kept (t' := s1.toks) hk
      exact ⟨s1.heap.objs.size + 1, [s1.heap.objs.size + 1, s1.heap.objs.size], _, _, H1, rfl, I2, turn_enumT a (s1.heap.objs.size + 1) s1.heap.objs.size (Nat.succ_ne_self _) (Nat.ne_of_lt hal) (Nat.ne_of_gt (Nat.lt_succ_of_lt hal)), ⟨⟨.none, he⟩, hit⟩, fun b hb => I1.fpOk (fp b hb) (I1.hok.fresh (fp b hb)), q⟩
end PyI
namespace PyI
open PySem PySem.Spec PyProof.Rows L2
/-! ### what is walked -/
/-- the i-th of ds comes: as it stands, or as a new tuple -/
def Yd (F : Fx) (w : Wd) (ds : List Dt) : Nat → Hp → V → Hp → Prop := fun i H x H' => ∃ d, ds[i]? = some d ∧ ((H' = H ∧ Dn F w d x) ∨ ∃ T vs es, d = .tup es ∧ x = .ref T ∧ H T = none ∧ H' = upd H T (.tup vs) ∧ Dns F w es vs)
def ItW (F : Fx) (w : Wd) (J : It) (ds : List Dt) : Prop := Walk J ds.length (fun H => ∀ a o, w.G a = some o → H a = some o) (Yd F w ds)
theorem ItW.mono {F : Fx} {w w' : Wd} {J : It} {ds : List Dt} (l : Le w w') (h : ItW F w J ds) : ItW F w' J ds := by
  refine Walk.mono h (fun H g a o e => g a o (l.g a o e)) fun i H x H' hi g y => ?_
  obtain ⟨d, e, q⟩ := y
  refine ⟨d, e, ?_⟩
  rcases q with ⟨e1, e2⟩ | ⟨T, vs, es, e1, e2, e3, e4, e5⟩
  · exact .inl ⟨e1, Dn.mono l d e2⟩
  · exact .inr ⟨T, vs, es, e1, e2, e3, e4, Dns.mono l es e5⟩
section
variable {X : Cx} {F : Fx} {f : Fm} {W : WX}
def PoI (F : Fx) (f : Fm) (W : WX) (σ : L2.St) (w : Wd) (r : Rs Dt) (R : It → Hp → Prop) : Prop := match r with
  | .ok d S' => ∃ ds, itemsD d = some ds ∧ ∀ w' H' J, Rr F f w' σ H' S' → Le w w' → ItW F w' J ds → R J H'
  | .ex c ns ds S' => ∀ dx vs w' H', Rr F f w' σ H' S' → Le w w' → w'.G dx = some (.xd (ns.zip vs)) → ns.length = vs.length → Dns F w' ds vs → W (.ref (F.ca c)) (some dx) σ H'
  | .bad => False
def RI (F : Fx) (f : Fm) (W : WX) (m : Sto → Rs Dt) : TI := fun σ H R => ∃ w S, Rr F f w σ H S ∧ PoI F f W σ w (m S) R
theorem piImp {tg e : Expr} {t : TI} (h : ∀ σ H R, t σ H R → ∃ t', PI X tg e t' ∧ t' σ H R) : PI X tg e t := ⟨fun pins s σ H R I q => let ⟨t', h1, h2⟩ := h σ H R q; h1.run pins s σ H R I h2⟩
theorem se_it {tg e : Expr} {m : Sto → Rs Dt} (hK : X.K = F.K) (he : PE X e (RE F f W m)) : PI X tg e (RI F f W m) := by
  refine piImp fun σ H R ⟨w, S, Rw, h⟩ => ?_
  cases q : m S with
  | bad => rw [q] at h; exact h.elim
  | ex c ns ds S' =>
    rw [q] at h
    refine ⟨_, pi_list he, w, S, Rw, ?_⟩
    rw [q]
    exact h
  | ok d S' =>
    rw [q] at h
    obtain ⟨ds, ei, h⟩ := h
    unfold itemsD at ei
    split at ei
    · cases ei
      refine ⟨_, pi_list he, w, S, Rw, ?_⟩
      rw [q]
      intro v w' H' R' l dn
      obtain ⟨a, vs, rfl, g1, r1⟩ := dn
      refine ⟨a, rfl, ⟨vs, SqL.of (R'.cs.fr _ _ g1)⟩, h w' H' _ R' l ?_⟩
      have wk := walk_list (K := X.K) (a := a) (xs := vs)
      rw [← r1.length] at wk
      refine Walk.mono wk (fun H g => SqL.of (g _ _ g1)) fun i H x H' hi g y => ?_
      obtain ⟨e1, e2⟩ := y
      obtain ⟨z, h1, h2⟩ := r1.get (List.getElem?_eq_getElem hi)
      rw [e2] at h1
      cases h1
      exact ⟨_, List.getElem?_eq_getElem hi, .inl ⟨e1, h2⟩⟩
    · cases ei
      refine ⟨_, pi_tup he, w, S, Rw, ?_⟩
      rw [q]
      intro v w' H' R' l dn
      obtain ⟨a, vs, rfl, g1, r1⟩ := dn
      refine ⟨a, rfl, ⟨vs, by rw [hK]; exact sqT_mono R'.cs.fr g1⟩, h w' H' _ R' l ?_⟩
      have wk := walk_tup (K := X.K) (a := a) (xs := vs)
      rw [← r1.length] at wk
      refine Walk.mono wk (fun H g => by rw [hK]; exact sqT_mono g g1) fun i H x H' hi g y => ?_
      obtain ⟨e1, e2⟩ := y
      obtain ⟨z, h1, h2⟩ := r1.get (List.getElem?_eq_getElem hi)
      rw [e2] at h1
      cases h1
      exact ⟨_, List.getElem?_eq_getElem hi, .inl ⟨e1, h2⟩⟩
    · rename_i z
      cases ei
      refine ⟨_, pi_str he, w, S, Rw, ?_⟩
      rw [q]
      intro v w' H' R' l dn
      refine ⟨z, dn, h w' H' _ R' l ?_⟩
      have wk := walk_str (z := z)
      rw [show z.cps.size = (z.cps.toList.map fun c => Dt.str ⟨#[c]⟩).length by simp] at wk
      refine Walk.mono wk (fun _ _ => True.intro) fun i H x H' hi g y => ?_
      obtain ⟨e1, c, e2, e3⟩ := y
      refine ⟨.str ⟨#[c]⟩, ?_, .inl ⟨e1, e3⟩⟩
      rw [List.getElem?_map, show z.cps.toList[i]? = some c by simpa using e2]
      rfl
    · rename_i xs
      cases ei
      refine ⟨_, pi_list he, w, S, Rw, ?_⟩
      rw [q]
      intro v w' H' R' l dn
      obtain ⟨a, rfl, g1⟩ := dn
      refine ⟨a, rfl, ⟨_, by rw [hK]; exact sqL_mono R'.cs.fr g1⟩, h w' H' _ R' l ?_⟩
      have wk := walk_list (K := X.K) (a := a) (xs := xs.map V.int)
      rw [show (xs.map V.int).length = (xs.map Dt.int).length by simp] at wk
      refine Walk.mono wk (fun H g => by rw [hK]; exact sqL_mono g g1) fun i H x H' hi g y => ?_
      obtain ⟨e1, e2⟩ := y
      rw [List.getElem?_map] at e2
      cases e3 : xs[i]? with
      | none => rw [e3] at e2; cases e2
      | some n =>
        rw [e3] at e2
        cases e2
        exact ⟨.int n, by rw [List.getElem?_map, e3]; rfl, .inl ⟨e1, rfl⟩⟩
    · cases ei
theorem range_itw {w : Wd} {lo hi : Int} : ItW F w (Itr lo (hi - lo).toNat) (rangeD lo hi) := by
  have wk := walk_range (lo := lo) (n := (hi - lo).toNat)
  rw [show (hi - lo).toNat = (rangeD lo hi).length by simp [rangeD]] at wk
  have e0 : (hi - lo).toNat = (rangeD lo hi).length := by simp [rangeD]
  unfold ItW
  rw [show Itr lo (hi - lo).toNat = Itr lo (rangeD lo hi).length by rw [← e0]]
  refine Walk.mono wk (fun _ _ => True.intro) fun i H x H' hi' g y => ?_
  obtain ⟨e1, e2⟩ := y
  refine ⟨.int (lo + (i : Nat)), ?_, .inl ⟨e1, e2⟩⟩
  have hi2 : i < (hi - lo).toNat := by rw [e0]; exact hi'
  unfold rangeD
  rw [List.getElem?_map, List.getElem?_range hi2]
  rfl
theorem smallI_iff {i : Int} (h : smallI i = true) : -(2 ^ 62) ≤ i ∧ i < 2 ^ 62 := by
  unfold smallI at h
  rw [Bool.and_eq_true, decide_eq_true_eq, decide_eq_true_eq] at h
  exact h
theorem se_rng1 {tg a : Expr} {p pos : Pos} {m : Sto → Rs Dt} (hgl : Gl X "range") (hm : X.mg "range" = none) (hp : plainEs [a] = true) (ha : PE X a (RE F f W m)) : PI X tg (.Call (.Name "range" p) [a] [] pos) (RI F f W fun S => (m S).bind rng1D) := by
  refine piImp fun σ H R ⟨w, S, Rw, h⟩ => ⟨_, pi_range1 hgl hm (pa_cons ha pa_nil (star_cons hp)) (star_cons hp), w, S, Rw, ?_⟩
  dsimp only at h
  cases q : m S with
  | bad => rw [q] at h; exact h.elim
  | ex c ns ds S' => rw [q] at h; exact h
  | ok d S' =>
    rw [q] at h
    cases d with
    | int i =>
      have h : PoI F f W σ w (if smallI i = true then .ok (.lst (rangeD 0 i)) S' else .bad) R := h
      split at h
      · rename_i hs
        obtain ⟨ds, ei, h⟩ := h
        cases ei
        obtain ⟨h1, h2⟩ := smallI_iff hs
        exact fun v w' H' R' l dn => ⟨i, by rw [dn], h1, h2, h w' H' _ R' l (by have := range_itw (F := F) (w := w') (lo := 0) (hi := i); rwa [Int.sub_zero] at this)⟩
      · exact h.elim
    | _ => exact (h : False).elim
theorem se_rng2 {tg a b : Expr} {p pos : Pos} {ma mb : Sto → Rs Dt} (hgl : Gl X "range") (hm : X.mg "range" = none) (hp : plainEs [a, b] = true) (ha : PE X a (RE F f W ma)) (hb : PE X b (RE F f W mb)) : PI X tg (.Call (.Name "range" p) [a, b] [] pos) (RI F f W fun S => (ma S).bind fun x S1 => (mb S1).bind (rng2D x)) := by
  have hp2 : plainEs [b] = true := plain_tail hp
  refine piImp fun σ H R ⟨w, S, Rw, h⟩ => ⟨_, pi_range2 hgl hm (pa_cons ha (pa_cons hb pa_nil (star_cons hp2)) (star_cons hp)) (by rw [star_cons hp, star_cons hp2]; rfl) (star_cons hp2), w, S, Rw, ?_⟩
  dsimp only at h
  cases q : ma S with
  | bad => rw [q] at h; exact h.elim
  | ex c ns ds S' => rw [q] at h; exact h
  | ok d S1 =>
    rw [q] at h
    have h : PoI F f W σ w ((mb S1).bind (rng2D d)) R := h
    intro v1 w1 H1 R1 l1 dn1
    refine ⟨w1, S1, R1, ?_⟩
    cases q2 : mb S1 with
    | bad => rw [q2] at h; exact h.elim
    | ex c ns ds S' => rw [q2] at h; exact fun dx vs w' H' R' l' => h dx vs w' H' R' (l1.trans l')
    | ok d2 S2 =>
      rw [q2] at h
      cases d with
      | int i =>
        cases d2 with
        | int j =>
          have h : PoI F f W σ w (if (smallI i && smallI j) = true then .ok (.lst (rangeD i j)) S2 else .bad) R := h
          split at h
          · rename_i hs
            rw [Bool.and_eq_true] at hs
            obtain ⟨ds, ei, h⟩ := h
            cases ei
            obtain ⟨h1, h2⟩ := smallI_iff hs.1
            obtain ⟨h3, h4⟩ := smallI_iff hs.2
            exact fun v w' H' R' l dn => ⟨i, j, by rw [dn1, dn], ⟨h1, h2, h3, h4⟩, h w' H' _ R' (l1.trans l) range_itw⟩
          · exact h.elim
        | _ => exact (h : False).elim
      | _ => exact (h : False).elim
theorem enmL_len : ∀ {ds : List Dt} {n : Nat}, (enmL n ds).length = ds.length
  | [], _ => rfl
  | d :: ds, n => by
    unfold enmL
    rw [List.length_cons, List.length_cons, enmL_len]
theorem enmL_get : ∀ {ds : List Dt} {n i : Nat} {d : Dt}, ds[i]? = some d → (enmL n ds)[i]? = some (.tup [.int ((n + i : Nat) : Int), d])
  | [], _, _, _, h => by simp at h
  | d :: ds, n, 0, _, h => by
    simp at h
    subst h
    rfl
  | d :: ds, n, i + 1, d', h => by
    have := enmL_get (n := n + 1) (i := i) (show ds[i]? = some d' by simpa using h)
    unfold enmL
    rw [List.getElem?_cons_succ, this, show n + 1 + i = n + (i + 1) by omega]
theorem enum_itw {K : PySem.W.Frag} {w : Wd} {a : Addr} {ds : List Dt} {vs : List V} (g1 : w.G a = some (.lst vs)) (r1 : Dns F w ds vs) : ItW F w (Ite K a) (enmL 0 ds) := by
  have wk := walk_enum (K := K) (a := a) (xs := vs)
  unfold ItW
  rw [enmL_len, r1.length]
  refine Walk.mono wk (fun H g => SqL.of (g _ _ g1)) fun i H x H' hi g y => ?_
  obtain ⟨T, x1, y1, e1, e2, e3, e4, e5⟩ := y
  cases e4
  have e5 : vs[i]? = some y1 := e5
  have hl : i < ds.length := by rw [r1.length]; exact hi
  obtain ⟨z, h1, h2⟩ := r1.get (List.getElem?_eq_getElem hl)
  rw [e5] at h1
  cases h1
  refine ⟨_, enmL_get (List.getElem?_eq_getElem hl), .inr ⟨T, [.int (i : Nat), y1], _, rfl, e1, e2, e3, ?_⟩⟩
  exact ⟨_, _, rfl, by rw [Nat.zero_add]; exact rfl, y1, [], rfl, h2, rfl⟩
theorem walk_enumT {K : PySem.W.Frag} {a : Addr} {xs : List V} : Walk (IteT K a) xs.length (fun H => SqT K H a xs) (YPair (fun i => some (.int (i : Nat))) (fun i => xs[i]?)) := by
  refine ⟨fun i _ hi q => ⟨xs, xs[i], q, by simp [hi]⟩, fun _ q => ⟨xs, q, Nat.le_refl _⟩, fun i H v H' _ q y => ?_⟩
  obtain ⟨T, x, h1, h2, h3, h4⟩ := y
  exact ⟨T, .int (i : Nat), x, h1, h2, h3, rfl, h4 xs q⟩
theorem enum_itwT {w : Wd} {a : Addr} {ds : List Dt} {vs : List V} (g1 : SqT F.K w.G a vs) (r1 : Dns F w ds vs) : ItW F w (IteT F.K a) (enmL 0 ds) := by
  have wk := walk_enumT (K := F.K) (a := a) (xs := vs)
  unfold ItW
  rw [enmL_len, r1.length]
  refine Walk.mono wk (fun H g => sqT_mono g g1) fun i H x H' hi g y => ?_
  obtain ⟨T, x1, y1, e1, e2, e3, e4, e5⟩ := y
  cases e4
  have e5 : vs[i]? = some y1 := e5
  have hl : i < ds.length := by rw [r1.length]; exact hi
  obtain ⟨z, h1, h2⟩ := r1.get (List.getElem?_eq_getElem hl)
  rw [e5] at h1
  cases h1
  refine ⟨_, enmL_get (List.getElem?_eq_getElem hl), .inr ⟨T, [.int (i : Nat), y1], _, rfl, e1, e2, e3, ?_⟩⟩
  exact ⟨_, _, rfl, by rw [Nat.zero_add]; exact rfl, y1, [], rfl, h2, rfl⟩
theorem se_enm {elts : List Expr} {kk : Nat} {tpos : Pos} {a : Expr} {p pos : Pos} {m : Sto → Rs Dt} (hK : X.K = F.K) (hgl : Gl X "enumerate") (hm : X.mg "enumerate" = none) (hp : plainEs [a] = true) (ha : PE X a (RE F f W m)) : PI X (.Tuple elts kk tpos) (.Call (.Name "enumerate" p) [a] [] pos) (RI F f W fun S => (m S).bind fun x S1 => okD ((enmD x).map .lst) S1) := by
  refine piImp fun σ H R ⟨w, S, Rw, h⟩ => ⟨_, pi_enumT hgl hm (pa_cons ha pa_nil (star_cons hp)) (star_cons hp), w, S, Rw, ?_⟩
  dsimp only at h
  cases q : m S with
  | bad => rw [q] at h; exact h.elim
  | ex c ns ds S' => rw [q] at h; exact h
  | ok d S' =>
    rw [q] at h
    cases d with
    | lst ds =>
      have h : PoI F f W σ w (.ok (.lst (enmL 0 ds)) S') R := h
      obtain ⟨es, ei, h⟩ := h
      cases ei
      intro v w' H' R' l dn
      obtain ⟨a0, vs, e0, g1, r1⟩ := dn
      subst e0
      exact ⟨a0, vs, rfl, .inl ⟨SqL.of (R'.cs.fr _ _ g1), h w' H' _ R' l (enum_itw g1 r1)⟩⟩
    | tup ds =>
      have h : PoI F f W σ w (.ok (.lst (enmL 0 ds)) S') R := h
      obtain ⟨es, ei, h⟩ := h
      cases ei
      intro v w' H' R' l dn
      obtain ⟨a0, vs, e0, g1, r1⟩ := dn
      subst e0
      refine ⟨a0, vs, rfl, .inr ⟨by rw [hK]; exact sqT_mono R'.cs.fr g1, h w' H' _ R' l (by rw [hK]; exact enum_itwT g1 r1)⟩⟩
    | _ => exact (h : False).elim
theorem rg_dn {w : Wd} {i j : Int} : Dns F w (rangeD i j) (rgV i j) := by
  unfold rangeD rgV
  generalize List.range (j - i).toNat = l
  induction l with
  | nil => rfl
  | cons a l ih => exact ⟨_, _, rfl, rfl, ih⟩
theorem se_lrg2 {a b : Expr} {p pos p2 pos2 : Pos} {ma mb : Sto → Rs Dt} (hc : X.calm = true) (hg : Gl X "list") (hm : X.mg "list" = none) (hgl : Gl X "range") (hmr : X.mg "range" = none) (hp : plainEs [a, b] = true) (ha : PE X a (RE F f W ma)) (hb : PE X b (RE F f W mb)) :
    PE X (.Call (.Name "list" p) [.Call (.Name "range" p2) [a, b] [] pos2] [] pos) (RE F f W fun S => (ma S).bind fun x S1 => match x with
    | .int i => (mb S1).bind (lrgD i)
    | _ => .bad) := by
  have hp2 : plainEs [b] = true := plain_tail hp
  refine peImp (pe_listAny hc hg hm (prg_2 hgl hmr ha hb (star_cons hp) (star_cons hp2) (star_any hp2)) (star_cons rfl)) fun σ H Q ⟨w, S, R, h⟩ => ?_
  refine Rd1.go R h fun d x w1 H1 S1 _ R1 l1 r1 h1 => ?_
  cases d with
  | int i =>
    cases r1
    dsimp only at h1
    refine Rd1.go R1 h1 fun d2 y w2 H2 S2 _ R2 l2 r2 h2 => ?_
    cases d2 with
    | int j =>
      cases r2
      unfold lrgD at h2
      dsimp only at h2
      split at h2
      · rename_i hs
        exact ⟨i, j, rfl, rfl, Nat.le_trans hs (by decide), fun q hq => h2.new R2 hq ⟨q, _, rfl, upd_same, rg_dn⟩⟩
      · exact h2.elim
    | _ => exact h2.elim
  | _ => exact h1.elim
end
end PyI
namespace PyI
open PySem PySem.Spec PyProof.Rows L2
/-! ### targets -/
mutual
def tgSl : Tg → List Nat
  | .nm i => [i]
  | .tp ts => tgsSl ts
def tgsSl : List Tg → List Nat
  | [] => []
  | t :: ts => tgSl t ++ tgsSl ts
end
mutual
def gT (K : PySem.W.Frag) : Tg → TG
  | .nm i => gName i
  | .tp ts => gTup K ts.length (gTs K ts)
def gTs (K : PySem.W.Frag) : List Tg → TGs
  | [] => gNil
  | t :: ts => gCons (gT K t) (gTs K ts)
end
theorem wipe_set {σ : L2.St} {i : Nat} {x : Option V} : ∀ {vs : List Nat}, i ∈ vs → wipe (σ.set i x) vs = wipe σ vs
  | [], h => by cases h
  | v :: vs, h => by
    unfold wipe
    by_cases e : i ∈ vs
    · rw [wipe_set e]
    · have e2 : i = v := by
        rcases List.mem_cons.mp h with z | z
        · exact z
        · exact absurd z e
      subst e2
      have aux : ∀ (vs : List Nat) (σ : L2.St), i ∉ vs → wipe (σ.set i x) vs = (wipe σ vs).set i x := by
        intro vs
        induction vs with
        | nil => intro σ _; rfl
        | cons v vs ih =>
          intro σ hn
          unfold wipe
          rw [ih σ (fun z => hn (List.mem_cons_of_mem _ z)), List.set_comm _ _ (fun z => hn (by rw [z]; exact List.mem_cons_self))]
      rw [aux vs σ e, List.set_set]
section
variable {F : Fx} {f : Fm}
mutual
theorem gT_ok {K : PySem.W.Frag} (hK : K = F.K) : ∀ (tg : Tg) {w : Wd} {σ : L2.St} {H : Hp} {S : Sto} {d : Dt} {v : V} {r' : List (Option Bn)} {Q : L2.St → Hp → Prop}, Rr F f w σ H S → Dn F w d v → tgD tg d S.r = some r' →
    (∀ σ', Rr F f w σ' H ⟨r', S.m⟩ → (∀ vs, (∀ i ∈ tgSl tg, i ∈ vs) → wipe σ' vs = wipe σ vs) → Q σ' H) → gT K tg v σ H Q
  | .nm i, w, σ, H, S, d, v, r', Q, R, dn, e, q => by
    simp only [tgD] at e
    split at e
    · cases e
      exact q _ (R.setP dn) fun vs hv => wipe_set (hv i (by simp [tgSl]))
    · cases e
  | .tp ts, w, σ, H, S, d, v, r', Q, R, dn, e, q => by
    cases d with
    | tup ds =>
      simp only [tgD] at e
      split at e
      · rename_i hl
        obtain ⟨a, vs, e1, sq, rs⟩ := dn
        refine ⟨a, vs, e1, by rw [hK]; exact sqT_mono R.cs.fr sq, by rw [← rs.length, hl], gTs_ok hK ts R rs e fun σ' R' hw => q σ' R' fun vs hv => hw vs (by simpa [tgSl] using hv)⟩
      · cases e
    | _ => simp [tgD] at e
theorem gTs_ok {K : PySem.W.Frag} (hK : K = F.K) : ∀ (ts : List Tg) {w : Wd} {σ : L2.St} {H : Hp} {S : Sto} {ds : List Dt} {vs : List V} {r' : List (Option Bn)} {Q : L2.St → Hp → Prop}, Rr F f w σ H S → Dns F w ds vs → tgsD ts ds S.r = some r' →
    (∀ σ', Rr F f w σ' H ⟨r', S.m⟩ → (∀ vs, (∀ i ∈ tgsSl ts, i ∈ vs) → wipe σ' vs = wipe σ vs) → Q σ' H) → gTs K ts vs σ H Q
  | [], w, σ, H, S, ds, vs, r', Q, R, dn, e, q => by
    cases ds with
    | nil =>
      simp only [tgsD] at e
      cases e
      cases dn
      exact ⟨rfl, q σ R fun _ _ => rfl⟩
    | cons _ _ => simp [tgsD] at e
  | t :: ts, w, σ, H, S, ds, vs, r', Q, R, dn, e, q => by
    cases ds with
    | nil => simp [tgsD] at e
    | cons d ds =>
      obtain ⟨v, r, e1, h1, h2⟩ := dn
      simp only [tgsD] at e
      cases e2 : tgD t d S.r with
      | none => rw [e2] at e; cases e
      | some r1 =>
        rw [e2] at e
        refine ⟨v, r, e1, gT_ok hK t R h1 e2 fun σ1 R1 w1 => ?_⟩
        refine gTs_ok hK ts (S := ⟨r1, S.m⟩) R1 h2 e fun σ2 R2 w2 => q σ2 R2 fun vs hv => ?_
        rw [w2 vs (fun i hi => hv i (by simp [tgsSl, hi])), w1 vs (fun i hi => hv i (by simp [tgsSl, hi]))]
end
end
theorem assign_cons {e : Expr} {es : List Expr} {env : Env} (h : plainEs (e :: es) = true) : assignEach (e :: es) env = (false, assign e env) :: assignEach es env := by
  cases e <;> first | rfl | (simp [plainEs] at h)
theorem assign_len {env : Env} : ∀ {es : List Expr}, plainEs es = true → (assignEach es env).length = es.length ∧ (assignEach es env).findIdx? (·.1) = none
  | [], _ => ⟨rfl, rfl⟩
  | e :: es, h => by
    obtain ⟨h1, h2⟩ := assign_len (env := env) (plain_tail h)
    rw [assign_cons h]
    refine ⟨by rw [List.length_cons, h1, List.length_cons], ?_⟩
    rw [List.findIdx?_cons, h2]
    rfl
/-- a target of the text and its slots -/
def locB (sc : Scope) (x : Str) : Bool := sc.names.lookup x == some .local || sc.names.lookup x == some .cell
mutual
def mT (N : List Str) (sc : Scope) (lc : Bool) : Tg → Expr → Bool
  | .nm i, .Name x _ => decide (N[i]? = some x) && (if lc then decide (sc.names.lookup x = some .local) else locB sc x)
  | .tp ts, .Tuple es _ _ => mTs N sc lc ts es && plainEs es
  | _, _ => false
def mTs (N : List Str) (sc : Scope) (lc : Bool) : List Tg → List Expr → Bool
  | [], [] => true
  | t :: ts, e :: es => mT N sc lc t e && mTs N sc lc ts es
  | _, _ => false
end
theorem mTs_len {N : List Str} {sc : Scope} {lc : Bool} : ∀ {ts : List Tg} {es : List Expr}, mTs N sc lc ts es = true → ts.length = es.length
  | [], [], _ => rfl
  | [], _ :: _, h => by simp [mTs] at h
  | _ :: _, [], h => by simp [mTs] at h
  | t :: ts, e :: es, h => by
    simp only [mTs, Bool.and_eq_true] at h
    simp [mTs_len h.2]
section
variable {X : Cx}
mutual
theorem pg_of (hN : X.N.Nodup) (hc : X.calm = true) {lc : Bool} (hf : lc = false → ∀ x, X.fn x = true) : ∀ (tg : Tg) (e : Expr), mT X.N X.env.scope lc tg e = true → PG X e (gT X.K tg)
  | .nm i, e, h => by
    cases e with
    | Name x p =>
      simp only [mT, Bool.and_eq_true, decide_eq_true_eq] at h
      obtain ⟨h1, h2⟩ := h
      simp only [gT]
      cases lc with
      | true =>
        have h2 : X.env.scope.names.lookup x = some .local := by simpa using h2
        exact pg_name hN h1 (.inl h2) (.inr h2)
      | false =>
        have h2 : locB X.env.scope x = true := by simpa using h2
        simp only [locB, Bool.or_eq_true, beq_iff_eq] at h2
        exact pg_name hN h1 h2 (.inl (hf rfl x))
    | _ => simp [mT] at h
  | .tp ts, e, h => by
    cases e with
    | Tuple es k p =>
      simp only [mT, Bool.and_eq_true] at h
      obtain ⟨a1, a2⟩ := assign_len (env := X.env) h.2
      have g := pg_tup (k := k) (pos := p) (n := ts.length) hc (pgs_of hN hc hf ts es h.1 h.2) (by rw [a1, mTs_len h.1]) a2
      simpa only [gT] using g
    | _ => simp [mT] at h
theorem pgs_of (hN : X.N.Nodup) (hc : X.calm = true) {lc : Bool} (hf : lc = false → ∀ x, X.fn x = true) : ∀ (ts : List Tg) (es : List Expr), mTs X.N X.env.scope lc ts es = true → plainEs es = true → PGs X es (gTs X.K ts)
  | [], es, h, _ => by
    cases es with
    | nil => simpa only [gTs] using pgs_nil
    | cons _ _ => simp [mTs] at h
  | t :: ts, es, h, hp => by
    cases es with
    | nil => simp [mTs] at h
    | cons e es =>
      simp only [mTs, Bool.and_eq_true] at h
      have g := pgs_cons (pg_of hN hc hf t e h.1) (pgs_of hN hc hf ts es h.2 (plain_tail hp)) (by rw [assign_cons hp]; rfl)
      simpa only [gTs] using g
end
end
/-! ### comprehensions -/
theorem wipe_get {σ : L2.St} {vs : List Nat} {i : Nat} (h : i ∉ vs) : (wipe σ vs)[i]? = σ[i]? := by
  induction vs with
  | nil => rfl
  | cons v vs ih =>
    unfold wipe
    rw [List.getElem?_set_ne (fun z => h (by rw [z]; exact List.mem_cons_self)), ih (fun z => h (List.mem_cons_of_mem _ z))]
theorem wipeB_len (r : List (Option Bn)) : ∀ vs : List Nat, (wipeB r vs).length = r.length
  | [] => rfl
  | v :: vs => by unfold wipeB; rw [List.length_set, wipeB_len r vs]
theorem wipeB_some {r : List (Option Bn)} {i : Nat} {b : Bn} : ∀ {vs : List Nat}, (wipeB r vs)[i]? = some (some b) → r[i]? = some (some b) ∧ i ∉ vs
  | [], h => ⟨h, by simp⟩
  | v :: vs, h => by
    unfold wipeB at h
    rcases get_set h with ⟨_, z⟩ | ⟨n, z⟩
    · cases z
    · obtain ⟨h1, h2⟩ := wipeB_some z
      exact ⟨h1, fun q => by
        rcases List.mem_cons.mp q with y | y
        · exact n y
        · exact h2 y⟩
section
variable {F : Fx} {f : Fm}
theorem Rr.wipe {w : Wd} {σ : L2.St} {H : Hp} {S : Sto} (R : Rr F f w σ H S) (vs : List Nat) : Rr F f w (wipe σ vs) H ⟨wipeB S.r vs, S.m⟩ := by
  refine ⟨R.cs, R.xt, by rw [wipe_length, wipeB_len, R.sl], fun i d h => ?_, fun i d h => ?_, fun i j a d e h1 h2 h3 h4 => ?_⟩
  · obtain ⟨h1, h2⟩ := wipeB_some h
    obtain ⟨v, e1, e2⟩ := R.pu i d h1
    exact ⟨v, by rw [wipe_get h2]; exact e1, e2⟩
  · obtain ⟨h1, h2⟩ := wipeB_some h
    obtain ⟨a, e1, e2⟩ := R.ow i d h1
    exact ⟨a, by rw [wipe_get h2]; exact e1, e2⟩
  · obtain ⟨g1, n1⟩ := wipeB_some h1
    obtain ⟨g2, n2⟩ := wipeB_some h2
    rw [wipe_get n1] at h3
    rw [wipe_get n2] at h4
    exact R.dj i j a d e g1 g2 h3 h4
end
end PyI
namespace PyI
open PySem PySem.Spec PyProof.Rows L2
section
variable {F : Fx} {f : Fm}
/-- an object that is nobody's is changed -/
theorem Rr.put {w : Wd} {σ : L2.St} {H : Hp} {S : Sto} {D : Addr} {o : HO} (R : Rr F f w σ H S) (g : w.G D = none) (a : D ∉ w.A) (no : ∀ (j : Nat) e, S.r[j]? = some (some (.o e)) → σ[j]? = some (some (.ref D)) → False) (h0 : f.H0 D = none) : Rr F f w σ (upd H D o) S := by
  have ne : ∀ b, b ≠ D → upd H D o b = H b := fun b h => upd_ne h
  refine ⟨⟨fun b u e => ?_, R.cs.nd, R.cs.ln, R.cs.ce, fun k b d q1 q2 => (R.cs.co k b d q1 q2).move (Le.refl w) (fun o z => ?_)⟩, ⟨R.xt.le, R.xt.gn, R.xt.an, fun b u q1 q2 q3 => ?_, fun b hb => ?_⟩, R.sl, R.pu, fun i d q => ?_, R.dj⟩
  · rw [ne b (fun z => by subst z; rw [g] at e; cases e)]
    exact R.cs.fr b u e
  · rw [ne b (fun y => by subst y; exact a (List.mem_of_getElem? q1))]
    exact z
  · rw [ne b (fun y => by subst y; rw [h0] at q1; cases q1)]
    exact R.xt.pr b u q1 q2 q3
  · by_cases y : b = D
    · subst y
      exact ⟨o, upd_same⟩
    · rw [ne b y]
      exact R.xt.xs b hb
  · obtain ⟨b, g1, g2, g3, g4, g5⟩ := R.ow i d q
    refine ⟨b, g1, g2, g3, g4.move (Le.refl w) (fun o z => ?_), g5⟩
    rw [ne b (fun y => by subst y; exact no i d q g1)]
    exact z
theorem Rr.leave {w w' : Wd} {σ σ' : L2.St} {H H' : Hp} {S S' : Sto} (R : Rr F f w σ H S) (R' : Rr F ⟨H, w, owns σ S.r, f.xi⟩ w' σ' H' S') : Rr F f w' σ' H' S' := by
  have x := Xt.leave R R'.xt (fun a ha => R'.cs.some (R'.xt.mem ha))
  refine ⟨R'.cs, x, R'.sl, R'.pu, fun i d h => ?_, R'.dj⟩
  obtain ⟨a, s1, g1, a1, m1, f1⟩ := R'.ow i d h
  refine ⟨a, s1, g1, a1, m1, ?_, f1.2⟩
  rcases f1.1 with z | z
  · exact .inl (R.new0 z)
  · obtain ⟨j, e, h1, h2⟩ := mem_owns.mp z
    obtain ⟨a', s2, _, _, _, q⟩ := R.ow j e h2
    rw [h1] at s2
    cases s2
    exact q.1
theorem backB_get {r0 r : List (Option Bn)} {i : Nat} {b : Bn} : ∀ {vs : List Nat}, (backB r0 vs r)[i]? = some (some b) → (i ∈ vs ∧ r0[i]? = some (some b)) ∨ (i ∉ vs ∧ r[i]? = some (some b))
  | [], h => .inr ⟨by simp, h⟩
  | v :: vs, h => by
    unfold backB at h
    rcases get_set h with ⟨e, z⟩ | ⟨n, z⟩
    · subst e
      refine .inl ⟨List.mem_cons_self, ?_⟩
      cases q : r0[i]? with
      | none => rw [q] at z; cases z
      | some x => rw [q] at z; rw [z]; rfl
    · rcases backB_get z with ⟨h1, h2⟩ | ⟨h1, h2⟩
      · exact .inl ⟨List.mem_cons_of_mem _ h1, h2⟩
      · exact .inr ⟨fun q => by
          rcases List.mem_cons.mp q with y | y
          · exact n y
          · exact h1 y, h2⟩
theorem backB_len (r0 r : List (Option Bn)) : ∀ vs : List Nat, (backB r0 vs r).length = r.length
  | [] => rfl
  | v :: vs => by unfold backB; rw [List.length_set, backB_len r0 r vs]
theorem wipeB_get {r : List (Option Bn)} {vs : List Nat} {i : Nat} (h : i ∉ vs) : (wipeB r vs)[i]? = r[i]? := by
  induction vs with
  | nil => rfl
  | cons v vs ih =>
    unfold wipeB
    rw [List.getElem?_set_ne (fun z => h (by rw [z]; exact List.mem_cons_self)), ih (fun z => h (List.mem_cons_of_mem _ z))]
theorem pureAt_not {r : List (Option Bn)} {vs : List Nat} {i : Nat} {d : Dt} (h : vs.all (pureAt r) = true) (hi : i ∈ vs) (e : r[i]? = some (some (.o d))) : False := by
  have := List.all_eq_true.mp h i hi
  unfold pureAt at this
  rw [e] at this
  cases this
/-- behind a comprehension: the slots of its names are as they were -/
theorem Rr.unwipe {w w' : Wd} {σ : L2.St} {H H' : Hp} {S S2 : Sto} {vs : List Nat} (R : Rr F f w σ H S) (hp : vs.all (pureAt S.r) = true) (R2 : Rr F ⟨H, w, owns σ S.r, f.xi⟩ w' (L2.wipe σ vs) H' ⟨wipeB S2.r vs, S2.m⟩) : Rr F f w' σ H' ⟨backB S.r vs S2.r, S2.m⟩ := by
  have x := Xt.leave R R2.xt (fun a ha => R2.cs.some (R2.xt.mem ha))
  have l : Le w w' := R2.xt.le
  refine ⟨R2.cs, x, ?_, fun i d h => ?_, fun i d h => ?_, fun i j a d e h1 h2 h3 h4 => ?_⟩
  · show σ.length = (backB S.r vs S2.r).length
    rw [backB_len]
    have := R2.sl
    rw [wipe_length] at this
    rw [this]
    show (wipeB S2.r vs).length = S2.r.length
    exact wipeB_len _ _
  · rcases backB_get h with ⟨_, h2⟩ | ⟨h1, h2⟩
    · obtain ⟨v, e1, e2⟩ := R.pu i d h2
      exact ⟨v, e1, Dn.mono l d e2⟩
    · obtain ⟨v, e1, e2⟩ := R2.pu i d (by show (wipeB S2.r vs)[i]? = _; rw [wipeB_get h1]; exact h2)
      rw [wipe_get h1] at e1
      exact ⟨v, e1, e2⟩
  · rcases backB_get h with ⟨h1, h2⟩ | ⟨h1, h2⟩
    · exact (pureAt_not hp h1 h2).elim
    · obtain ⟨a, e1, g1, a1, m1, f1⟩ := R2.ow i d (by show (wipeB S2.r vs)[i]? = _; rw [wipeB_get h1]; exact h2)
      rw [wipe_get h1] at e1
      refine ⟨a, e1, g1, a1, m1, ?_, f1.2⟩
      rcases f1.1 with z | z
      · exact .inl (R.new0 z)
      · obtain ⟨j, e, q1, q2⟩ := mem_owns.mp z
        obtain ⟨a', s2, _, _, _, q⟩ := R.ow j e q2
        rw [q1] at s2
        cases s2
        exact q.1
  · rcases backB_get h1 with ⟨g1, g2⟩ | ⟨g1, g2⟩
    · exact (pureAt_not hp g1 g2).elim
    · rcases backB_get h2 with ⟨g3, g4⟩ | ⟨g3, g4⟩
      · exact (pureAt_not hp g3 g4).elim
      · exact R2.dj i j a d e (by show (wipeB S2.r vs)[i]? = _; rw [wipeB_get g1]; exact g2) (by show (wipeB S2.r vs)[j]? = _; rw [wipeB_get g3]; exact g4) (by rw [wipe_get g1]; exact h3) (by rw [wipe_get g3]; exact h4)
end
abbrev W0 : WX := fun _ _ _ _ => False
section
variable {X : Cx} {F : Fx} {f : Fm} {W : WX}
/-- the state of a comprehension at a turn -/
structure Lc (F : Fx) (f1 : Fm) (σ : L2.St) (vs : List Nat) (D : Addr) (me mc : Sto → Rs Dt) (tg : Tg) (all : List Dt) (acc : List Dt) (S2 : Sto) (i : Nat) (H : Hp) : Prop where
  st : ∃ (w : Wd) (S : Sto) (ai : List Dt) (av : List V), Rr F f1 w (wipe σ vs) H ⟨wipeB S.r vs, S.m⟩ ∧ w.G D = none ∧ D ∉ w.A ∧ H D = some (.lst av) ∧ Dns F w ai av ∧ ai.length ≤ i ∧
    (∀ (j : Nat) e, (wipeB S.r vs)[j]? = some (some (.o e)) → (wipe σ vs)[j]? = some (some (.ref D)) → False) ∧ compL me mc tg vs (all.drop i) ai S = .ok acc S2
theorem wipe_mk (r : List (Option Bn)) (m : List Dt) : (⟨r, m⟩ : Sto).r = r := rfl
/-- what is known of the source and of the run of a comprehension -/
def CompIn (F : Fx) (f : Fm) (W : WX) (σ : L2.St) (w : Wd) (me mc : Sto → Rs Dt) (tg : Tg) (vs : List Nat) (Q : VK) (r : Rs Dt) : Prop := match r with
  | .bad => False
  | .ex c ns ds S' => ∀ dx us w' H', Rr F f w' σ H' S' → Le w w' → w'.G dx = some (.xd (ns.zip us)) → ns.length = us.length → Dns F w' ds us → W (.ref (F.ca c)) (some dx) σ H'
  | .ok d S1 => ∃ ds acc S2, itemsD d = some ds ∧ ds.length ≤ sizeLine ∧ vs.all (pureAt S1.r) = true ∧ compL me mc tg vs ds [] S1 = .ok acc S2 ∧
      ∀ D w' H', Rr F f w' σ H' ⟨backB S1.r vs S2.r, S2.m⟩ → Le w w' → w'.G D = none → D ∉ w'.A → Mc F w' H' D (.lst acc) → f.H0 D = none → (∀ (j : Nat) e, (backB S1.r vs S2.r)[j]? = some (some (.o e)) → σ[j]? = some (some (.ref D)) → False) → Q (.ref D) H'
theorem comp_core {tg : Tg} {mi me mc : Sto → Rs Dt} {vs : List Nat} {σ : L2.St} {H : Hp} {w : Wd} {S : Sto} {Q : VK} (hK : X.K = F.K) (hsl : ∀ i ∈ tgSl tg, i ∈ vs) (R : Rr F f w σ H S) (h : CompIn F f W σ w me mc tg vs Q (mi S)) :
    tLc (RI F f W mi) (gT X.K tg) (fun σ H Q => ∃ f', RB F f' W0 mc σ H Q) (fun σ H Q => ∃ f', RE F f' W0 me σ H Q) vs σ H Q := by
  refine ⟨w, S, R, ?_⟩
  cases q : mi S with
  | bad => rw [q] at h; exact h.elim
  | ex c ns ds S' => rw [q] at h; exact h
  | ok d S1 =>
          rw [q] at h
          obtain ⟨ds, acc, S2, ei, hlen, hpure, ec, h⟩ := h
          refine ⟨ds, ei, fun w' H' J R' l itw D hD => ?_⟩
          have R1 := R'.enter
          obtain ⟨gD, aD⟩ := R'.cs.new hD
          have ownD : D ∉ owns σ S1.r := fun z => by
            obtain ⟨o, ho⟩ := R1.xt.xs D z
            rw [hD] at ho
            cases ho
          refine lc_it (g := gT X.K tg) (tt := fun σ H Q => ∃ f', RB F f' W0 mc σ H Q) (te := fun σ H Q => ∃ f', RE F f' W0 me σ H Q) (vs := vs) (σ := σ) (H1 := H') (D := D) (Qd := Q (.ref D)) itw (fun i H2 => Lc F ⟨H', w', owns σ S1.r, f.xi⟩ σ vs D me mc tg ds acc S2 i H2) ?_ ?_ ?_ ?_
          · have R2 := (R1.wipe vs).fresh (o := .lst []) hD
            refine ⟨w', S1, [], [], R2, gD, aD, upd_same, rfl, Nat.zero_le _, fun j e q1 q2 => ?_, by rw [List.drop_zero]; exact ec⟩
            obtain ⟨a, s1, _, _, m1, _⟩ := (R1.wipe vs).ow j e q1
            rw [q2] at s1
            cases s1
            obtain ⟨o, ho⟩ := m1.there
            rw [hD] at ho
            cases ho
          · rintro i H2 _ ⟨w2, Si, ai, av, R2, _⟩ a o e
            exact R2.cs.fr a o (R2.xt.le.g a o e)
          · rintro i x H2 H3 hi ⟨w2, Si, ai, av, R2, g2, a2, hDv, rA, hai, noD, hL⟩ y
            obtain ⟨dx, edx, yq⟩ := y
            have edrop : ds.drop i = dx :: ds.drop (i + 1) := by
              rw [List.drop_eq_getElem_cons hi]
              rw [List.getElem?_eq_getElem hi] at edx
              cases edx
              rfl
            rw [edrop] at hL
            unfold compL at hL
            -- the item
            have Rin := R2.enter
            have noO : D ∉ owns (wipe σ vs) (wipeB Si.r vs) := fun z => by
              obtain ⟨j, e, h1, h2⟩ := mem_owns.mp z
              exact noD j e h2 h1
            obtain ⟨w3, R3, l3, dn3, ext3⟩ : ∃ w3, Rr F ⟨H2, w2, owns (wipe σ vs) (wipeB Si.r vs), f.xi⟩ w3 (wipe σ vs) H3 ⟨wipeB Si.r vs, Si.m⟩ ∧ Le w2 w3 ∧ Dn F w3 dx x ∧ True := by
              rcases yq with ⟨e1, e2⟩ | ⟨T, tv, es, e1, e2, e3, e4, e5⟩
              · subst e1
                exact ⟨w2, Rin, Le.refl _, Dn.mono R2.xt.le _ e2, trivial⟩
              · subst e1
                subst e2
                subst e4
                have al := Rin.alloc (o := .tup tv) e3
                exact ⟨_, al.1, al.2, ⟨T, tv, rfl, SqT.of upd_same, Dns.mono (R2.xt.le.trans al.2) es e5⟩, trivial⟩
            cases et : tgD tg dx (wipeB Si.r vs) with
            | none => rw [et] at hL; cases hL
            | some r' =>
              rw [et] at hL
              have ww : wipe (wipe σ vs) vs = wipe σ vs := by
                have : ∀ (us : List Nat), (∀ i ∈ us, i ∈ vs) → wipe (wipe σ us) vs = wipe σ vs := by
                  intro us
                  induction us with
                  | nil => intro _; rfl
                  | cons u us ih =>
                    intro hu
                    show wipe ((wipe σ us).set u none) vs = wipe σ vs
                    rw [wipe_set (hu u List.mem_cons_self), ih (fun i hi => hu i (List.mem_cons_of_mem _ hi))]
                exact this vs (fun _ z => z)
              refine gT_ok hK tg R3 dn3 et fun σ2 R4 hw => ?_
              have hw2 := hw vs hsl
              rw [ww] at hw2
              refine ⟨hw2, ?_⟩
              dsimp only at hL
              refine ⟨⟨H2, w2, owns (wipe σ vs) (wipeB Si.r vs), f.xi⟩, w3, ⟨r', Si.m⟩, R4, ?_⟩
              -- what holds of D behind anything that runs in this turn
              have keepD : ∀ {w5 : Wd} {σ5 : L2.St} {H5 : Hp} {S5 : Sto}, Rr F ⟨H2, w2, owns (wipe σ vs) (wipeB Si.r vs), f.xi⟩ w5 σ5 H5 S5 → H5 D = some (.lst av) ∧ w5.G D = none ∧ D ∉ w5.A ∧ (∀ (j : Nat) e, S5.r[j]? = some (some (.o e)) → σ5[j]? = some (some (.ref D)) → False) := by
                intro w5 σ5 H5 S5 R5
                refine ⟨R5.xt.pr D _ hDv a2 noO, ?_, fun z => ?_, fun j e q1 q2 => ?_⟩
                · cases e : w5.G D with
                  | none => rfl
                  | some o =>
                    rcases R5.xt.gn D o e with z | z | z
                    · rw [show w2.G D = some o from z] at g2; cases g2
                    · rw [show H2 D = none from z] at hDv; cases hDv
                    · exact (noO z).elim
                · rcases R5.xt.an D z with y | y
                  · exact a2 y
                  · rw [show H2 D = none from y] at hDv; cases hDv
                · obtain ⟨a, s1, _, _, _, z⟩ := R5.ow j e q1
                  rw [q2] at s1
                  cases s1
                  rcases z.1 with z | z
                  · rw [show H2 D = none from z] at hDv; cases hDv
                  · exact noO z
              have step : ∀ {w5 : Wd} {H5 : Hp} {S5 : Sto} {aj : List Dt} {avj : List V}, Rr F ⟨H2, w2, owns (wipe σ vs) (wipeB Si.r vs), f.xi⟩ w5 σ2 H5 S5 → Dns F w5 aj avj → aj.length ≤ i + 1 → compL me mc tg vs (ds.drop (i + 1)) aj S5 = .ok acc S2 → Lc F ⟨H', w', owns σ S1.r, f.xi⟩ σ vs D me mc tg ds acc S2 (i + 1) (upd H5 D (.lst avj)) := by
                intro w5 H5 S5 aj avj R5 rj hj hL5
                obtain ⟨k1, k2, k3, k4⟩ := keepD R5
                have R6 := R2.leave R5
                have R7 := R6.wipe vs
                rw [hw2] at R7
                have noW : ∀ (j : Nat) e, (wipeB S5.r vs)[j]? = some (some (.o e)) → (wipe σ vs)[j]? = some (some (.ref D)) → False := fun j e q1 q2 => by
                  obtain ⟨y1, y2⟩ := wipeB_some q1
                  rw [← hw2, wipe_get y2] at q2
                  exact k4 j e y1 q2
                exact ⟨w5, S5, aj, avj, R7.put k2 k3 noW hD, k2, k3, upd_same, rj, hj, noW, hL5⟩
              have id5 : ∀ {H5 : Hp}, H5 D = some (.lst av) → upd H5 D (.lst av) = H5 := fun {H5} e => by
                funext b
                by_cases z : b = D
                · subst z; rw [upd_same, e]
                · rw [upd_ne z]
              cases eb : mc ⟨r', Si.m⟩ with
              | bad => rw [eb] at hL; cases hL
              | ex _ _ _ _ => rw [eb] at hL; cases hL
              | ok b S5 =>
                rw [eb] at hL
                unfold tst
                rw [eb]
                cases b with
                | bl k =>
                  cases k with
                  | true =>
                    intro b5 w5 H5 R5 l5 e5
                    subst e5
                    have hL : (match me S5 with
                      | .ok d S3 => compL me mc tg vs (ds.drop (i + 1)) (ai ++ [d]) S3
                      | _ => .bad) = .ok acc S2 := hL
                    cases em : me S5 with
                    | bad => rw [em] at hL; cases hL
                    | ex _ _ _ _ => rw [em] at hL; cases hL
                    | ok d6 S6 =>
                      rw [em] at hL
                      refine ⟨_, w5, S5, R5, ?_⟩
                      rw [em]
                      intro y w6 H6 R6 l6 dn6
                      obtain ⟨k1, k2, k3, k4⟩ := keepD R6
                      have hla := rA.length
                      refine ⟨av, k1, by rw [← hla]; omega, step R6 ((Dns.mono (l3.trans (l5.trans l6)) ai rA).append (show Dns F w6 [d6] [y] from ⟨y, [], rfl, dn6, rfl⟩)) (by rw [List.length_append]; exact Nat.succ_le_succ hai) hL⟩
                  | false =>
                    intro b5 w5 H5 R5 l5 e5
                    subst e5
                    show Lc F _ σ vs D me mc tg ds acc S2 (i + 1) H5
                    obtain ⟨k1, _⟩ := keepD R5
                    have := step R5 (Dns.mono (l3.trans l5) ai rA) (Nat.le_succ_of_le hai) hL
                    rw [id5 k1] at this
                    exact this
                | _ => cases hL
          · rintro Hn ⟨wn, Sn, an, av, Rn, gn, aDn, hDv, rA, _, noD, hL⟩
            rw [List.drop_length] at hL
            unfold compL at hL
            cases hL
            have Rf := R'.unwipe hpure Rn
            have noF : ∀ (j : Nat) e, (backB S1.r vs S2.r)[j]? = some (some (.o e)) → σ[j]? = some (some (.ref D)) → False := fun j e q1 q2 => by
              rcases backB_get q1 with ⟨h1, h2⟩ | ⟨h1, h2⟩
              · exact pureAt_not hpure h1 h2
              · exact noD j e (by rw [wipeB_get h1]; exact h2) (by rw [wipe_get h1]; exact q2)
            exact h D wn Hn Rf (l.trans Rn.xt.le) gn aDn ⟨av, hDv, rA⟩ (R'.new0 hD) noF
theorem compR_ok {me mc : Sto → Rs Dt} {tg : Tg} {vs : List Nat} {x : Dt} {S1 : Sto} : compR me mc tg vs x S1 = .bad ∨ ∃ ds acc S2, itemsD x = some ds ∧ ds.length ≤ sizeLine ∧ vs.all (pureAt S1.r) = true ∧ compL me mc tg vs ds [] S1 = .ok acc S2 ∧ compR me mc tg vs x S1 = .ok (.lst acc) ⟨backB S1.r vs S2.r, S2.m⟩ := by
  unfold compR
  cases itemsD x with
  | none => exact .inl rfl
  | some ds =>
    dsimp only
    by_cases hc : ds.length ≤ sizeLine ∧ vs.all (pureAt S1.r) = true
    · rw [if_pos hc]
      cases e : compL me mc tg vs ds [] S1 with
      | ok acc S2 => exact .inr ⟨ds, acc, S2, rfl, hc.1, hc.2, e, rfl⟩
      | ex _ _ _ _ => exact .inl rfl
      | bad => exact .inl rfl
    · rw [if_neg hc]
      exact .inl rfl
theorem compIn_of {me mc mi : Sto → Rs Dt} {tg : Tg} {vs : List Nat} {σ : L2.St} {w : Wd} {S : Sto} {Q : VK} (h : Po F f W σ w ((mi S).bind (compR me mc tg vs)) (Dn F) Q) : CompIn F f W σ w me mc tg vs Q (mi S) := by
  cases q : mi S with
  | bad => rw [q] at h; exact h
  | ex c ns ds S' => rw [q] at h; exact h
  | ok d S1 =>
    rw [q] at h
    have h : Po F f W σ w (compR me mc tg vs d S1) (Dn F) Q := h
    rcases compR_ok (me := me) (mc := mc) (tg := tg) (vs := vs) (x := d) (S1 := S1) with e | ⟨ds, acc, S2, e1, e2, e3, e4, e5⟩
    · rw [e] at h; exact h.elim
    · rw [e5] at h
      refine ⟨ds, acc, S2, e1, e2, e3, e4, fun D w' H' R' l g a m0 h0 no => ?_⟩
      obtain ⟨wf, lf, Rff, dnf⟩ := R'.freezeV (d := .lst acc) g a m0 h0 no
      exact h _ wf H' Rff (l.trans lf) dnf
section
variable {own : List (Str × Nat)} {tg : Tg} {tgE iter elt : Expr} {ifs : List Expr} {scope : Scope} {pos : Pos} {mi me mc : Sto → Rs Dt}
theorem se_comp (hK : X.K = F.K) (hc : X.calm = true) (hN : X.N.Nodup) (hi : PI X tgE iter (RI F f W mi)) (ok : BlkOk X.N X.env.scope scope own)
    (hg : ∀ (s : Shared) (H : Hp) (C : Addr) (cl : List (Str × Addr)) (fp : List Addr), PG (X.blk s H scope (compEnvC scope cl C X.env) fp) tgE (gT X.K tg))
    (ht : ∀ (s : Shared) (H : Hp) (C : Addr) (cl : List (Str × Addr)) (fp : List Addr), PTs (X.blk s H scope (compEnvC scope cl C X.env) fp) ifs (fun σ H Q => ∃ f', RB F f' W0 mc σ H Q))
    (he : ∀ (s : Shared) (H : Hp) (C : Addr) (cl : List (Str × Addr)) (fp : List Addr), PE (X.blk s H scope (compEnvC scope cl C X.env) fp) elt (fun σ H Q => ∃ f', RE F f' W0 me σ H Q))
    (hs : ∀ x, foldedSetIterable iter X.env x = pure x) (hsl : ∀ i ∈ tgSl tg, i ∈ own.map (·.2)) :
    PE X (.ListComp elt [⟨tgE, iter, ifs, 0⟩] scope pos) (RE F f W fun S => (mi S).bind (compR me mc tg (own.map (·.2)))) :=
  peImp (pe_lc (own := own) (tt := fun σ H Q => ∃ f', RB F f' W0 mc σ H Q) (te := fun σ H Q => ∃ f', RE F f' W0 me σ H Q) (pos := pos) hc hN hi ok hg ht he hs) fun σ H Q ⟨w, S, R, h⟩ => comp_core hK hsl R (compIn_of h)
end
end
end PyI
namespace PyI
open PySem PySem.Spec PyProof.Rows L2
/-! ### statements -/
section
variable (F : Fx) (f : Fm) (W : WX)
/-- what a frame hands back -/
def Vr (w' : Wd) (H' : Hp) : Bn → V → Prop
  | .p d, v => Dn F w' d v
  | .o d, v => ∃ a, v = .ref a ∧ w'.G a = none ∧ a ∉ w'.A ∧ Mc F w' H' a d ∧ f.H0 a = none
def PoS (w : Wd) (r : Rt) (D : Ends) : Prop := match r with
  | .nx S' => ∀ σ' w' H', Rr F f w' σ' H' S' → Le w w' → D.nx σ' H'
  | .rt b S' => ∀ v σ' w' H', Rr F f w' σ' H' S' → Le w w' → Vr F f w' H' b v → D.rt v H'
  | .bk S' => ∀ σ' w' H', Rr F f w' σ' H' S' → Le w w' → D.bk σ' H'
  | .ct S' => ∀ σ' w' H', Rr F f w' σ' H' S' → Le w w' → D.ct σ' H'
  | .ex c ns ds S' => ∀ dx vs σ' w' H', Rr F f w' σ' H' S' → Le w w' → w'.G dx = some (.xd (ns.zip vs)) → ns.length = vs.length → Dns F w' ds vs → W (.ref (F.ca c)) (some dx) σ' H'
  | .bad => False
def RS (m : Sto → Rt) : TS := fun D σ H => ∃ w S, Rr F f w σ H S ∧ PoS F f W w (m S) D
end
section
variable {X : Cx} {F : Fx} {f : Fm} {W : WX} {a b c : Expr} {pos pos' : Pos} {ma mb mc : Sto → Rs Dt}
theorem PoS.le {w w1 : Wd} {r : Rt} {D : Ends} (l : Le w w1) (h : PoS F f W w r D) : PoS F f W w1 r D := by
  cases r with
  | nx S => exact fun σ' w' H' R l' => h σ' w' H' R (l.trans l')
  | rt b S => exact fun v σ' w' H' R l' => h v σ' w' H' R (l.trans l')
  | bk S => exact fun σ' w' H' R l' => h σ' w' H' R (l.trans l')
  | ct S => exact fun σ' w' H' R l' => h σ' w' H' R (l.trans l')
  | ex c ns ds S => exact fun dx vs σ' w' H' R l' => h dx vs σ' w' H' R (l.trans l')
  | bad => exact h
theorem Po.goS {α β : Type} {m : Sto → Rs α} {k : α → Sto → Rt} {Rel1 : Wd → α → β → Prop} {σ : L2.St} {w : Wd} {S : Sto} {D : Ends} {Q1 : β → Hp → Prop} (h : PoS F f W w (toRt (m S) k) D)
    (hk : ∀ a b w1 H1 S1, m S = .ok a S1 → Rr F f w1 σ H1 S1 → Le w w1 → Rel1 w1 a b → PoS F f W w1 (k a S1) D → Q1 b H1) : Po F f W σ w (m S) Rel1 Q1 := by
  cases e : m S with
  | ok a S1 =>
    rw [e] at h
    exact fun b w1 H1 R1 l1 r1 => hk a b w1 H1 S1 e R1 l1 r1 (PoS.le l1 h)
  | ex c ns ds S1 =>
    rw [e] at h
    exact fun dx vs w' H' R' l' => h dx vs σ w' H' R' l'
  | bad =>
    rw [e] at h
    exact h
theorem Rd1.goS {α β : Type} {m : Sto → Rs α} {k : α → Sto → Rt} {Rel1 : Wd → α → β → Prop} {σ : L2.St} {H : Hp} {w : Wd} {S : Sto} {D : Ends} {Q1 : β → Hp → Prop}
    (R : Rr F f w σ H S) (h : PoS F f W w (toRt (m S) k) D)
    (hk : ∀ a b w1 H1 S1, m S = .ok a S1 → Rr F f w1 σ H1 S1 → Le w w1 → Rel1 w1 a b → PoS F f W w1 (k a S1) D → Q1 b H1) : Rd1 F f W m Rel1 σ H Q1 := ⟨w, S, R, Po.goS h hk⟩
theorem ss_pas : PS X (.Pass pos) (RS F f W fun S => .nx S) := psImp ps_pass fun D σ H ⟨w, S, R, h⟩ => h σ w H R (Le.refl _)
theorem ss_brk : PS X (.Break pos) (RS F f W fun S => .bk S) := psImp ps_break fun D σ H ⟨w, S, R, h⟩ => h σ w H R (Le.refl _)
theorem ss_cnt : PS X (.Continue pos) (RS F f W fun S => .ct S) := psImp ps_continue fun D σ H ⟨w, S, R, h⟩ => h σ w H R (Le.refl _)
theorem ss_retN : PS X (.Return none pos) (RS F f W fun S => .rt (.p .non) S) := psImp ps_retN fun D σ H ⟨w, S, R, h⟩ => h .non σ w H R (Le.refl _) rfl
theorem ss_nev {st : Stmt} : PS X st (RS F f W fun _ => .bad) := psImp ps_never fun D σ H ⟨w, S, R, h⟩ => h
theorem ss_ret (ha : PE X a (RE F f W ma)) : PS X (.Return (some a) pos) (RS F f W fun S => toRt (ma S) fun d S1 => .rt (.p d) S1) :=
  psImp (ps_ret ha) fun D σ H ⟨w, S, R, h⟩ => Rd1.goS R h fun d v w1 H1 S1 _ R1 l1 r1 h1 => h1 v σ w1 H1 R1 (Le.refl _) r1
theorem ss_exp (ha : PE X a (RE F f W ma)) (hs : swapsWith a none pos.line X.env = pure false) : PS X (.Expr a pos) (RS F f W fun S => toRt (ma S) fun _ S1 => .nx S1) :=
  psImp (ps_expr ha hs) fun D σ H ⟨w, S, R, h⟩ => Rd1.goS R h fun d v w1 H1 S1 _ R1 l1 r1 h1 => h1 σ w1 H1 R1 (Le.refl _)
theorem ss_nil : PSs X [] (RS F f W fun S => .nx S) := pssImp pss_nil fun D σ H ⟨w, S, R, h⟩ => h σ w H R (Le.refl _)
theorem ss_cons {st : Stmt} {rest : List Stmt} {m1 m2 : Sto → Rt} (h1 : PS X st (RS F f W m1)) (h2 : PSs X rest (RS F f W m2)) : PSs X (st :: rest) (RS F f W fun S => match m1 S with
    | .nx S1 => m2 S1
    | r => r) := by
  refine pssImp (pss_cons h1 h2) fun D σ H ⟨w, S, R, h⟩ => ⟨w, S, R, ?_⟩
  dsimp only at h
  cases e : m1 S with
  | nx S1 =>
    rw [e] at h
    exact fun σ' w' H' R' l' => ⟨w', S1, R', PoS.le l' h⟩
  | rt b S1 => rw [e] at h; exact h
  | bk S1 => rw [e] at h; exact h
  | ct S1 => rw [e] at h; exact h
  | ex _ _ _ _ => rw [e] at h; exact h
  | bad => rw [e] at h; exact h
theorem ss_iff {s1 s2 : List Stmt} {m1 m2 : Sto → Rt} (hc : PT X c (RB F f W mc)) (h1 : PSs X s1 (RS F f W m1)) (h2 : PSs X s2 (RS F f W m2)) :
    PS X (.If c s1 s2 pos) (RS F f W fun S => toRt (tst mc S) fun k S1 => if k = true then m1 S1 else m2 S1) := by
  refine psImp (ps_if hc h1 h2) fun D σ H ⟨w, S, R, h⟩ => ?_
  refine Rd1.goS (m := tst mc) R h fun k v w1 H1 S1 _ R1 l1 r1 h1 => ?_
  subst r1
  cases k with
  | true => exact ⟨w1, S1, R1, h1⟩
  | false => exact ⟨w1, S1, R1, h1⟩
/-- target = e -/
theorem ss_asg {tg : Tg} {tgE : Expr} (hK : X.K = F.K) (ha : PE X a (RE F f W ma)) (hg : PG X tgE (gT X.K tg)) (hs : swapsWithSole [tgE] a pos.line X.env = pure false) (hw : swappedStores [tgE] a X.env = pure none) (h1 : plainEs [tgE] = true) :
    PS X (.Assign [tgE] a pos) (RS F f W fun S => toRt (ma S) fun d S1 => match tgD tg d S1.r with
    | some r' => .nx ⟨r', S1.m⟩
    | none => .bad) := by
  refine psImp (ps_asg ha hg hs hw (by rw [assign_cons h1]; rfl)) fun D σ H ⟨w, S, R, h⟩ => ?_
  refine Rd1.goS R h fun d v w1 H1 S1 _ R1 l1 r1 h2 => ?_
  cases e : tgD tg d S1.r with
  | none => rw [e] at h2; exact h2.elim
  | some r' =>
    rw [e] at h2
    exact gT_ok hK tg R1 r1 e fun σ' R' _ => h2 σ' w1 H1 R' (Le.refl _)
theorem ss_asgC {i : Nat} {te : TE} {st : Stmt} (hb : PS X st (tAsg te (gName i))) (hi : ∀ (σ : L2.St) (H : Hp) (w : Wd) (S : Sto) (Q : VK), Rr F f w σ H S → Po F f W σ w (ma S) (Dn F) Q → te σ H Q) :
    PS X st (RS F f W fun S => toRt (ma S) fun d S1 => match tgD (.nm i) d S1.r with
    | some r' => .nx ⟨r', S1.m⟩
    | none => .bad) := by
  refine psImp hb fun D σ H ⟨w, S, R, h⟩ => hi σ H w S _ R ?_
  refine Po.goS h fun d v w1 H1 S1 _ R1 l1 r1 h2 => ?_
  cases e : tgD (.nm i) d S1.r with
  | none => rw [e] at h2; exact h2.elim
  | some r' =>
    rw [e] at h2
    have g := gT_ok (K := F.K) (Q := D.nx) rfl (.nm i) R1 r1 e fun σ' R' _ => h2 σ' w1 H1 R' (Le.refl _)
    simpa only [gT] using g
/-! ### objects that are the frame's own -/
/-- a new list that nobody else has -/
structure New (F : Fx) (f : Fm) (w : Wd) (σ : L2.St) (H : Hp) (S : Sto) (d : Dt) (a : Addr) : Prop where
  g : w.G a = none
  na : a ∉ w.A
  m : Mc F w H a d
  h : f.H0 a = none
  k : ¬ insB d = true
  n : ∀ (j : Nat) e, S.r[j]? = some (some (.o e)) → σ[j]? = some (some (.ref a)) → False
def PoN (F : Fx) (f : Fm) (W : WX) (σ : L2.St) (w : Wd) (r : Rs Dt) (Q : VK) : Prop := match r with
  | .ok d S' => ∀ a w' H', Rr F f w' σ H' S' → Le w w' → New F f w' σ H' S' d a → Q (.ref a) H'
  | .ex c ns ds S' => ∀ dx vs w' H', Rr F f w' σ H' S' → Le w w' → w'.G dx = some (.xd (ns.zip vs)) → ns.length = vs.length → Dns F w' ds vs → W (.ref (F.ca c)) (some dx) σ H'
  | .bad => False
def RN (F : Fx) (f : Fm) (W : WX) (m : Sto → Rs Dt) : TE := fun σ H Q => ∃ w S, Rr F f w σ H S ∧ PoN F f W σ w (m S) Q
theorem Rr.newL {w : Wd} {σ : L2.St} {H : Hp} {S : Sto} {p : Addr} {vs : List V} {ds : List Dt} (R : Rr F f w σ H S) (hp : H p = none) (r : Dns F w ds vs) : Rr F f w σ (upd H p (.lst vs)) S ∧ New F f w σ (upd H p (.lst vs)) S (.lst ds) p := by
  obtain ⟨g, a⟩ := R.cs.new hp
  refine ⟨R.fresh hp, ⟨g, a, ⟨vs, upd_same, r⟩, R.new0 hp, by simp [insB], fun j e q1 q2 => ?_⟩⟩
  obtain ⟨b, s1, _, _, m1, _⟩ := R.ow j e q1
  rw [q2] at s1
  cases s1
  obtain ⟨o, ho⟩ := m1.there
  rw [hp] at ho
  cases ho
theorem sn_lst {es : List Expr} {ms : Sto → Rs (List Dt)} (hs : PA X es (REs F f W ms)) : PE X (.List es pos) (RN F f W fun S => (ms S).bind fun ds S1 => if ds.length ≤ sizeLine then .ok (.lst ds) S1 else .bad) := by
  refine peImp (pe_lst hs) fun σ H Q ⟨w, S, R, h⟩ => ⟨w, S, R, ?_⟩
  dsimp only at h
  cases q : ms S with
  | bad => rw [q] at h; exact h
  | ex c ns ds S' => rw [q] at h; exact h
  | ok ds S1 =>
    rw [q] at h
    have h : PoN F f W σ w (if ds.length ≤ sizeLine then .ok (.lst ds) S1 else .bad) Q := h
    split at h
    · rename_i hl
      intro vs w' H' R' l' r'
      refine ⟨by rw [← r'.length]; exact hl, fun p hp => ?_⟩
      obtain ⟨R2, n2⟩ := R'.newL hp r'
      exact h p w' _ R2 l' n2
    · exact h.elim
theorem sn_comp {own : List (Str × Nat)} {tg : Tg} {mi me mc : Sto → Rs Dt} (hK : X.K = F.K) (hsl : ∀ i ∈ tgSl tg, i ∈ own.map (·.2)) {σ : L2.St} {H : Hp} {w : Wd} {S : Sto} {Q : VK} (R : Rr F f w σ H S) (h : PoN F f W σ w ((mi S).bind (compR me mc tg (own.map (·.2)))) Q) :
    tLc (RI F f W mi) (gT X.K tg) (fun σ H Q => ∃ f', RB F f' W0 mc σ H Q) (fun σ H Q => ∃ f', RE F f' W0 me σ H Q) (own.map (·.2)) σ H Q := by
  refine comp_core hK hsl R ?_
  cases q : mi S with
  | bad => rw [q] at h; exact h
  | ex c ns ds S' => rw [q] at h; exact h
  | ok d S1 =>
    rw [q] at h
    have h : PoN F f W σ w (compR me mc tg (own.map (·.2)) d S1) Q := h
    rcases compR_ok (me := me) (mc := mc) (tg := tg) (vs := own.map (·.2)) (x := d) (S1 := S1) with e | ⟨ds, acc, S2, e1, e2, e3, e4, e5⟩
    · rw [e] at h; exact h.elim
    · rw [e5] at h
      exact ⟨ds, acc, S2, e1, e2, e3, e4, fun D w' H' R' l g a m0 h0 no => h D w' H' R' l ⟨g, a, m0, h0, by simp [insB], no⟩⟩
theorem sn_list {P : Pg} {cf : Nat → List Dt → List Dt → Rc} {p : Pos} (hK : X.K = F.K) (hgl : Gl X "list") (hm : X.mg "list" = none) (hp : plainEs [a] = true) (ha : PE X a (RE F f W ma)) :
    PE X (.Call (.Name "list" p) [a] [] pos) (RN F f W fun S => ((ma S).bind fun d S1 => .ok [d] S1).bind fun ds S1 => bi1 P cf .list ds S1) := by
  refine peImp (pe_callTy call_list_of hgl hm boot_list (pa_cons ha pa_nil (star_cons hp)) (by decide) (by decide) (star_cons hp) (star_any (plain_tail hp))) fun σ H Q ⟨w, S, R, h⟩ => ⟨w, S, R, ?_⟩
  dsimp only at h
  cases q : ma S with
  | bad => rw [q] at h; exact h
  | ex c ns ds S' => rw [q] at h; exact h
  | ok d S1 =>
    rw [q] at h
    intro v w' H' R' l' dn
    cases d with
    | lst ds =>
      obtain ⟨a, vs, rfl, g1, r1⟩ := dn
      refine ⟨a, vs, rfl, .inl (SqL.of (R'.cs.fr _ _ g1)), fun p hp => ?_⟩
      obtain ⟨R2, n2⟩ := R'.newL hp r1
      exact h p w' _ R2 l' n2
    | tup ds =>
      obtain ⟨a, vs, rfl, g1, r1⟩ := dn
      refine ⟨a, vs, rfl, .inr (by rw [hK]; exact sqT_mono R'.cs.fr g1), fun p hp => ?_⟩
      obtain ⟨R2, n2⟩ := R'.newL hp r1
      exact h p w' _ R2 l' n2
    | _ => exact (h : False).elim
theorem PoN.goS {m : Sto → Rs Dt} {k : Dt → Sto → Rt} {σ : L2.St} {w : Wd} {S : Sto} {D : Ends} {Q1 : VK} (h : PoS F f W w (toRt (m S) k) D)
    (hk : ∀ d a w1 H1 S1, m S = .ok d S1 → Rr F f w1 σ H1 S1 → Le w w1 → New F f w1 σ H1 S1 d a → PoS F f W w1 (k d S1) D → Q1 (.ref a) H1) : PoN F f W σ w (m S) Q1 := by
  cases e : m S with
  | ok a S1 =>
    rw [e] at h
    exact fun b w1 H1 R1 l1 r1 => hk a b w1 H1 S1 e R1 l1 r1 (PoS.le l1 h)
  | ex c ns ds S1 =>
    rw [e] at h
    exact fun dx vs w' H' R' l' => h dx vs σ w' H' R' l'
  | bad =>
    rw [e] at h
    exact h
/-- x = a new list -/
theorem ss_asgO {i : Nat} {te : TE} {st : Stmt} (hb : PS X st (tAsg te (gName i))) (hi : ∀ (σ : L2.St) (H : Hp) (w : Wd) (S : Sto) (Q : VK), Rr F f w σ H S → PoN F f W σ w (ma S) Q → te σ H Q) :
    PS X st (RS F f W fun S => toRt (ma S) fun d S1 => if i < S1.r.length then .nx ⟨S1.r.set i (some (.o d)), S1.m⟩ else .bad) := by
  refine psImp hb fun D σ H ⟨w, S, R, h⟩ => hi σ H w S _ R ?_
  refine PoN.goS h fun d a w1 H1 S1 _ R1 l1 n1 h2 => ?_
  split at h2
  · exact h2 _ w1 H1 (R1.setO n1.g n1.na n1.m ⟨.inl n1.h, fun z => absurd z n1.k⟩ n1.n) (Le.refl _)
  · exact h2.elim
theorem ss_retF (ha : PE X a (RN F f W ma)) : PS X (.Return (some a) pos) (RS F f W fun S => toRt (ma S) fun d S1 => .rt (.o d) S1) :=
  psImp (ps_ret ha) fun D σ H ⟨w, S, R, h⟩ => ⟨w, S, R, PoN.goS h fun d a w1 H1 S1 _ R1 l1 n1 h1 => h1 (.ref a) σ w1 H1 R1 (Le.refl _) ⟨a, rfl, n1.g, n1.na, n1.m, n1.h⟩⟩
theorem ss_retO {i : Nat} {x : Str} (hN : X.N[i]? = some x) (hv : Vis X.env.scope x) (hd : (x == ("__debug__" : Str)) = false) (hcd : (x == ("__classdict__" : Str)) = false) (hx : f.ex = []) :
    PS X (.Return (some (.Name x pos')) pos) (RS F f W fun S => match S.r[i]? with
    | some (some (.o (.lst ds))) => .rt (.o (.lst ds)) S
    | _ => .bad) := by
  refine psImp (ps_ret (pe_var hN hv hd hcd)) fun D σ H ⟨w, S, R, h⟩ => ?_
  dsimp only at h
  split at h
  · rename_i ds e
    obtain ⟨a, s1, g1, a1, m1, f1⟩ := R.ow i _ e
    refine ⟨.ref a, s1, h (.ref a) σ w H R (Le.refl _) ⟨a, rfl, g1, a1, m1, ?_⟩⟩
    rcases f1.1 with z | z
    · exact z
    · rw [hx] at z; cases z
  · exact h.elim
end
end PyI
namespace PyI
open PySem PySem.Spec PyProof.Rows L2
section
variable {X : Cx} {F : Fx} {f : Fm} {W : WX} {a b c : Expr} {pos pos' apos : Pos} {ma mb mc mo mi me : Sto → Rs Dt}
/-- a, b = e1, e2 with plain local names -/
theorem ss_par {i j : Nat} {x y : Str} {px py pt pt2 : Pos} {kt k2 : Nat} (hc : X.calm = true) (hN : X.N.Nodup) (hi : X.N[i]? = some x) (hj : X.N[j]? = some y) (hij : i ≠ j) (hx : X.env.scope.names.lookup x = some .local) (hy : X.env.scope.names.lookup y = some .local) (hp : plainEs [a, b] = true)
    (ha : PE X a (RE F f W ma)) (hb : PE X b (RE F f W mb)) (hw : swappedStores [.Tuple [.Name x px, .Name y py] kt pt] (.Tuple [a, b] k2 pt2) X.env = pure (some [x, y])) :
    PS X (.Assign [.Tuple [.Name x px, .Name y py] kt pt] (.Tuple [a, b] k2 pt2) pos) (RS F f W fun S => toRt (ma S) fun x S1 => toRt (mb S1) fun y S2 => if i < S2.r.length ∧ j < S2.r.length then .nx ⟨(S2.r.set i (some (.p x))).set j (some (.p y)), S2.m⟩ else .bad) := by
  have hp2 := plain_tail hp
  refine psImp (ps_par hc hN hi hj hij hx hy (pa_cons ha (pa_cons hb pa_nil (star_cons hp2)) (star_cons hp)) hw) fun D σ H ⟨w, S, R, h⟩ => ?_
  refine Rd1.goS R h fun d v w1 H1 S1 _ R1 l1 r1 h1 => ?_
  refine Rd1.goS R1 h1 fun e u w2 H2 S2 _ R2 l2 r2 h2 => ?_
  split at h2
  · exact ⟨v, u, rfl, h2 _ w2 H2 ((R2.setP (Dn.mono l2 d r1)).setP r2) (Le.refl _)⟩
  · exact h2.elim
/-- a, b, c = e1, e2, e3 with plain local names -/
theorem ss_par3 {i j l : Nat} {x y z : Str} {px py pz pt pt2 : Pos} {kt k2 : Nat} (hc : X.calm = true) (hN : X.N.Nodup) (hi : X.N[i]? = some x) (hj : X.N[j]? = some y) (hl : X.N[l]? = some z) (hij : i ≠ j) (hil : i ≠ l) (hjl : j ≠ l) (hx : X.env.scope.names.lookup x = some .local) (hy : X.env.scope.names.lookup y = some .local) (hz : X.env.scope.names.lookup z = some .local) (hp : plainEs [a, b, c] = true)
    (ha : PE X a (RE F f W ma)) (hb : PE X b (RE F f W mb)) (hcc : PE X c (RE F f W mc)) (hw : swappedStores [.Tuple [.Name x px, .Name y py, .Name z pz] kt pt] (.Tuple [a, b, c] k2 pt2) X.env = pure (some [x, y, z])) :
    PS X (.Assign [.Tuple [.Name x px, .Name y py, .Name z pz] kt pt] (.Tuple [a, b, c] k2 pt2) pos) (RS F f W fun S => toRt (ma S) fun x S1 => toRt (mb S1) fun y S2 => toRt (mc S2) fun z S3 => if i < S3.r.length ∧ j < S3.r.length ∧ l < S3.r.length then .nx ⟨((S3.r.set i (some (.p x))).set j (some (.p y))).set l (some (.p z)), S3.m⟩ else .bad) := by
  have hp2 := plain_tail hp
  have hp3 := plain_tail hp2
  refine psImp (ps_par3 hc hN hi hj hl hij hil hjl hx hy hz (pa_cons ha (pa_cons hb (pa_cons hcc pa_nil (star_cons hp3)) (star_cons hp2)) (star_cons hp)) hw) fun D σ H ⟨w, S, R, h⟩ => ?_
  refine Rd1.goS R h fun d v w1 H1 S1 _ R1 l1 r1 h1 => ?_
  refine Rd1.goS R1 h1 fun e u w2 H2 S2 _ R2 l2 r2 h2 => ?_
  refine Rd1.goS R2 h2 fun g t w3 H3 S3 _ R3 l3 r3 h3 => ?_
  split at h3
  · exact ⟨v, u, t, rfl, h3 _ w3 H3 (((R3.setP (Dn.mono l3 d (Dn.mono l2 d r1))).setP (Dn.mono l3 e r2)).setP r3) (Le.refl _)⟩
  · exact h3.elim
/-! ### stores into cells -/
theorem setC_ok {w : Wd} {σ : L2.St} {H : Hp} {S : Sto} {o i d : Dt} {x y z : V} {m' : List Dt} {Q : Hp → Prop} (R : Rr F f w σ H S) (hx : Dn F w o x) (hy : Dn F w i y) (hz : Dn F w d z) (e : setC S.m o i d = some m') (q : ∀ H', Rr F f w σ H' ⟨S.r, m'⟩ → Q H') : rSetL x y z H Q := by
  unfold setC at e
  split at e
  · rename_i k j
    split at e
    · rename_i ds hm
      obtain ⟨a, rfl, ha⟩ := hx
      obtain ⟨vs, hv, rv⟩ := R.cs.co k a _ ha hm
      cases e2 : ixN ds.length j with
      | none => rw [e2] at e; cases e
      | some n =>
        rw [e2] at e
        cases e
        refine ⟨a, vs, j, n, rfl, hy, hv, by rw [← rv.length]; exact e2, q _ ?_⟩
        exact R.cell ha (fun b hb => upd_ne hb) ⟨vs.set n z, upd_same, Dns.set hz n rv⟩
    · cases e
  · cases e
/-- o[i] = e, o a cell -/
theorem ss_put {o i e : Expr} (ho : PE X o (RE F f W mo)) (hi : PE X i (RE F f W mi)) (he : PE X e (RE F f W me)) (hs : swapsWithSole [.Subscript o i apos] e pos.line X.env = pure false) (hw : swappedStores [.Subscript o i apos] e X.env = pure none)
    (hA : ∀ v, assign (.Subscript o i apos) X.env v = (do
      let ov ← holding [v] (eval o X.env)
      let iv ← holding [v, ov] (eval i X.env)
      standAt apos
      holding [v, ov, iv] (setItem ov iv v)
      release [v, ov, iv] [])) :
    PS X (.Assign [.Subscript o i apos] e pos) (RS F f W fun S => toRt (me S) fun d S1 => toRt (mo S1) fun x S2 => toRt (mi S2) fun y S3 => match setC S3.m x y d with
    | some m' => .nx ⟨S3.r, m'⟩
    | none => .bad) := by
  refine psImp (ps_asg he (pg_sub ho hi set_list hA) hs hw) fun D σ H ⟨w, S, R, h⟩ => ?_
  refine Rd1.goS R h fun d z w1 H1 S1 _ R1 l1 r1 h1 => ?_
  refine Rd1.goS R1 h1 fun d2 x w2 H2 S2 _ R2 l2 r2 h2 => ?_
  refine Rd1.goS R2 h2 fun d3 y w3 H3 S3 _ R3 l3 r3 h3 => ?_
  cases e : setC S3.m d2 d3 d with
  | none => rw [e] at h3; exact h3.elim
  | some m' =>
    rw [e] at h3
    exact setC_ok R3 (Dn.mono l3 _ r2) r3 (Dn.mono (l2.trans l3) _ r1) e fun H' R' => h3 σ w3 H' R' (Le.refl _)
/-- o[i], x = e -/
theorem ss_tsub {o i e : Expr} {j : Nat} {x : Str} {kt : Nat} {px pt : Pos} (hK : X.K = F.K) (hc : X.calm = true) (hN : X.N.Nodup) (hj : X.N[j]? = some x) (hl : Loc X.env.scope x) (hf : X.fn x = true ∨ X.env.scope.names.lookup x = some .local)
    (ho : PE X o (RE F f W mo)) (hi : PE X i (RE F f W mi)) (he : PE X e (RE F f W me)) (hs : swapsWithSole [.Tuple [.Subscript o i apos, .Name x px] kt pt] e pos.line X.env = pure false) (hw : swappedStores [.Tuple [.Subscript o i apos, .Name x px] kt pt] e X.env = pure none)
    (hA : ∀ v, assign (.Subscript o i apos) X.env v = (do
      let ov ← holding [v] (eval o X.env)
      let iv ← holding [v, ov] (eval i X.env)
      standAt apos
      holding [v, ov, iv] (setItem ov iv v)
      release [v, ov, iv] [])) :
    PS X (.Assign [.Tuple [.Subscript o i apos, .Name x px] kt pt] e pos) (RS F f W fun S => toRt (me S) fun t S1 => match t with
    | .tup [d1, d2] => toRt (mo S1) fun x S2 => toRt (mi S2) fun y S3 => match setC S3.m x y d1 with
      | some m' => if j < S3.r.length then .nx ⟨S3.r.set j (some (.p d2)), m'⟩ else .bad
      | none => .bad
    | _ => .bad) := by
  refine psImp (ps_asg he (pg_tup (n := 2) hc (pgs_cons (pg_sub ho hi set_list hA) (pgs_cons (pg_name hN hj hl hf) pgs_nil))) hs hw) fun D σ H ⟨w, S, R, h⟩ => ?_
  refine Rd1.goS R h fun t z w1 H1 S1 em R1 l1 r1 h1 => ?_
  clear em
  split at h1
  · rename_i d1 d2
    obtain ⟨p, vs, rfl, sq, v1, r', rfl, k1, v2, r'', rfl, k2, k3⟩ := r1
    cases k3
    refine ⟨p, [v1, v2], rfl, by rw [hK]; exact sqT_mono R1.cs.fr sq, rfl, v1, [v2], rfl, ?_⟩
    refine Rd1.goS R1 h1 fun dx x w2 H2 S2 _ R2 l2 r2 h2 => ?_
    refine Rd1.goS R2 h2 fun dy y w3 H3 S3 _ R3 l3 r3 h3 => ?_
    cases e : setC S3.m dx dy d1 with
    | none => rw [e] at h3; exact h3.elim
    | some m' =>
      rw [e] at h3
      dsimp only at h3
      split at h3
      · refine setC_ok R3 (Dn.mono l3 _ r2) r3 (Dn.mono (l2.trans l3) _ k1) e fun H' R' => ⟨v2, [], rfl, rfl, ?_⟩
        exact h3 _ w3 H' (R'.setP (Dn.mono (l2.trans l3) _ k2)) (Le.refl _)
      · exact h3.elim
  · exact h1.elim
/-! ### stores into the frame's own objects -/
theorem ss_putB {n : Nat} {x : Str} {i e : Expr} (hN : X.N[n]? = some x) (hv : Vis X.env.scope x) (hd : (x == ("__debug__" : Str)) = false) (hcd : (x == ("__classdict__" : Str)) = false) (hi : PE X i (RE F f W mi)) (he : PE X e (RE F f W me))
    (hs : swapsWithSole [.Subscript (.Name x pos') i apos] e pos.line X.env = pure false) (hw : swappedStores [.Subscript (.Name x pos') i apos] e X.env = pure none)
    (hA : ∀ v, assign (.Subscript (.Name x pos') i apos) X.env v = (do
      let ov ← holding [v] (eval (.Name x pos') X.env)
      let iv ← holding [v, ov] (eval i X.env)
      standAt apos
      holding [v, ov, iv] (setItem ov iv v)
      release [v, ov, iv] [])) :
    PS X (.Assign [.Subscript (.Name x pos') i apos] e pos) (RS F f W fun S => toRt (me S) fun d S1 => match S1.r[n]? with
    | some (some (.o _)) => toRt (mi S1) fun y S2 => match S2.r[n]?, y with
      | some (some (.o (.lst ds))), .int j => match ixN ds.length j with
        | some k => .nx ⟨S2.r.set n (some (.o (.lst (ds.set k d)))), S2.m⟩
        | none => .bad
      | _, _ => .bad
    | _ => .bad) := by
  refine psImp (ps_asg he (pg_sub (pe_var hN hv hd hcd) hi set_list hA) hs hw) fun D σ H ⟨w, S, R, h⟩ => ?_
  refine Rd1.goS R h fun d z w1 H1 S1 em R1 l1 r1 h1 => ?_
  clear em
  split at h1
  · rename_i d0 e0
    obtain ⟨a0, s0, _⟩ := R1.ow n _ e0
    refine ⟨.ref a0, s0, ?_⟩
    refine Rd1.goS R1 h1 fun dy y w2 H2 S2 em R2 l2 r2 h2 => ?_
    clear em
    split at h2
    · rename_i ds j e1
      obtain ⟨a, s1, _, _, ⟨vs, g1, rv⟩, _⟩ := R2.ow n _ e1
      rw [s0] at s1
      cases s1
      cases e2 : ixN ds.length j with
      | none => rw [e2] at h2; exact h2.elim
      | some k =>
        rw [e2] at h2
        refine ⟨a0, vs, j, k, rfl, r2, g1, by rw [← rv.length]; exact e2, h2 σ w2 _ (R2.write e1 s0 (fun b hb => upd_ne hb) ⟨vs.set k z, upd_same, Dns.set (Dn.mono l2 _ r1) k rv⟩ rfl) (Le.refl _)⟩
    · exact h2.elim
  · exact h1.elim
theorem dns_dl {F : Fx} {w : Wd} : ∀ {ds : List Dt} {vs : List V}, Dns F w ds vs → Dns F w ds.dropLast vs.dropLast
  | [], _, h => by cases h; rfl
  | [d], _, ⟨v, r, e, h, t⟩ => by subst e; cases t; rfl
  | d :: d2 :: ds, _, ⟨v, r, e, h, ⟨v2, r2, e2, h2, t⟩⟩ => by
    subst e
    subst e2
    exact ⟨v, (v2 :: r2).dropLast, rfl, h, dns_dl (ds := d2 :: ds) (vs := v2 :: r2) ⟨v2, r2, rfl, h2, t⟩⟩
/-- x.append(e) -/
theorem ss_app {n : Nat} {x : Str} {e : Expr} {cpos : Pos} (hN : X.N[n]? = some x) (hv : Vis X.env.scope x) (hd : (x == ("__debug__" : Str)) = false) (hcd : (x == ("__classdict__" : Str)) = false) (hp : plainEs [e] = true) (he : PE X e (RE F f W me)) (hline : (apos.endLine == cpos.line) = true) (hcalm : X.calm = true) :
    PS X (.Expr (.Call (.Attribute (.Name x pos') "append" apos) [e] [] cpos) pos) (RS F f W fun S => match S.r[n]? with
    | some (some (.o (.lst _))) => toRt (me S) fun d S1 => match S1.r[n]? with
      | some (some (.o (.lst ds))) => if ds.length < sizeLine then .nx ⟨S1.r.set n (some (.o (.lst (ds ++ [d])))), S1.m⟩ else .bad
      | _ => .bad
    | _ => .bad) := by
  refine psImp (ps_expr (pe_bm PySem.F.plainAttrs_list PySem.F.slot_list_append PySem.F.type_list_append mt_append (pe_var hN hv hd hcd) (pa_cons he pa_nil (star_cons hp)) rfl (by rw [star_cons hp]; rfl) hline (star_cons hp) (star_any (plain_tail hp)))) fun D σ H ⟨w, S, R, h⟩ => ?_
  dsimp only at h
  split at h
  · rename_i d0 e0
    obtain ⟨a0, s0, _, _, ⟨vs0, g0, _⟩, _⟩ := R.ow n _ e0
    refine ⟨.ref a0, s0, .inl ⟨rfl, vs0, SqL.of g0⟩, ?_⟩
    refine Rd1.goS R h fun d z w1 H1 S1 em R1 l1 r1 h1 => ?_
    clear em
    split at h1
    · rename_i ds e1
      obtain ⟨a, s1, _, _, ⟨vs, g1, rv⟩, _⟩ := R1.ow n _ e1
      rw [s0] at s1
      cases s1
      split at h1
      · rename_i hl
        refine ⟨a0, vs, z, rfl, rfl, g1, by rw [← rv.length]; exact hl, ?_⟩
        exact h1 σ w1 _ (R1.write e1 s0 (fun b hb => upd_ne hb) ⟨vs ++ [z], upd_same, rv.append (show Dns F w1 [d] [z] from ⟨z, [], rfl, r1, rfl⟩)⟩ rfl) (Le.refl _)
      · exact h1.elim
    · exact h1.elim
  · exact h.elim
/-- x.pop() -/
theorem ss_pop {n : Nat} {x : Str} {cpos : Pos} (hN : X.N[n]? = some x) (hv : Vis X.env.scope x) (hd : (x == ("__debug__" : Str)) = false) (hcd : (x == ("__classdict__" : Str)) = false) (hline : (apos.endLine == cpos.line) = true) :
    PS X (.Expr (.Call (.Attribute (.Name x pos') "pop" apos) [] [] cpos) pos) (RS F f W fun S => match S.r[n]? with
    | some (some (.o (.lst ds))) => if 0 < ds.length then .nx ⟨S.r.set n (some (.o (.lst ds.dropLast))), S.m⟩ else .bad
    | _ => .bad) := by
  refine psImp (ps_expr (pe_bm0 PySem.F.plainAttrs_list PySem.F.slot_list_pop PySem.F.type_list_pop mt_pop (pe_var hN hv hd hcd) rfl hline)) fun D σ H ⟨w, S, R, h⟩ => ?_
  dsimp only at h
  split at h
  · rename_i ds e0
    obtain ⟨a0, s0, _, _, ⟨vs, g0, rv⟩, _⟩ := R.ow n _ e0
    split at h
    · rename_i hl
      have hl' : vs.length - 1 < vs.length := by rw [← rv.length]; omega
      refine ⟨.ref a0, s0, .inl ⟨rfl, vs, SqL.of g0⟩, ?_⟩
      refine ⟨a0, vs, _, rfl, rfl, g0, List.getElem?_eq_getElem hl', ?_⟩
      exact h σ w _ (R.write e0 s0 (fun b hb => upd_ne hb) ⟨vs.dropLast, upd_same, dns_dl rv⟩ rfl) (Le.refl _)
    · exact h.elim
  · exact h.elim
theorem putF_zip {f0 : Str} {d : Dt} {y : V} {w : Wd} (hd : Dn F w d y) : ∀ {ns : List Str} {ds : List Dt} {vs : List V}, Dns F w ds vs → ns.length = vs.length → ∃ us, putF f0 y (ns.zip vs) = (putD f0 d ns ds).1.zip us ∧ (putD f0 d ns ds).1.length = us.length ∧ Dns F w (putD f0 d ns ds).2 us
  | [], [], vs, h, _ => by
    cases h
    exact ⟨[y], rfl, rfl, y, [], rfl, hd, rfl⟩
  | [], _ :: _, _, ⟨_, _, e, _, _⟩, hl => by subst e; cases hl
  | _ :: _, [], _, h, hl => by cases h; cases hl
  | n :: ns, d0 :: ds, _, ⟨v, r, e, h1, h2⟩, hl => by
    subst e
    unfold putD
    rw [List.zip_cons_cons]
    unfold putF
    by_cases q : f0 = n
    · rw [if_pos q, if_pos q.symm]
      exact ⟨y :: r, rfl, by simpa using hl, y, r, rfl, hd, h2⟩
    · rw [if_neg q, if_neg (fun z => q z.symm)]
      obtain ⟨us, k1, k2, k3⟩ := putF_zip hd (ns := ns) h2 (by simpa using hl)
      exact ⟨v :: us, by rw [k1]; rfl, by simp [k2], v, us, rfl, h1, k3⟩
/-- self.f = e -/
theorem ss_fld {x fl : Str} {e : Expr} {P : Pg} (T : ClsT X.K F P) (hN : X.N[0]? = some x) (hv : Vis X.env.scope x) (hd : (x == ("__debug__" : Str)) = false) (hcd : (x == ("__classdict__" : Str)) = false) (he : PE X e (RE F f W me))
    (hs : swapsWith e (some (.Attribute (.Name x pos') fl apos)) pos.line X.env = pure false) :
    PS X (.Assign [.Attribute (.Name x pos') fl apos] e pos) (RS F f W fun S => toRt (me S) fun d S1 => match S1.r[(0 : Nat)]? with
    | some (some (Bn.o (Dt.ins c ns vs))) => if P.fld c fl = true ∧ ns.length < 1000 then .nx ⟨S1.r.set 0 (some (.o (.ins c (putD fl d ns vs).1 (putD fl d ns vs).2))), S1.m⟩ else .bad
    | _ => .bad) := by
  refine psImp (ps_fld (pe_var hN hv hd hcd) he hs) fun D σ H ⟨w, S, R, h⟩ => ?_
  refine Rd1.goS R h fun d z w1 H1 S1 em R1 l1 r1 h1 => ?_
  clear em
  split at h1
  · rename_i c ns ds e1
    obtain ⟨a, s1, g1, a1, ⟨dx, vs, hh, hl, rv⟩, f1⟩ := R1.ow 0 _ e1
    split at h1
    · rename_i hc
      obtain ⟨hf, hn⟩ := hc
      unfold Pg.fld at hf
      cases q : P.cl[c]? with
      | none => rw [q] at hf; cases hf
      | some cx =>
        rw [q] at hf
        have tc := T c cx q
        refine ⟨.ref a, s1, a, F.ca c, dx, ns.zip vs, rfl, hh, tc.cls, tc.noat fl (by simpa using hf), by rw [List.length_zip, ← hl, Nat.min_self]; exact hn, ?_⟩
        obtain ⟨us, k1, k2, k3⟩ := putF_zip (f0 := fl) r1 rv hl
        rw [k1]
        exact h1 σ w1 _ (R1.write e1 s1 (fun b hb => upd_ne hb) ⟨dx, us, upd_same, k2, k3⟩ rfl) (Le.refl _)
    · exact h1.elim
  · exact h1.elim
/-! ### loops -/
/-- the state of a for at a turn -/
structure Fo (F : Fx) (f : Fm) (W : WX) (w0 : Wd) (mb : Sto → Rt) (tg : Tg) (all : List Dt) (D : Ends) (i : Nat) (σ : L2.St) (H : Hp) : Prop where
  st : ∃ w S, Le w0 w ∧ Rr F f w σ H S ∧ PoS F f W w (forL mb tg (all.drop i) S) D
theorem ss_for {tg : Tg} {tgE iter : Expr} {body : List Stmt} {mb : Sto → Rt} (hK : X.K = F.K) (hown : PassesOwn (model X.prog X.w) X.A X.env X.xe) (hc : X.calm = true) (hi : PI X tgE iter (RI F f W mi)) (hg : PG X tgE (gT X.K tg)) (hb : PSs X body (RS F f W mb)) (hs : ∀ x, foldedSetIterable iter X.env x = pure x) :
    PS X (.For tgE iter body [] pos) (RS F f W fun S => toRt (mi S) fun d S1 => match itemsD d with
    | some ds => forL mb tg ds S1
    | none => .bad) := by
  refine psImp (ps_for hown hc hi hg hb hs) fun D σ H ⟨w, S, R, h⟩ => ⟨w, S, R, ?_⟩
  dsimp only at h
  cases q : mi S with
  | bad => rw [q] at h; exact h
  | ex c ns ds S' => rw [q] at h; exact fun dx vs w' H' R' l' => h dx vs σ w' H' R' l'
  | ok d S1 =>
    rw [q] at h
    have h : PoS F f W w (match itemsD d with
      | some ds => forL mb tg ds S1
      | none => .bad) D := h
    cases ei : itemsD d with
    | none => rw [ei] at h; exact h.elim
    | some ds =>
      rw [ei] at h
      refine ⟨ds, ei, fun w' H' J R' l itw => ?_⟩
      refine for_it itw (fun i σ H => Fo F f W w' mb tg ds D i σ H) ⟨w', S1, Le.refl _, R', by rw [List.drop_zero]; exact PoS.le l h⟩ ?_ ?_ ?_
      · rintro i σ2 H2 _ ⟨w2, S2, l2, R2, _⟩ a o e
        exact R2.cs.fr a o (l2.g a o e)
      · rintro i x σ2 H2 H3 hi ⟨w2, S2, l2, R2, h2⟩ ⟨dx, edx, yq⟩
        have edrop : ds.drop i = dx :: ds.drop (i + 1) := by
          rw [List.drop_eq_getElem_cons hi]
          rw [List.getElem?_eq_getElem hi] at edx
          cases edx
          rfl
        rw [edrop] at h2
        unfold forL at h2
        obtain ⟨w3, R3, l3, dn3⟩ : ∃ w3, Rr F f w3 σ2 H3 S2 ∧ Le w2 w3 ∧ Dn F w3 dx x := by
          rcases yq with ⟨e1, e2⟩ | ⟨T, tv, es, e1, e2, e3, e4, e5⟩
          · subst e1
            exact ⟨w2, R2, Le.refl _, Dn.mono l2 _ e2⟩
          · subst e1
            subst e2
            subst e4
            have al := R2.alloc (o := .tup tv) e3
            exact ⟨_, al.1, al.2, ⟨T, tv, rfl, SqT.of upd_same, Dns.mono (l2.trans al.2) es e5⟩⟩
        cases et : tgD tg dx S2.r with
        | none => rw [et] at h2; exact h2.elim
        | some r' =>
          rw [et] at h2
          refine gT_ok hK tg R3 dn3 et fun σ4 R4 _ => ⟨w3, ⟨r', S2.m⟩, R4, ?_⟩
          dsimp only at h2
          have h2 := PoS.le l3 h2
          cases eb : mb ⟨r', S2.m⟩ with
          | nx S5 => rw [eb] at h2; exact fun σ' w' H' R' l' => ⟨w', S5, l2.trans (l3.trans l'), R', PoS.le l' h2⟩
          | ct S5 => rw [eb] at h2; exact fun σ' w' H' R' l' => ⟨w', S5, l2.trans (l3.trans l'), R', PoS.le l' h2⟩
          | bk S5 => rw [eb] at h2; exact h2
          | rt b S5 => rw [eb] at h2; exact h2
          | ex _ _ _ _ => rw [eb] at h2; exact h2
          | bad => rw [eb] at h2; exact h2
      · rintro σ2 H2 ⟨w2, S2, l2, R2, h2⟩
        rw [List.drop_length] at h2
        unfold forL at h2
        exact h2 σ2 w2 H2 R2 (Le.refl _)
theorem ss_whl {body : List Stmt} {mb : Sto → Rt} {n : Nat} (hown : PassesOwn (model X.prog X.w) X.A X.env X.xe) (hc : PT X c (RB F f W mc)) (hb : PSs X body (RS F f W mb)) :
    PS X (.While c body [] pos) (RS F f W fun S => whL (tst mc) mb n S) := by
  refine psImp (ps_while hown hc hb) fun D σ H ⟨w, S, R, h⟩ => ?_
  refine ⟨fun m σ H => ∃ w S, Rr F f w σ H S ∧ PoS F f W w (whL (tst mc) mb m S) D, ⟨n, w, S, R, h⟩, ?_⟩
  rintro m σ2 H2 ⟨w2, S2, R2, h2⟩
  cases m with
  | zero => exact h2.elim
  | succ m =>
    unfold whL at h2
    refine Rd1.goS (m := tst mc) R2 h2 fun k v w3 H3 S3 _ R3 l3 r3 h3 => ?_
    subst r3
    cases k with
    | false => exact h3 σ2 w3 H3 R3 (Le.refl _)
    | true =>
      refine ⟨fun σ' H' => ∃ m', m' < m + 1 ∧ ∃ w S, Rr F f w σ' H' S ∧ PoS F f W w (whL (tst mc) mb m' S) D, fun _ _ q => q, w3, S3, R3, ?_⟩
      have h3 : PoS F f W w3 (match mb S3 with
        | .nx S' => whL (tst mc) mb m S'
        | .ct S' => whL (tst mc) mb m S'
        | .bk S' => .nx S'
        | r => r) D := h3
      cases eb : mb S3 with
      | nx S5 => rw [eb] at h3; exact fun σ' w' H' R' l' => ⟨m, Nat.lt_succ_self m, w', S5, R', PoS.le l' h3⟩
      | ct S5 => rw [eb] at h3; exact fun σ' w' H' R' l' => ⟨m, Nat.lt_succ_self m, w', S5, R', PoS.le l' h3⟩
      | bk S5 => rw [eb] at h3; exact h3
      | rt b S5 => rw [eb] at h3; exact h3
      | ex _ _ _ _ => rw [eb] at h3; exact h3
      | bad => rw [eb] at h3; exact h3
/-- x op= e, x an instance of an own class -/
theorem ss_aug {i k : Nat} {x : Str} {e : Expr} {op : Operator} {pos' : Pos} {P : Pg} {cf : Nat → List Dt → List Dt → Rc} (hK : X.K = F.K) (T : ClsT X.K F P) (FT : FnsT X F P k cf) (hr : Room k X.A) (hg : X.A.guards = some []) (tk : Takes X W) (hsh : OpSh P)
    (hN : X.N.Nodup) (hi : X.N[i]? = some x) (hx : Loc X.env.scope x) (hf : X.fn x = true) (he : PE X e (RE F f W me)) :
    PS X (.AugAssign (.Name x pos') op e pos) (RS F f W fun S => match S.r[i]? with
    | some (some (.p x)) => toRt (me S) fun y S1 => toRt (aug1 P cf op x y S1) fun z S2 => if i < S2.r.length then .nx ⟨S2.r.set i (some (.p z)), S2.m⟩ else .bad
    | _ => .bad) := by
  refine ⟨fun pins s σ H D I h => ?_⟩
  obtain ⟨w, S, R, h⟩ := h
  dsimp only at h
  split at h
  · rename_i a ea
    obtain ⟨v, e1, dn⟩ := R.pu i a ea
    obtain ⟨m, hn, hl⟩ := I.loc
    have vis : Vis X.env.scope x := by
      rcases hx with z | z
      · exact .inl z
      · exact .inr (.inl z)
    obtain ⟨u, ru, l⟩ := hl i x v hi e1 vis
    refine wpAny_AugAssign_Name ?_
    have go : wpAny (model X.prog X.w) X.A (eval e X.env) (fun y s2 => wpAny (model X.prog X.w) X.A (inplaceOp op u y) (fun z s3 => wpAny (model X.prog X.w) X.A (storeName X.env x z) (fun _ => SP X pins D .next) X.xe s3) X.xe s2) X.xe s := by
      refine thn (he.run pins s σ H (fun y H1 => ∃ w1 S1 d2, Rr F f w1 σ H1 S1 ∧ Le w w1 ∧ Dn F w1 d2 y ∧ PoS F f W w1 (toRt (aug1 P cf op a d2 S1) fun z S2 => if i < S2.r.length then .nx ⟨S2.r.set i (some (.p z)), S2.m⟩ else .bad) D) I (Rd1.goS R h fun d y w1 H1 S1 _ R1 l1 r1 h2 => ⟨w1, S1, d, R1, l1, r1, h2⟩)) fun y s1 ⟨yv, H1, I1, ry, w1, S1, d2, R1, l1, dn2, h2⟩ => ?_
      cases a with
      | ins c ns vs =>
        have h2 : PoS F f W w1 (toRt (bin1 P cf op (.ins c ns vs) d2 S1) fun z S2 => if i < S2.r.length then .nx ⟨S2.r.set i (some (.p z)), S2.m⟩ else .bad) D := h2
        have po := Po.goS (m := fun S => bin1 P cf op (.ins c ns vs) d2 S) (Rel1 := Dn F) (σ := σ) (Q1 := fun z H2 => ∃ w2 S2 d3, Rr F f w2 σ H2 S2 ∧ Dn F w2 d3 z ∧ PoS F f W w2 (if i < S2.r.length then .nx ⟨S2.r.set i (some (.p d3)), S2.m⟩ else .bad) D) h2 fun d3 z w2 H2 S2 _ R2 _ r3 h3 => ⟨w2, S2, d3, R2, r3, h3⟩
        rcases bin1_own po with ⟨c', ns', vs', cx, g, ec, qc, e2, ht, q⟩ | ⟨hne, _⟩
        · cases ec
          obtain ⟨p, dx, od, ev, J, hin, z⟩ := op1_own (f0 := f) (τ := σ) hK T FT hr hg tk hsh I1 R1 (Dn.mono l1 _ dn) dn2 ru ry qc e2 ht q
          subst ev
          refine thn (inpl_of I1.kIn J hin z) fun zv s2 ⟨zz, H2, I2, rz, w2, S2, d3, R2, dn3, h3⟩ => ?_
          split at h3
          · exact store_ok I2 hN hi hx rz (fun s3 I3 => ⟨_, H2, I3, h3 (σ.set i (some zz)) w2 H2 (R2.setP dn3) (Le.refl _)⟩) (.inl hf)
          · exact h3.elim
        · exact absurd rfl (hne c ns vs)
      | _ => exact h2.elim
    rcases l with ⟨hk, hm⟩ | ⟨hk, c, hc, hcell⟩
    · exact wpAny_loadName_local I.ok.kind hk hn hm go
    · rcases hk with hk | hk
      · exact wpAny_loadName_cell I.ok.kind hk hc hcell go
      · have hk : X.env.scope.names.lookup x = some .free := hk
        rcases hx with z | z <;> (rw [z] at hk; cases hk)
  · exact h.elim
end
end PyI
namespace PyI
open PySem PySem.Spec PyProof.Rows L2
/-! side checks -/
def visB (sc : Scope) (x : Str) : Bool := match sc.names.lookup x with
  | some .local => true
  | some .cell => true
  | some .free => true
  | _ => false
theorem vis_of {sc : Scope} {x : Str} (h : visB sc x = true) : Vis sc x := by
  unfold visB at h
  split at h
  · exact .inl (by assumption)
  · exact .inr (.inl (by assumption))
  · exact .inr (.inr (by assumption))
  · cases h
def glB (sc : Scope) (x : Str) : Bool := match sc.names.lookup x with
  | some .globalImplicit => true
  | _ => false
theorem gl_of {X : Cx} {x : Str} (h : glB X.env.scope x = true) : Gl X x := by
  unfold glB at h
  split at h
  · assumption
  · cases h
def loB (sc : Scope) (x : Str) : Bool := match sc.names.lookup x with
  | some .local => true
  | _ => false
theorem lo_of {sc : Scope} {x : Str} (h : loB sc x = true) : sc.names.lookup x = some .local := by
  unfold loB at h
  split at h
  · assumption
  · cases h
def nmB (x : Str) : Bool := !(x == ("__debug__" : Str)) && !(x == ("__classdict__" : Str))
theorem nm_of {x : Str} (h : nmB x = true) : (x == ("__debug__" : Str)) = false ∧ (x == ("__classdict__" : Str)) = false := by
  simpa [nmB] using h
def baseB : Expr → Bool
  | .Call (.Name id _) [] [] _ => !(id == ("super" : Str))
  | _ => true
theorem base_of {e : Expr} {fl : Str} {env : Env} {whole : Sem Value} (h : baseB e = true) : attributeBase e fl env whole = whole := by
  unfold attributeBase
  split
  · rename_i id p pos
    have h : (id == ("super" : Str)) = false := by simpa [baseB] using h
    have h2 : (id != ("super" : Str)) = true := by simp [bne, h]
    simp only [h2, Bool.true_or, if_true]
  · rfl
def ixPB : Expr → Bool
  | .Slice _ _ none _ => false
  | _ => true
theorem ix_of {b : Expr} (h : ixPB b = true) : PlainIx b := by
  intro o i
  unfold subscripted
  split
  · simp [ixPB] at h
  · rename_i h2; cases h2
  · rfl
theorem asgSub_of {o i : Expr} {apos : Pos} {env : Env} {v : Value} (h : ixPB i = true) : assign (.Subscript o i apos) env v = (do
      let ov ← holding [v] (eval o env)
      let iv ← holding [v, ov] (eval i env)
      standAt apos
      holding [v, ov, iv] (setItem ov iv v)
      release [v, ov, iv] []) := by
  cases i with
  | Slice l u s p => cases s with
    | none => simp [ixPB] at h
    | some _ => rfl
  | _ => rfl
def setFB : Expr → Bool
  | .Set _ _ _ => false
  | _ => true
theorem setF_of {e : Expr} {env : Env} {x : Value} (h : setFB e = true) : foldedSetIterable e env x = pure x := by
  unfold foldedSetIterable
  split
  · simp [setFB] at h
  · rfl
def compB : Expr → Bool
  | .ListComp _ _ _ _ => true
  | .SetComp _ _ _ _ => true
  | .DictComp _ _ _ _ _ => true
  | _ => false
theorem sw_of {e : Expr} {t : Option Expr} {l : Nat} {env : Env} (h : compB e = false) : swapsWith e t l env = pure false := by
  unfold swapsWith
  split
  · rename_i h2
    split at h2
    · simp [compB] at h
    · simp [compB] at h
    · simp [compB] at h
    · cases h2
  · rfl
theorem sws_of {e t : Expr} {l : Nat} {env : Env} (h : compB e = false) : swapsWithSole [t] e l env = pure false := sw_of h
def tupB : Expr → Bool
  | .Tuple _ _ _ => true
  | .List _ _ => true
  | _ => false
/-- the target is no tuple of names, or the value is no tuple -/
def noSwB : Expr → Expr → Bool
  | t, .Tuple _ _ _ => !tupB t
  | _, _ => true
theorem noSw_of {t e : Expr} {env : Env} (h : noSwB t e = true) : swappedStores [t] e env = pure none := by
  unfold swappedStores
  split
  · rename_i h2
    split at h2
    · rename_i he
      cases he
      simp [noSwB, tupB] at h
    · rename_i he
      cases he
      simp [noSwB, tupB] at h
    · cases h2
  · rfl
/-- tuple to tuple, a target is no plain local: the stores are not swapped -/
def noSwC (sc : Scope) : Expr → Expr → Bool
  | .Tuple ts _ _, .Tuple _ _ _ => ts.any fun t => match t with
    | .Name id _ => !(sc.names.lookup id == some .local)
    | _ => true
  | _, _ => false
theorem fm_short {α β : Type} {g : α → Option β} : ∀ {l : List α}, (∃ a ∈ l, g a = none) → (l.filterMap g).length < l.length
  | [], h => by obtain ⟨_, h, _⟩ := h; cases h
  | a :: l, h => by
    obtain ⟨b, hb, e⟩ := h
    rw [List.filterMap_cons]
    cases q : g a with
    | none => exact Nat.lt_succ_of_le (List.length_filterMap_le g l)
    | some c =>
      rcases List.mem_cons.mp hb with z | z
      · rw [z, q] at e
        cases e
      · exact Nat.succ_lt_succ (fm_short ⟨b, z, e⟩)
theorem noSwC_of {t e : Expr} {env : Env} (h : noSwC env.scope t e = true) : swappedStores [t] e env = pure none := by
  cases t with
  | Tuple ts k p =>
    cases e with
    | Tuple vs k2 p2 =>
      have h : (ts.any fun t => match t with
        | .Name id _ => !(env.scope.names.lookup id == some .local)
        | _ => true) = true := h
      rw [List.any_eq_true] at h
      obtain ⟨t0, ht, hq⟩ := h
      have short : ∀ l : Nat, (ts.filterMap fun
          | .Name id pos => if env.kindOf id == some .local && pos.line == l then some id else none
          | _ => none).length < ts.length := fun l => by
        refine fm_short ⟨t0, ht, ?_⟩
        cases t0 with
        | Name id pos =>
          have hq : (!(env.scope.names.lookup id == some .local)) = true := hq
          have hq : (env.scope.names.lookup id == some NameKind.local) = false := by simpa using hq
          have hq : (env.kindOf id == some NameKind.local) = false := hq
          simp only [hq, Bool.false_and, Bool.false_eq_true, if_false]
        | _ => rfl
      have gen : ∀ (names : List Str) (u : Sem (Option (List Str))), names.length < ts.length → (if (names.length != ts.length || names.eraseDups.length != names.length) = true then (pure none : Sem (Option (List Str))) else u) = pure none := by
        intro names u hl
        have c : (names.length != ts.length) = true := by
          rw [bne_iff_ne]
          omega
        rw [c, Bool.true_or, if_pos rfl]
      unfold swappedStores
      dsimp only
      split
      · rfl
      · split
        · rfl
        · exact gen _ _ (short _)
    | _ => simp [noSwC] at h
  | _ => simp [noSwC] at h
theorem par_of {x y : Str} {px py pt pt2 : Pos} {kt k2 : Nat} {a b : Expr} {env : Env} (hk : env.scope.kind = .function) (hx : env.scope.names.lookup x = some .local) (hy : env.scope.names.lookup y = some .local) (hl : (py.line == px.line) = true) (hxy : (x == y) = false) (hp : plainEs [a, b] = true)
    (hf : [a, b].all (foldedForSure 8) = false) (hc : [a, b].all (constantsAlone 8) = false) :
    swappedStores [.Tuple [.Name x px, .Name y py] kt pt] (.Tuple [a, b] k2 pt2) env = pure (some [x, y]) := by
  have kx : env.kindOf x = some .local := hx
  have ky : env.kindOf y = some .local := hy
  have hb : env.blockKind = .function := by unfold Env.blockKind; rw [hk]; rfl
  have key : ∀ e : Expr, plainEs [e] = true → (match e with | .Starred .. => true | _ => false) = false := by
    intro e h
    cases e <;> first | rfl | (simp [plainEs] at h)
  have ha : plainEs [a] = true := by simp only [plainEs, List.all_cons, Bool.and_eq_true] at hp ⊢; exact ⟨hp.1, rfl⟩
  have hs : ([a, b].any fun | .Starred .. => true | _ => false) = false := by
    rw [List.any_cons, List.any_cons, List.any_nil, key a ha, key b (plain_tail hp)]
    rfl
  have hd : ([x, y] : List Str).eraseDups = [x, y] := by
    have hyx : (y == x) = false := by rw [beq_eq_false_iff_ne] at hxy ⊢; exact fun e => hxy e.symm
    simp [List.eraseDups_cons, hxy, hyx]
  have hfm : ([Expr.Name x px, Expr.Name y py].filterMap fun
    | .Name id pos => if env.kindOf id == some .local && pos.line == px.line then some id else none
    | _ => none) = [x, y] := by
    have e1 : (px.line == px.line) = true := beq_self_eq_true _
    rw [List.filterMap_cons, List.filterMap_cons]
    simp only [kx, ky, hl, e1]
    rfl
  have hd2 : (([x, y] : List Str).length != [Expr.Name x px, Expr.Name y py].length || ([x, y] : List Str).eraseDups.length != ([x, y] : List Str).length) = false := by
    rw [hd]
    rfl
  have hbk : ((!([Expr.Name x px, Expr.Name y py].length == 2 || [Expr.Name x px, Expr.Name y py].length == 3) || [a, b].length != [Expr.Name x px, Expr.Name y py].length || env.blockKind != .function)) = false := by
    rw [hb]
    rfl
  have gen : ∀ names : List Str, names = [x, y] → (if (names.length != [Expr.Name x px, Expr.Name y py].length || names.eraseDups.length != names.length) = true then (pure none : Sem (Option (List Str))) else if [a, b].all (foldedForSure 8) = true then pure none else
      (have jp := fun (_ : Unit) => (pure (some names) : Sem (Option (List Str)))
      if [a, b].all (constantsAlone 8) = true then do
        let r ← unsupported "assign.tuple-of-constant-expressions:order-of-the-stores"
        jp r
      else jp ())) = pure (some [x, y]) := by
    intro names e
    subst e
    rw [if_neg (by rw [hd2]; simp), if_neg (by rw [hf]; simp)]
    dsimp only
    rw [if_neg (by rw [hc]; simp)]
  unfold swappedStores
  dsimp only
  rw [if_neg (by rw [hbk]; simp)]
  refine (if_neg fun h => absurd (hs.symm.trans h) (by decide)).trans ?_
  exact gen _ hfm
theorem par3_of {x y z : Str} {px py pz pt pt2 : Pos} {kt k2 : Nat} {a b c : Expr} {env : Env} (hk : env.scope.kind = .function) (hx : env.scope.names.lookup x = some .local) (hy : env.scope.names.lookup y = some .local) (hz : env.scope.names.lookup z = some .local) (hl : (py.line == px.line) = true) (hl2 : (pz.line == px.line) = true) (hxy : (x == y) = false) (hxz : (x == z) = false) (hyz : (y == z) = false) (hp : plainEs [a, b, c] = true)
    (hf : [a, b, c].all (foldedForSure 8) = false) (hc : [a, b, c].all (constantsAlone 8) = false) :
    swappedStores [.Tuple [.Name x px, .Name y py, .Name z pz] kt pt] (.Tuple [a, b, c] k2 pt2) env = pure (some [x, y, z]) := by
  have kx : env.kindOf x = some .local := hx
  have ky : env.kindOf y = some .local := hy
  have kz : env.kindOf z = some .local := hz
  have hb : env.blockKind = .function := by unfold Env.blockKind; rw [hk]; rfl
  have key : ∀ e : Expr, plainEs [e] = true → (match e with | .Starred .. => true | _ => false) = false := by
    intro e h
    cases e <;> first | rfl | (simp [plainEs] at h)
  have ha : plainEs [a] = true := by simp only [plainEs, List.all_cons, Bool.and_eq_true] at hp ⊢; exact ⟨hp.1, rfl⟩
  have hp2 := plain_tail hp
  have hb2 : plainEs [b] = true := by simp only [plainEs, List.all_cons, Bool.and_eq_true] at hp2 ⊢; exact ⟨hp2.1, rfl⟩
  have hs : ([a, b, c].any fun | .Starred .. => true | _ => false) = false := by
    rw [List.any_cons, List.any_cons, List.any_cons, List.any_nil, key a ha, key b hb2, key c (plain_tail hp2)]
    rfl
  have hd : ([x, y, z] : List Str).eraseDups = [x, y, z] := by
    have hyx : (y == x) = false := by rw [beq_eq_false_iff_ne] at hxy ⊢; exact fun e => hxy e.symm
    have hzx : (z == x) = false := by rw [beq_eq_false_iff_ne] at hxz ⊢; exact fun e => hxz e.symm
    have hzy : (z == y) = false := by rw [beq_eq_false_iff_ne] at hyz ⊢; exact fun e => hyz e.symm
    simp [List.eraseDups_cons, hxy, hyx, hxz, hzx, hyz, hzy]
  have hfm : ([Expr.Name x px, Expr.Name y py, Expr.Name z pz].filterMap fun
    | .Name id pos => if env.kindOf id == some .local && pos.line == px.line then some id else none
    | _ => none) = [x, y, z] := by
    have e1 : (px.line == px.line) = true := beq_self_eq_true _
    rw [List.filterMap_cons, List.filterMap_cons, List.filterMap_cons]
    simp only [kx, ky, kz, hl, hl2, e1]
    rfl
  have hd2 : (([x, y, z] : List Str).length != [Expr.Name x px, Expr.Name y py, Expr.Name z pz].length || ([x, y, z] : List Str).eraseDups.length != ([x, y, z] : List Str).length) = false := by
    rw [hd]
    rfl
  have hbk : ((!([Expr.Name x px, Expr.Name y py, Expr.Name z pz].length == 2 || [Expr.Name x px, Expr.Name y py, Expr.Name z pz].length == 3) || [a, b, c].length != [Expr.Name x px, Expr.Name y py, Expr.Name z pz].length || env.blockKind != .function)) = false := by
    rw [hb]
    rfl
  have gen : ∀ names : List Str, names = [x, y, z] → (if (names.length != [Expr.Name x px, Expr.Name y py, Expr.Name z pz].length || names.eraseDups.length != names.length) = true then (pure none : Sem (Option (List Str))) else if [a, b, c].all (foldedForSure 8) = true then pure none else
      (have jp := fun (_ : Unit) => (pure (some names) : Sem (Option (List Str)))
      if [a, b, c].all (constantsAlone 8) = true then do
        let r ← unsupported "assign.tuple-of-constant-expressions:order-of-the-stores"
        jp r
      else jp ())) = pure (some [x, y, z]) := by
    intro names e
    subst e
    rw [if_neg (by rw [hd2]; simp), if_neg (by rw [hf]; simp)]
    dsimp only
    rw [if_neg (by rw [hc]; simp)]
  unfold swappedStores
  dsimp only
  rw [if_neg (by rw [hbk]; simp)]
  refine (if_neg fun h => absurd (hs.symm.trans h) (by decide)).trans ?_
  exact gen _ hfm
theorem meth_eval {o : Expr} {m : Str} {es : List Expr} {kws : List Keyword} {apos pos : Pos} {env : Env} (hb : baseB o = true) (hl : (apos.endLine == pos.line) = true) (hp : plainEs es = true) (hn : kws.all (fun k => (kwName k).isSome) = true) (h30 : es.length + kws.length + 1 < 30) :
    eval (.Call (.Attribute o m apos) es kws pos) env = (do
      let ov ← eval o env
      standAt apos.atName
      let (f, first) ← holding [ov] (getMethod ov m (do return (← importBound o env).getD true))
      callWith pos f first (backTo pos (starEach es env)) (backToKw pos (keywordEach kws env))) := by
  have e1 : methodCallForm (es.length + kws.length) (backTo pos (starEach es env)) (backToKw pos (keywordEach kws env)) = true := by
    unfold methodCallForm
    rw [kw_all hn]
    have h1 : (backTo pos (starEach es env)).all (fun x => !x.1) = true := by
      have := star_any (env := env) (pos := pos) hp
      rw [List.all_eq_true]
      intro x hx
      rw [List.any_eq_false] at this
      simpa using this x hx
    rw [h1]
    have : es.length + kws.length + (if (backToKw pos (keywordEach kws env)).isEmpty = true then 0 else 1) < 30 := by split <;> omega
    simp only [Bool.true_and, decide_eq_true_eq]
    exact this
  show (do
    let ov ← attributeBase o m env (eval o env)
    standAt apos.atName
    methodCall o m apos pos env ov (es.length + kws.length) (backTo pos (starEach es env)) (backToKw pos (keywordEach kws env))) = _
  rw [base_of hb]
  unfold methodCall calleeOf methodCallPos
  simp [e1, hl]
/-! ### makings -/
/-- the promise of a class's __init__, given a new instance and the arguments by shape -/
def spI (F : Fx) (c : Nat) (g : List Dt → List Dt → Rc) (sh : List Ar) : Sp := fun vs H Q E => ∃ (x dx : Addr) (vs1 : List V) (H1 : Hp), vs = .ref x :: vs1 ∧ H = upd (upd H1 dx (.own x)) x (.ins (F.ca c) dx []) ∧ H1 x = none ∧ H1 dx = none ∧ dx ≠ x ∧
  ∃ (w : Wd) (m ds xs : List Dt) (QQ : VK), Cs F w H1 m ∧ Dns F w ds vs1 ∧ pick ds sh = some xs ∧ PoC F w H1 (g xs m) QQ E ∧ ∀ H2, QQ (.ref x) H2 → Q .non H2
section
variable {X : Cx} {F : Fx} {f : Fm} {W : WX} {k : Nat} {es : List Expr} {kws : List Keyword} {m : Sto → Rs (List Dt)} {x : Str} {p pos apos : Pos}
theorem run_I {c : Nat} {fi : Addr} {n : Nat} {ks : List Str} {g : List Dt → List Dt → Rc} {sh : List Ar} {pins : List (Addr × Obj)} {σ : L2.St} {H : Hp} {s : Shared} {Q : VK} {us ws : List Value} {vs zs : List V} (M : Mk X.K (F.ca c) fi) (C : CalG X.prog X.w X.K X.mg X.base k fi (n + 1) ks (spI F c g sh)) (hr : Room (k + 1) X.A) (hg : X.A.guards = some []) (tk : Takes X W)
    (I : Inv X pins σ H s) (h1 : us.length = n) (h2 : ws.length = ks.length) (r : Vals vs us) (rz : Vals zs ws) (h : spS F g sh (vs ++ zs) H Q (WE W σ)) :
    wpAny (model X.prog X.w) X.A (PySem.call (.ref (F.ca c)) us (ks.zip ws)) (EP X pins σ Q) X.xe s := by
  have I2 := Inv.made (C := F.ca c) I
  obtain ⟨w, m, ds, xs, cs, dn, pk, po⟩ := h
  have hq : spI F c g sh ((V.ref (s.heap.objs.size + 1) :: vs) ++ zs) (upd (upd H s.heap.objs.size (.own (s.heap.objs.size + 1))) (s.heap.objs.size + 1) (.ins (F.ca c) s.heap.objs.size [])) (fun v H2 => v = .non ∧ Q (.ref (s.heap.objs.size + 1)) H2) (WE W σ) :=
    ⟨s.heap.objs.size + 1, s.heap.objs.size, vs ++ zs, H, rfl, rfl, I.hok.fresh (Nat.le_succ _), I.hok.fresh (Nat.le_refl _), Nat.ne_of_lt (Nat.lt_succ_self _), w, m, ds, xs, Q, cs, dn, pk, po, fun H2 q => ⟨rfl, q⟩⟩
  have gu : (X.A.under (.builtin "type.__call__" ⟨.ref (F.ca c) :: us, ks.zip ws⟩)).guards = some [] := by
    first
      | exact hg
      | (simpa [Around.under, Code.isGuard, guardIds] using hg)
  refine wpAny_call (make_map (f := fi) I.kIn M.makes M.init (beq_iff_eq.mp M.fn) (codeAny_mono (C _ X.stack _ _ (Value.ref (s.heap.objs.size + 1) :: us) ws (V.ref (s.heap.objs.size + 1) :: vs) zs _ (WE W σ) (hr.make (F.ca c) us (ks.zip ws)) gu
    (I2.env0.make (F.ca c) us (ks.zip ws)) (by rw [List.length_cons, h1]) h2 (.cons rfl r) rz hq) fun r s' hq' => ?_))
  cases r with
  | error e => exact passAt tk σ pins _ _ e s' I2 hq'
  | ok fl =>
    cases fl with
    | ret u =>
      obtain ⟨v, H', I3, rv, ev, q3⟩ := I2.after hq'
      subst ev
      exact ⟨rv, ⟨V.ref (s.heap.objs.size + 1), H', I3, rfl, q3⟩⟩
    | next => exact False.elim hq'
    | brk => exact False.elim hq'
    | cont => exact False.elim hq'
/-- C(..) -/
theorem se_make {c : Nat} {fi : Addr} {g : List Dt → List Dt → Rc} {shl : Nat → Option (List Ar)} (M : ∀ sh, shl es.length = some sh → Mk X.K (F.ca c) fi ∧ CalG X.prog X.w X.K X.mg X.base k fi (es.length + 1) (kwNames kws) (spI F c g sh)) (hkw : (kwNames kws).length = kws.length) (hr : Room (k + 1) X.A) (hg : X.A.guards = some []) (tk : Takes X W)
    (hgl : Gl X x) (hm : X.mg x = some (.ref (F.ca c))) (hk : PySem.W.keepIn X.K (.ref (F.ca c)) = true) (hdb : (x == ("__debug__" : Str)) = false) (hlen : ∀ S ds S1, m S = .ok ds S1 → ds.length = es.length + kws.length) (ha : PArg X es kws (REs F f W m)) :
    PE X (.Call (.Name x p) es kws pos) (RE F f W fun S => (m S).bind fun ds S1 => match shl (ds.length - (kwNames kws).length) with
      | some sh => upP (pick ds sh) g S1
      | none => .bad) := by
  refine ⟨fun pins s σ H Q I h => ?_⟩
  obtain ⟨w, S, R, h⟩ := h
  refine wpAny_Call_Name_kw (ld_glob I hgl hm ?_ hdb)
  refine ha.run pos pins s σ H (.ref (F.ca c)) [] (fun vs H2 => ∃ sh, shl es.length = some sh ∧ spS F g sh vs H2 Q (WE W σ)) (EP X pins σ Q) hk I (Rd1.go R h fun ds vs w1 H1 S1 em R1 l1 r1 h1 => ?_) fun us ws vs zs s2 H2 I2 l1 l2 ru rz q => ?_
  · have hl := hlen _ _ _ em
    have e1 : ds.length - (kwNames kws).length = es.length := by rw [hkw]; omega
    rw [e1] at h1
    cases e : shl es.length with
    | none => rw [e] at h1; exact h1.elim
    | some sh =>
      rw [e] at h1
      obtain ⟨xs, e2, h2⟩ := upP_some h1
      exact ⟨sh, rfl, w1, S1.m, ds, xs, R1.cs, r1, e2, poC_of R1 h2⟩
  · obtain ⟨sh, e, q⟩ := q
    exact run_I (M sh e).1 (M sh e).2 hr hg tk I2 l1 (by rw [hkw]; exact l2) ru rz q
/-! ### a class without an own __init__ -/
theorem se_mk0 {c : Nat} (B : BareC X.K (F.ca c)) (top : PySem.W.mroIn X.K (F.ca c) (.type "object") = some true) (hgl : Gl X x) (hm : X.mg x = some (.ref (F.ca c))) (hdb : (x == ("__debug__" : Str)) = false) :
    PE X (.Call (.Name x p) [] [] pos) (RE F f W fun S => .ok (.ins c [] []) S) := by
  refine ⟨fun pins s σ H Q I h => ?_⟩
  obtain ⟨w, S, R, h⟩ := h
  refine wpAny_Call_Name_kw (ld_glob I hgl hm ?_ hdb)
  refine PySem.W.callWith_K0 I.kIn B.kp ?_
  have I2 := Inv.made (C := F.ca c) I
  have hx : H (s.heap.objs.size + 1) = none := I.hok.fresh (Nat.le_succ _)
  have hd : H s.heap.objs.size = none := I.hok.fresh (Nat.le_refl _)
  have ne : s.heap.objs.size ≠ s.heap.objs.size + 1 := Nat.ne_of_lt (Nat.lt_succ_self _)
  have hx2 : upd H s.heap.objs.size (.own (s.heap.objs.size + 1)) (s.heap.objs.size + 1) = none := by rw [upd_ne (Ne.symm ne)]; exact hx
  have R1 := R.fresh (o := .own (s.heap.objs.size + 1)) hd
  have q := h.new R1 hx2 (o := .ins (F.ca c) s.heap.objs.size []) ⟨_, _, [], rfl, upd_same, rfl, rfl⟩
  refine wpAny_call (make_map0 I.kIn B.makes B.init (fun self => PySem.W.Looks.of_pure (PySem.W.oi_bind self)) ?_)
  have at1 : ((s.heap.push PySem.W.emptyDict).push (PySem.W.instObj (F.ca c) s.heap.objs.size)).get? (s.heap.objs.size + 1) = some (PySem.W.instObj (F.ca c) s.heap.objs.size) := by
    have := Heap.get?_push_size (s.heap.push PySem.W.emptyDict) (o := PySem.W.instObj (F.ca c) s.heap.objs.size) rfl
    rwa [Heap.size_push] at this
  have t1 : PySem.W.Looks (model X.prog X.w) ((s.heap.push PySem.W.emptyDict).push (PySem.W.instObj (F.ca c) s.heap.objs.size)) (typeOf (.ref (s.heap.objs.size + 1))) (.ref (F.ca c)) := NwA.type_at at1 rfl
  have t2 : PySem.W.Looks (model X.prog X.w) ((s.heap.push PySem.W.emptyDict).push (PySem.W.instObj (F.ca c) s.heap.objs.size)) (isInstance (.ref (s.heap.objs.size + 1)) (.type "object")) true := t1.andThen (PySem.W.looks_mroIn I2.kIn top)
  refine codeAny_call_builtin PySem.W.oi_plain PySem.W.entry_oi (@PySem.W.check_slot (model X.prog X.w) _ _ _ "object.__init__" "object" "__init__" (.ref (s.heap.objs.size + 1)) [] [] _ PySem.W.oi_kind PySem.W.oi_split t2 (NwA.oi_args_any _ [] []) ?_)
  rw [PySem.W.oi_run]
  exact wpAny_pure ⟨rfl, ⟨.ref (s.heap.objs.size + 1), _, I2, rfl, q⟩⟩
/-! ### static methods -/
theorem getst_ok {pins : List (Addr × Obj)} {σ : L2.St} {H : Hp} {s : Shared} {C g : Addr} {mt : Str} {A : Around} {E : Value → Shared → Prop} {pl : Sem Bool} {Q : Value × List Value → Shared → Prop} (I : Inv X pins σ H s) (r : StM X.K C mt g) (h : ∀ s', Inv X pins σ H s' → Q (.ref g, []) s') : wpAny (model X.prog X.w) A (getMethod (.ref C) mt pl) Q E s := by
  obtain ⟨q, at_, rest, hp⟩ := r.at_
  refine PySem.W.method_cls I.kIn r.rd.ga (PySem.W.cls_bind I.kIn r.rd.rd at_ ?_)
  refine wpAny_call (PySem.W.sm_get (s := { s with toks := s.toks + 1 }) I.kIn hp (PySem.W.handed_on rfl ?_))
  exact h _ (I.tok _)
/-- C.m(..), m a static method -/
theorem se_smeth {C fa : Addr} {mt : Str} {g : List Dt → List Dt → Rc} {shl : Nat → Option (List Ar)} (st : StM X.K C mt fa) (Cl : ∀ sh, shl es.length = some sh → CalG X.prog X.w X.K X.mg X.base k fa es.length (kwNames kws) (spS F g sh)) (hkw : (kwNames kws).length = kws.length) (hr : Room k X.A) (hg : X.A.guards = some []) (tk : Takes X W)
    (hgl : Gl X x) (hm : X.mg x = some (.ref C)) (hdb : (x == ("__debug__" : Str)) = false) (hlen : ∀ S ds S1, m S = .ok ds S1 → ds.length = es.length + kws.length) (ha : PArg X es kws (REs F f W m))
    {pl : Sem Bool} (ht : eval (.Call (.Attribute (.Name x p) mt apos) es kws pos) X.env = (do
      let ov ← eval (.Name x p) X.env
      standAt apos.atName
      let (f, first) ← holding [ov] (getMethod ov mt pl)
      callWith pos f first (backTo pos (starEach es X.env)) (backToKw pos (keywordEach kws X.env)))) :
    PE X (.Call (.Attribute (.Name x p) mt apos) es kws pos) (RE F f W fun S => (m S).bind fun ds S1 => match shl (ds.length - (kwNames kws).length) with
      | some sh => upP (pick ds sh) g S1
      | none => .bad) := by
  refine ⟨fun pins s σ H Q I h => ?_⟩
  obtain ⟨w, S, R, h⟩ := h
  refine PySem.W.methodCall_KW (pl := pl) (ld_glob I hgl hm ?_ hdb) ht
  refine getst_ok I st fun s1 I1 => ?_
  refine ha.run pos pins s1 σ H (.ref fa) [] (fun vs H2 => ∃ sh, shl es.length = some sh ∧ spS F g sh vs H2 Q (WE W σ)) (EP X pins σ Q) st.kp I1 (Rd1.go R h fun ds vs w1 H1 S1 em R1 l1 r1 h1 => ?_) fun us ws vs zs s2 H2 I2 l1 l2 ru rz q => ?_
  · have hl := hlen _ _ _ em
    have e1 : ds.length - (kwNames kws).length = es.length := by rw [hkw]; omega
    rw [e1] at h1
    cases e : shl es.length with
    | none => rw [e] at h1; exact h1.elim
    | some sh =>
      rw [e] at h1
      obtain ⟨xs, e2, h2⟩ := upP_some h1
      exact ⟨sh, rfl, w1, S1.m, ds, xs, R1.cs, r1, e2, poC_of R1 h2⟩
  · obtain ⟨sh, e, q⟩ := q
    exact run_G (Cl sh e) hr hg tk I2 l1 (by rw [hkw]; exact l2) ru rz q
end
end PyI
namespace PyI
open PySem PySem.Spec PyProof.Rows L2
/-! ### starred arguments -/
def isStE : Expr → Bool
  | .Starred _ _ => true
  | _ => false
def unSt : Expr → Expr
  | .Starred e _ => e
  | e => e
theorem star_cons1 {e : Expr} {es : List Expr} {env : Env} (h : isStE e = false) : starEach (e :: es) env = (false, eval e env) :: starEach es env := by
  cases e <;> first | rfl | (simp [isStE] at h)
theorem unSt_of {e : Expr} (h : isStE e = false) : unSt e = e := by
  cases e <;> first | rfl | (simp [isStE] at h)
theorem star_any1 {env : Env} {pos : Pos} : ∀ {es : List Expr}, (backTo pos (starEach es env)).any (·.1) = es.any isStE
  | [] => rfl
  | e :: es => by
    by_cases h : isStE e = true
    · cases e <;> first | (simp [isStE] at h; done) | skip
      show (true || (backTo pos (starEach es env)).any (·.1)) = _
      simp [isStE]
    · have h : isStE e = false := by simpa using h
      rw [star_cons1 h]
      show (false || (backTo pos (starEach es env)).any (·.1)) = _
      rw [star_any1 (es := es), List.any_cons, h]
theorem evalArgs_two {M : Model} {A : Around} {E : Value → Shared → Prop} {s : Shared} {f : Value} {x y : Bool × Sem Value} {rest : List (Bool × Sem Value)} {Q : Args → Shared → Prop}
    (h : wpAny M A (spliced (x :: y :: rest)) (fun vs s' => Q ⟨vs, []⟩ s') E s) : wpAny M A (evalArgs f true (x :: y :: rest) []) Q E s := by
  unfold evalArgs
  obtain ⟨b, x⟩ := x
  have go : wpAny M A (spliced ((b, x) :: y :: rest) >>= fun v => holding v (pure v >>= fun v => (pure (⟨v, []⟩ : Args)))) Q E s :=
    wpAny_bind (wpAny_mono h (fun vs s' h' => wpAny_holding (wpAny_bind (wpAny_pure (wpAny_pure h')))) fun _ _ x => x)
  cases b
  all_goals
    show wpAny M A (spliced (_ :: y :: rest) >>= _) Q E s
    refine wpAny_bind (wpAny_mono h (fun vs s' h' => ?_) fun _ _ x => x)
    refine wpAny_holding ?_
    exact wpAny_bind (wpAny_pure (wpAny_bind (wpAny_pure (wpAny_pure h'))))
/-- the arguments of a call, some starred -/
structure PArgS (X : Cx) (es : List Expr) (t : TA) : Prop where
  run : ∀ (pos : Pos) (pins : List (Addr × Obj)) (s : Shared) (σ : L2.St) (H : Hp) (fv : Value) (Rq : List V → Hp → Prop) (Q : Value → Shared → Prop), PySem.W.keepIn X.K fv = true → Inv X pins σ H s → t σ H Rq →
    (∀ us vs s2 H2, Inv X pins σ H2 s2 → Vals vs us → Rq vs H2 → wpAny (model X.prog X.w) X.A (PySem.call fv us []) Q X.xe s2) →
    wpAny (model X.prog X.w) X.A (callWith pos fv [] (backTo pos (starEach es X.env)) (backToKw pos (keywordEach [] X.env))) Q X.xe s
section
variable {X : Cx} {F : Fx} {f : Fm} {W : WX} {k : Nat} {es : List Expr} {m : Sto → Rs (List Dt)} {ma : Sto → Rs Dt} {a : Expr} {x : Str} {p pos apos : Pos}
theorem pArgS_two {e1 e2 : Expr} {t : TA} (hs : (e1 :: e2 :: es).any isStE = true) (ha : PA X (e1 :: e2 :: es) t) : PArgS X (e1 :: e2 :: es) t := by
  refine ⟨fun pos pins s σ H fv Rq Q hk I h fin => ?_⟩
  have go : ∀ {l : List (Bool × Sem Value)} {x y : Bool × Sem Value}, l = x :: y :: backTo pos (starEach es X.env) → l.any (·.1) = true → wpAny (model X.prog X.w) X.A (spliced l) (fun vs s' => X.K.In s'.heap ∧ wpAny (model X.prog X.w) X.A (PySem.call fv ([] ++ vs) []) Q X.xe s') X.xe s → wpAny (model X.prog X.w) X.A (callWith pos fv [] l []) Q X.xe s := by
    intro l x y e hst hh
    subst e
    exact PySem.W.ks_call hst (PySem.W.keeps_K hk) (evalArgs_two hh)
  have cons : ∀ (e : Expr) (r : List Expr), ∃ x, backTo pos (starEach (e :: r) X.env) = x :: backTo pos (starEach r X.env) := fun e r => by
    cases e <;> exact ⟨_, rfl⟩
  obtain ⟨x, hx⟩ := cons e1 (e2 :: es)
  obtain ⟨y, hy⟩ := cons e2 es
  refine go (hx.trans (by rw [hy])) (by rw [star_any1]; exact hs) (thn (ha.run pos pins s σ H _ I h) fun us s1 ⟨vs, H1, I1, r, q⟩ => ⟨I1.kIn, fin us vs s1 H1 I1 r q⟩)
theorem pArgS_one {te : TE} (he : PE X a te) : PArgS X [.Starred a p] (fun σ H Q => te σ H fun y H1 => ∃ b xs, y = V.ref b ∧ (SqT X.K H1 b xs ∨ SqL X.K H1 b xs) ∧ Q xs H1) := by
  refine ⟨fun pos pins s σ H fv Rq Q hk I h fin => ?_⟩
  refine PySem.W.callWith_S (h₀ := X.base) I.ok.mod.kin hk (thn (he.run pins s σ H _ I h) fun v s1 ⟨y, H1, I1, ry, b, xs, ey, hxs, q⟩ => ?_) rfl
  subst ey
  obtain rfl : v = Value.ref b := ry
  exact StX.star_any I1 hxs fun us s2 I2 rv => ⟨I2.kIn, fin us xs s2 H1 I2 rv q⟩
theorem pArgS_imp {t t' : TA} (h : PArgS X es t) (i : ∀ σ H Q, t' σ H Q → t σ H Q) : PArgS X es t' := ⟨fun pos pins s σ H fv Rq Q hk I q fin => h.run pos pins s σ H fv Rq Q hk I (i σ H Rq q) fin⟩
theorem se_star (ha : PE X a (RE F f W ma)) : PE X a (RE F f W fun S => (ma S).bind starK) := by
  refine peImp ha fun σ H Q ⟨w, S, R, h⟩ => Rd1.go R h fun d x w1 H1 S1 _ R1 l1 r1 h1 => ?_
  unfold starK at h1
  split at h1
  · exact h1.ok R1 r1
  · exact h1.ok R1 r1
  · exact h1.elim
/-- C(.., *e, ..) -/
theorem se_makeS {c : Nat} {g : List Dt → List Dt → Rc} {shl : Nat → Option (List Ar)} (M : ∀ n sh, shl n = some sh → ∃ fi, Mk X.K (F.ca c) fi ∧ CalG X.prog X.w X.K X.mg X.base k fi (n + 1) [] (spI F c g sh)) (hr : Room (k + 1) X.A) (hg : X.A.guards = some []) (tk : Takes X W)
    (hgl : Gl X x) (hm : X.mg x = some (.ref (F.ca c))) (hk : PySem.W.keepIn X.K (.ref (F.ca c)) = true) (hdb : (x == ("__debug__" : Str)) = false) (ha : PArgS X es (REs F f W m)) :
    PE X (.Call (.Name x p) es [] pos) (RE F f W fun S => (m S).bind fun ds S1 => match shl ds.length with
      | some sh => upP (pick ds sh) g S1
      | none => .bad) := by
  refine ⟨fun pins s σ H Q I h => ?_⟩
  obtain ⟨w, S, R, h⟩ := h
  refine wpAny_Call_Name_kw (ld_glob I hgl hm ?_ hdb)
  refine ha.run pos pins s σ H (.ref (F.ca c)) (fun vs H2 => ∃ sh, shl vs.length = some sh ∧ spS F g sh vs H2 Q (WE W σ)) (EP X pins σ Q) hk I (Rd1.go R h fun ds vs w1 H1 S1 em R1 l1 r1 h1 => ?_) fun us vs s2 H2 I2 ru q => ?_
  · rw [r1.length] at h1
    cases e : shl vs.length with
    | none => rw [e] at h1; exact h1.elim
    | some sh =>
      rw [e] at h1
      obtain ⟨xs, e2, h2⟩ := upP_some h1
      exact ⟨sh, rfl, w1, S1.m, ds, xs, R1.cs, r1, e2, poC_of R1 h2⟩
  · obtain ⟨sh, e, q⟩ := q
    obtain ⟨fi, M1, M2⟩ := M _ sh e
    exact run_I (ws := []) (zs := []) M1 M2 hr hg tk I2 ru.length.symm rfl ru .nil (by rw [List.append_nil]; exact q)
end
/-! ### an instance is called -/
theorem callO_kw {M : Model} {A : Around} {E : Value → Shared → Prop} {s : Shared} {a : Addr} {pos : Pos} {Q : Value → Shared → Prop} {args : List (Bool × Sem Value)} {kws : List (Option Str × Sem Value)} (hplain : (args.any (·.1) || kws.any (·.1.isNone)) = false)
    (h : wpAny M A (evalArgs (.ref a) true args kws) (fun z s₁ => (∃ C ox od, PySem.W.InstAt s₁.heap a ox C od ∧ ox.data = .plain) ∧ wpAny M A (call (.ref a) ([] ++ z.pos) z.kw) Q E s₁) E s) : wpAny M A (callWith pos (.ref a) [] args kws) Q E s := by
  unfold callWith
  refine wpAny_bind (wpAny_holding (wpAny_mono h (fun z s₁ h₁ => wpAny_bind (wpAny_standAt ?_)) fun _ _ y => y))
  obtain ⟨⟨C, ox, od, J, hd⟩, h₁⟩ := h₁
  have L := PySem.W.kco_keeper (M := M) J hd
  simp only [hplain]
  refine wpAny_bind (L.here ?_)
  have tail : ∀ {t : Sem Value}, wpAny M A t Q E s₁ → wpAny M A (t >>= fun r => holding [r] point >>= fun _ => pure r) Q E s₁ :=
    fun ht => wpAny_bind (wpAny_mono ht (fun r s₂ hr => wpAny_bind (wpAny_holding (wpAny_point (wpAny_pure hr)))) fun _ _ y => y)
  exact tail (wpAny_operateT h₁)
/-- the arguments of a call of an instance -/
structure PArgO (X : Cx) (es : List Expr) (kws : List Keyword) (t : TA) : Prop where
  run : ∀ (pos : Pos) (pins : List (Addr × Obj)) (s : Shared) (σ : L2.St) (H : Hp) (a : Addr) (Rq : List V → Hp → Prop) (Q : Value → Shared → Prop), Inv X pins σ H s → t σ H Rq →
    (∀ us ws vs zs s2 H2, Inv X pins σ H2 s2 → us.length = es.length → ws.length = kws.length → Vals vs us → Vals zs ws → Rq (vs ++ zs) H2 → (∃ C ox od, PySem.W.InstAt s2.heap a ox C od ∧ ox.data = .plain) ∧ wpAny (model X.prog X.w) X.A (PySem.call (.ref a) us ((kwNames kws).zip ws)) Q X.xe s2) →
    wpAny (model X.prog X.w) X.A (callWith pos (.ref a) [] (backTo pos (starEach es X.env)) (backToKw pos (keywordEach kws X.env))) Q X.xe s
section
variable {X : Cx} {F : Fx} {f : Fm} {W : WX} {k : Nat} {es : List Expr} {kws : List Keyword} {m m1 m2 : Sto → Rs (List Dt)} {pos : Pos}
theorem pArgO_of (hp : plainEs es = true) (hn : kws.all (fun k => (kwName k).isSome) = true) (h0 : es = [] → ∀ S, m1 S = .ok [] S) (hl1 : ∀ S ds S1, m1 S = .ok ds S1 → ds.length = es.length) (hl2 : ∀ S ds S1, m2 S = .ok ds S1 → ds.length = kws.length)
    (ha : PA X es (REs F f W m1)) (hk : PK X kws (REs F f W m2)) : PArgO X es kws (REs F f W fun S => (m1 S).bind fun ds S1 => (m2 S1).bind fun es S2 => .ok (ds ++ es) S2) := by
  refine ⟨fun pos pins s σ H a Rq Q I h fin => ?_⟩
  obtain ⟨w, S, R, h⟩ := h
  refine callO_kw (by rw [star_any hp, kw_none hn]; rfl) ?_
  cases es with
  | nil =>
    dsimp only at h
    rw [h0 rfl] at h
    refine evalArgs_kw2_nil (kw_all hn) (thn (hk.run pos pins s σ H (fun zs H2 => zs.length = kws.length ∧ Rq zs H2) I (Rd1.go (k := fun es S2 => .ok ([] ++ es) S2) R h fun d2 y w2 H2 S2 e2 R2 l2 r2 h2 => ⟨?_, ?_⟩)) fun ws s2 ⟨zs, H2, I2, rz, q⟩ => ?_)
    · rw [← r2.length, hl2 _ _ _ e2]
    · exact h2.ok R2 r2
    · have z := fin [] ws [] zs s2 H2 I2 rfl (by rw [← rz.length]; exact q.1) .nil rz q.2
      rw [kw_names]
      exact z
  | cons e es =>
    refine evalArgs_kw2 (kw_all hn) (thn (ha.run pos pins s σ H (fun vs H1 => vs.length = (e :: es).length ∧ REs F f W m2 σ H1 fun zs H2 => zs.length = kws.length ∧ Rq (vs ++ zs) H2) I (Rd1.go R h fun d1 x w1 H1 S1 e1 R1 l1 r1 h1 => ⟨?_, Rd1.go R1 h1 fun d2 y w2 H2 S2 e2 R2 l2 r2 h2 => ⟨?_, ?_⟩⟩)) fun us s1 ⟨vs, H1, I1, rv, q1, q2⟩ => ?_) (star_cons hp)
    · rw [← r1.length, hl1 _ _ _ e1]
    · rw [← r2.length, hl2 _ _ _ e2]
    · exact h2.ok R2 ((Dns.mono l2 _ r1).append r2)
    · refine thn (hk.run pos pins s1 σ H1 _ I1 q2) fun ws s2 ⟨zs, H2, I2, rz, q⟩ => ?_
      have z := fin us ws vs zs s2 H2 I2 (by rw [← rv.length]; exact q1) (by rw [← rz.length]; exact q.1) rv rz q.2
      rw [kw_names]
      exact z
/-- x(..), x an instance -/
theorem se_icall {mo : Sto → Rs Dt} {o : Expr} {P : Pg} {cf : Nat → List Dt → List Dt → Rc} (he : PE X o (RE F f W mo))
    (hC : ∀ c g, P.meth c "__call__" = some g → StX.CallO X.K (F.ca c) (F.fa g) ∧ ∀ sh, P.shf g (es.length + 1) (kwNames kws) = some sh → CalG X.prog X.w X.K X.mg X.base k (F.fa g) (es.length + 1) (kwNames kws) (spS F (cf g) sh))
    (hkw : (kwNames kws).length = kws.length) (hr : Room k X.A) (hg : X.A.guards = some []) (tk : Takes X W) (hlen : ∀ S ds S1, m S = .ok ds S1 → ds.length = es.length + kws.length) (ha : PArgO X es kws (REs F f W m))
    (ht : eval (.Call o es kws pos) X.env = (do callWith pos (← eval o X.env) [] (backTo pos (starEach es X.env)) (backToKw pos (keywordEach kws X.env)))) :
    PE X (.Call o es kws pos) (RE F f W fun S => (mo S).bind fun x S1 => match x with
    | .ins c ns vs => match P.meth c "__call__" with
      | some g => (m S1).bind fun ds S2 => match P.shf g (ds.length + 1 - (kwNames kws).length) (kwNames kws) with
        | some sh => upP (pick (.ins c ns vs :: ds) sh) (cf g) S2
        | none => .bad
      | none => .bad
    | _ => .bad) := by
  refine ⟨fun pins s σ H Q I h => ?_⟩
  obtain ⟨w, S, R, h⟩ := h
  rw [ht]
  refine wpAny_bind (thn (he.run pins s σ H (fun x H1 => ∃ (c : Nat) (ns : List Str) (vs : List Dt) (g : Nat) (w1 : Wd) (S1 : Sto), P.meth c "__call__" = some g ∧ Rr F f w1 σ H1 S1 ∧ Dn F w1 (.ins c ns vs) x ∧
      Po F f W σ w1 ((m S1).bind fun ds S2 => match P.shf g (ds.length + 1 - (kwNames kws).length) (kwNames kws) with
        | some sh => upP (pick (.ins c ns vs :: ds) sh) (cf g) S2
        | none => .bad) (Dn F) Q) I (Rd1.go R h fun d x w1 H1 S1 _ R1 l1 r1 h1 => ?_)) fun u s1 hh => ?_)
  · cases d with
    | ins c ns vs =>
      dsimp only at h1
      cases e1 : P.meth c "__call__" with
      | none => rw [e1] at h1; exact h1.elim
      | some g =>
        rw [e1] at h1
        exact ⟨c, ns, vs, g, w1, S1, e1, R1, r1, h1⟩
    | _ => exact h1.elim
  · obtain ⟨x, H1, I1, rx, c, ns, ds0, g, w1, S1, e1, R1, dx0, h1⟩ := hh
    obtain ⟨a, dx, vs, ex, ga, hl, rs⟩ := id dx0
    subst ex
    obtain rfl : u = Value.ref a := rx
    obtain ⟨co, cal⟩ := hC c g e1
    refine ha.run pos pins s1 σ H1 a (fun zs H2 => (∃ dx fs, H2 a = some (.ins (F.ca c) dx fs)) ∧ ∃ sh, P.shf g (es.length + 1) (kwNames kws) = some sh ∧ spS F (cf g) sh (.ref a :: zs) H2 Q (WE W σ)) (EP X pins σ Q) I1 (Rd1.go R1 h1 fun ds zs w2 H2 S2 em R2 l2 r2 h2 => ?_) fun us ws vs' zs s2 H2 I2 l1 l2 ru rz q => ?_
    · have hl2 := hlen _ _ _ em
      have e3 : ds.length + 1 - (kwNames kws).length = es.length + 1 := by rw [hkw]; omega
      rw [e3] at h2
      cases e : P.shf g (es.length + 1) (kwNames kws) with
      | none => rw [e] at h2; exact h2.elim
      | some sh =>
        rw [e] at h2
        obtain ⟨xs, e4, h3⟩ := upP_some h2
        exact ⟨⟨_, _, R2.cs.fr _ _ (l2.g _ _ ga)⟩, sh, rfl, w2, S2.m, .ins c ns ds0 :: ds, xs, R2.cs, ⟨.ref a, zs, rfl, Dn.mono l2 _ dx0, r2⟩, e4, poC_of R2 h3⟩
    · obtain ⟨hi, sh, e, q⟩ := q
      obtain ⟨ox, od, J, hd⟩ := StX.insC_at (C := F.ca c) I2 (.inr hi)
      refine ⟨⟨_, ox, od, J, hd⟩, ?_⟩
      refine wpAny_call (PySem.W.kco_code I2.kIn J hd co.at_ co.fn co.fi (codeAny_mono (cal sh e X.A X.stack s2 H2 (.ref a :: us) ws (.ref a :: vs') zs Q (WE W σ) hr hg I2.env0 (by rw [List.length_cons, l1]) (by rw [hkw]; exact l2) (.cons rfl ru) rz q) fun r s' hq => ?_))
      cases r with
      | error e => exact passAt tk σ pins H2 s2 e s' I2 hq
      | ok fl =>
        cases fl with
        | ret u => exact I2.after hq
        | next => exact False.elim hq
        | brk => exact False.elim hq
        | cont => exact False.elim hq
end
end PyI
namespace PyI
open PySem PySem.Spec PyProof.Rows L2
/-! ### x = a call: what the callee hands over stays the frame's own -/
def VqB (F : Fx) (f : Fm) (σ : L2.St) (w : Wd) (H : Hp) (S : Sto) : Bn → V → Prop
  | .p d, v => Dn F w d v
  | .o d, v => ∃ a, v = .ref a ∧ New F f w σ H S d a
def PoB (F : Fx) (f : Fm) (W : WX) (σ : L2.St) (w : Wd) (r : Rs Bn) (Q : VK) : Prop := match r with
  | .ok b S' => ∀ v w' H', Rr F f w' σ H' S' → Le w w' → VqB F f σ w' H' S' b v → Q v H'
  | .ex c ns ds S' => ∀ dx vs w' H', Rr F f w' σ H' S' → Le w w' → w'.G dx = some (.xd (ns.zip vs)) → ns.length = vs.length → Dns F w' ds vs → W (.ref (F.ca c)) (some dx) σ H'
  | .bad => False
def RQ (F : Fx) (f : Fm) (W : WX) (m : Sto → Rs Bn) : TE := fun σ H Q => ∃ w S, Rr F f w σ H S ∧ PoB F f W σ w (m S) Q
section
variable {F : Fx} {f : Fm} {W : WX}
theorem PoB.le {σ : L2.St} {w w1 : Wd} {r : Rs Bn} {Q : VK} (l : Le w w1) (h : PoB F f W σ w r Q) : PoB F f W σ w1 r Q := by
  cases r with
  | ok a S => exact fun b w' H' R l' r => h b w' H' R (l.trans l') r
  | ex c ns ds S => exact fun dx vs w' H' R l' => h dx vs w' H' R (l.trans l')
  | bad => exact h
theorem Rd1.goB {α β : Type} {m : Sto → Rs α} {k : α → Sto → Rs Bn} {Rel1 : Wd → α → β → Prop} {σ : L2.St} {H : Hp} {w : Wd} {S : Sto} {Q : VK} {Q1 : β → Hp → Prop}
    (R : Rr F f w σ H S) (h : PoB F f W σ w ((m S).bind k) Q)
    (hk : ∀ a b w1 H1 S1, m S = .ok a S1 → Rr F f w1 σ H1 S1 → Le w w1 → Rel1 w1 a b → PoB F f W σ w1 (k a S1) Q → Q1 b H1) : Rd1 F f W m Rel1 σ H Q1 := by
  refine ⟨w, S, R, ?_⟩
  cases e : m S with
  | ok a S1 =>
    rw [e] at h
    exact fun b w1 H1 R1 l1 r1 => hk a b w1 H1 S1 e R1 l1 r1 (PoB.le l1 h)
  | ex c ns ds S1 =>
    rw [e] at h
    exact h
  | bad =>
    rw [e] at h
    exact h
theorem poC_ofB {w : Wd} {σ : L2.St} {H : Hp} {S : Sto} {r : Rc} {Q : VK} (R : Rr F f w σ H S) (h : PoB F f W σ w (upB r S) Q) : PoC F w H r Q (WE W σ) := by
  cases r with
  | ok b m' =>
    intro v w' H' c x vb
    have R' := R.back c x
    cases b with
    | p d => exact h v w' H' R' x.le vb
    | o d =>
      cases d with
      | lst ds =>
        obtain ⟨a, rfl, g1, a1, m1, hn⟩ := vb
        refine h (.ref a) w' H' R' x.le ⟨a, rfl, g1, a1, m1, R.new0 hn, by simp [insB], fun j e q1 q2 => ?_⟩
        obtain ⟨b, s1, _, _, m4, _⟩ := R.ow j e q1
        rw [q2] at s1
        cases s1
        obtain ⟨o, ho⟩ := m4.there
        rw [hn] at ho
        cases ho
      | _ => exact (h : False).elim
  | ex c ns ds m' =>
    intro dx vs w' H' cs x g n r
    exact h dx vs w' H' (R.back cs x) x.le g n r
  | bad => exact h
theorem upPB_some {o : Option (List Dt)} {g : List Dt → List Dt → Rc} {S : Sto} {σ : L2.St} {w : Wd} {Q : VK} (h : PoB F f W σ w (upPB o g S) Q) : ∃ xs, o = some xs ∧ PoB F f W σ w (upB (g xs S.m) S) Q := by
  cases o with
  | none => exact h.elim
  | some xs => exact ⟨xs, rfl, h⟩
end
section
variable {X : Cx} {F : Fx} {f : Fm} {W : WX} {k : Nat} {es : List Expr} {kws : List Keyword} {m : Sto → Rs (List Dt)} {x : Str} {p pos apos : Pos}
/-- a global name that may be called: a def or a class -/
theorem sb_call {g : List Dt → List Dt → Rc} {shl : Nat → Option (List Ar)} {fa : Addr} (C : ∀ sh, shl es.length = some sh → CalG X.prog X.w X.K X.mg X.base k fa es.length (kwNames kws) (spS F g sh)) (hkw : (kwNames kws).length = kws.length) (hr : Room k X.A) (hg : X.A.guards = some []) (tk : Takes X W)
    (hgl : Gl X x) (hm : X.mg x = some (.ref fa)) (hk : PySem.W.keepIn X.K (.ref fa) = true) (hdb : (x == ("__debug__" : Str)) = false) (hlen : ∀ S ds S1, m S = .ok ds S1 → ds.length = es.length + kws.length) (ha : PArg X es kws (REs F f W m)) :
    PE X (.Call (.Name x p) es kws pos) (RQ F f W fun S => (m S).bind fun ds S1 => match shl (ds.length - (kwNames kws).length) with
      | some sh => upPB (pick ds sh) g S1
      | none => .bad) := by
  refine ⟨fun pins s σ H Q I h => ?_⟩
  obtain ⟨w, S, R, h⟩ := h
  refine wpAny_Call_Name_kw (ld_glob I hgl hm ?_ hdb)
  refine ha.run pos pins s σ H (.ref fa) [] (fun vs H2 => ∃ sh, shl es.length = some sh ∧ spS F g sh vs H2 Q (WE W σ)) (EP X pins σ Q) hk I (Rd1.goB R h fun ds vs w1 H1 S1 em R1 l1 r1 h1 => ?_) fun us ws vs zs s2 H2 I2 l1 l2 ru rz q => ?_
  · have hl := hlen _ _ _ em
    have e1 : ds.length - (kwNames kws).length = es.length := by rw [hkw]; omega
    rw [e1] at h1
    cases e : shl es.length with
    | none => rw [e] at h1; exact h1.elim
    | some sh =>
      rw [e] at h1
      obtain ⟨xs, e2, h2⟩ := upPB_some h1
      exact ⟨sh, rfl, w1, S1.m, ds, xs, R1.cs, r1, e2, poC_ofB R1 h2⟩
  · obtain ⟨sh, e, q⟩ := q
    exact run_G (C sh e) hr hg tk I2 l1 (by rw [hkw]; exact l2) ru rz q
/-- o.m(..) -/
theorem sb_meth {mo : Sto → Rs Dt} {o : Expr} {mt : Str} {P : Pg} {cf : Nat → List Dt → List Dt → Rc} (he : PE X o (RE F f W mo))
    (hC : ∀ c g, P.meth c mt = some g → Cls X.K (F.ca c) ∧ Meth X.K (F.ca c) mt (F.fa g) ∧ ∀ sh, P.shf g (es.length + 1) (kwNames kws) = some sh → CalG X.prog X.w X.K X.mg X.base k (F.fa g) (es.length + 1) (kwNames kws) (spS F (cf g) sh))
    (hkw : (kwNames kws).length = kws.length) (hr : Room k X.A) (hg : X.A.guards = some []) (tk : Takes X W) (hlen : ∀ S ds S1, m S = .ok ds S1 → ds.length = es.length + kws.length) (ha : PArg X es kws (REs F f W m))
    {pl : Sem Bool} (ht : eval (.Call (.Attribute o mt apos) es kws pos) X.env = (do
      let ov ← eval o X.env
      standAt apos.atName
      let (f, first) ← holding [ov] (getMethod ov mt pl)
      callWith pos f first (backTo pos (starEach es X.env)) (backToKw pos (keywordEach kws X.env)))) :
    PE X (.Call (.Attribute o mt apos) es kws pos) (RQ F f W fun S => (mo S).bind fun x S1 => match x with
    | .ins c ns vs => match P.meth c mt, lookD mt ns vs with
      | some g, none => (m S1).bind fun ds S2 => match P.shf g (ds.length + 1 - (kwNames kws).length) (kwNames kws) with
        | some sh => upPB (pick (.ins c ns vs :: ds) sh) (cf g) S2
        | none => .bad
      | _, _ => .bad
    | _ => .bad) := by
  refine ⟨fun pins s σ H Q I h => ?_⟩
  obtain ⟨w, S, R, h⟩ := h
  refine PySem.W.methodCall_KW (pl := pl) (thn (he.run pins s σ H (fun x H1 => ∃ (c : Nat) (ns : List Str) (vs : List Dt) (g : Nat) (w1 : Wd) (S1 : Sto), P.meth c mt = some g ∧ lookD mt ns vs = none ∧ Rr F f w1 σ H1 S1 ∧ Dn F w1 (.ins c ns vs) x ∧
      PoB F f W σ w1 ((m S1).bind fun ds S2 => match P.shf g (ds.length + 1 - (kwNames kws).length) (kwNames kws) with
        | some sh => upPB (pick (.ins c ns vs :: ds) sh) (cf g) S2
        | none => .bad) Q) I (Rd1.goB R h fun d x w1 H1 S1 _ R1 l1 r1 h1 => ?_)) fun u s1 hh => ?_) ht
  · cases d with
    | ins c ns vs =>
      dsimp only at h1
      cases e1 : P.meth c mt with
      | none => rw [e1] at h1; exact h1.elim
      | some g =>
        cases e2 : lookD mt ns vs with
        | some _ => rw [e1, e2] at h1; exact h1.elim
        | none =>
          rw [e1, e2] at h1
          exact ⟨c, ns, vs, g, w1, S1, e1, e2, R1, r1, h1⟩
    | _ => exact h1.elim
  · obtain ⟨x, H1, I1, rx, c, ns, ds0, g, w1, S1, e1, e2, R1, dx0, h1⟩ := hh
    obtain ⟨a, dx, vs, ex, ga, hl, rs⟩ := id dx0
    subst ex
    obtain rfl : u = Value.ref a := rx
    obtain ⟨cl, mth, cal⟩ := hC c g e1
    refine getmeth_ok I1 (R1.cs.fr _ _ ga) cl mth ((look_dn (ns := ns) (f0 := mt) rs hl).2 e2) ?_
    refine ha.run pos pins s1 σ H1 (.ref (F.fa g)) [.ref a] (fun zs H2 => ∃ sh, P.shf g (es.length + 1) (kwNames kws) = some sh ∧ spS F (cf g) sh (.ref a :: zs) H2 Q (WE W σ)) (EP X pins σ Q) mth.kp I1 (Rd1.goB R1 h1 fun ds zs w2 H2 S2 em R2 l2 r2 h2 => ?_) fun us ws vs' zs s2 H2 I2 l1 l2 ru rz q => ?_
    · have hl2 := hlen _ _ _ em
      have e3 : ds.length + 1 - (kwNames kws).length = es.length + 1 := by rw [hkw]; omega
      rw [e3] at h2
      cases e : P.shf g (es.length + 1) (kwNames kws) with
      | none => rw [e] at h2; exact h2.elim
      | some sh =>
        rw [e] at h2
        obtain ⟨xs, e4, h3⟩ := upPB_some h2
        exact ⟨sh, rfl, w2, S2.m, .ins c ns ds0 :: ds, xs, R2.cs, ⟨.ref a, zs, rfl, Dn.mono l2 _ dx0, r2⟩, e4, poC_ofB R2 h3⟩
    · obtain ⟨sh, e, q⟩ := q
      exact run_G (us := .ref a :: us) (vs := .ref a :: vs') (cal sh e) hr hg tk I2 (by rw [List.length_cons, l1]) (by rw [hkw]; exact l2) (.cons rfl ru) rz q
/-- x(..), x an instance -/
theorem sb_icall {mo : Sto → Rs Dt} {o : Expr} {P : Pg} {cf : Nat → List Dt → List Dt → Rc} (he : PE X o (RE F f W mo))
    (hC : ∀ c g, P.meth c "__call__" = some g → StX.CallO X.K (F.ca c) (F.fa g) ∧ ∀ sh, P.shf g (es.length + 1) (kwNames kws) = some sh → CalG X.prog X.w X.K X.mg X.base k (F.fa g) (es.length + 1) (kwNames kws) (spS F (cf g) sh))
    (hkw : (kwNames kws).length = kws.length) (hr : Room k X.A) (hg : X.A.guards = some []) (tk : Takes X W) (hlen : ∀ S ds S1, m S = .ok ds S1 → ds.length = es.length + kws.length) (ha : PArgO X es kws (REs F f W m))
    (ht : eval (.Call o es kws pos) X.env = (do callWith pos (← eval o X.env) [] (backTo pos (starEach es X.env)) (backToKw pos (keywordEach kws X.env)))) :
    PE X (.Call o es kws pos) (RQ F f W fun S => (mo S).bind fun x S1 => match x with
    | .ins c ns vs => match P.meth c "__call__" with
      | some g => (m S1).bind fun ds S2 => match P.shf g (ds.length + 1 - (kwNames kws).length) (kwNames kws) with
        | some sh => upPB (pick (.ins c ns vs :: ds) sh) (cf g) S2
        | none => .bad
      | none => .bad
    | _ => .bad) := by
  refine ⟨fun pins s σ H Q I h => ?_⟩
  obtain ⟨w, S, R, h⟩ := h
  rw [ht]
  refine wpAny_bind (thn (he.run pins s σ H (fun x H1 => ∃ (c : Nat) (ns : List Str) (vs : List Dt) (g : Nat) (w1 : Wd) (S1 : Sto), P.meth c "__call__" = some g ∧ Rr F f w1 σ H1 S1 ∧ Dn F w1 (.ins c ns vs) x ∧
      PoB F f W σ w1 ((m S1).bind fun ds S2 => match P.shf g (ds.length + 1 - (kwNames kws).length) (kwNames kws) with
        | some sh => upPB (pick (.ins c ns vs :: ds) sh) (cf g) S2
        | none => .bad) Q) I (Rd1.goB R h fun d x w1 H1 S1 _ R1 l1 r1 h1 => ?_)) fun u s1 hh => ?_)
  · cases d with
    | ins c ns vs =>
      dsimp only at h1
      cases e1 : P.meth c "__call__" with
      | none => rw [e1] at h1; exact h1.elim
      | some g =>
        rw [e1] at h1
        exact ⟨c, ns, vs, g, w1, S1, e1, R1, r1, h1⟩
    | _ => exact h1.elim
  · obtain ⟨x, H1, I1, rx, c, ns, ds0, g, w1, S1, e1, R1, dx0, h1⟩ := hh
    obtain ⟨a, dx, vs, ex, ga, hl, rs⟩ := id dx0
    subst ex
    obtain rfl : u = Value.ref a := rx
    obtain ⟨co, cal⟩ := hC c g e1
    refine ha.run pos pins s1 σ H1 a (fun zs H2 => (∃ dx fs, H2 a = some (.ins (F.ca c) dx fs)) ∧ ∃ sh, P.shf g (es.length + 1) (kwNames kws) = some sh ∧ spS F (cf g) sh (.ref a :: zs) H2 Q (WE W σ)) (EP X pins σ Q) I1 (Rd1.goB R1 h1 fun ds zs w2 H2 S2 em R2 l2 r2 h2 => ?_) fun us ws vs' zs s2 H2 I2 l1 l2 ru rz q => ?_
    · have hl2 := hlen _ _ _ em
      have e3 : ds.length + 1 - (kwNames kws).length = es.length + 1 := by rw [hkw]; omega
      rw [e3] at h2
      cases e : P.shf g (es.length + 1) (kwNames kws) with
      | none => rw [e] at h2; exact h2.elim
      | some sh =>
        rw [e] at h2
        obtain ⟨xs, e4, h3⟩ := upPB_some h2
        exact ⟨⟨_, _, R2.cs.fr _ _ (l2.g _ _ ga)⟩, sh, rfl, w2, S2.m, .ins c ns ds0 :: ds, xs, R2.cs, ⟨.ref a, zs, rfl, Dn.mono l2 _ dx0, r2⟩, e4, poC_ofB R2 h3⟩
    · obtain ⟨hi, sh, e, q⟩ := q
      obtain ⟨ox, od, J, hd⟩ := StX.insC_at (C := F.ca c) I2 (.inr hi)
      refine ⟨⟨_, ox, od, J, hd⟩, ?_⟩
      refine wpAny_call (PySem.W.kco_code I2.kIn J hd co.at_ co.fn co.fi (codeAny_mono (cal sh e X.A X.stack s2 H2 (.ref a :: us) ws (.ref a :: vs') zs Q (WE W σ) hr hg I2.env0 (by rw [List.length_cons, l1]) (by rw [hkw]; exact l2) (.cons rfl ru) rz q) fun r s' hq => ?_))
      cases r with
      | error e => exact passAt tk σ pins H2 s2 e s' I2 hq
      | ok fl =>
        cases fl with
        | ret u => exact I2.after hq
        | next => exact False.elim hq
        | brk => exact False.elim hq
        | cont => exact False.elim hq
/-- x = a call -/
theorem ss_asgF {i : Nat} {te : TE} {st : Stmt} {mb : Sto → Rs Bn} (hb : PS X st (tAsg te (gName i))) (hi : ∀ (σ : L2.St) (H : Hp) (w : Wd) (S : Sto) (Q : VK), Rr F f w σ H S → PoB F f W σ w (mb S) Q → te σ H Q) :
    PS X st (RS F f W fun S => toRt (mb S) fun b S1 => if i < S1.r.length then .nx ⟨S1.r.set i (some b), S1.m⟩ else .bad) := by
  refine psImp hb fun D σ H ⟨w, S, R, h⟩ => hi σ H w S _ R ?_
  dsimp only at h
  cases e : mb S with
  | bad => rw [e] at h; exact h
  | ex c ns ds S1 =>
    rw [e] at h
    exact fun dx vs w' H' R' l' => h dx vs σ w' H' R' l'
  | ok b S1 =>
    rw [e] at h
    intro v w1 H1 R1 l1 vb
    have h : PoS F f W w (if i < S1.r.length then .nx ⟨S1.r.set i (some b), S1.m⟩ else .bad) D := h
    split at h
    · cases b with
      | p d => exact h _ w1 H1 (R1.setP vb) l1
      | o d =>
        obtain ⟨a, rfl, n1⟩ := vb
        exact h _ w1 H1 (R1.setO n1.g n1.na n1.m ⟨.inl n1.h, fun z => absurd z n1.k⟩ n1.n) l1
    · exact h.elim
/-- x, y = (e, a new list) -/
theorem ss_parO {a b : Expr} {ma mb : Sto → Rs Dt} {i j : Nat} {x y : Str} {px py pt pt2 : Pos} {kt k2 : Nat} (hc : X.calm = true) (hN : X.N.Nodup) (hi : X.N[i]? = some x) (hj : X.N[j]? = some y) (hij : i ≠ j) (hx : X.env.scope.names.lookup x = some .local) (hy : X.env.scope.names.lookup y = some .local) (hp : plainEs [a, b] = true)
    (ha : PE X a (RE F f W ma)) (hb : PE X b (RN F f W mb)) (hw : swappedStores [.Tuple [.Name x px, .Name y py] kt pt] (.Tuple [a, b] k2 pt2) X.env = pure (some [x, y])) :
    PS X (.Assign [.Tuple [.Name x px, .Name y py] kt pt] (.Tuple [a, b] k2 pt2) pos) (RS F f W fun S => toRt (ma S) fun x S1 => toRt (mb S1) fun y S2 => if i < S2.r.length ∧ j < S2.r.length then .nx ⟨(S2.r.set i (some (.p x))).set j (some (.o y)), S2.m⟩ else .bad) := by
  have hp2 := plain_tail hp
  refine psImp (ps_par hc hN hi hj hij hx hy (pa_cons ha (pa_cons hb pa_nil (star_cons hp2)) (star_cons hp)) hw) fun D σ H ⟨w, S, R, h⟩ => ?_
  refine Rd1.goS R h fun d v w1 H1 S1 _ R1 l1 r1 h1 => ?_
  refine ⟨w1, S1, R1, PoN.goS h1 fun e u w2 H2 S2 _ R2 l2 n2 h2 => ?_⟩
  split at h2
  · have R3 := R2.setP (i := i) (Dn.mono l2 d r1)
    refine ⟨v, .ref u, rfl, h2 _ w2 H2 (R3.setO n2.g n2.na n2.m ⟨.inl n2.h, fun z => absurd z n2.k⟩ fun j' e' q1 q2 => ?_) (Le.refl _)⟩
    rcases get_set q1 with ⟨_, z⟩ | ⟨n, z⟩
    · cases z
    · rw [List.getElem?_set_ne (Ne.symm n)] at q2
      exact n2.n j' e' z q2
  · exact h2.elim
end
end PyI
namespace PyI
open PySem PySem.Spec PyProof.Rows L2
/-! ### a look at the frame's own lists that keeps nothing of them -/
section
variable {X : Cx} {F : Fx} {f : Fm} {W : WX}
theorem flat_dn2 {w w' : Wd} : ∀ {d : Dt} {v : V}, flatD d = true → Dn F w d v → Dn F w' d v
  | .non, _, _, h | .bl _, _, _, h | .int _, _, _, h | .str _, _, _, h => h
  | .lst _, _, e, _ | .tup _, _, e, _ | .dct _ _, _, e, _ | .ins _ _ _, _, e, _ | .cel _, _, e, _ | .cls _, _, e, _ | .ty _, _, e, _ | .scr _, _, e, _ => by cases e
theorem flat_dns2 {w w' : Wd} : ∀ {ds : List Dt} {vs : List V}, ds.all flatD = true → Dns F w ds vs → Dns F w' ds vs
  | [], _, _, h => h
  | d :: ds, _, e, ⟨v, r, e1, h, t⟩ => by
    rw [List.all_cons, Bool.and_eq_true] at e
    exact ⟨v, r, e1, flat_dn2 e.1 h, flat_dns2 e.2 t⟩
theorem frz_get {r : List (Option Bn)} {i : Nat} {b : Bn} (h : (frzB r)[i]? = some (some b)) : (r[i]? = some (some b) ∧ ∃ d, b = .p d) ∨ ∃ ds, b = .p (.lst ds) ∧ r[i]? = some (some (.o (.lst ds))) := by
  unfold frzB at h
  rw [List.getElem?_map] at h
  cases e : r[i]? with
  | none => rw [e] at h; cases h
  | some x =>
    rw [e] at h
    cases x with
    | none => cases h
    | some y =>
      cases y with
      | p d => cases h; exact .inl ⟨rfl, d, rfl⟩
      | o d => cases d <;> cases h; exact .inr ⟨_, rfl, rfl⟩
open Classical in
theorem Rr.lend {w : Wd} {σ : L2.St} {H : Hp} {S : Sto} (R : Rr F f w σ H S) : ∃ w1, Le w w1 ∧ w1.A = w.A ∧ Rr F ⟨H, w1, [], []⟩ w1 σ H ⟨frzB S.r, S.m⟩ := by
  have notG : ∀ a, a ∈ owns σ S.r → w.G a = none ∧ a ∉ w.A := fun a ha => by
    obtain ⟨i, d, h1, h2⟩ := mem_owns.mp ha
    obtain ⟨a', s1, g1, a1, _⟩ := R.ow i d h2
    rw [h1] at s1
    cases s1
    exact ⟨g1, a1⟩
  let w1 : Wd := ⟨fun a => if a ∈ owns σ S.r then H a else w.G a, w.A⟩
  have gIn : ∀ {a}, a ∈ owns σ S.r → w1.G a = H a := fun h => if_pos h
  have gOut : ∀ {a}, a ∉ owns σ S.r → w1.G a = w.G a := fun h => if_neg h
  have l : Le w w1 := ⟨fun a o h => by
    rw [gOut (fun q => by rw [(notG a q).1] at h; cases h)]
    exact h, [], by simp [w1]⟩
  refine ⟨w1, l, rfl, ⟨fun a o h => ?_, R.cs.nd, R.cs.ln, fun a ha => ?_, fun k a d h1 h2 => (R.cs.co k a d h1 h2).move l fun _ z => z⟩, ⟨Le.refl w1, fun a o h => .inl h, fun a h => .inl h, fun a o h _ _ => h, fun a ha => by cases ha⟩, ?_, fun i d h => ?_, fun i d h => ?_, fun i j a d e h => ?_⟩
  · by_cases q : a ∈ owns σ S.r
    · rw [gIn q] at h; exact h
    · rw [gOut q] at h; exact R.cs.fr a o h
  · rw [gOut (fun q => (notG a q).2 ha)]
    exact R.cs.ce a ha
  · show σ.length = (frzB S.r).length
    unfold frzB
    rw [List.length_map]
    exact R.sl
  · rcases frz_get h with ⟨h1, _⟩ | ⟨ds, e, h1⟩
    · obtain ⟨v, q1, q2⟩ := R.pu i d h1
      exact ⟨v, q1, Dn.mono l d q2⟩
    · cases e
      obtain ⟨a, q1, q2, q3, ⟨vs, q4, q5⟩, _⟩ := R.ow i _ h1
      exact ⟨.ref a, q1, a, vs, rfl, by rw [gIn (mem_owns.mpr ⟨i, _, q1, h1⟩)]; exact q4, Dns.mono l ds q5⟩
  · rcases frz_get h with ⟨_, _, z⟩ | ⟨_, z, _⟩ <;> cases z
  · rcases frz_get h with ⟨_, _, z⟩ | ⟨_, z, _⟩ <;> cases z
theorem flatC_mc {w w' : Wd} {H : Hp} {a : Addr} : ∀ {d : Dt}, flatC d = true → Mc F w H a d → Mc F w' H a d
  | .lst ds, e, ⟨vs, h, r⟩ => ⟨vs, h, flat_dns2 e r⟩
  | .non, e, _ | .bl _, e, _ | .int _, e, _ | .str _, e, _ | .tup _, e, _ | .dct _ _, e, _ | .ins _ _ _, e, _ | .cel _, e, _ | .cls _, e, _ | .ty _, e, _ | .scr _, e, _ => by cases e
theorem Rr.backL {w w1 w' : Wd} {σ : L2.St} {H H' : Hp} {S S' : Sto} (R : Rr F f w σ H S) (l : Le w w1) (eA : w1.A = w.A) (R' : Rr F ⟨H, w1, [], []⟩ w' σ H' S') (hm : S'.m.length = S.m.length) (hc : S'.m.all flatC = true) : Rr F f w σ H' ⟨S.r, S'.m⟩ := by
  have keep : ∀ a o, H a = some o → a ∉ w.A → H' a = some o := fun a o h1 h2 => R'.xt.pr a o h1 (by show a ∉ w1.A; rw [eA]; exact h2) (by simp)
  have l' : Le w1 w' := R'.xt.le
  have eA' : w'.A = w.A := by
    obtain ⟨m, e⟩ := l'.a
    have := R'.cs.ln
    rw [hm, ← R.cs.ln, e, eA, List.length_append] at this
    have hz : m = [] := List.length_eq_zero_iff.mp (by omega)
    rw [e, hz, eA, List.append_nil]
  have cs : Cs F w H' S'.m := by
    refine ⟨fun a o h => R'.cs.fr a o ((l.trans l').g a o h), R.cs.nd, by rw [R.cs.ln, hm], R.cs.ce, fun k a d h1 h2 => ?_⟩
    have fd : flatC d = true := List.all_eq_true.mp hc d (List.mem_of_getElem? h2)
    exact flatC_mc fd (R'.cs.co k a d (by rw [eA']; exact h1) h2)
  refine ⟨cs, ⟨R.xt.le, R.xt.gn, R.xt.an, fun a o h1 h2 h3 => ?_, fun a ha => ?_⟩, R.sl, R.pu, fun i d h => ?_, R.dj⟩
  · refine keep a o (R.xt.pr a o h1 h2 h3) fun q => ?_
    rcases R.xt.an a q with z | z
    · exact h2 z
    · rw [z] at h1; cases h1
  · obtain ⟨o, q⟩ := R.xt.xs a ha
    by_cases z : a ∈ w.A
    · exact cs.some z
    · exact ⟨o, keep a o q z⟩
  · obtain ⟨a, h1, h2, h3, h4, h5⟩ := R.ow i d h
    exact ⟨a, h1, h2, h3, h4.move (Le.refl w) (fun o q => keep a o q h3), h5⟩
theorem po_bor {w w1 : Wd} {σ : L2.St} {H : Hp} {S : Sto} {r : Rs Dt} {Q : VK} (R : Rr F f w σ H S) (l : Le w w1) (eA : w1.A = w.A) (h : Po F f W σ w (borK S r) (Dn F) Q) : Po F ⟨H, w1, [], []⟩ W σ w1 r (Dn F) Q := by
  cases r with
  | bad => exact h
  | ex _ _ _ _ => exact h.elim
  | ok d S' =>
    unfold borK at h
    dsimp only at h
    split at h
    · rename_i hc
      exact fun v w' H' R' l' dn => h v w H' (R.backL l eA R' hc.2.1 hc.2.2) (Le.refl w) (flat_dn2 hc.1 dn)
    · exact h.elim
theorem se_bor {e : Expr} {m : Sto → Rs Dt} (h : ∀ f, PE X e (RE F f W m)) : PE X e (RE F f W fun S => borK S (m ⟨frzB S.r, S.m⟩)) := by
  refine ⟨fun pins s σ H Q I q => ?_⟩
  obtain ⟨w, S, R, q⟩ := q
  obtain ⟨w1, l, eA, R1⟩ := R.lend
  exact (h _).run pins s σ H Q I ⟨w1, _, R1, po_bor R l eA q⟩
theorem st_bor {e : Expr} {m : Sto → Rs Dt} (h : ∀ f, PT X e (RB F f W m)) : PT X e (RB F f W fun S => borK S (m ⟨frzB S.r, S.m⟩)) := by
  refine ⟨fun pins s σ H Q I q => ?_⟩
  obtain ⟨w, S, R, q⟩ := q
  obtain ⟨w1, l, eA, R1⟩ := R.lend
  refine (h _).run pins s σ H Q I ⟨w1, _, R1, ?_⟩
  have q1 := po_bor R l eA q.tst
  unfold PyI.tst at q ⊢
  cases e : m ⟨frzB S.r, S.m⟩ with
  | bad => rw [e] at q1; exact q1
  | ex _ _ _ _ => rw [e] at q1; exact q1
  | ok d S' =>
    rw [e] at q1
    have q : Po F f W σ w ((borK S (m ⟨frzB S.r, S.m⟩)).bind fun d S1 => match d with
      | Dt.bl b => Rs.ok b S1
      | x => Rs.bad) (fun _ (x y : Bool) => x = y) Q := q
    rw [e] at q
    have bad : (∀ k, d ≠ .bl k) → False := fun hd => by
      unfold borK at q
      dsimp only at q
      split at q
      · cases d with
        | bl k => exact hd k rfl
        | _ => exact q
      · exact q
    cases d with
    | bl k =>
      intro b w' H' R' l' eb
      subst eb
      obtain ⟨k', e1, z⟩ := q1 (.bl k) w' H' R' l' rfl
      cases e1
      exact z
    | _ => exact (bad (fun k z => by cases z)).elim
end
end PyI
namespace PyI
open PySem PySem.Spec PyProof.Rows L2
/-! what a text's checker knows -/
structure Nf where
  N : List Str
  P : Pg
  gf : List (Str × Nat)
  gc : List (Str × Nat)
  gd : List (Str × Dt)
  bn : List Str
structure PgOk (P : Pg) : Prop where
  pr : ∀ c fl g, P.prop c fl = some g → P.shf g 1 [] = some selfSh
  sp : ∀ c g m, (m = ("__len__" : Str) ∨ m = ("__str__" : Str) ∨ m = ("__repr__" : Str)) → P.meth c m = some g → P.shf g 1 [] = some selfSh
  eq : ∀ c g m, (m = ("__eq__" : Str) ∨ m = ("__contains__" : Str)) → P.meth c m = some g → P.shf g 2 [] = some eqSh
  ops : OpSh P
structure Good (X : Cx) (F : Fx) (I : Nf) (k : Nat) (cf ci : Nat → List Dt → List Dt → Rc) : Prop where
  K : X.K = F.K
  N : X.N = I.N
  nod : X.N.Nodup
  calm : X.calm = true
  gd : X.A.guards = some []
  room : Room (k + 4) X.A
  cls : ClsT X.K F I.P
  fns : FnsT X F I.P k cf
  cis : ∀ c n ks sh, I.P.shc c n ks = some sh → ∃ fi, Mk X.K (F.ca c) fi ∧ CalG X.prog X.w X.K X.mg X.base k fi (n + 1) ks (spI F c (ci c) sh)
  pok : PgOk I.P
  gf : ∀ x i, I.gf.lookup x = some i → X.mg x = some (.ref (F.fa i)) ∧ PySem.W.keepIn X.K (.ref (F.fa i)) = true
  gc : ∀ x i, I.gc.lookup x = some i → X.mg x = some (.ref (F.ca i)) ∧ PySem.W.keepIn X.K (.ref (F.ca i)) = true
  gl : ∀ x d, I.gd.lookup x = some d → ∃ u v, X.mg x = some u ∧ RelV v u ∧ ∀ w, Dn F w d v
  bn : ∀ x, x ∈ I.bn → X.mg x = none
theorem Good.blk {X : Cx} {F : Fx} {I : Nf} {k : Nat} {cf ci : Nat → List Dt → List Dt → Rc} (g : Good X F I k cf ci) (s : Shared) (H : Hp) (scope : Scope) (cenv : Env) (fp : List Addr) : Good (X.blk s H scope cenv fp) F I k cf ci :=
  ⟨g.K, g.N, g.nod, g.calm, g.gd, g.room, g.cls, g.fns, g.cis, g.pok, g.gf, g.gc, g.gl, g.bn⟩
/-! the scope of a comprehension's block -/
def relS (scope sc : Scope) : Scope :=
  { scope with names := scope.names.map fun (n, k) => if (k == .free && sc.kind == .function && sc.names.lookup n == some .cell) then (n, .cell) else (n, k) }
theorem relS_of (scope : Scope) (env : Env) : relabel scope env = relS scope env.scope := rfl
/-! lists of terms -/
section
variable {P : Pg} {cf ci : Nat → List Dt → List Dt → Rc}
theorem evEs_len : ∀ {es : List Tm} {S : Sto} {ds : List Dt} {S1 : Sto}, evEs P cf ci es S = .ok ds S1 → ds.length = es.length
  | [], S, ds, S1, h => by
    unfold evEs at h
    cases h
    rfl
  | c :: es, S, ds, S1, h => by
    unfold evEs at h
    cases e1 : evE P cf ci c S with
    | ok d S2 =>
      rw [e1] at h
      simp only [Rs.bind] at h
      cases e2 : evEs P cf ci es S2 with
      | ok ds2 S3 =>
        rw [e2] at h
        cases h
        simp [evEs_len e2]
      | ex _ _ _ _ => rw [e2] at h; cases h
      | bad => rw [e2] at h; cases h
    | ex _ _ _ _ => rw [e1] at h; cases h
    | bad => rw [e1] at h; cases h
theorem evEs_append : ∀ (xs ys : List Tm) (S : Sto), evEs P cf ci (xs ++ ys) S = (evEs P cf ci xs S).bind fun ds S1 => (evEs P cf ci ys S1).bind fun es S2 => .ok (ds ++ es) S2
  | [], ys, S => by
    rw [List.nil_append]
    show _ = (evEs P cf ci [] S).bind _
    rw [evEs]
    simp only [Rs.bind, List.nil_append]
    cases evEs P cf ci ys S <;> rfl
  | x :: xs, ys, S => by
    rw [List.cons_append, evEs, evEs, Rs.bind_assoc]
    congr 1
    funext d S1
    rw [evEs_append xs ys S1, Rs.bind_assoc, Rs.bind_assoc]
    congr 1
    funext ds S2
    rw [Rs.bind_assoc]
    show _ = (Rs.ok (d :: ds) S2).bind _
    simp only [Rs.bind]
    cases evEs P cf ci ys S2 <;> rfl
end
section
variable {X : Cx} {F : Fx} {f : Fm} {W : WX} {P : Pg} {cf ci : Nat → List Dt → List Dt → Rc}
/-- pointwise -/
def PEs (X : Cx) (F : Fx) (f : Fm) (W : WX) (P : Pg) (cf ci : Nat → List Dt → List Dt → Rc) : List Tm → List Expr → Prop
  | [], [] => True
  | c :: cs, e :: es => PE X e (RE F f W (evE P cf ci c)) ∧ PEs X F f W P cf ci cs es
  | _, _ => False
theorem PEs.len : ∀ {cs : List Tm} {es : List Expr}, PEs X F f W P cf ci cs es → cs.length = es.length
  | [], [], _ => rfl
  | [], _ :: _, h => h.elim
  | _ :: _, [], h => h.elim
  | _ :: _, _ :: _, h => by simp [PEs.len h.2]
theorem PEs.pa : ∀ {cs : List Tm} {es : List Expr}, PEs X F f W P cf ci cs es → plainEs es = true → PA X es (REs F f W (evEs P cf ci cs))
  | [], [], _, _ => by
    have : evEs P cf ci [] = fun S => .ok [] S := by funext S; rw [evEs]
    rw [this]
    exact sa_nil
  | [], _ :: _, h, _ => h.elim
  | _ :: _, [], h, _ => h.elim
  | c :: cs, e :: es, h, hp => by
    have : evEs P cf ci (c :: cs) = fun S => (evE P cf ci c S).bind fun d S1 => (evEs P cf ci cs S1).bind fun ds S2 => .ok (d :: ds) S2 := by funext S; rw [evEs]
    rw [this]
    exact sa_cons hp h.1 (PEs.pa h.2 (plain_tail hp))
theorem PEs.pk : ∀ {cs : List Tm} {kws : List Keyword}, PEs X F f W P cf ci cs (kws.map kwExpr) → PK X kws (REs F f W (evEs P cf ci cs))
  | [], [], _ => by
    have : evEs P cf ci [] = fun S => .ok [] S := by funext S; rw [evEs]
    rw [this]
    exact sk_nil
  | [], _ :: _, h => h.elim
  | _ :: _, [], h => h.elim
  | c :: cs, ⟨n, e, p⟩ :: es, h => by
    have : evEs P cf ci (c :: cs) = fun S => (evE P cf ci c S).bind fun d S1 => (evEs P cf ci cs S1).bind fun ds S2 => .ok (d :: ds) S2 := by funext S; rw [evEs]
    rw [this]
    exact sk_cons h.1 (PEs.pk h.2)
theorem PEs.pj : ∀ {cs : List Tm} {es : List Expr}, PEs X F f W P cf ci cs es → PJ X es (cs.map fun c => RE F f W (evE P cf ci c))
  | [], [], _ => .nil
  | [], _ :: _, h => h.elim
  | _ :: _, [], h => h.elim
  | c :: cs, e :: es, h => .cons h.1 (PEs.pj h.2)
theorem PEs.split : ∀ {cs : List Tm} {xs ys : List Expr}, PEs X F f W P cf ci cs (xs ++ ys) → PEs X F f W P cf ci (cs.take xs.length) xs ∧ PEs X F f W P cf ci (cs.drop xs.length) ys
  | cs, [], ys, h => ⟨by simp [PEs], by simpa using h⟩
  | [], _ :: _, _, h => h.elim
  | c :: cs, x :: xs, ys, h => by
    have := PEs.split (cs := cs) (xs := xs) (ys := ys) h.2
    exact ⟨⟨h.1, by simpa using this.1⟩, by simpa using this.2⟩
theorem PEs.parg {cs : List Tm} {es : List Expr} {kws : List Keyword} (h : PEs X F f W P cf ci cs (es ++ kws.map kwExpr)) (hp : plainEs es = true) (hn : kws.all (fun k => (kwName k).isSome) = true) : PArg X es kws (REs F f W (evEs P cf ci cs)) := by
  obtain ⟨h1, h2⟩ := h.split
  have l1 := h1.len
  have l2 := h2.len
  rw [List.length_map] at l2
  have e : evEs P cf ci cs = fun S => (evEs P cf ci (cs.take es.length) S).bind fun ds S1 => (evEs P cf ci (cs.drop es.length) S1).bind fun es S2 => .ok (ds ++ es) S2 := by
    funext S
    rw [← evEs_append, List.take_append_drop]
  rw [e]
  refine pArg_of hp hn (fun e0 S => ?_) (fun S ds S1 q => (evEs_len q).trans l1) (fun S ds S1 q => (evEs_len q).trans l2) (h1.pa hp) h2.pk
  subst e0
  rw [List.length_nil, List.take_zero, evEs]
end
section
variable {X : Cx} {F : Fx} {f : Fm} {W : WX} {P : Pg} {cf ci : Nat → List Dt → List Dt → Rc}
theorem PEs.pargO {cs : List Tm} {es : List Expr} {kws : List Keyword} (h : PEs X F f W P cf ci cs (es ++ kws.map kwExpr)) (hp : plainEs es = true) (hn : kws.all (fun k => (kwName k).isSome) = true) : PArgO X es kws (REs F f W (evEs P cf ci cs)) := by
  obtain ⟨h1, h2⟩ := h.split
  have l1 := h1.len
  have l2 := h2.len
  rw [List.length_map] at l2
  have e : evEs P cf ci cs = fun S => (evEs P cf ci (cs.take es.length) S).bind fun ds S1 => (evEs P cf ci (cs.drop es.length) S1).bind fun es S2 => .ok (ds ++ es) S2 := by
    funext S
    rw [← evEs_append, List.take_append_drop]
  rw [e]
  refine pArgO_of hp hn (fun e0 S => ?_) (fun S ds S1 q => (evEs_len q).trans l1) (fun S ds S1 q => (evEs_len q).trans l2) (h1.pa hp) h2.pk
  subst e0
  rw [List.length_nil, List.take_zero, evEs]
/-- the values, spliced -/
def splE (P : Pg) (cf ci : Nat → List Dt → List Dt → Rc) (cs : List Tm) (S : Sto) : Rs (List Dt) := (evEs P cf ci cs S).bind fun ds S1 => match splD (cs.map isSt) ds with
  | some xs => .ok xs S1
  | none => .bad
def seqOf : Dt → List Dt
  | .lst xs => xs
  | .tup xs => xs
  | _ => []
theorem star_ok {a : Tm} {S S1 : Sto} {d : Dt} (h : evE P cf ci (.star a) S = .ok d S1) : d = .lst (seqOf d) ∨ d = .tup (seqOf d) := by
  rw [evE] at h
  cases e : evE P cf ci a S with
  | ok d2 S2 =>
    rw [e] at h
    cases d2 <;> cases h <;> first | exact .inl rfl | exact .inr rfl
  | ex _ _ _ _ => rw [e] at h; cases h
  | bad => rw [e] at h; cases h
theorem splE_cons {c : Tm} {cs : List Tm} (S : Sto) (hc : isSt c = false) : splE P cf ci (c :: cs) S = (evE P cf ci c S).bind fun d S1 => (splE P cf ci cs S1).bind fun ds S2 => .ok (d :: ds) S2 := by
  unfold splE
  rw [evEs, Rs.bind_assoc]
  congr 1
  funext d S1
  rw [Rs.bind_assoc, Rs.bind_assoc]
  congr 1
  funext ds S2
  simp only [Rs.bind, List.map_cons, hc, splD]
  cases splD (cs.map isSt) ds <;> rfl
theorem splE_star {a : Tm} {cs : List Tm} (S : Sto) : splE P cf ci (.star a :: cs) S = (evE P cf ci (.star a) S).bind fun d S1 => (splE P cf ci cs S1).bind fun ds S2 => .ok (seqOf d ++ ds) S2 := by
  unfold splE
  rw [evEs, Rs.bind_assoc]
  cases e : evE P cf ci (.star a) S with
  | ex _ _ _ _ => rfl
  | bad => rfl
  | ok d S1 =>
    simp only [Rs.bind]
    cases evEs P cf ci cs S1 with
    | ex _ _ _ _ => rfl
    | bad => rfl
    | ok ds S2 =>
      simp only [Rs.bind, List.map_cons]
      rcases star_ok e with q | q
      · rw [q]
        simp only [isSt, splD, seqOf]
        cases splD (cs.map isSt) ds <;> rfl
      · rw [q]
        simp only [isSt, splD, seqOf]
        cases splD (cs.map isSt) ds <;> rfl
theorem sq_star {w : Wd} {H : Hp} {d : Dt} {v : V} (hK : X.K = F.K) (fr : ∀ a o, w.G a = some o → H a = some o) (hd : d = .lst (seqOf d) ∨ d = .tup (seqOf d)) (h : Dn F w d v) : ∃ p xs, v = V.ref p ∧ (SqT X.K H p xs ∨ SqL X.K H p xs) ∧ Dns F w (seqOf d) xs := by
  rcases hd with q | q
  · rw [q] at h
    obtain ⟨a, vs, rfl, g, r⟩ := h
    exact ⟨a, vs, rfl, .inr (SqL.of (fr _ _ g)), r⟩
  · rw [q] at h
    obtain ⟨a, vs, rfl, g, r⟩ := h
    exact ⟨a, vs, rfl, .inl (by rw [hK]; exact sqT_mono fr g), r⟩
theorem PEs.pas (hK : X.K = F.K) : ∀ {cs : List Tm} {es : List Expr}, PEs X F f W P cf ci cs (es.map unSt) → cs.map isSt = es.map isStE → PA X es (REs F f W (splE P cf ci cs))
  | [], [], _, _ => by
    have : splE P cf ci [] = fun S => .ok [] S := by funext S; unfold splE; rw [evEs]; rfl
    rw [this]
    exact sa_nil
  | [], _ :: _, h, _ => h.elim
  | _ :: _, [], h, _ => h.elim
  | c :: cs, e :: es, h, hf => by
    obtain ⟨hf1, hf2⟩ : isSt c = isStE e ∧ cs.map isSt = es.map isStE := by simpa using hf
    have ih := PEs.pas hK (cs := cs) (es := es) h.2 hf2
    by_cases he : isStE e = true
    · rw [he] at hf1
      cases c <;> first | (simp [isSt] at hf1; done) | skip
      rename_i a
      cases e <;> first | (simp [isStE] at he; done) | skip
      rename_i e p
      have : splE P cf ci (.star a :: cs) = _ := funext fun S => splE_star S
      rw [this]
      refine paImp (StX.pa_star h.1 ih rfl) fun σ H Q ⟨w, S, R, h⟩ => ?_
      refine Rd1.go R h fun d x w1 H1 S1 e1 R1 l1 r1 h1 => ?_
      obtain ⟨p, xs, ex, sq, dn⟩ := sq_star hK R1.cs.fr (star_ok e1) r1
      refine ⟨p, xs, ex, sq, Rd1.go R1 h1 fun ds ys w2 H2 S2 _ R2 l2 r2 h2 => h2.ok R2 ((Dns.mono l2 _ dn).append r2)⟩
    · have he : isStE e = false := by simpa using he
      rw [he] at hf1
      have : splE P cf ci (c :: cs) = _ := funext fun S => splE_cons S hf1
      rw [this]
      have h1 : PE X e (RE F f W (evE P cf ci c)) := by
        have := h.1
        rwa [unSt_of he] at this
      refine paImp (pa_cons h1 ih (star_cons1 he)) fun σ H Q ⟨w, S, R, h⟩ => ?_
      refine Rd1.go R h fun d x w1 H1 S1 _ R1 l1 r1 h1 => ?_
      refine Rd1.go R1 h1 fun ds xs w2 H2 S2 _ R2 l2 r2 h2 => ?_
      exact h2.ok R2 ⟨x, xs, rfl, Dn.mono l2 d r1, r2⟩
theorem PEs.parS (hK : X.K = F.K) {cs : List Tm} {es : List Expr} (h : PEs X F f W P cf ci cs (es.map unSt)) (hf : cs.map isSt = es.map isStE) (ha : es.any isStE = true) : PArgS X es (REs F f W (splE P cf ci cs)) := by
  cases es with
  | nil => cases ha
  | cons e es =>
    cases es with
    | cons e2 es => exact pArgS_two ha (h.pas hK hf)
    | nil =>
      have he : isStE e = true := by simpa using ha
      cases cs with
      | nil => exact h.elim
      | cons c cs =>
        cases cs with
        | cons _ _ => simp at hf
        | nil =>
          have hf1 : isSt c = true := by simpa [he] using hf
          cases c <;> first | (simp [isSt] at hf1; done) | skip
          rename_i a
          cases e <;> first | (simp [isStE] at he; done) | skip
          rename_i e p
          refine pArgS_imp (pArgS_one h.1) fun σ H Q ⟨w, S, R, h⟩ => ?_
          rw [splE_star] at h
          refine Rd1.go R h fun d x w1 H1 S1 e1 R1 l1 r1 h1 => ?_
          obtain ⟨p, xs, ex, sq, dn⟩ := sq_star hK R1.cs.fr (star_ok e1) r1
          refine ⟨p, xs, ex, sq, ?_⟩
          have h1 : Po F f W σ w1 (.ok (seqOf d ++ []) S1) (Dns F) Q := by
            have e0 : splE P cf ci [] S1 = .ok [] S1 := by unfold splE; rw [evEs]; rfl
            rw [e0] at h1
            exact h1
          rw [List.append_nil] at h1
          exact h1.ok R1 dn
end
theorem kwN_len : ∀ {kws : List Keyword}, kws.all (fun k => (kwName k).isSome) = true → (kwNames kws).length = kws.length
  | [], _ => rfl
  | ⟨n, e, p⟩ :: kws, h => by
    rw [List.all_cons, Bool.and_eq_true] at h
    cases n with
    | none => cases h.1
    | some x =>
      show (kwNames (⟨some x, e, p⟩ :: kws)).length = _
      unfold kwNames
      rw [List.filterMap_cons]
      simp only [kwName, List.length_cons]
      have := kwN_len h.2
      unfold kwNames at this
      rw [this]
/-! the checker -/
def mC : Dt → Const → Bool
  | .int i, .int j => decide (i = j)
  | .str x, .str y => x == y
  | .bl b, .bool c => b == c
  | .non, .none => true
  | _, _ => false
def mTy (I : Nf) (sc : Scope) : Ty → Expr → Bool
  | .int, .Name x _ => x == ("int" : Str) && glB sc "int" && I.bn.contains "int"
  | .bool, .Name x _ => x == ("bool" : Str) && glB sc "bool" && I.bn.contains "bool"
  | .str, .Name x _ => x == ("str" : Str) && glB sc "str" && I.bn.contains "str"
  | .list, .Name x _ => x == ("list" : Str) && glB sc "list" && I.bn.contains "list"
  | .tuple, .Name x _ => x == ("tuple" : Str) && glB sc "tuple" && I.bn.contains "tuple"
  | .dict, .Name x _ => x == ("dict" : Str) && glB sc "dict" && I.bn.contains "dict"
  | .own c, .Name x _ => I.gc.lookup x == some c && glB sc x && nmB x && (I.P.cl[c]?).isSome
  | _, _ => false
def mTys (I : Nf) (sc : Scope) : List Ty → List Expr → Bool
  | [], [] => true
  | t :: ts, e :: es => mTy I sc t e && mTys I sc ts es
  | _, _ => false
/-! equal constants -/
mutual
def dtB : Dt → Dt → Bool
  | .int i, .int j => decide (i = j)
  | .str a, .str b => a == b
  | .bl a, .bl b => a == b
  | .non, .non => true
  | .tup as, .tup bs => dtsB as bs
  | _, _ => false
def dtsB : List Dt → List Dt → Bool
  | [], [] => true
  | a :: as, b :: bs => dtB a b && dtsB as bs
  | _, _ => false
end
mutual
theorem dtB_of : ∀ (a b : Dt), dtB a b = true → a = b
  | .non, b, h => by cases b <;> simp_all [dtB]
  | .bl _, b, h => by cases b <;> simp_all [dtB]
  | .int _, b, h => by cases b <;> simp_all [dtB]
  | .str _, b, h => by cases b <;> simp_all [dtB]
  | .tup as, b, h => by
    cases b with
    | tup bs =>
      simp only [dtB] at h
      rw [dtsB_of as bs h]
    | _ => simp [dtB] at h
  | .lst _, b, h => by cases b <;> simp [dtB] at h
  | .dct _ _, b, h => by cases b <;> simp [dtB] at h
  | .ins _ _ _, b, h => by cases b <;> simp [dtB] at h
  | .cel _, b, h => by cases b <;> simp [dtB] at h
  | .cls _, b, h => by cases b <;> simp [dtB] at h
  | .ty _, b, h => by cases b <;> simp [dtB] at h
  | .scr _, b, h => by cases b <;> simp [dtB] at h
theorem dtsB_of : ∀ (as bs : List Dt), dtsB as bs = true → as = bs
  | [], bs, h => by cases bs <;> simp_all [dtsB]
  | a :: as, bs, h => by
    cases bs with
    | nil => simp [dtsB] at h
    | cons b bs =>
      simp only [dtsB, Bool.and_eq_true] at h
      rw [dtB_of a b h.1, dtsB_of as bs h.2]
end
def notLc : Expr → Bool
  | .ListComp _ _ _ _ => false
  | _ => true
def itMd : Expr → Nat
  | .Tuple _ _ _ => 3
  | _ => 2
def bareB (P : Pg) (c : Nat) : Bool := match P.cl[c]? with
  | some x => x.bare
  | none => false
def varB (I : Nf) (sc : Scope) (i : Nat) (x : Str) : Bool := I.N[i]? == some x && visB sc x && nmB x
def sub1 (md : Nat) : Nat := if md = 1 then 1 else 0
def isYes : Tm → Bool
  | .cst (.bl true) => true
  | _ => false
def ownNs (N : List Str) (own : List Nat) : List (Str × Nat) := own.map fun i => ((N[i]?).getD "", i)
def statB (P : Pg) (c : Nat) (m : Str) (g : Nat) : Bool := match P.cl[c]? with
  | some x => x.stat.lookup m == some g
  | none => false
/-- what is called is a name, a call or an operator's value -/
def calleeB : Expr → Bool
  | .Name _ _ => true
  | .Call _ _ _ _ => true
  | .BinOp _ _ _ _ => true
  | _ => false
theorem callee_eval {o : Expr} {es : List Expr} {kws : List Keyword} {pos : Pos} {env : Env} (h : calleeB o = true) : eval (.Call o es kws pos) env = (do callWith pos (← eval o env) [] (backTo pos (starEach es env)) (backToKw pos (keywordEach kws env))) := by
  cases o <;> first | rfl | (simp [calleeB] at h; done)
mutual
def mm (I : Nf) (sc : Scope) (md : Nat) : Tm → Expr → Bool
  | .var i, .Name x _ => varB I sc i x
  | .cst d, .Constant c _ _ => mC d c
  | .glo y d, .Name x _ => x == y && glB sc x && nmB x && (match I.gd.lookup x with
    | some d' => dtB d d'
    | none => false)
  | .bin op a b, .BinOp e1 op' e2 _ => decide (op = op') && mm I sc 0 a e1 && mm I sc 0 b e2
  | .neg a, .UnaryOp .USub e _ => mm I sc 0 a e
  | .not1 a, .UnaryOp .Not e _ => mm I sc (sub1 md) a e
  | .cmp op a b, .Compare e1 [op'] [e2] _ => decide (op = op') && !behindInMarks op e2 && mm I sc 0 a e1 && mm I sc 0 b e2
  | .chn o1 o2 a b c, .Compare e1 [o1', o2'] [e2, e3] _ => decide (o1 = o1') && decide (o2 = o2') && !lastMarks [o1, o2] [e2, e3] && mm I sc 0 a e1 && mm I sc 0 b e2 && mm I sc 0 c e3
  | .and2 a b, .BoolOp .And [e1, e2] _ => mm I sc (sub1 md) a e1 && mm I sc (sub1 md) b e2
  | .and2 a b, .BoolOp .And (e1 :: e2 :: e3 :: r) p => mm I sc (sub1 md) a e1 && mm I sc (sub1 md) b (.BoolOp .And (e2 :: e3 :: r) p)
  | .or2 a b, .BoolOp .Or [e1, e2] _ => mm I sc (sub1 md) a e1 && mm I sc (sub1 md) b e2
  | .or2 a b, .BoolOp .Or (e1 :: e2 :: e3 :: r) p => mm I sc (sub1 md) a e1 && mm I sc (sub1 md) b (.BoolOp .Or (e2 :: e3 :: r) p)
  | .ife c a b, .IfExp ec ea eb _ => md != 1 && mm I sc 1 c ec && mm I sc 0 a ea && mm I sc 0 b eb
  | .tup cs, .Tuple es _ _ => plainEs es && mms I sc cs es
  | .lst cs, .List es _ => plainEs es && mms I sc cs es
  | .ix a b, .Subscript e1 e2 _ => ixPB e2 && mm I sc 0 a e1 && mm I sc 0 b e2
  | .fld a fl, .Attribute e fl' _ => fl == fl' && baseB e && mm I sc 0 a e
  | .bi b cs, .Call (.Name x _) (e :: es) [] _ => x == biN b && glB sc x && I.bn.contains x && plainEs (e :: es) && mms I sc cs (e :: es)
  | .isi a [t], .Call (.Name x _) [e, ec] [] _ => x == ("isinstance" : Str) && glB sc x && I.bn.contains x && plainEs [e, ec] && mTy I sc t ec && mm I sc 0 a e
  | .isi a (t1 :: t2 :: ts), .Call (.Name x _) [e, .Tuple es kk tp] [] _ => x == ("isinstance" : Str) && glB sc x && I.bn.contains x && plainEs [e, .Tuple es kk tp] && decide (ts.length < 20) && mTys I sc (t1 :: t2 :: ts) es && mm I sc 0 a e
  | .call g ks cs, .Call (.Name x _) es kws _ => I.gf.lookup x == some g && ks == kwNames kws && glB sc x && nmB x && plainEs es && kws.all (fun k => (kwName k).isSome) && mms I sc cs (es ++ kws.map kwExpr)
  | .make c ks cs, .Call (.Name x _) es kws _ => I.gc.lookup x == some c && ks == kwNames kws && glB sc x && nmB x && plainEs es && kws.all (fun k => (kwName k).isSome) && mms I sc cs (es ++ kws.map kwExpr)
  | .meth a m ks cs, .Call (.Attribute o m' apos) es kws pos => m == m' && ks == kwNames kws && baseB o && (apos.endLine == pos.line) && decide (es.length + kws.length + 1 < 30) && plainEs es && kws.all (fun k => (kwName k).isSome) && mm I sc 0 a o && mms I sc cs (es ++ kws.map kwExpr)
  | .smeth c m g ks cs, .Call (.Attribute (.Name x _) m' apos) es kws pos => I.gc.lookup x == some c && statB I.P c m g && m == m' && ks == kwNames kws && glB sc x && nmB x && baseB (.Name x apos) && (apos.endLine == pos.line) && decide (es.length + kws.length + 1 < 30) && plainEs es && kws.all (fun k => (kwName k).isSome) && mms I sc cs (es ++ kws.map kwExpr)
  | .comp e own tg it c, .ListComp elt [⟨tgE, iter, ifs, 0⟩] scope _ => blkC I.N sc scope (ownNs I.N own) && own.all (fun i => (I.N[i]?).isSome) && mT I.N (relS scope sc) true tg tgE && (tgSl tg).all (fun i => own.contains i) && setFB iter && mm I sc (itMd tgE) it iter && mm I (relS scope sc) 0 e elt && (match ifs with
    | [] => isYes c
    | [e1] => mm I (relS scope sc) 1 c e1
    | _ => false)
  | .rng1 a, .Call (.Name x _) [e] [] _ => decide (md = 2) && x == ("range" : Str) && glB sc x && I.bn.contains x && plainEs [e] && mm I sc 0 a e
  | .rng2 a b, .Call (.Name x _) [e1, e2] [] _ => decide (md = 2) && x == ("range" : Str) && glB sc x && I.bn.contains x && plainEs [e1, e2] && mm I sc 0 a e1 && mm I sc 0 b e2
  | .fst cs, .JoinedStr es _ => decide (0 < es.length) && mms I sc cs es
  | .fms a, .FormattedValue e c none _ => decide (c = -1) && mm I sc 0 a e
  | .fmr a, .FormattedValue e c none _ => decide (c = 114) && mm I sc 0 a e
  | .split a b, .Call (.Attribute o m apos) [e] [] pos => m == ("split" : Str) && baseB o && (apos.endLine == pos.line) && plainEs [e] && mm I sc 0 a o && mm I sc 0 b e
  | .lenB i, .Call (.Name y _) [.Name x _] [] _ => y == ("len" : Str) && glB sc y && I.bn.contains y && varB I sc i x
  | .ixB i b, .Subscript (.Name x _) e _ => varB I sc i x && ixPB e && mm I sc 0 b e
  | .slcL a b, .Subscript e1 (.Slice (some e2) none none _) _ => mm I sc 0 a e1 && mm I sc 0 b e2
  | .slcH a b, .Subscript e1 (.Slice none (some e2) none _) _ => mm I sc 0 a e1 && mm I sc 0 b e2
  | .slcB a b c, .Subscript e1 (.Slice (some e2) (some e3) none _) _ => mm I sc 0 a e1 && mm I sc 0 b e2 && mm I sc 0 c e3
  | .enm a, .Call (.Name x _) [e] [] _ => decide (md = 3) && x == ("enumerate" : Str) && glB sc x && I.bn.contains x && plainEs [e] && mm I sc 0 a e
  | .lrg2 a b, .Call (.Name x _) [.Call (.Name y _) [e1, e2] [] _] [] _ => x == ("list" : Str) && y == ("range" : Str) && glB sc x && glB sc y && I.bn.contains x && I.bn.contains y && plainEs [e1, e2] && mm I sc 0 a e1 && mm I sc 0 b e2
  | .join a b, .Call (.Attribute o m apos) [e] [] pos => m == ("join" : Str) && baseB o && (apos.endLine == pos.line) && plainEs [e] && mm I sc 0 a o && mm I sc 0 b e
  | .rev a, .Subscript e1 (.Slice none none (some (.UnaryOp .USub (.Constant (.int i) _ _) _)) _) _ => decide (i = 1) && mm I sc 0 a e1
  | .bor a, e => decide (md < 2) && notLc e && mm I sc md a e
  | .star a, e => decide (md = 0) && notLc e && mm I sc 0 a e
  | .makeS c cs, .Call (.Name x _) es [] _ => I.gc.lookup x == some c && glB sc x && nmB x && cs.map isSt == es.map isStE && es.any isStE && mms I sc cs (es.map unSt)
  | .icall a ks cs, .Call o es kws pos => ks == kwNames kws && plainEs es && kws.all (fun k => (kwName k).isSome) && calleeB o && mm I sc 0 a o && mms I sc cs (es ++ kws.map kwExpr)
  | .mk0 c, .Call (.Name x _) [] [] _ => I.gc.lookup x == some c && glB sc x && nmB x && bareB I.P c
  | _, _ => false
def mms (I : Nf) (sc : Scope) : List Tm → List Expr → Bool
  | [], [] => true
  | c :: cs, e :: es => mm I sc 0 c e && mms I sc cs es
  | _, _ => false
end
/-! soundness, by mode -/
def Sd (X : Cx) (F : Fx) (f : Fm) (W : WX) (md : Nat) (e : Expr) (m : Sto → Rs Dt) : Prop :=
  if md = 1 then PT X e (RB F f W m) else if md = 2 then ∀ tg, PI X tg e (RI F f W m) else if md = 3 then ∀ elts kk tpos, PI X (.Tuple elts kk tpos) e (RI F f W m) else PE X e (RE F f W m)
section
variable {X : Cx} {F : Fx} {f : Fm} {W : WX} {m : Sto → Rs Dt} {e : Expr}
theorem sd_sub {md : Nat} (hK : X.K = F.K) (h : md ≠ 1 → PE X e (RE F f W m)) (ht : md = 1 → PT X e (RB F f W m)) : Sd X F f W md e m := by
  unfold Sd
  split
  · exact ht (by assumption)
  · split
    · exact fun tg => se_it hK (h (by assumption))
    · split
      · exact fun _ _ _ => se_it hK (h (by assumption))
      · exact h (by assumption)
theorem sd_both {md : Nat} (hK : X.K = F.K) (h : PE X e (RE F f W m)) (ht : PT X e (RB F f W m)) : Sd X F f W md e m := sd_sub hK (fun _ => h) fun _ => ht
theorem sd_val {md : Nat} (hK : X.K = F.K) (h : PE X e (RE F f W m)) (hp : ∀ whole, isTrue e X.env whole = (do let v ← whole; standAt e.pos; holding [v] (truthy v))) : Sd X F f W md e m := sd_both hK h (st_val h hp)
theorem sd0 (h : Sd X F f W 0 e m) : PE X e (RE F f W m) := by
  unfold Sd at h
  rwa [if_neg (by decide), if_neg (by decide), if_neg (by decide)] at h
theorem sd1 (h : Sd X F f W 1 e m) : PT X e (RB F f W m) := by
  unfold Sd at h
  rwa [if_pos rfl] at h
theorem sd2 (h : Sd X F f W 2 e m) : ∀ tg, PI X tg e (RI F f W m) := by
  unfold Sd at h
  rwa [if_neg (by decide), if_pos rfl] at h
theorem sd3 (h : Sd X F f W 3 e m) : ∀ elts kk tpos, PI X (.Tuple elts kk tpos) e (RI F f W m) := by
  unfold Sd at h
  rwa [if_neg (by decide), if_neg (by decide), if_pos rfl] at h
theorem sdI {tg : Expr} (h : Sd X F f W (itMd tg) e m) : PI X tg e (RI F f W m) := by
  cases tg with
  | Tuple elts kk tpos => exact sd3 h elts kk tpos
  | _ => exact sd2 h _
end
end PyI
set_option maxHeartbeats 2000000
namespace PyI
open PySem PySem.Spec PyProof.Rows L2
section
variable {X : Cx} {F : Fx} {f : Fm} {W : WX}
theorem peOf {e : Expr} {m m' : Sto → Rs Dt} (h : PE X e (RE F f W m)) (q : ∀ S, m' S = m S) : PE X e (RE F f W m') := by
  have : m' = m := funext q
  rw [this]
  exact h
theorem ptOf {e : Expr} {m m' : Sto → Rs Dt} (h : PT X e (RB F f W m)) (q : ∀ S, m' S = m S) : PT X e (RB F f W m') := by
  have : m' = m := funext q
  rw [this]
  exact h
theorem piOf {tg e : Expr} {m m' : Sto → Rs Dt} (h : PI X tg e (RI F f W m)) (q : ∀ S, m' S = m S) : PI X tg e (RI F f W m') := by
  have : m' = m := funext q
  rw [this]
  exact h
theorem takes_blk {s : Shared} {H : Hp} {scope : Scope} {cenv : Env} {fp : List Addr} : Takes (X.blk s H scope cenv fp) W0 := by
  rintro u s' ⟨_, _, _, _, _, _, _, _, _, _, _, _, _, _, _, _, w⟩
  exact w
theorem dn_flat {d : Dt} (h : flatD d = true) (w : Wd) : Dn F w d (dtV d) := by
  cases d <;> first | rfl | (simp [flatD] at h)
theorem pw_b {o : BoolOp} {es : List Expr} {p : Pos} {t : TT} (h : PT X (.BoolOp o es p) t) : PW X (.BoolOp o es p) t := ⟨fun wh pins s σ H Q I q => h.run pins s σ H Q I q⟩
theorem meth_cl {P : Pg} {c g : Nat} {m : Str} (h : P.meth c m = some g) : ∃ x, P.cl[c]? = some x ∧ x.meth.lookup m = some g := by
  unfold Pg.meth at h
  cases e : P.cl[c]? with
  | none => rw [e] at h; cases h
  | some x => rw [e] at h; exact ⟨x, rfl, h⟩
theorem stat_cl {P : Pg} {c g : Nat} {m : Str} (h : statB P c m g = true) : ∃ x, P.cl[c]? = some x ∧ x.stat.lookup m = some g := by
  unfold statB at h
  cases e : P.cl[c]? with
  | none => rw [e] at h; cases h
  | some x => rw [e] at h; exact ⟨x, rfl, by simpa using h⟩
theorem sub1_ne {md : Nat} (h : md ≠ 1) : sub1 md = 0 := if_neg h
theorem sub1_eq {md : Nat} (h : md = 1) : sub1 md = 1 := if_pos h
theorem ty_pe {I : Nf} {k : Nat} {cf ci : Nat → List Dt → List Dt → Rc} (G : Good X F I k cf ci) : ∀ {t : Ty} {e : Expr}, mTy I X.env.scope t e = true → PE X e (tC (tyV F t)) ∧ tyKnown I.P t = true := by
  intro t e h
  cases e with
  | Name x p =>
    cases t with
    | own c =>
      simp only [mTy, Bool.and_eq_true, beq_iff_eq] at h
      obtain ⟨⟨⟨h1, h2⟩, h3⟩, h4⟩ := h
      exact ⟨pe_glob (gl_of h2) (G.gc x c h1).1 rfl (nm_of h3).1, h4⟩
    | int =>
      simp only [mTy, Bool.and_eq_true, beq_iff_eq] at h
      obtain ⟨⟨h1, h2⟩, h3⟩ := h
      subst h1
      exact ⟨pe_bltn (u := .type "int") (gl_of h2) (G.bn _ (List.contains_iff_mem.mp h3)) (by rfl) rfl, rfl⟩
    | bool =>
      simp only [mTy, Bool.and_eq_true, beq_iff_eq] at h
      obtain ⟨⟨h1, h2⟩, h3⟩ := h
      subst h1
      exact ⟨pe_bltn (u := .type "bool") (gl_of h2) (G.bn _ (List.contains_iff_mem.mp h3)) (by rfl) rfl, rfl⟩
    | str =>
      simp only [mTy, Bool.and_eq_true, beq_iff_eq] at h
      obtain ⟨⟨h1, h2⟩, h3⟩ := h
      subst h1
      exact ⟨pe_bltn (u := .type "str") (gl_of h2) (G.bn _ (List.contains_iff_mem.mp h3)) (by rfl) rfl, rfl⟩
    | list =>
      simp only [mTy, Bool.and_eq_true, beq_iff_eq] at h
      obtain ⟨⟨h1, h2⟩, h3⟩ := h
      subst h1
      exact ⟨pe_bltn (u := .type "list") (gl_of h2) (G.bn _ (List.contains_iff_mem.mp h3)) (by rfl) rfl, rfl⟩
    | tuple =>
      simp only [mTy, Bool.and_eq_true, beq_iff_eq] at h
      obtain ⟨⟨h1, h2⟩, h3⟩ := h
      subst h1
      exact ⟨pe_bltn (u := .type "tuple") (gl_of h2) (G.bn _ (List.contains_iff_mem.mp h3)) (by rfl) rfl, rfl⟩
    | dict =>
      simp only [mTy, Bool.and_eq_true, beq_iff_eq] at h
      obtain ⟨⟨h1, h2⟩, h3⟩ := h
      subst h1
      exact ⟨pe_bltn (u := .type "dict") (gl_of h2) (G.bn _ (List.contains_iff_mem.mp h3)) (by rfl) rfl, rfl⟩
  | _ => cases t <;> simp [mTy] at h
theorem ty_st {I : Nf} {sc : Scope} {t : Ty} {e : Expr} (h : mTy I sc t e = true) : isStE e = false := by
  cases e <;> first | rfl | (cases t <;> simp [mTy] at h)
theorem tys_pe {I : Nf} {k : Nat} {cf ci : Nat → List Dt → List Dt → Rc} (G : Good X F I k cf ci) : ∀ {ts : List Ty} {es : List Expr}, mTys I X.env.scope ts es = true → PA X es (fun _ H Q => Q (ts.map (tyV F)) H) ∧ ts.all (tyKnown I.P) = true
  | [], [], _ => ⟨paImp pa_nil fun σ H Q h => h, rfl⟩
  | [], _ :: _, h => by simp [mTys] at h
  | _ :: _, [], h => by simp [mTys] at h
  | t :: ts, e :: es, h => by
    simp only [mTys, Bool.and_eq_true] at h
    obtain ⟨q1, q2⟩ := ty_pe G h.1
    obtain ⟨q3, q4⟩ := tys_pe G h.2
    refine ⟨paImp (pa_cons q1 q3 (star_cons1 (ty_st h.1))) fun σ H Q h => h, by rw [List.all_cons, q2, q4]; rfl⟩
theorem var_of {I : Nf} {k : Nat} {cf ci : Nat → List Dt → List Dt → Rc} (G : Good X F I k cf ci) {i : Nat} {x : Str} (h : varB I X.env.scope i x = true) : X.N[i]? = some x ∧ Vis X.env.scope x ∧ (x == ("__debug__" : Str)) = false ∧ (x == ("__classdict__" : Str)) = false := by
  unfold varB at h
  simp only [Bool.and_eq_true, beq_iff_eq] at h
  obtain ⟨⟨h1, h2⟩, h3⟩ := h
  rw [G.N]
  exact ⟨h1, vis_of h2, nm_of h3⟩
theorem ownNs_map {N : List Str} {own : List Nat} : (ownNs N own).map (·.2) = own := by
  unfold ownNs
  rw [List.map_map]
  exact List.map_id _
end
mutual
theorem sd {I : Nf} {F : Fx} {k : Nat} {cf ci : Nat → List Dt → List Dt → Rc} : ∀ (c : Tm) {X : Cx} {f : Fm} {W : WX} {md : Nat} {e : Expr}, Good X F I k cf ci → Takes X W → mm I X.env.scope md c e = true → Sd X F f W md e (evE I.P cf ci c)
  | .var i, X, f, W, md, e, G, T, h => by
    cases e with
    | Name x p =>
      simp only [mm, Bool.and_eq_true, beq_iff_eq, decide_eq_true_eq, Bool.not_eq_true'] at h
      obtain ⟨h1, h2, h3, h4⟩ := var_of G h
      exact sd_val G.K (peOf (se_var h1 h2 h3 h4) fun S => by rw [evE] <;> rfl) fun _ => rfl
    | _ => simp [mm] at h
  | .cst d, X, f, W, md, e, G, T, h => by
    cases e with
    | Constant c j p =>
      have q : PE X (.Constant c j p) (RE F f W fun S => .ok d S) := by
        simp only [mm] at h
        cases d <;> cases c <;> first | (simp [mC] at h; done) | skip
        · exact se_c pe_non fun _ => rfl
        · simp only [mC, beq_iff_eq] at h; subst h; exact se_c pe_bl fun _ => rfl
        · simp only [mC, decide_eq_true_eq] at h; subst h; exact se_c pe_int fun _ => rfl
        · simp only [mC, beq_iff_eq] at h; subst h; exact se_c pe_str fun _ => rfl
      exact sd_val G.K (peOf q fun S => by rw [evE] <;> rfl) fun _ => rfl
    | _ => simp [mm] at h
  | .glo y d, X, f, W, md, e, G, T, h => by
    cases e with
    | Name x p =>
      simp only [mm, Bool.and_eq_true, beq_iff_eq] at h
      obtain ⟨⟨⟨h1, h2⟩, h3⟩, h4⟩ := h
      split at h4
      · rename_i d' e'
        have ed : d = d' := dtB_of d d' h4
        subst ed
        obtain ⟨u, v, g2, g3, g4⟩ := G.gl x d e'
        exact sd_val G.K (peOf (se_c (pe_glob (gl_of h2) g2 g3 (nm_of h3).1) g4) fun S => by rw [evE] <;> rfl) fun _ => rfl
      · cases h4
    | _ => simp [mm] at h
  | .bin op a b, X, f, W, md, e, G, T, h => by
    cases e with
    | BinOp e1 op2 e2 p =>
      simp only [mm, Bool.and_eq_true, beq_iff_eq, decide_eq_true_eq, Bool.not_eq_true'] at h
      obtain ⟨⟨h1, h2⟩, h3⟩ := h
      subst h1
      exact sd_val G.K (peOf (se_bin1 G.K G.cls G.fns (G.room.mono (by omega)) G.gd T G.pok.ops (sd0 (sd a G T h2)) (sd0 (sd b G T h3))) fun S => by rw [evE] <;> rfl) fun _ => rfl
    | _ => simp [mm] at h
  | .neg a, X, f, W, md, e, G, T, h => by
    cases e with
    | UnaryOp o e p =>
      cases o with
      | USub =>
        simp only [mm] at h
        exact sd_val G.K (peOf (se_neg (sd0 (sd a G T h))) fun S => by rw [evE] <;> rfl) fun _ => rfl
      | _ => simp [mm] at h
    | _ => simp [mm] at h
  | .not1 a, X, f, W, md, e, G, T, h => by
    cases e with
    | UnaryOp o e p =>
      cases o with
      | Not =>
        simp only [mm] at h
        refine sd_sub G.K (fun m => ?_) fun m => ?_
        · rw [sub1_ne m] at h
          exact peOf (se_not (sd0 (sd a G T h))) fun S => by rw [evE] <;> rfl
        · rw [sub1_eq m] at h
          exact ptOf (st_not (sd1 (sd a G T h))) fun S => by rw [evE] <;> rfl
      | _ => simp [mm] at h
    | _ => simp [mm] at h
  | .cmp op a b, X, f, W, md, e, G, T, h => by
    cases e with
    | Compare e1 ops es p =>
      cases ops with
      | cons op2 ops =>
        cases ops with
        | nil =>
          cases es with
          | cons e2 es =>
            cases es with
            | nil =>
              simp only [mm, Bool.and_eq_true, beq_iff_eq, decide_eq_true_eq, Bool.not_eq_true'] at h
              obtain ⟨⟨⟨h1, h2⟩, h3⟩, h4⟩ := h
              subst h1
              have q := se_cmp1 (pos := p) (cmp1_ok (f := f) (W := W) G.K G.cls G.fns G.pok.eq (G.room.mono (by omega)) G.gd op) h2 (sd0 (sd a G T h3)) (sd0 (sd b G T h4))
              exact sd_both G.K (peOf q.1 fun S => by rw [evE] <;> rfl) (ptOf q.2 fun S => by rw [evE] <;> rfl)
            | _ => simp [mm] at h
          | _ => simp [mm] at h
        | _ => simp [mm] at h
      | _ => simp [mm] at h
    | _ => simp [mm] at h
  | .chn o1 o2 a b c, X, f, W, md, e, G, T, h => by
    cases e with
    | Compare e1 ops es p =>
      cases ops with
      | cons op1 ops =>
        cases ops with
        | cons op2 ops =>
          cases ops with
          | nil =>
            cases es with
            | cons e2 es =>
              cases es with
              | cons e3 es =>
                cases es with
                | nil =>
                  simp only [mm, Bool.and_eq_true, beq_iff_eq, decide_eq_true_eq, Bool.not_eq_true'] at h
                  obtain ⟨⟨⟨⟨⟨h1, h2⟩, h3⟩, h4⟩, h5⟩, h6⟩ := h
                  subst h1
                  subst h2
                  have hu : X.A.units + 65 < cLine := by have := G.room.un; omega
                  have q := se_chn (pos := p) G.K hu h3 (sd0 (sd (f := f) a G T h4)) (sd0 (sd b G T h5)) (sd0 (sd c G T h6))
                  exact sd_both G.K (peOf q.1 fun S => by rw [evE] <;> rfl) (ptOf q.2 fun S => by rw [evE] <;> rfl)
                | _ => simp [mm] at h
              | _ => simp [mm] at h
            | _ => simp [mm] at h
          | _ => simp [mm] at h
        | _ => simp [mm] at h
      | _ => simp [mm] at h
    | _ => simp [mm] at h
  | .and2 a b, X, f, W, md, e, G, T, h => by
    cases e with
    | BoolOp o es p =>
      cases o with
      | And =>
        cases es with
        | nil => simp [mm] at h
        | cons e1 es =>
          cases es with
          | nil => simp [mm] at h
          | cons e2 es =>
            cases es with
            | nil =>
              simp only [mm, Bool.and_eq_true] at h
              refine sd_sub G.K (fun m => ?_) fun m => ?_
              · rw [sub1_ne m] at h
                exact peOf (se_and (sd0 (sd a G T h.1)) (pe_one (sd0 (sd b G T h.2)))) fun S => by rw [evE] <;> rfl
              · rw [sub1_eq m] at h
                exact ptOf (sw_and (sd1 (sd a G T h.1)) (pw_and1 (sd1 (sd b G T h.2)))).pt fun S => by rw [evE] <;> rfl
            | cons e3 r =>
              simp only [mm, Bool.and_eq_true] at h
              refine sd_sub G.K (fun m => ?_) fun m => ?_
              · rw [sub1_ne m] at h
                exact peOf (se_and (sd0 (sd a G T h.1)) (sd0 (sd b G T h.2))) fun S => by rw [evE] <;> rfl
              · rw [sub1_eq m] at h
                exact ptOf (sw_and (sd1 (sd a G T h.1)) (pw_b (sd1 (sd b G T h.2)))).pt fun S => by rw [evE] <;> rfl
      | _ => simp [mm] at h
    | _ => simp [mm] at h
  | .or2 a b, X, f, W, md, e, G, T, h => by
    cases e with
    | BoolOp o es p =>
      cases o with
      | Or =>
        cases es with
        | nil => simp [mm] at h
        | cons e1 es =>
          cases es with
          | nil => simp [mm] at h
          | cons e2 es =>
            cases es with
            | nil =>
              simp only [mm, Bool.and_eq_true] at h
              refine sd_sub G.K (fun m => ?_) fun m => ?_
              · rw [sub1_ne m] at h
                exact peOf (se_or (sd0 (sd a G T h.1)) (pe_one (sd0 (sd b G T h.2)))) fun S => by rw [evE] <;> rfl
              · rw [sub1_eq m] at h
                exact ptOf (sw_or (sd1 (sd a G T h.1)) (pw_or1 (sd1 (sd b G T h.2)))).pt fun S => by rw [evE] <;> rfl
            | cons e3 r =>
              simp only [mm, Bool.and_eq_true] at h
              refine sd_sub G.K (fun m => ?_) fun m => ?_
              · rw [sub1_ne m] at h
                exact peOf (se_or (sd0 (sd a G T h.1)) (sd0 (sd b G T h.2))) fun S => by rw [evE] <;> rfl
              · rw [sub1_eq m] at h
                exact ptOf (sw_or (sd1 (sd a G T h.1)) (pw_b (sd1 (sd b G T h.2)))).pt fun S => by rw [evE] <;> rfl
      | _ => simp [mm] at h
    | _ => simp [mm] at h
  | .ife c a b, X, f, W, md, e, G, T, h => by
    cases e with
    | IfExp ec ea eb p =>
      simp only [mm, Bool.and_eq_true, bne_iff_ne, ne_eq] at h
      obtain ⟨⟨⟨h1, h2⟩, h3⟩, h4⟩ := h
      exact sd_sub G.K (fun _ => peOf (se_ife (sd1 (sd c G T h2)) (sd0 (sd a G T h3)) (sd0 (sd b G T h4))) fun S => by rw [evE] <;> rfl) fun m => absurd m h1
    | _ => simp [mm] at h
  | .tup cs, X, f, W, md, e, G, T, h => by
    cases e with
    | Tuple es kk p =>
      simp only [mm, Bool.and_eq_true, beq_iff_eq, decide_eq_true_eq, Bool.not_eq_true'] at h
      exact sd_val G.K (peOf (se_tup ((sds cs G T h.2).pa h.1)) fun S => by rw [evE] <;> rfl) fun _ => rfl
    | _ => simp [mm] at h
  | .lst cs, X, f, W, md, e, G, T, h => by
    cases e with
    | List es p =>
      simp only [mm, Bool.and_eq_true, beq_iff_eq, decide_eq_true_eq, Bool.not_eq_true'] at h
      exact sd_val G.K (peOf (se_lst ((sds cs G T h.2).pa h.1)) fun S => by rw [evE] <;> rfl) fun _ => rfl
    | _ => simp [mm] at h
  | .ix a b, X, f, W, md, e, G, T, h => by
    cases e with
    | Subscript e1 e2 p =>
      simp only [mm, Bool.and_eq_true, beq_iff_eq, decide_eq_true_eq, Bool.not_eq_true'] at h
      obtain ⟨⟨h1, h2⟩, h3⟩ := h
      exact sd_val G.K (peOf (se_ix G.K (ix_of h1) (sd0 (sd a G T h2)) (sd0 (sd b G T h3))) fun S => by rw [evE] <;> rfl) fun _ => rfl
    | _ => simp [mm] at h
  | .fld a fl, X, f, W, md, e, G, T, h => by
    cases e with
    | Attribute e1 fl2 p =>
      simp only [mm, Bool.and_eq_true, beq_iff_eq, decide_eq_true_eq, Bool.not_eq_true'] at h
      obtain ⟨⟨h1, h2⟩, h3⟩ := h
      subst h1
      exact sd_val G.K (peOf (se_fld G.cls G.fns (fun c g q => G.pok.pr c fl g q) (G.room.mono (by omega)) G.gd (base_of h2) (sd0 (sd a G T h3))) fun S => by rw [evE] <;> rfl) fun _ => rfl
    | _ => simp [mm] at h
  | .bi b cs, X, f, W, md, e, G, T, h => by
    cases e with
    | Call fn es kws p =>
      cases fn with
      | Name x px =>
        cases es with
        | cons e es =>
          cases kws with
          | nil =>
            simp only [mm, Bool.and_eq_true, beq_iff_eq, decide_eq_true_eq, Bool.not_eq_true'] at h
            obtain ⟨⟨⟨⟨h1, h2⟩, h3⟩, h4⟩, h5⟩ := h
            subst h1
            exact sd_val G.K (peOf (se_bi (bi1_ok G.K G.cls G.fns G.pok.sp G.calm (G.room.mono (by omega)) G.gd b) (gl_of h2) (G.bn _ (List.contains_iff_mem.mp h3)) h4 ((sds cs G T h5).pa h4)) fun S => by rw [evE] <;> rfl) fun _ => rfl
          | _ => simp [mm] at h
        | _ => simp [mm] at h
      | _ => simp [mm] at h
    | _ => simp [mm] at h
  | .isi a ts, X, f, W, md, e, G, T, h => by
    cases ts with
    | nil => cases e <;> simp [mm] at h
    | cons t1 ts =>
      cases ts with
      | nil =>
        cases e with
        | Call fn es kws p =>
          cases fn with
          | Name x px =>
            cases es with
            | cons e es =>
              cases es with
              | cons ec es =>
                cases es with
                | nil =>
                  cases kws with
                  | nil =>
                    simp only [mm, Bool.and_eq_true, beq_iff_eq, decide_eq_true_eq, Bool.not_eq_true'] at h
                    obtain ⟨⟨⟨⟨⟨h1, h2⟩, h3⟩, h4⟩, h5⟩, h6⟩ := h
                    subst h1
                    obtain ⟨q1, q2⟩ := ty_pe G h5
                    exact sd_val G.K (peOf (se_isi1 G.K G.cls q2 (gl_of h2) (G.bn _ (List.contains_iff_mem.mp h3)) h4 (sd0 (sd a G T h6)) q1) fun S => by rw [evE] <;> rfl) fun _ => rfl
                  | _ => simp [mm] at h
                | _ => simp [mm] at h
              | _ => simp [mm] at h
            | _ => simp [mm] at h
          | _ => simp [mm] at h
        | _ => simp [mm] at h
      | cons t2 ts =>
        cases e with
        | Call fn es kws p =>
          cases fn with
          | Name x px =>
            cases es with
            | cons e es =>
              cases es with
              | cons ec es =>
                cases ec with
                | Tuple tes kk tp =>
                  cases es with
                  | nil =>
                    cases kws with
                    | nil =>
                      simp only [mm, Bool.and_eq_true, beq_iff_eq, decide_eq_true_eq, Bool.not_eq_true'] at h
                      obtain ⟨⟨⟨⟨⟨⟨h1, h2⟩, h3⟩, h4⟩, h0⟩, h5⟩, h6⟩ := h
                      subst h1
                      obtain ⟨q1, q2⟩ := tys_pe G h5
                      exact sd_val G.K (peOf (se_isiT G.K G.cls q2 ⟨by simp, by simp only [List.length_cons]; exact Nat.le_trans (show ts.length + 1 + 1 ≤ 22 by omega) (by decide)⟩ (gl_of h2) (G.bn _ (List.contains_iff_mem.mp h3)) h4 (sd0 (sd a G T h6)) q1) fun S => by rw [evE] <;> rfl) fun _ => rfl
                    | _ => simp [mm] at h
                  | _ => simp [mm] at h
                | _ => simp [mm] at h
              | _ => simp [mm] at h
            | _ => simp [mm] at h
          | _ => simp [mm] at h
        | _ => simp [mm] at h
  | .call g ks cs, X, f, W, md, e, G, T, h => by
    cases e with
    | Call fn es kws p =>
      cases fn with
      | Name x px =>
        simp only [mm, Bool.and_eq_true, beq_iff_eq, decide_eq_true_eq, Bool.not_eq_true'] at h
        obtain ⟨⟨⟨⟨⟨⟨h1, h2⟩, h3⟩, h4⟩, h5⟩, h6⟩, h7⟩ := h
        subst h2
        have q := sds (f := f) (W := W) cs G T h7
        have gg := G.gf x g h1
        exact sd_val G.K (peOf (se_call (k := k) (shl := fun n => I.P.shf g n (kwNames kws)) (fun sh e => G.fns g _ _ sh e) (kwN_len h6) (G.room.mono (by omega)) G.gd T (gl_of h3) gg.1 gg.2 (nm_of h4).1 (fun S ds S1 z => (evEs_len z).trans (q.len.trans (by rw [List.length_append, List.length_map]))) (q.parg h5 h6)) fun S => by rw [evE] <;> rfl) fun _ => rfl
      | _ => simp [mm] at h
    | _ => simp [mm] at h
  | .make g ks cs, X, f, W, md, e, G, T, h => by
    cases e with
    | Call fn es kws p =>
      cases fn with
      | Name x px =>
        simp only [mm, Bool.and_eq_true, beq_iff_eq, decide_eq_true_eq, Bool.not_eq_true'] at h
        obtain ⟨⟨⟨⟨⟨⟨h1, h2⟩, h3⟩, h4⟩, h5⟩, h6⟩, h7⟩ := h
        subst h2
        have q := sds (f := f) (W := W) cs G T h7
        have gg := G.gc x g h1
        have cc : ∀ fi, (∀ sh, I.P.shc g es.length (kwNames kws) = some sh → Mk X.K (F.ca g) fi ∧ CalG X.prog X.w X.K X.mg X.base k fi (es.length + 1) (kwNames kws) (spI F g (ci g) sh)) → Sd X F f W md (.Call (.Name x px) es kws p) (evE I.P cf ci (.make g (kwNames kws) cs)) := fun fi M =>
          sd_val G.K (peOf (se_make (k := k) (shl := fun n => I.P.shc g n (kwNames kws)) M (kwN_len h6) (G.room.mono (by omega)) G.gd T (gl_of h3) gg.1 gg.2 (nm_of h4).1 (fun S ds S1 z => (evEs_len z).trans (q.len.trans (by rw [List.length_append, List.length_map]))) (q.parg h5 h6)) fun S => by rw [evE] <;> rfl) fun _ => rfl
        cases e : I.P.shc g es.length (kwNames kws) with
        | none => exact cc 0 fun sh e2 => by rw [e] at e2; cases e2
        | some sh =>
          obtain ⟨fi, m1, m2⟩ := G.cis g _ _ sh e
          exact cc fi fun sh2 e2 => by rw [e] at e2; cases e2; exact ⟨m1, m2⟩
      | _ => simp [mm] at h
    | _ => simp [mm] at h
  | .meth a m ks cs, X, f, W, md, e, G, T, h => by
    cases e with
    | Call fn es kws p =>
      cases fn with
      | Attribute o m2 apos =>
        simp only [mm, Bool.and_eq_true, beq_iff_eq, decide_eq_true_eq, Bool.not_eq_true'] at h
        obtain ⟨⟨⟨⟨⟨⟨⟨⟨h1, h2⟩, h3⟩, h4⟩, h5⟩, h6⟩, h7⟩, h8⟩, h9⟩ := h
        subst h1
        subst h2
        have q := sds (f := f) (W := W) cs G T h9
        refine sd_val G.K (peOf (se_meth (k := k) (P := I.P) (cf := cf) (sd0 (sd a G T h8)) (fun c g e => ?_) (kwN_len h7) (G.room.mono (by omega)) G.gd T (fun S ds S1 z => (evEs_len z).trans (q.len.trans (by rw [List.length_append, List.length_map]))) (q.parg h6 h7) (meth_eval h3 (by rw [h4]; exact beq_self_eq_true _) h6 h7 h5)) fun S => by rw [evE] <;> rfl) fun _ => rfl
        obtain ⟨x, e1, e2⟩ := meth_cl e
        exact ⟨(G.cls c x e1).cls, (G.cls c x e1).meth m g e2, fun sh e => G.fns g _ _ sh e⟩
      | _ => simp [mm] at h
    | _ => simp [mm] at h
  | .smeth c m g ks cs, X, f, W, md, e, G, T, h => by
    cases e with
    | Call fn es kws p =>
      cases fn with
      | Attribute o m2 apos =>
        cases o with
        | Name x px =>
          simp only [mm, Bool.and_eq_true, beq_iff_eq, decide_eq_true_eq, Bool.not_eq_true'] at h
          obtain ⟨⟨⟨⟨⟨⟨⟨⟨⟨⟨⟨h1, h2⟩, h3⟩, h4⟩, h5⟩, h6⟩, h7⟩, h8⟩, h9⟩, h10⟩, h11⟩, h12⟩ := h
          subst h3
          subst h4
          have q := sds (f := f) (W := W) cs G T h12
          have gg := G.gc x c h1
          obtain ⟨cx, e1, e2⟩ := stat_cl h2
          exact sd_val G.K (peOf (se_smeth (k := k) (g := cf g) (shl := fun n => I.P.shf g n (kwNames kws)) ((G.cls c cx e1).stat m g e2) (fun sh e => G.fns g _ _ sh e) (kwN_len h11) (G.room.mono (by omega)) G.gd T (gl_of h5) gg.1 (nm_of h6).1 (fun S ds S1 z => (evEs_len z).trans (q.len.trans (by rw [List.length_append, List.length_map]))) (q.parg h10 h11) (meth_eval (by rfl) (by rw [h8]; exact beq_self_eq_true _) h10 h11 h9)) fun S => by rw [evE] <;> rfl) fun _ => rfl
        | _ => simp [mm] at h
      | _ => simp [mm] at h
    | _ => simp [mm] at h
  | .comp ce own tg it cc, X, f, W, md, e, G, T, h => by
    cases e with
    | ListComp elt gens scope p =>
      cases gens with
      | nil => simp [mm] at h
      | cons gn gens =>
        cases gens with
        | cons _ _ => simp [mm] at h
        | nil =>
          obtain ⟨tgE, iter, ifs, as⟩ := gn
          by_cases h0 : as = 0
          case neg => simp [mm, h0] at h
          case pos =>
            subst h0
            have core : blkC I.N X.env.scope scope (ownNs I.N own) = true → mT I.N (relS scope X.env.scope) true tg tgE = true → (tgSl tg).all (fun i => own.contains i) = true → setFB iter = true → mm I X.env.scope (itMd tgE) it iter = true → mm I (relS scope X.env.scope) 0 ce elt = true →
                (∀ (s : Shared) (H : Hp) (C : Addr) (cl : List (Str × Addr)) (fp : List Addr), PTs (X.blk s H scope (compEnvC scope cl C X.env) fp) ifs (fun σ H Q => ∃ f', RB F f' W0 (evE I.P cf ci cc) σ H Q)) → Sd X F f W md (.ListComp elt [⟨tgE, iter, ifs, 0⟩] scope p) (evE I.P cf ci (.comp ce own tg it cc)) := by
              intro h1 h3 h4 h5 h6 h7 ht
              refine sd_val G.K (peOf (se_comp (own := ownNs I.N own) (tg := tg) (mc := evE I.P cf ci cc) (me := evE I.P cf ci ce) (mi := evE I.P cf ci it) G.K G.calm G.nod (sdI (sd it G T h6)) (by rw [G.N]; exact blkOk_by h1) (fun s H C cl fp => ?_) ht (fun s H C cl fp => ?_) (fun x => setF_of h5) ?_) fun S => by rw [evE, ownNs_map]) fun _ => rfl
              · refine pg_of (X := X.blk s H scope (compEnvC scope cl C X.env) fp) (lc := true) G.nod G.calm (fun z => by cases z) tg tgE ?_
                show mT X.N _ true tg tgE = true
                rw [G.N]
                exact h3
              · exact ⟨fun pins s σ H Q Iv ⟨f', hq⟩ => (sd0 (sd (f := f') (W := W0) ce (G.blk _ _ _ _ _) takes_blk h7)).run pins s σ H Q Iv hq⟩
              · intro i hi
                rw [ownNs_map]
                rw [List.all_eq_true] at h4
                exact List.contains_iff_mem.mp (h4 i hi)
            cases ifs with
            | nil =>
              simp only [mm, Bool.and_eq_true] at h
              obtain ⟨⟨⟨⟨⟨⟨⟨h1, h2⟩, h3⟩, h4⟩, h5⟩, h6⟩, h7⟩, h8⟩ := h
              refine core h1 h3 h4 h5 h6 h7 fun s H C cl fp => ⟨fun pins s σ H Q Iv hq => pts_nil.run pins s σ H Q Iv ?_⟩
              obtain ⟨f', w, S, R, hq⟩ := hq
              have ec : cc = .cst (.bl true) := by
                unfold isYes at h8
                split at h8
                · rfl
                · cases h8
              subst ec
              unfold tst at hq
              rw [evE] at hq
              exact hq true w H R (Le.refl _) rfl
            | cons e1 r =>
              cases r with
              | cons _ _ => simp [mm] at h
              | nil =>
                simp only [mm, Bool.and_eq_true] at h
                obtain ⟨⟨⟨⟨⟨⟨⟨h1, h2⟩, h3⟩, h4⟩, h5⟩, h6⟩, h7⟩, h8⟩ := h
                exact core h1 h3 h4 h5 h6 h7 fun s H C cl fp => ⟨fun pins s σ H Q Iv ⟨f', hq⟩ => (pts_one (sd1 (sd (f := f') (W := W0) cc (G.blk _ _ _ _ _) takes_blk h8))).run pins s σ H Q Iv hq⟩
    | _ => simp [mm] at h
  | .rng1 a, X, f, W, md, e, G, T, h => by
    cases e with
    | Call fn es kws p =>
      cases fn with
      | Name x px =>
        cases es with
        | cons e es =>
          cases es with
          | nil =>
            cases kws with
            | nil =>
              simp only [mm, Bool.and_eq_true, beq_iff_eq, decide_eq_true_eq, Bool.not_eq_true'] at h
              obtain ⟨⟨⟨⟨⟨h1, h2⟩, h3⟩, h4⟩, h5⟩, h6⟩ := h
              subst h1
              subst h2
              exact fun tg => piOf (se_rng1 (gl_of h3) (G.bn _ (List.contains_iff_mem.mp h4)) h5 (sd0 (sd a G T h6))) fun S => by rw [evE] <;> rfl
            | _ => simp [mm] at h
          | _ => simp [mm] at h
        | _ => simp [mm] at h
      | _ => simp [mm] at h
    | _ => simp [mm] at h
  | .rng2 a b, X, f, W, md, e, G, T, h => by
    cases e with
    | Call fn es kws p =>
      cases fn with
      | Name x px =>
        cases es with
        | cons e es =>
          cases es with
          | cons e2 es =>
            cases es with
            | nil =>
              cases kws with
              | nil =>
                simp only [mm, Bool.and_eq_true, beq_iff_eq, decide_eq_true_eq, Bool.not_eq_true'] at h
                obtain ⟨⟨⟨⟨⟨⟨h1, h2⟩, h3⟩, h4⟩, h5⟩, h6⟩, h7⟩ := h
                subst h1
                subst h2
                exact fun tg => piOf (se_rng2 (gl_of h3) (G.bn _ (List.contains_iff_mem.mp h4)) h5 (sd0 (sd a G T h6)) (sd0 (sd b G T h7))) fun S => by rw [evE] <;> rfl
              | _ => simp [mm] at h
            | _ => simp [mm] at h
          | _ => simp [mm] at h
        | _ => simp [mm] at h
      | _ => simp [mm] at h
    | _ => simp [mm] at h
  | .fst cs, X, f, W, md, e, G, T, h => by
    cases e with
    | JoinedStr es p =>
      simp only [mm, Bool.and_eq_true, decide_eq_true_eq] at h
      have q := sds (f := f) (W := W) cs G T h.2
      cases es with
      | nil => exact absurd h.1 (by simp)
      | cons e1 es =>
        cases cs with
        | nil => exact q.elim
        | cons c cs =>
          cases es with
          | nil =>
            cases cs with
            | nil => exact sd_val G.K (se_fst1 q.1) fun _ => rfl
            | cons _ _ => exact q.2.elim
          | cons e2 r => exact sd_val G.K (se_fst q.pj) fun _ => rfl
    | _ => simp [mm] at h
  | .fms a, X, f, W, md, e, G, T, h => by
    cases e with
    | FormattedValue e1 cv sp p =>
      cases sp with
      | none =>
        simp only [mm, Bool.and_eq_true, beq_iff_eq, decide_eq_true_eq, Bool.not_eq_true'] at h
        obtain ⟨h1, h2⟩ := h
        subst h1
        exact sd_val G.K (peOf (se_fms (sd0 (sd a G T h2))) fun S => by rw [evE] <;> rfl) fun _ => rfl
      | _ => simp [mm] at h
    | _ => simp [mm] at h
  | .fmr a, X, f, W, md, e, G, T, h => by
    cases e with
    | FormattedValue e1 cv sp p =>
      cases sp with
      | none =>
        simp only [mm, Bool.and_eq_true, beq_iff_eq, decide_eq_true_eq, Bool.not_eq_true'] at h
        obtain ⟨h1, h2⟩ := h
        subst h1
        exact sd_val G.K (peOf (se_fmr (sd0 (sd a G T h2))) fun S => by rw [evE] <;> rfl) fun _ => rfl
      | _ => simp [mm] at h
    | _ => simp [mm] at h
  | .split a b, X, f, W, md, e, G, T, h => by
    cases e with
    | Call fn es kws p =>
      cases fn with
      | Attribute o m2 apos =>
        cases es with
        | cons e es =>
          cases es with
          | nil =>
            cases kws with
            | nil =>
              simp only [mm, Bool.and_eq_true, beq_iff_eq, decide_eq_true_eq, Bool.not_eq_true'] at h
              obtain ⟨⟨⟨⟨⟨h1, h2⟩, h3⟩, h4⟩, h5⟩, h6⟩ := h
              subst h1
              exact sd_val G.K (peOf (se_split (base_of h2) (by rw [h3]; exact beq_self_eq_true _) h4 (sd0 (sd a G T h5)) (sd0 (sd b G T h6))) fun S => by rw [evE] <;> rfl) fun _ => rfl
            | _ => simp [mm] at h
          | _ => simp [mm] at h
        | _ => simp [mm] at h
      | _ => simp [mm] at h
    | _ => simp [mm] at h
  | .lenB i, X, f, W, md, e, G, T, h => by
    cases e with
    | Call fn es kws p =>
      cases fn with
      | Name x px =>
        cases es with
        | cons e es =>
          cases e with
          | Name y py =>
            cases es with
            | nil =>
              cases kws with
              | nil =>
                simp only [mm, Bool.and_eq_true, beq_iff_eq, decide_eq_true_eq, Bool.not_eq_true'] at h
                obtain ⟨⟨⟨h1, h2⟩, h3⟩, h4⟩ := h
                subst h1
                obtain ⟨q1, q2, q3, q4⟩ := var_of G h4
                exact sd_val G.K (peOf (se_lenB q1 q2 q3 q4 (gl_of h2) (G.bn _ (List.contains_iff_mem.mp h3))) fun S => by rw [evE] <;> rfl) fun _ => rfl
              | _ => simp [mm] at h
            | _ => simp [mm] at h
          | _ => simp [mm] at h
        | _ => simp [mm] at h
      | _ => simp [mm] at h
    | _ => simp [mm] at h
  | .ixB i b, X, f, W, md, e, G, T, h => by
    cases e with
    | Subscript e1 e2 p =>
      cases e1 with
      | Name x px =>
        simp only [mm, Bool.and_eq_true, beq_iff_eq, decide_eq_true_eq, Bool.not_eq_true'] at h
        obtain ⟨⟨h1, h2⟩, h3⟩ := h
        obtain ⟨q1, q2, q3, q4⟩ := var_of G h1
        exact sd_val G.K (peOf (se_ixB q1 q2 q3 q4 (ix_of h2) (sd0 (sd b G T h3))) fun S => by rw [evE] <;> rfl) fun _ => rfl
      | _ => simp [mm] at h
    | _ => simp [mm] at h
  | .slcL a b, X, f, W, md, e, G, T, h => by
    cases e with
    | Subscript e1 es p =>
      cases es with
      | Slice lo hi st p2 =>
        cases lo with
        | some e2 =>
          cases hi with
          | none =>
            cases st with
            | none =>
              simp only [mm, Bool.and_eq_true, beq_iff_eq, decide_eq_true_eq, Bool.not_eq_true'] at h
              exact sd_val G.K (peOf (se_slcL G.K (sd0 (sd a G T h.1)) (sd0 (sd b G T h.2))) fun S => by rw [evE] <;> rfl) fun _ => rfl
            | _ => simp [mm] at h
          | _ => simp [mm] at h
        | _ => simp [mm] at h
      | _ => simp [mm] at h
    | _ => simp [mm] at h
  | .slcH a b, X, f, W, md, e, G, T, h => by
    cases e with
    | Subscript e1 es p =>
      cases es with
      | Slice lo hi st p2 =>
        cases lo with
        | none =>
          cases hi with
          | some e2 =>
            cases st with
            | none =>
              simp only [mm, Bool.and_eq_true, beq_iff_eq, decide_eq_true_eq, Bool.not_eq_true'] at h
              exact sd_val G.K (peOf (se_slcH G.K (sd0 (sd a G T h.1)) (sd0 (sd b G T h.2))) fun S => by rw [evE] <;> rfl) fun _ => rfl
            | _ => simp [mm] at h
          | _ => simp [mm] at h
        | _ => simp [mm] at h
      | _ => simp [mm] at h
    | _ => simp [mm] at h
  | .rev a, X, f, W, md, e, G, T, h => by
    cases e with
    | Subscript e1 es p =>
      cases es with
      | Slice lo hi st p2 =>
        cases lo with
        | none =>
          cases hi with
          | none =>
            cases st with
            | some se =>
              cases se with
              | UnaryOp op u p3 =>
                cases op with
                | USub =>
                  cases u with
                  | Constant cv kk p4 =>
                    cases cv with
                    | int i =>
                      simp only [mm, Bool.and_eq_true, beq_iff_eq, decide_eq_true_eq, Bool.not_eq_true'] at h
                      obtain ⟨h1, h2⟩ := h
                      subst h1
                      exact sd_val G.K (peOf (se_rev G.K (sd0 (sd a G T h2))) fun S => by rw [evE] <;> rfl) fun _ => rfl
                    | _ => simp [mm] at h
                  | _ => simp [mm] at h
                | _ => simp [mm] at h
              | _ => simp [mm] at h
            | _ => simp [mm] at h
          | _ => simp [mm] at h
        | _ => simp [mm] at h
      | _ => simp [mm] at h
    | _ => simp [mm] at h
  | .slcB a b c, X, f, W, md, e, G, T, h => by
    cases e with
    | Subscript e1 es p =>
      cases es with
      | Slice lo hi st p2 =>
        cases lo with
        | some e2 =>
          cases hi with
          | some e3 =>
            cases st with
            | none =>
              simp only [mm, Bool.and_eq_true, beq_iff_eq, decide_eq_true_eq, Bool.not_eq_true'] at h
              obtain ⟨⟨h1, h2⟩, h3⟩ := h
              exact sd_val G.K (peOf (se_slcB G.K (sd0 (sd a G T h1)) (sd0 (sd b G T h2)) (sd0 (sd c G T h3))) fun S => by rw [evE] <;> rfl) fun _ => rfl
            | _ => simp [mm] at h
          | _ => simp [mm] at h
        | _ => simp [mm] at h
      | _ => simp [mm] at h
    | _ => simp [mm] at h
  | .enm a, X, f, W, md, e, G, T, h => by
    cases e with
    | Call fn es kws p =>
      cases fn with
      | Name x px =>
        cases es with
        | cons e es =>
          cases es with
          | nil =>
            cases kws with
            | nil =>
              simp only [mm, Bool.and_eq_true, beq_iff_eq, decide_eq_true_eq, Bool.not_eq_true'] at h
              obtain ⟨⟨⟨⟨⟨h1, h2⟩, h3⟩, h4⟩, h5⟩, h6⟩ := h
              subst h1
              subst h2
              exact fun elts kk tpos => piOf (se_enm G.K (gl_of h3) (G.bn _ (List.contains_iff_mem.mp h4)) h5 (sd0 (sd a G T h6))) fun S => by rw [evE] <;> rfl
            | _ => simp [mm] at h
          | _ => simp [mm] at h
        | _ => simp [mm] at h
      | _ => simp [mm] at h
    | _ => simp [mm] at h
  | .lrg2 a b, X, f, W, md, e, G, T, h => by
    cases e with
    | Call fn es kws p =>
      cases fn with
      | Name x px =>
        cases es with
        | cons e es =>
          cases e with
          | Call fn2 es2 kws2 p2 =>
            cases fn2 with
            | Name y py =>
              cases es2 with
              | cons e1 es2 =>
                cases es2 with
                | cons e2 es2 =>
                  cases es2 with
                  | nil =>
                    cases kws2 with
                    | nil =>
                      cases es with
                      | nil =>
                        cases kws with
                        | nil =>
                          simp only [mm, Bool.and_eq_true, beq_iff_eq, decide_eq_true_eq, Bool.not_eq_true'] at h
                          obtain ⟨⟨⟨⟨⟨⟨⟨⟨h1, h2⟩, h3⟩, h4⟩, h5⟩, h6⟩, h7⟩, h8⟩, h9⟩ := h
                          subst h1
                          subst h2
                          exact sd_val G.K (peOf (se_lrg2 G.calm (gl_of h3) (G.bn _ (List.contains_iff_mem.mp h5)) (gl_of h4) (G.bn _ (List.contains_iff_mem.mp h6)) h7 (sd0 (sd a G T h8)) (sd0 (sd b G T h9))) fun S => by rw [evE] <;> rfl) fun _ => rfl
                        | _ => simp [mm] at h
                      | _ => simp [mm] at h
                    | _ => simp [mm] at h
                  | _ => simp [mm] at h
                | _ => simp [mm] at h
              | _ => simp [mm] at h
            | _ => simp [mm] at h
          | _ => simp [mm] at h
        | _ => simp [mm] at h
      | _ => simp [mm] at h
    | _ => simp [mm] at h
  | .join a b, X, f, W, md, e, G, T, h => by
    cases e with
    | Call fn es kws p =>
      cases fn with
      | Attribute o m2 apos =>
        cases es with
        | cons e es =>
          cases es with
          | nil =>
            cases kws with
            | nil =>
              simp only [mm, Bool.and_eq_true, beq_iff_eq, decide_eq_true_eq, Bool.not_eq_true'] at h
              obtain ⟨⟨⟨⟨⟨h1, h2⟩, h3⟩, h4⟩, h5⟩, h6⟩ := h
              subst h1
              exact sd_val G.K (peOf (se_join (base_of h2) (by rw [h3]; exact beq_self_eq_true _) h4 (sd0 (sd a G T h5)) (sd0 (sd b G T h6))) fun S => by rw [evE] <;> rfl) fun _ => rfl
            | _ => simp [mm] at h
          | _ => simp [mm] at h
        | _ => simp [mm] at h
      | _ => simp [mm] at h
    | _ => simp [mm] at h
  | .mk0 c, X, f, W, md, e, G, T, h => by
    cases e with
    | Call fn es kws p =>
      cases fn with
      | Name x px =>
        cases es with
        | nil =>
          cases kws with
          | nil =>
            simp only [mm, Bool.and_eq_true, beq_iff_eq, decide_eq_true_eq, Bool.not_eq_true'] at h
            obtain ⟨⟨⟨h1, h2⟩, h3⟩, h4⟩ := h
            unfold bareB at h4
            split at h4
            · rename_i cx ec
              have tc := G.cls c cx ec
              exact sd_val G.K (peOf (se_mk0 (tc.bare h4) tc.tm (gl_of h2) (G.gc x c h1).1 (nm_of h3).1) fun S => by rw [evE, ec]; simp only [h4, if_true]) fun _ => rfl
            · cases h4
          | _ => simp [mm] at h
        | _ => simp [mm] at h
      | _ => simp [mm] at h
    | _ => simp [mm] at h
  | .bor a, X, f, W, md, e, G, T, h => by
    rw [mm, Bool.and_eq_true, Bool.and_eq_true, decide_eq_true_eq] at h
    obtain ⟨⟨h1, _⟩, h2⟩ := h
    refine sd_sub G.K (fun m => ?_) fun m => ?_
    · have m0 : md = 0 := by omega
      subst m0
      exact peOf (se_bor fun f => sd0 (sd a (f := f) G T h2)) fun S => by rw [evE]
    · subst m
      exact ptOf (st_bor fun f => sd1 (sd a (f := f) G T h2)) fun S => by rw [evE]
  | .star a, X, f, W, md, e, G, T, h => by
    rw [mm, Bool.and_eq_true, Bool.and_eq_true, decide_eq_true_eq] at h
    obtain ⟨⟨h1, h3⟩, h2⟩ := h
    subst h1
    exact peOf (se_star (sd0 (sd a G T h2))) fun S => by rw [evE]
  | .makeS c cs, X, f, W, md, e, G, T, h => by
    cases e with
    | Call fn es kws p =>
      cases fn with
      | Name x px =>
        cases kws with
        | nil =>
          simp only [mm, Bool.and_eq_true, beq_iff_eq, decide_eq_true_eq, Bool.not_eq_true'] at h
          obtain ⟨⟨⟨⟨⟨h1, h2⟩, h3⟩, h4⟩, h5⟩, h6⟩ := h
          have q := sds (f := f) (W := W) cs G T h6
          have gg := G.gc x c h1
          exact sd_val G.K (peOf (se_makeS (k := k) (shl := fun n => I.P.shc c n []) (fun n sh e => G.cis c n [] sh e) (G.room.mono (by omega)) G.gd T (gl_of h2) gg.1 gg.2 (nm_of h3).1 (q.parS G.K h4 h5)) fun S => by
            rw [evE]
            unfold splE
            rw [Rs.bind_assoc]
            congr 1
            funext ds S1
            cases splD (cs.map isSt) ds <;> rfl) fun _ => rfl
        | _ => simp [mm] at h
      | _ => simp [mm] at h
    | _ => simp [mm] at h
  | .icall a ks cs, X, f, W, md, e, G, T, h => by
    cases e with
    | Call fn es kws p =>
      simp only [mm, Bool.and_eq_true, beq_iff_eq, decide_eq_true_eq, Bool.not_eq_true'] at h
      obtain ⟨⟨⟨⟨⟨h2, h6⟩, h7⟩, h10⟩, h8⟩, h9⟩ := h
      subst h2
      have q := sds (f := f) (W := W) cs G T h9
      refine sd_val G.K (peOf (se_icall (k := k) (P := I.P) (cf := cf) (sd0 (sd a G T h8)) (fun c g e => ?_) (kwN_len h7) (G.room.mono (by omega)) G.gd T (fun S ds S1 z => (evEs_len z).trans (q.len.trans (by rw [List.length_append, List.length_map]))) (q.pargO h6 h7) (callee_eval h10)) fun S => by rw [evE] <;> rfl) fun _ => rfl
      obtain ⟨x, e1, e2⟩ := meth_cl e
      have mt := (G.cls c x e1).meth _ g e2
      exact ⟨⟨mt.at_, mt.fn, (G.cls c x e1).cal g e2⟩, fun sh e => G.fns g _ _ sh e⟩
    | _ => simp [mm] at h
theorem sds {I : Nf} {F : Fx} {k : Nat} {cf ci : Nat → List Dt → List Dt → Rc} : ∀ (cs : List Tm) {X : Cx} {f : Fm} {W : WX} {es : List Expr}, Good X F I k cf ci → Takes X W → mms I X.env.scope cs es = true → PEs X F f W I.P cf ci cs es
  | [], X, f, W, es, G, T, h => by
    cases es with
    | nil => trivial
    | cons _ _ => simp [mms] at h
  | c :: cs, X, f, W, es, G, T, h => by
    cases es with
    | nil => simp [mms] at h
    | cons e es =>
      simp only [mms, Bool.and_eq_true] at h
      exact ⟨sd0 (sd c G T h.1), sds cs G T h.2⟩
end
end PyI
set_option maxHeartbeats 4000000
namespace PyI
open PySem PySem.Spec PyProof.Rows L2
/-- the store of a list comprehension is not swapped -/
def swFB (sc : Scope) : Expr → Bool
  | .Name y _ => !loB sc y
  | _ => true
theorem swF_of {elt t : Expr} {gs : List Comprehension} {scope : Scope} {pos : Pos} {l : Nat} {env : Env} (h : swFB env.scope t = true) : swapsWithSole [t] (.ListComp elt gs scope pos) l env = pure false := by
  show swapsWith (.ListComp elt gs scope pos) (some t) l env = pure false
  unfold swapsWith
  cases t with
  | Name y py =>
    have h1 : loB env.scope y = false := by simpa [swFB] using h
    have h2 : (env.kindOf y == some NameKind.local) = false := by
      rw [beq_eq_false_iff_ne]
      intro e
      have e : env.scope.names.lookup y = some .local := e
      unfold loB at h1
      rw [e] at h1
      cases h1
    simp [h2]
  | _ => rfl
/-- the value is no comprehension, or its store is not swapped -/
def swOk (sc : Scope) (t v : Expr) : Bool := match v with
  | .ListComp _ _ _ _ => swFB sc t
  | v => !compB v
theorem swOk_of {t v : Expr} {l : Nat} {env : Env} (h : swOk env.scope t v = true) : swapsWithSole [t] v l env = pure false := by
  unfold swOk at h
  split at h
  · exact swF_of h
  · exact sws_of (by simpa using h)
/-- name = [comp] on one line, the name local: the store is swapped -/
def swYes (sc : Scope) (x : Str) (px : Pos) : Expr → Bool
  | .ListComp _ _ scope p => loB sc x && (px.line == p.line) && !(scope.names.any fun (n, k) => n == x && (k == .local || k == .cell))
  | _ => false
def isComp : Expr → Bool
  | .ListComp _ _ _ _ => true
  | _ => false
def swTg (N : List Str) (sc : Scope) (v : Expr) : Tg → Expr → Bool
  | .nm i, .Name x px => N[i]? == some x && swYes sc x px v
  | _, _ => false
def call1 : Tm → Bool
  | .call _ _ _ => true
  | .meth _ _ _ _ => true
  | .icall _ _ _ => true
  | _ => false
def fresh1 : Tm → Bool
  | .lst _ => true
  | .bi .list [_] => true
  | .comp _ _ _ _ _ => true
  | _ => false
structure DAsg where
  t : Expr
  v : Expr
  pos : Pos
def DAsg.st (d : DAsg) : Stmt := .Assign [d.t] d.v d.pos
def DAsg.of : Stmt → Option DAsg
  | .Assign [t] v pos => some ⟨t, v, pos⟩
  | _ => none
theorem DAsg.eq {st : Stmt} {d : DAsg} (h : DAsg.of st = some d) : st = d.st := by
  unfold DAsg.of at h
  split at h
  · cases h
    rfl
  · cases h
structure DAsN where
  x : Str
  px : Pos
  v : Expr
  pos : Pos
def DAsN.st (d : DAsN) : Stmt := .Assign [.Name d.x d.px] d.v d.pos
def DAsN.of : Stmt → Option DAsN
  | .Assign [.Name x px] v pos => some ⟨x, px, v, pos⟩
  | _ => none
theorem DAsN.eq {st : Stmt} {d : DAsN} (h : DAsN.of st = some d) : st = d.st := by
  unfold DAsN.of at h
  split at h
  · cases h
    rfl
  · cases h
structure DPar where
  x : Str
  px : Pos
  y : Str
  py : Pos
  kt : Nat
  pt : Pos
  ea : Expr
  eb : Expr
  kv : Nat
  pv : Pos
  pos : Pos
def DPar.st (d : DPar) : Stmt := .Assign [.Tuple [.Name d.x d.px, .Name d.y d.py] d.kt d.pt] (.Tuple [d.ea, d.eb] d.kv d.pv) d.pos
def DPar.of : Stmt → Option DPar
  | .Assign [.Tuple [.Name x px, .Name y py] kt pt] (.Tuple [ea, eb] kv pv) pos => some ⟨x, px, y, py, kt, pt, ea, eb, kv, pv, pos⟩
  | _ => none
theorem DPar.eq {st : Stmt} {d : DPar} (h : DPar.of st = some d) : st = d.st := by
  unfold DPar.of at h
  split at h
  · cases h
    rfl
  · cases h
structure DPa3 where
  x : Str
  px : Pos
  y : Str
  py : Pos
  z : Str
  pz : Pos
  kt : Nat
  pt : Pos
  ea : Expr
  eb : Expr
  ec : Expr
  kv : Nat
  pv : Pos
  pos : Pos
def DPa3.st (d : DPa3) : Stmt := .Assign [.Tuple [.Name d.x d.px, .Name d.y d.py, .Name d.z d.pz] d.kt d.pt] (.Tuple [d.ea, d.eb, d.ec] d.kv d.pv) d.pos
def DPa3.of : Stmt → Option DPa3
  | .Assign [.Tuple [.Name x px, .Name y py, .Name z pz] kt pt] (.Tuple [ea, eb, ec] kv pv) pos => some ⟨x, px, y, py, z, pz, kt, pt, ea, eb, ec, kv, pv, pos⟩
  | _ => none
theorem DPa3.eq {st : Stmt} {d : DPa3} (h : DPa3.of st = some d) : st = d.st := by
  unfold DPa3.of at h
  split at h
  · cases h
    rfl
  · cases h
structure DPut where
  eo : Expr
  ei : Expr
  ap : Pos
  v : Expr
  pos : Pos
def DPut.st (d : DPut) : Stmt := .Assign [.Subscript d.eo d.ei d.ap] d.v d.pos
def DPut.of : Stmt → Option DPut
  | .Assign [.Subscript eo ei ap] v pos => some ⟨eo, ei, ap, v, pos⟩
  | _ => none
theorem DPut.eq {st : Stmt} {d : DPut} (h : DPut.of st = some d) : st = d.st := by
  unfold DPut.of at h
  split at h
  · cases h
    rfl
  · cases h
structure DPuB where
  x : Str
  px : Pos
  ei : Expr
  ap : Pos
  v : Expr
  pos : Pos
def DPuB.st (d : DPuB) : Stmt := .Assign [.Subscript (.Name d.x d.px) d.ei d.ap] d.v d.pos
def DPuB.of : Stmt → Option DPuB
  | .Assign [.Subscript (.Name x px) ei ap] v pos => some ⟨x, px, ei, ap, v, pos⟩
  | _ => none
theorem DPuB.eq {st : Stmt} {d : DPuB} (h : DPuB.of st = some d) : st = d.st := by
  unfold DPuB.of at h
  split at h
  · cases h
    rfl
  · cases h
structure DFld where
  x : Str
  px : Pos
  fl : Str
  ap : Pos
  v : Expr
  pos : Pos
def DFld.st (d : DFld) : Stmt := .Assign [.Attribute (.Name d.x d.px) d.fl d.ap] d.v d.pos
def DFld.of : Stmt → Option DFld
  | .Assign [.Attribute (.Name x px) fl ap] v pos => some ⟨x, px, fl, ap, v, pos⟩
  | _ => none
theorem DFld.eq {st : Stmt} {d : DFld} (h : DFld.of st = some d) : st = d.st := by
  unfold DFld.of at h
  split at h
  · cases h
    rfl
  · cases h
structure DTsb where
  eo : Expr
  ei : Expr
  ap : Pos
  x : Str
  px : Pos
  kt : Nat
  pt : Pos
  v : Expr
  pos : Pos
def DTsb.st (d : DTsb) : Stmt := .Assign [.Tuple [.Subscript d.eo d.ei d.ap, .Name d.x d.px] d.kt d.pt] d.v d.pos
def DTsb.of : Stmt → Option DTsb
  | .Assign [.Tuple [.Subscript eo ei ap, .Name x px] kt pt] v pos => some ⟨eo, ei, ap, x, px, kt, pt, v, pos⟩
  | _ => none
theorem DTsb.eq {st : Stmt} {d : DTsb} (h : DTsb.of st = some d) : st = d.st := by
  unfold DTsb.of at h
  split at h
  · cases h
    rfl
  · cases h
structure DIff where
  ec : Expr
  sa : List Stmt
  sb : List Stmt
  pos : Pos
def DIff.st (d : DIff) : Stmt := .If d.ec d.sa d.sb d.pos
def DIff.of : Stmt → Option DIff
  | .If ec sa sb pos => some ⟨ec, sa, sb, pos⟩
  | _ => none
theorem DIff.eq {st : Stmt} {d : DIff} (h : DIff.of st = some d) : st = d.st := by
  unfold DIff.of at h
  split at h
  · cases h
    rfl
  · cases h
structure DFor where
  te : Expr
  ie : Expr
  be : List Stmt
  pos : Pos
def DFor.st (d : DFor) : Stmt := .For d.te d.ie d.be [] d.pos
def DFor.of : Stmt → Option DFor
  | .For te ie be [] pos => some ⟨te, ie, be, pos⟩
  | _ => none
theorem DFor.eq {st : Stmt} {d : DFor} (h : DFor.of st = some d) : st = d.st := by
  unfold DFor.of at h
  split at h
  · cases h
    rfl
  · cases h
structure DWhl where
  ec : Expr
  be : List Stmt
  pos : Pos
def DWhl.st (d : DWhl) : Stmt := .While d.ec d.be [] d.pos
def DWhl.of : Stmt → Option DWhl
  | .While ec be [] pos => some ⟨ec, be, pos⟩
  | _ => none
theorem DWhl.eq {st : Stmt} {d : DWhl} (h : DWhl.of st = some d) : st = d.st := by
  unfold DWhl.of at h
  split at h
  · cases h
    rfl
  · cases h
structure DRet where
  v : Expr
  pos : Pos
def DRet.st (d : DRet) : Stmt := .Return (some d.v) d.pos
def DRet.of : Stmt → Option DRet
  | .Return (some v) pos => some ⟨v, pos⟩
  | _ => none
theorem DRet.eq {st : Stmt} {d : DRet} (h : DRet.of st = some d) : st = d.st := by
  unfold DRet.of at h
  split at h
  · cases h
    rfl
  · cases h
structure DReO where
  x : Str
  px : Pos
  pos : Pos
def DReO.st (d : DReO) : Stmt := .Return (some (.Name d.x d.px)) d.pos
def DReO.of : Stmt → Option DReO
  | .Return (some (.Name x px)) pos => some ⟨x, px, pos⟩
  | _ => none
theorem DReO.eq {st : Stmt} {d : DReO} (h : DReO.of st = some d) : st = d.st := by
  unfold DReO.of at h
  split at h
  · cases h
    rfl
  · cases h
structure DReN where
  pos : Pos
def DReN.st (d : DReN) : Stmt := .Return none d.pos
def DReN.of : Stmt → Option DReN
  | .Return none pos => some ⟨pos⟩
  | _ => none
theorem DReN.eq {st : Stmt} {d : DReN} (h : DReN.of st = some d) : st = d.st := by
  unfold DReN.of at h
  split at h
  · cases h
    rfl
  · cases h
structure DExp where
  v : Expr
  pos : Pos
def DExp.st (d : DExp) : Stmt := .Expr d.v d.pos
def DExp.of : Stmt → Option DExp
  | .Expr v pos => some ⟨v, pos⟩
  | _ => none
theorem DExp.eq {st : Stmt} {d : DExp} (h : DExp.of st = some d) : st = d.st := by
  unfold DExp.of at h
  split at h
  · cases h
    rfl
  · cases h
structure DApp where
  x : Str
  px : Pos
  m : Str
  ap : Pos
  v : Expr
  cp : Pos
  pos : Pos
def DApp.st (d : DApp) : Stmt := .Expr (.Call (.Attribute (.Name d.x d.px) d.m d.ap) [d.v] [] d.cp) d.pos
def DApp.of : Stmt → Option DApp
  | .Expr (.Call (.Attribute (.Name x px) m ap) [v] [] cp) pos => some ⟨x, px, m, ap, v, cp, pos⟩
  | _ => none
structure DPop where
  x : Str
  px : Pos
  m : Str
  ap : Pos
  cp : Pos
  pos : Pos
def DPop.st (d : DPop) : Stmt := .Expr (.Call (.Attribute (.Name d.x d.px) d.m d.ap) [] [] d.cp) d.pos
def DPop.of : Stmt → Option DPop
  | .Expr (.Call (.Attribute (.Name x px) m ap) [] [] cp) pos => some ⟨x, px, m, ap, cp, pos⟩
  | _ => none
theorem DPop.eq {st : Stmt} {d : DPop} (h : DPop.of st = some d) : st = d.st := by
  unfold DPop.of at h
  split at h
  · cases h; rfl
  · cases h
theorem DApp.eq {st : Stmt} {d : DApp} (h : DApp.of st = some d) : st = d.st := by
  unfold DApp.of at h
  split at h
  · cases h
    rfl
  · cases h
structure DPas where
  pos : Pos
def DPas.st (d : DPas) : Stmt := .Pass d.pos
def DPas.of : Stmt → Option DPas
  | .Pass pos => some ⟨pos⟩
  | _ => none
theorem DPas.eq {st : Stmt} {d : DPas} (h : DPas.of st = some d) : st = d.st := by
  unfold DPas.of at h
  split at h
  · cases h
    rfl
  · cases h
structure DBrk where
  pos : Pos
def DBrk.st (d : DBrk) : Stmt := .Break d.pos
def DBrk.of : Stmt → Option DBrk
  | .Break pos => some ⟨pos⟩
  | _ => none
theorem DBrk.eq {st : Stmt} {d : DBrk} (h : DBrk.of st = some d) : st = d.st := by
  unfold DBrk.of at h
  split at h
  · cases h
    rfl
  · cases h
structure DCnt where
  pos : Pos
def DCnt.st (d : DCnt) : Stmt := .Continue d.pos
def DCnt.of : Stmt → Option DCnt
  | .Continue pos => some ⟨pos⟩
  | _ => none
theorem DCnt.eq {st : Stmt} {d : DCnt} (h : DCnt.of st = some d) : st = d.st := by
  unfold DCnt.of at h
  split at h
  · cases h
    rfl
  · cases h
structure DAug where
  x : Str
  px : Pos
  op : Operator
  v : Expr
  pos : Pos
def DAug.st (d : DAug) : Stmt := .AugAssign (.Name d.x d.px) d.op d.v d.pos
def DAug.of : Stmt → Option DAug
  | .AugAssign (.Name x px) op v pos => some ⟨x, px, op, v, pos⟩
  | _ => none
theorem DAug.eq {st : Stmt} {d : DAug} (h : DAug.of st = some d) : st = d.st := by
  unfold DAug.of at h
  split at h
  · cases h
    rfl
  · cases h
mutual
def ms (I : Nf) (sc : Scope) (ini : Bool) : Sm → Stmt → Bool
  | .asg tg e, st => match DAsg.of st with
    | some d => plainEs [d.t] && mm I sc 0 e d.v && ((mT I.N sc false tg d.t && (noSwB d.t d.v || noSwC sc d.t d.v) && swOk sc d.t d.v) || swTg I.N sc d.v tg d.t)
    | none => false
  | .asgO i e, st => match DAsN.of st with
    | some d => fresh1 e && mm I sc 0 e d.v && I.N[i]? == some d.x && ((swOk sc (.Name d.x d.px) d.v && (!isComp d.v) && locB sc d.x) || swYes sc d.x d.px d.v)
    | none => false
  | .asgF i e, st => match DAsN.of st with
    | some d => call1 e && mm I sc 0 e d.v && I.N[i]? == some d.x && swOk sc (.Name d.x d.px) d.v && locB sc d.x
    | none => false
  | .parO i j a b, st => match DPar.of st with
    | some d => I.N[i]? == some d.x && I.N[j]? == some d.y && i != j && loB sc d.x && loB sc d.y && (d.py.line == d.px.line) && !(d.x == d.y) && plainEs [d.ea, d.eb] && !([d.ea, d.eb].all (foldedForSure 8)) && !([d.ea, d.eb].all (constantsAlone 8)) && mm I sc 0 a d.ea && mm I sc 0 b d.eb && fresh1 b && !isComp d.eb
    | none => false
  | .par i j a b, st => match DPar.of st with
    | some d => I.N[i]? == some d.x && I.N[j]? == some d.y && i != j && loB sc d.x && loB sc d.y && (d.py.line == d.px.line) && !(d.x == d.y) && plainEs [d.ea, d.eb] && !([d.ea, d.eb].all (foldedForSure 8)) && !([d.ea, d.eb].all (constantsAlone 8)) && mm I sc 0 a d.ea && mm I sc 0 b d.eb
    | none => false
  | .par3 i j l a b c, st => match DPa3.of st with
    | some d => I.N[i]? == some d.x && I.N[j]? == some d.y && I.N[l]? == some d.z && i != j && i != l && j != l && loB sc d.x && loB sc d.y && loB sc d.z && (d.py.line == d.px.line) && (d.pz.line == d.px.line) && !(d.x == d.y) && !(d.x == d.z) && !(d.y == d.z) && plainEs [d.ea, d.eb, d.ec] && !([d.ea, d.eb, d.ec].all (foldedForSure 8)) && !([d.ea, d.eb, d.ec].all (constantsAlone 8)) && mm I sc 0 a d.ea && mm I sc 0 b d.eb && mm I sc 0 c d.ec
    | none => false
  | .put o i e, st => match DPut.of st with
    | some d => ixPB d.ei && !compB d.v && mm I sc 0 o d.eo && mm I sc 0 i d.ei && mm I sc 0 e d.v
    | none => false
  | .putB o i e, st => match DPuB.of st with
    | some d => ixPB d.ei && !compB d.v && varB I sc o d.x && mm I sc 0 i d.ei && mm I sc 0 e d.v
    | none => false
  | .fld fl e, st => match DFld.of st with
    | some d => fl == d.fl && !compB d.v && varB I sc 0 d.x && mm I sc 0 e d.v
    | none => false
  | .tsub o i j e, st => match DTsb.of st with
    | some d => ixPB d.ei && !compB d.v && !tupB d.v && I.N[j]? == some d.x && locB sc d.x && mm I sc 0 o d.eo && mm I sc 0 i d.ei && mm I sc 0 e d.v
    | none => false
  | .iff c a b, st => match DIff.of st with
    | some d => mm I sc 1 c d.ec && mss I sc ini a d.sa && mss I sc ini b d.sb
    | none => false
  | .for_ tg it b, st => match DFor.of st with
    | some d => setFB d.ie && mT I.N sc false tg d.te && mm I sc (itMd d.te) it d.ie && mss I sc ini b d.be
    | none => false
  | .whl _ c b, st => match DWhl.of st with
    | some d => mm I sc 1 c d.ec && mss I sc ini b d.be
    | none => false
  | .ret e, st => match DRet.of st with
    | some d => mm I sc 0 e d.v
    | none => false
  | .retO i, st => match DReO.of st with
    | some d => !ini && varB I sc i d.x
    | none => false
  | .retF e, st => match DRet.of st with
    | some d => fresh1 e && mm I sc 0 e d.v && !isComp d.v
    | none => false
  | .retN, st => match DReN.of st with
    | some d => true
    | none => false
  | .exp e, st => match DExp.of st with
    | some d => !compB d.v && mm I sc 0 e d.v
    | none => false
  | .pas, st => match DPas.of st with
    | some d => true
    | none => false
  | .brk, st => match DBrk.of st with
    | some d => true
    | none => false
  | .cnt, st => match DCnt.of st with
    | some d => true
    | none => false
  | .app i e, st => match DApp.of st with
    | some d => d.m == ("append" : Str) && (d.ap.endLine == d.cp.line) && plainEs [d.v] && varB I sc i d.x && mm I sc 0 e d.v
    | none => false
  | .pop i, st => match DPop.of st with
    | some d => d.m == ("pop" : Str) && (d.ap.endLine == d.cp.line) && varB I sc i d.x
    | none => false
  | .rai _ _, _ => false
  | .aug i op e, st => match DAug.of st with
    | some d => decide (op = d.op) && I.N[i]? == some d.x && locB sc d.x && mm I sc 0 e d.v
    | none => false
  | .nev, _ => true
def mss (I : Nf) (sc : Scope) (ini : Bool) : List Sm → List Stmt → Bool
  | [], [] => true
  | c :: cs, s :: ss => ms I sc ini c s && mss I sc ini cs ss
  | _, _ => false
end
section
variable {X : Cx} {F : Fx} {f : Fm} {W : WX} {I : Nf} {k : Nat} {cf ci : Nat → List Dt → List Dt → Rc}
theorem psOf {st : Stmt} {m m' : Sto → Rt} (h : PS X st (RS F f W m)) (q : ∀ S, m' S = m S) : PS X st (RS F f W m') := by
  have : m' = m := funext q
  rw [this]
  exact h
theorem pssOf {st : List Stmt} {m m' : Sto → Rt} (h : PSs X st (RS F f W m)) (q : ∀ S, m' S = m S) : PSs X st (RS F f W m') := by
  have : m' = m := funext q
  rw [this]
  exact h
structure CompP (X : Cx) (F : Fx) (f : Fm) (W : WX) (I : Nf) (cf ci : Nat → List Dt → List Dt → Rc) (ce : Tm) (own : List Nat) (tg : Tg) (it cc : Tm) (elt tgE iter : Expr) (ifs : List Expr) (scope : Scope) : Prop where
  hi : PI X tgE iter (RI F f W (evE I.P cf ci it))
  ok : BlkOk X.N X.env.scope scope (ownNs I.N own)
  hg : ∀ (s : Shared) (H : Hp) (C : Addr) (cl : List (Str × Addr)) (fp : List Addr), PG (X.blk s H scope (compEnvC scope cl C X.env) fp) tgE (gT X.K tg)
  ht : ∀ (s : Shared) (H : Hp) (C : Addr) (cl : List (Str × Addr)) (fp : List Addr), PTs (X.blk s H scope (compEnvC scope cl C X.env) fp) ifs (fun σ H Q => ∃ f', RB F f' W0 (evE I.P cf ci cc) σ H Q)
  he : ∀ (s : Shared) (H : Hp) (C : Addr) (cl : List (Str × Addr)) (fp : List Addr), PE (X.blk s H scope (compEnvC scope cl C X.env) fp) elt (fun σ H Q => ∃ f', RE F f' W0 (evE I.P cf ci ce) σ H Q)
  hs : ∀ x, foldedSetIterable iter X.env x = pure x
  hsl : ∀ i ∈ tgSl tg, i ∈ (ownNs I.N own).map (·.2)
theorem comp_parts {ce : Tm} {own : List Nat} {tg : Tg} {it cc : Tm} {elt : Expr} {gs : List Comprehension} {scope : Scope} {p : Pos} (G : Good X F I k cf ci) (T : Takes X W) (h : mm I X.env.scope 0 (.comp ce own tg it cc) (.ListComp elt gs scope p) = true) :
    ∃ tgE iter ifs, gs = [⟨tgE, iter, ifs, 0⟩] ∧ CompP X F f W I cf ci ce own tg it cc elt tgE iter ifs scope := by
  cases gs with
  | nil => simp [mm] at h
  | cons gn gs =>
    cases gs with
    | cons _ _ => simp [mm] at h
    | nil =>
      obtain ⟨tgE, iter, ifs, as⟩ := gn
      by_cases h0 : as = 0
      case neg => simp [mm, h0] at h
      case pos =>
        subst h0
        refine ⟨tgE, iter, ifs, rfl, ?_⟩
        have core : blkC I.N X.env.scope scope (ownNs I.N own) = true → mT I.N (relS scope X.env.scope) true tg tgE = true → (tgSl tg).all (fun i => own.contains i) = true → setFB iter = true → mm I X.env.scope (itMd tgE) it iter = true → mm I (relS scope X.env.scope) 0 ce elt = true →
            (∀ (s : Shared) (H : Hp) (C : Addr) (cl : List (Str × Addr)) (fp : List Addr), PTs (X.blk s H scope (compEnvC scope cl C X.env) fp) ifs (fun σ H Q => ∃ f', RB F f' W0 (evE I.P cf ci cc) σ H Q)) → CompP X F f W I cf ci ce own tg it cc elt tgE iter ifs scope := by
          intro h1 h3 h4 h5 h6 h7 ht
          refine ⟨sdI (sd it G T h6), by rw [G.N]; exact blkOk_by h1, fun s H C cl fp => ?_, ht, fun s H C cl fp => ?_, fun x => setF_of h5, ?_⟩
          · refine pg_of (X := X.blk s H scope (compEnvC scope cl C X.env) fp) (lc := true) G.nod G.calm (fun z => by cases z) tg tgE ?_
            show mT X.N _ true tg tgE = true
            rw [G.N]
            exact h3
          · exact ⟨fun pins s σ H Q Iv ⟨f', hq⟩ => (sd0 (sd (f := f') (W := W0) ce (G.blk _ _ _ _ _) takes_blk h7)).run pins s σ H Q Iv hq⟩
          · intro i hi
            rw [ownNs_map]
            rw [List.all_eq_true] at h4
            exact List.contains_iff_mem.mp (h4 i hi)
        cases ifs with
        | nil =>
          simp only [mm, Bool.and_eq_true] at h
          obtain ⟨⟨⟨⟨⟨⟨⟨h1, h2⟩, h3⟩, h4⟩, h5⟩, h6⟩, h7⟩, h8⟩ := h
          refine core h1 h3 h4 h5 h6 h7 fun s H C cl fp => ⟨fun pins s σ H Q Iv hq => pts_nil.run pins s σ H Q Iv ?_⟩
          obtain ⟨f', w, S, R, hq⟩ := hq
          have ec : cc = .cst (.bl true) := by
            unfold isYes at h8
            split at h8
            · rfl
            · cases h8
          subst ec
          unfold tst at hq
          rw [evE] at hq
          exact hq true w H R (Le.refl _) rfl
        | cons e1 r =>
          cases r with
          | cons _ _ => simp [mm] at h
          | nil =>
            simp only [mm, Bool.and_eq_true] at h
            obtain ⟨⟨⟨⟨⟨⟨⟨h1, h2⟩, h3⟩, h4⟩, h5⟩, h6⟩, h7⟩, h8⟩ := h
            exact core h1 h3 h4 h5 h6 h7 fun s H C cl fp => ⟨fun pins s σ H Q Iv ⟨f', hq⟩ => (pts_one (sd1 (sd (f := f') (W := W0) cc (G.blk _ _ _ _ _) takes_blk h8))).run pins s σ H Q Iv hq⟩
/-- a swapped store of a comprehension -/
theorem swStore {ce : Tm} {own : List Nat} {tg : Tg} {it cc : Tm} {i : Nat} {x : Str} {px pos p : Pos} {elt tgE iter : Expr} {ifs : List Expr} {scope : Scope} (G : Good X F I k cf ci) (hkd : X.env.scope.kind = .function) (hN : X.N[i]? = some x) (hsw : swYes X.env.scope x px (.ListComp elt [⟨tgE, iter, ifs, 0⟩] scope p) = true)
    (C : CompP X F f W I cf ci ce own tg it cc elt tgE iter ifs scope) :
    PS X (.Assign [.Name x px] (.ListComp elt [⟨tgE, iter, ifs, 0⟩] scope p) pos) (tAsg (tLc (RI F f W (evE I.P cf ci it)) (gT X.K tg) (fun σ H Q => ∃ f', RB F f' W0 (evE I.P cf ci cc) σ H Q) (fun σ H Q => ∃ f', RE F f' W0 (evE I.P cf ci ce) σ H Q) ((ownNs I.N own).map (·.2))) (gName i)) := by
  unfold swYes at hsw
  simp only [Bool.and_eq_true, Bool.not_eq_true'] at hsw
  obtain ⟨⟨h1, h2⟩, h3⟩ := hsw
  exact ps_setLc G.calm G.nod hN (lo_of h1) (sw_true hkd (lo_of h1) h2 h3) C.hi C.ok C.hg C.ht C.he C.hs
theorem locB_of {sc : Scope} {x : Str} (h : locB sc x = true) : Loc sc x := by
  unfold locB at h
  simp only [Bool.or_eq_true, beq_iff_eq] at h
  exact h
/-- a call, its value as it is handed back -/
theorem sb_of {e : Tm} {v : Expr} (G : Good X F I k cf ci) (T : Takes X W) (hf : call1 e = true) (h : mm I X.env.scope 0 e v = true) : PE X v (RQ F f W (evB I.P cf ci e)) := by
  have of : ∀ {m m' : Sto → Rs Bn}, PE X v (RQ F f W m) → (∀ S, m' S = m S) → PE X v (RQ F f W m') := fun {m m'} h q => by
    have : m' = m := funext q
    rw [this]
    exact h
  cases e with
  | call g ks cs =>
    cases v with
    | Call fn es kws p =>
      cases fn with
      | Name x px =>
        simp only [mm, Bool.and_eq_true, beq_iff_eq, decide_eq_true_eq, Bool.not_eq_true'] at h
        obtain ⟨⟨⟨⟨⟨⟨h1, h2⟩, h3⟩, h4⟩, h5⟩, h6⟩, h7⟩ := h
        subst h2
        have q := sds (f := f) (W := W) cs G T h7
        have gg := G.gf x g h1
        exact of (sb_call (k := k) (shl := fun n => I.P.shf g n (kwNames kws)) (fun sh e => G.fns g _ _ sh e) (kwN_len h6) (G.room.mono (by omega)) G.gd T (gl_of h3) gg.1 gg.2 (nm_of h4).1 (fun S ds S1 z => (evEs_len z).trans (q.len.trans (by rw [List.length_append, List.length_map]))) (q.parg h5 h6)) fun S => by rw [evB] <;> rfl
      | _ => simp [mm] at h
    | _ => simp [mm] at h
  | meth a m ks cs =>
    cases v with
    | Call fn es kws p =>
      cases fn with
      | Attribute o m2 apos =>
        simp only [mm, Bool.and_eq_true, beq_iff_eq, decide_eq_true_eq, Bool.not_eq_true'] at h
        obtain ⟨⟨⟨⟨⟨⟨⟨⟨h1, h2⟩, h3⟩, h4⟩, h5⟩, h6⟩, h7⟩, h8⟩, h9⟩ := h
        subst h1
        subst h2
        have q := sds (f := f) (W := W) cs G T h9
        refine of (sb_meth (k := k) (P := I.P) (cf := cf) (sd0 (sd a G T h8)) (fun c g e => ?_) (kwN_len h7) (G.room.mono (by omega)) G.gd T (fun S ds S1 z => (evEs_len z).trans (q.len.trans (by rw [List.length_append, List.length_map]))) (q.parg h6 h7) (meth_eval h3 (by rw [h4]; exact beq_self_eq_true _) h6 h7 h5)) fun S => by rw [evB] <;> rfl
        obtain ⟨x, e1, e2⟩ := meth_cl e
        exact ⟨(G.cls c x e1).cls, (G.cls c x e1).meth m g e2, fun sh e => G.fns g _ _ sh e⟩
      | _ => simp [mm] at h
    | _ => simp [mm] at h
  | icall a ks cs =>
    cases v with
    | Call fn es kws p =>
      simp only [mm, Bool.and_eq_true, beq_iff_eq, decide_eq_true_eq, Bool.not_eq_true'] at h
      obtain ⟨⟨⟨⟨⟨h2, h6⟩, h7⟩, h10⟩, h8⟩, h9⟩ := h
      subst h2
      have q := sds (f := f) (W := W) cs G T h9
      refine of (sb_icall (k := k) (P := I.P) (cf := cf) (sd0 (sd a G T h8)) (fun c g e => ?_) (kwN_len h7) (G.room.mono (by omega)) G.gd T (fun S ds S1 z => (evEs_len z).trans (q.len.trans (by rw [List.length_append, List.length_map]))) (q.pargO h6 h7) (callee_eval h10)) fun S => by rw [evB] <;> rfl
      obtain ⟨x, e1, e2⟩ := meth_cl e
      have mt := (G.cls c x e1).meth _ g e2
      exact ⟨⟨mt.at_, mt.fn, (G.cls c x e1).cal g e2⟩, fun sh e => G.fns g _ _ sh e⟩
    | _ => simp [mm] at h
  | _ => simp [call1] at hf
/-- a new object by an expression that is no comprehension -/
theorem sn_of {e : Tm} {v : Expr} (G : Good X F I k cf ci) (T : Takes X W) (hf : fresh1 e = true) (hc : isComp v = false) (h : mm I X.env.scope 0 e v = true) : PE X v (RN F f W (evE I.P cf ci e)) := by
  have of : ∀ {m m' : Sto → Rs Dt}, PE X v (RN F f W m) → (∀ S, m' S = m S) → PE X v (RN F f W m') := fun {m m'} h q => by
    have : m' = m := funext q
    rw [this]
    exact h
  cases e with
  | lst cs =>
    cases v with
    | List es p =>
      simp only [mm, Bool.and_eq_true] at h
      exact of (sn_lst ((sds cs G T h.2).pa h.1)) fun S => by rw [evE] <;> rfl
    | _ => simp [mm] at h
  | bi b cs =>
    cases b with
    | list =>
      cases v with
      | Call fn es kws p =>
        cases fn with
        | Name x px =>
          cases es with
          | nil => simp [mm] at h
          | cons e es =>
            cases kws with
            | cons _ _ => simp [mm] at h
            | nil =>
              simp only [mm, Bool.and_eq_true, beq_iff_eq] at h
              obtain ⟨⟨⟨⟨h1, h2⟩, h3⟩, h4⟩, h5⟩ := h
              subst h1
              have q := sds (f := f) (W := W) cs G T h5
              cases cs with
              | nil => exact q.elim
              | cons c cs =>
                cases es with
                | nil =>
                  cases cs with
                  | cons _ _ => exact q.2.elim
                  | nil =>
                    refine of (sn_list (P := I.P) (cf := cf) G.K (gl_of h2) (G.bn _ (List.contains_iff_mem.mp h3)) h4 q.1) fun S => ?_
                    have e0 : ∀ S1, evEs I.P cf ci [] S1 = .ok [] S1 := fun S1 => by rw [evEs]
                    rw [evE, evEs]
                    simp only [e0]
                    rfl
                | cons e2 es =>
                  cases cs with
                  | nil => exact q.2.elim
                  | cons _ _ => simp [fresh1] at hf
        | _ => simp [mm] at h
      | _ => simp [mm] at h
    | _ => simp [fresh1] at hf
  | comp _ _ _ _ _ =>
    cases v with
    | ListComp _ _ _ _ => simp [isComp] at hc
    | _ => simp [mm] at h
  | _ => simp [fresh1] at hf
end
section
variable {X : Cx} {F : Fx} {f : Fm} {W : WX} {I : Nf} {k : Nat} {cf ci : Nat → List Dt → List Dt → Rc} {ini : Bool}
mutual
theorem ssd (G : Good X F I k cf ci) (T : Takes X W) (hfn : ∀ x, X.fn x = true) (hown : PassesOwn (model X.prog X.w) X.A X.env X.xe) (hkd : X.env.scope.kind = .function) (hex : ini = false → f.ex = []) : ∀ (c : Sm) {st : Stmt}, ms I X.env.scope ini c st = true → PS X st (RS F f W (evS I.P cf ci c))
  | .asg tg e, st, h => by
    rw [ms] at h
    split at h
    · rename_i d ed
      cases DAsg.eq ed
      clear ed
      obtain ⟨t, v, pos⟩ := d
      simp only [Bool.and_eq_true, Bool.or_eq_true, beq_iff_eq, decide_eq_true_eq, Bool.not_eq_true', bne_iff_ne, ne_eq] at h
      obtain ⟨⟨h1, h2⟩, h3⟩ := h
      rcases h3 with ⟨⟨h3, h4⟩, h5⟩ | h3
      · exact psOf (ss_asg G.K (sd0 (sd e G T h2)) (pg_of (lc := false) G.nod G.calm (fun _ => hfn) tg t (by rw [G.N]; exact h3)) (swOk_of h5) (h4.elim noSw_of noSwC_of) h1) fun S => by rw [evS] <;> rfl
      · unfold swTg at h3
        split at h3
        · rename_i i x px
          simp only [Bool.and_eq_true, beq_iff_eq] at h3
          cases v with
          | ListComp elt gs scope p =>
            cases e with
            | comp ce own tg it cc =>
              obtain ⟨tgE, iter, ifs, rfl, C⟩ := comp_parts (f := f) (W := W) G T h2
              refine psOf (ss_asgC (ma := fun S => (evE I.P cf ci it S).bind (compR (evE I.P cf ci ce) (evE I.P cf ci cc) tg ((ownNs I.N own).map (·.2)))) (swStore G hkd (by rw [G.N]; exact h3.1) h3.2 C) fun σ H w S Q R hq => ?_) fun S => by rw [evS, evE, ownNs_map] <;> rfl
              exact comp_core G.K C.hsl R (compIn_of hq)
            | _ => simp [mm, notLc] at h2
          | _ => simp [swYes] at h3
        · cases h3
    · cases h
  | .asgO i e, st, h => by
    rw [ms] at h
    split at h
    · rename_i d ed
      cases DAsN.eq ed
      clear ed
      obtain ⟨x, px, v, pos⟩ := d
      simp only [Bool.and_eq_true, Bool.or_eq_true, beq_iff_eq, decide_eq_true_eq, Bool.not_eq_true', bne_iff_ne, ne_eq] at h
      obtain ⟨⟨⟨h1, h2⟩, h3⟩, h4⟩ := h
      have hN : X.N[i]? = some x := by rw [G.N]; exact h3
      rcases h4 with ⟨⟨h4, h5⟩, h6⟩ | h4
      · exact psOf (ss_asgO (ps_asg (sn_of (f := f) G T h1 h5 h2) (pg_name G.nod hN (locB_of h6) (.inl (hfn x))) (swOk_of h4) (noSw_of (by cases v <;> rfl))) fun σ H w S Q R hq => ⟨w, S, R, hq⟩) fun S => by rw [evS] <;> rfl
      · cases v with
        | ListComp elt gs scope p =>
          cases e with
          | comp ce own tg it cc =>
            obtain ⟨tgE, iter, ifs, rfl, C⟩ := comp_parts (f := f) (W := W) G T h2
            refine psOf (ss_asgO (ma := fun S => (evE I.P cf ci it S).bind (compR (evE I.P cf ci ce) (evE I.P cf ci cc) tg ((ownNs I.N own).map (·.2)))) (swStore G hkd hN h4 C) fun σ H w S Q R hq => ?_) fun S => by rw [evS, evE, ownNs_map] <;> rfl
            exact sn_comp G.K C.hsl R hq
          | _ => simp [mm, notLc] at h2
        | _ => simp [swYes] at h4
    · cases h
  | .asgF i e, st, h => by
    rw [ms] at h
    split at h
    · rename_i d ed
      cases DAsN.eq ed
      clear ed
      obtain ⟨x, px, v, pos⟩ := d
      simp only [Bool.and_eq_true, Bool.or_eq_true, beq_iff_eq, decide_eq_true_eq, Bool.not_eq_true', bne_iff_ne, ne_eq] at h
      obtain ⟨⟨⟨⟨h1, h2⟩, h3⟩, h4⟩, h5⟩ := h
      have hN : X.N[i]? = some x := by rw [G.N]; exact h3
      exact psOf (ss_asgF (ps_asg (sb_of (f := f) G T h1 h2) (pg_name G.nod hN (locB_of h5) (.inl (hfn x))) (swOk_of h4) (noSw_of (by cases v <;> rfl))) fun σ H w S Q R hq => ⟨w, S, R, hq⟩) fun S => by rw [evS] <;> rfl
    · cases h
  | .parO i j a b, st, h => by
    rw [ms] at h
    split at h
    · rename_i d ed
      cases DPar.eq ed
      clear ed
      obtain ⟨x, px, y, py, kt, pt, ea, eb, kv, pv, pos⟩ := d
      simp only [Bool.and_eq_true, Bool.or_eq_true, beq_iff_eq, decide_eq_true_eq, Bool.not_eq_true', bne_iff_ne, ne_eq] at h
      obtain ⟨⟨⟨⟨⟨⟨⟨⟨⟨⟨⟨⟨⟨h1, h2⟩, h3⟩, h4⟩, h5⟩, h6⟩, h7⟩, h8⟩, h9⟩, h10⟩, h11⟩, h12⟩, h13⟩, h14⟩ := h
      exact psOf (ss_parO G.calm G.nod (by rw [G.N]; exact h1) (by rw [G.N]; exact h2) h3 (lo_of h4) (lo_of h5) h8 (sd0 (sd a G T h11)) (sn_of (f := f) G T h13 h14 h12) (par_of hkd (lo_of h4) (lo_of h5) (by rw [h6]; exact beq_self_eq_true _) h7 h8 h9 h10)) fun S => by rw [evS] <;> rfl
    · cases h
  | .par i j a b, st, h => by
    rw [ms] at h
    split at h
    · rename_i d ed
      cases DPar.eq ed
      clear ed
      obtain ⟨x, px, y, py, kt, pt, ea, eb, kv, pv, pos⟩ := d
      simp only [Bool.and_eq_true, Bool.or_eq_true, beq_iff_eq, decide_eq_true_eq, Bool.not_eq_true', bne_iff_ne, ne_eq] at h
      obtain ⟨⟨⟨⟨⟨⟨⟨⟨⟨⟨⟨h1, h2⟩, h3⟩, h4⟩, h5⟩, h6⟩, h7⟩, h8⟩, h9⟩, h10⟩, h11⟩, h12⟩ := h
      exact psOf (ss_par G.calm G.nod (by rw [G.N]; exact h1) (by rw [G.N]; exact h2) h3 (lo_of h4) (lo_of h5) h8 (sd0 (sd a G T h11)) (sd0 (sd b G T h12)) (par_of hkd (lo_of h4) (lo_of h5) (by rw [h6]; exact beq_self_eq_true _) h7 h8 h9 h10)) fun S => by rw [evS] <;> rfl
    · cases h
  | .par3 i j l a b c, st, h => by
    rw [ms] at h
    split at h
    · rename_i d ed
      cases DPa3.eq ed
      clear ed
      obtain ⟨x, px, y, py, z, pz, kt, pt, ea, eb, ec, kv, pv, pos⟩ := d
      simp only [Bool.and_eq_true, Bool.or_eq_true, beq_iff_eq, decide_eq_true_eq, Bool.not_eq_true', bne_iff_ne, ne_eq] at h
      obtain ⟨⟨⟨⟨⟨⟨⟨⟨⟨⟨⟨⟨⟨⟨⟨⟨⟨⟨⟨h1, h2⟩, h3⟩, h4⟩, h5⟩, h6⟩, h7⟩, h8⟩, h9⟩, h10⟩, h11⟩, h12⟩, h13⟩, h14⟩, h15⟩, h16⟩, h17⟩, h18⟩, h19⟩, h20⟩ := h
      exact psOf (ss_par3 G.calm G.nod (by rw [G.N]; exact h1) (by rw [G.N]; exact h2) (by rw [G.N]; exact h3) h4 h5 h6 (lo_of h7) (lo_of h8) (lo_of h9) h15 (sd0 (sd a G T h18)) (sd0 (sd b G T h19)) (sd0 (sd c G T h20)) (par3_of hkd (lo_of h7) (lo_of h8) (lo_of h9) (by rw [h10]; exact beq_self_eq_true _) (by rw [h11]; exact beq_self_eq_true _) h12 h13 h14 h15 h16 h17)) fun S => by rw [evS] <;> rfl
    · cases h
  | .put o i e, st, h => by
    rw [ms] at h
    split at h
    · rename_i d ed
      cases DPut.eq ed
      clear ed
      obtain ⟨eo, ei, ap, v, pos⟩ := d
      simp only [Bool.and_eq_true, Bool.or_eq_true, beq_iff_eq, decide_eq_true_eq, Bool.not_eq_true', bne_iff_ne, ne_eq] at h
      obtain ⟨⟨⟨⟨h1, h2⟩, h3⟩, h4⟩, h5⟩ := h
      exact psOf (ss_put (sd0 (sd o G T h3)) (sd0 (sd i G T h4)) (sd0 (sd e G T h5)) (sws_of h2) (noSw_of (by cases v <;> rfl)) fun _ => asgSub_of h1) fun S => by rw [evS] <;> rfl
    · cases h
  | .putB o i e, st, h => by
    rw [ms] at h
    split at h
    · rename_i d ed
      cases DPuB.eq ed
      clear ed
      obtain ⟨x, px, ei, ap, v, pos⟩ := d
      simp only [Bool.and_eq_true, Bool.or_eq_true, beq_iff_eq, decide_eq_true_eq, Bool.not_eq_true', bne_iff_ne, ne_eq] at h
      obtain ⟨⟨⟨⟨h1, h2⟩, h3⟩, h4⟩, h5⟩ := h
      obtain ⟨q1, q2, q3, q4⟩ := var_of G h3
      exact psOf (ss_putB q1 q2 q3 q4 (sd0 (sd i G T h4)) (sd0 (sd e G T h5)) (sws_of h2) (noSw_of (by cases v <;> rfl)) fun _ => asgSub_of h1) fun S => by rw [evS] <;> rfl
    · cases h
  | .fld fq e, st, h => by
    rw [ms] at h
    split at h
    · rename_i d ed
      cases DFld.eq ed
      clear ed
      obtain ⟨x, px, fl, ap, v, pos⟩ := d
      simp only [Bool.and_eq_true, Bool.or_eq_true, beq_iff_eq, decide_eq_true_eq, Bool.not_eq_true', bne_iff_ne, ne_eq] at h
      obtain ⟨⟨⟨h1, h2⟩, h3⟩, h4⟩ := h
      subst h1
      obtain ⟨q1, q2, q3, q4⟩ := var_of G h3
      exact psOf (ss_fld G.cls q1 q2 q3 q4 (sd0 (sd e G T h4)) (sw_of h2)) fun S => by rw [evS] <;> rfl
    · cases h
  | .tsub o i j e, st, h => by
    rw [ms] at h
    split at h
    · rename_i d ed
      cases DTsb.eq ed
      clear ed
      obtain ⟨eo, ei, ap, x, px, kt, pt, v, pos⟩ := d
      simp only [Bool.and_eq_true, Bool.or_eq_true, beq_iff_eq, decide_eq_true_eq, Bool.not_eq_true', bne_iff_ne, ne_eq] at h
      obtain ⟨⟨⟨⟨⟨⟨⟨h1, h2⟩, h3⟩, h4⟩, h5⟩, h6⟩, h7⟩, h8⟩ := h
      exact psOf (ss_tsub G.K G.calm G.nod (by rw [G.N]; exact h4) (locB_of h5) (.inl (hfn x)) (sd0 (sd o G T h6)) (sd0 (sd i G T h7)) (sd0 (sd e G T h8)) (sws_of h2) (noSw_of (by cases v <;> first | rfl | (simp [tupB] at h3))) fun _ => asgSub_of h1) fun S => by rw [evS] <;> rfl
    · cases h
  | .iff c a b, st, h => by
    rw [ms] at h
    split at h
    · rename_i d ed
      cases DIff.eq ed
      clear ed
      obtain ⟨ec, sa, sb, pos⟩ := d
      simp only [Bool.and_eq_true, Bool.or_eq_true, beq_iff_eq, decide_eq_true_eq, Bool.not_eq_true', bne_iff_ne, ne_eq] at h
      obtain ⟨⟨h1, h2⟩, h3⟩ := h
      exact psOf (ss_iff (sd1 (sd c G T h1)) (ssds G T hfn hown hkd hex a h2) (ssds G T hfn hown hkd hex b h3)) fun S => by rw [evS] <;> rfl
    · cases h
  | .for_ tg it b, st, h => by
    rw [ms] at h
    split at h
    · rename_i d ed
      cases DFor.eq ed
      clear ed
      obtain ⟨te, ie, be, pos⟩ := d
      simp only [Bool.and_eq_true, Bool.or_eq_true, beq_iff_eq, decide_eq_true_eq, Bool.not_eq_true', bne_iff_ne, ne_eq] at h
      obtain ⟨⟨⟨h1, h2⟩, h3⟩, h4⟩ := h
      exact psOf (ss_for G.K hown G.calm (sdI (sd it G T h3)) (pg_of (lc := false) G.nod G.calm (fun _ => hfn) tg te (by rw [G.N]; exact h2)) (ssds G T hfn hown hkd hex b h4) (fun x => setF_of h1)) fun S => by rw [evS] <;> rfl
    · cases h
  | .whl n c b, st, h => by
    rw [ms] at h
    split at h
    · rename_i d ed
      cases DWhl.eq ed
      clear ed
      obtain ⟨ec, be, pos⟩ := d
      simp only [Bool.and_eq_true, Bool.or_eq_true, beq_iff_eq, decide_eq_true_eq, Bool.not_eq_true', bne_iff_ne, ne_eq] at h
      obtain ⟨h1, h2⟩ := h
      exact psOf (ss_whl (n := n) hown (sd1 (sd c G T h1)) (ssds G T hfn hown hkd hex b h2)) fun S => by rw [evS] <;> rfl
    · cases h
  | .ret e, st, h => by
    rw [ms] at h
    split at h
    · rename_i d ed
      cases DRet.eq ed
      clear ed
      obtain ⟨v, pos⟩ := d
      simp only [Bool.and_eq_true, Bool.or_eq_true, beq_iff_eq, decide_eq_true_eq, Bool.not_eq_true', bne_iff_ne, ne_eq] at h
      exact psOf (ss_ret (sd0 (sd e G T h))) fun S => by rw [evS] <;> rfl
    · cases h
  | .retO i, st, h => by
    rw [ms] at h
    split at h
    · rename_i d ed
      cases DReO.eq ed
      clear ed
      obtain ⟨x, px, pos⟩ := d
      simp only [Bool.and_eq_true, Bool.or_eq_true, beq_iff_eq, decide_eq_true_eq, Bool.not_eq_true', bne_iff_ne, ne_eq] at h
      obtain ⟨q1, q2, q3, q4⟩ := var_of G h.2
      exact psOf (ss_retO q1 q2 q3 q4 (hex h.1)) fun S => by rw [evS] <;> rfl
    · cases h
  | .retF e, st, h => by
    rw [ms] at h
    split at h
    · rename_i d ed
      cases DRet.eq ed
      clear ed
      obtain ⟨v, pos⟩ := d
      simp only [Bool.and_eq_true, Bool.or_eq_true, beq_iff_eq, decide_eq_true_eq, Bool.not_eq_true', bne_iff_ne, ne_eq] at h
      exact psOf (ss_retF (sn_of G T h.1.1 h.2 h.1.2)) fun S => by rw [evS] <;> rfl
    · cases h
  | .retN, st, h => by
    rw [ms] at h
    split at h
    · rename_i d ed
      cases DReN.eq ed
      clear ed
      obtain ⟨pos⟩ := d
      exact psOf ss_retN fun S => by rw [evS] <;> rfl
    · cases h
  | .exp e, st, h => by
    rw [ms] at h
    split at h
    · rename_i d ed
      cases DExp.eq ed
      clear ed
      obtain ⟨v, pos⟩ := d
      simp only [Bool.and_eq_true, Bool.or_eq_true, beq_iff_eq, decide_eq_true_eq, Bool.not_eq_true', bne_iff_ne, ne_eq] at h
      exact psOf (ss_exp (sd0 (sd e G T h.2)) (sw_of h.1)) fun S => by rw [evS] <;> rfl
    · cases h
  | .pas, st, h => by
    rw [ms] at h
    split at h
    · rename_i d ed
      cases DPas.eq ed
      clear ed
      obtain ⟨pos⟩ := d
      exact psOf ss_pas fun S => by rw [evS] <;> rfl
    · cases h
  | .brk, st, h => by
    rw [ms] at h
    split at h
    · rename_i d ed
      cases DBrk.eq ed
      clear ed
      obtain ⟨pos⟩ := d
      exact psOf ss_brk fun S => by rw [evS] <;> rfl
    · cases h
  | .cnt, st, h => by
    rw [ms] at h
    split at h
    · rename_i d ed
      cases DCnt.eq ed
      clear ed
      obtain ⟨pos⟩ := d
      exact psOf ss_cnt fun S => by rw [evS] <;> rfl
    · cases h
  | .app i e, st, h => by
    rw [ms] at h
    split at h
    · rename_i d ed
      cases DApp.eq ed
      clear ed
      obtain ⟨x, px, m, ap, v, cp, pos⟩ := d
      simp only [Bool.and_eq_true, Bool.or_eq_true, beq_iff_eq, decide_eq_true_eq, Bool.not_eq_true', bne_iff_ne, ne_eq] at h
      obtain ⟨⟨⟨⟨h1, h2⟩, h3⟩, h4⟩, h5⟩ := h
      subst h1
      obtain ⟨q1, q2, q3, q4⟩ := var_of G h4
      exact psOf (ss_app q1 q2 q3 q4 h3 (sd0 (sd e G T h5)) (by rw [h2]; exact beq_self_eq_true _) G.calm) fun S => by rw [evS] <;> rfl
    · cases h
  | .pop i, st, h => by
    rw [ms] at h
    split at h
    · rename_i d ed
      cases DPop.eq ed
      clear ed
      obtain ⟨x, px, m, ap, cp, pos⟩ := d
      simp only [Bool.and_eq_true, Bool.or_eq_true, beq_iff_eq, decide_eq_true_eq, Bool.not_eq_true', bne_iff_ne, ne_eq] at h
      obtain ⟨⟨h1, h2⟩, h4⟩ := h
      subst h1
      obtain ⟨q1, q2, q3, q4⟩ := var_of G h4
      exact psOf (ss_pop q1 q2 q3 q4 (by rw [h2]; exact beq_self_eq_true _)) fun S => by rw [evS] <;> rfl
    · cases h
  | .rai _ _, st, h => by
    rw [ms] at h
    cases h
  | .nev, st, h => psOf ss_nev fun S => by rw [evS] <;> rfl
  | .aug i op e, st, h => by
    rw [ms] at h
    split at h
    · rename_i d ed
      cases DAug.eq ed
      clear ed
      obtain ⟨x, px, op2, v, pos⟩ := d
      simp only [Bool.and_eq_true, beq_iff_eq, decide_eq_true_eq] at h
      obtain ⟨⟨⟨h1, h2⟩, h3⟩, h4⟩ := h
      subst h1
      exact psOf (ss_aug G.K G.cls G.fns (G.room.mono (by omega)) G.gd T G.pok.ops G.nod (by rw [G.N]; exact h2) (locB_of h3) (hfn x) (sd0 (sd e G T h4))) fun S => by rw [evS] <;> rfl
    · cases h
theorem ssds (G : Good X F I k cf ci) (T : Takes X W) (hfn : ∀ x, X.fn x = true) (hown : PassesOwn (model X.prog X.w) X.A X.env X.xe) (hkd : X.env.scope.kind = .function) (hex : ini = false → f.ex = []) : ∀ (cs : List Sm) {sts : List Stmt}, mss I X.env.scope ini cs sts = true → PSs X sts (RS F f W (evSs I.P cf ci cs))
  | [], sts, h => by
    cases sts with
    | nil => exact pssOf ss_nil fun S => by rw [evSs] <;> rfl
    | cons _ _ => simp [mss] at h
  | c :: cs, sts, h => by
    cases sts with
    | nil => simp [mss] at h
    | cons s ss =>
      simp only [mss, Bool.and_eq_true] at h
      exact pssOf (ss_cons (ssd G T hfn hown hkd hex c h.1) (ssds G T hfn hown hkd hex cs h.2)) fun S => by rw [evSs] <;> rfl
end
end
end PyI
namespace PyI
open PySem PySem.Spec PyProof.Rows L2
/-! ### the bound values, by shape -/
def PkV (F : Fx) (all : List Value) : List Ar → List Value → Prop
  | [], [] => True
  | .a i :: r, z :: zs => all[i]? = some z ∧ PkV F all r zs
  | .d v :: r, z :: zs => (∃ x, RelV x z ∧ ∀ w, Dn F w v x) ∧ PkV F all r zs
  | _, _ => False
theorem pk_vals {F : Fx} {w : Wd} {all : List Value} {vs : List V} {ds : List Dt} (rv : Vals vs all) (dn : Dns F w ds vs) : ∀ {sh : List Ar} {zs : List Value} {xs : List Dt}, PkV F all sh zs → pick ds sh = some xs → ∃ ys, Vals ys zs ∧ Dns F w xs ys
  | [], zs, xs, h, e => by
    cases zs with
    | nil =>
      unfold pick at e
      cases e
      exact ⟨[], .nil, rfl⟩
    | cons _ _ => exact h.elim
  | .a i :: r, zs, xs, h, e => by
    cases zs with
    | nil => exact h.elim
    | cons z zs =>
      unfold pick at e
      cases e1 : ds[i]? with
      | none => rw [e1] at e; cases e
      | some d =>
        cases e2 : pick ds r with
        | none => rw [e1, e2] at e; cases e
        | some t =>
          rw [e1, e2] at e
          cases e
          obtain ⟨v, g1, g2⟩ := dn.get e1
          obtain ⟨u, g3, g4⟩ := rv.get g1
          rw [h.1] at g3
          cases g3
          obtain ⟨ys, q1, q2⟩ := pk_vals rv dn h.2 e2
          exact ⟨v :: ys, .cons g4 q1, v, ys, rfl, g2, q2⟩
  | .d c :: r, zs, xs, h, e => by
    cases zs with
    | nil => exact h.elim
    | cons z zs =>
      unfold pick at e
      cases e2 : pick ds r with
      | none => rw [e2] at e; cases e
      | some t =>
        rw [e2] at e
        cases e
        obtain ⟨⟨x, g1, g2⟩, hr⟩ := h
        obtain ⟨ys, q1, q2⟩ := pk_vals rv dn hr e2
        exact ⟨x :: ys, .cons g1 q1, x, ys, rfl, g2 w, q2⟩
  | .t i :: r, zs, xs, h, e => by
    cases zs <;> exact h.elim
/-- the world and the heap grow, nothing changes -/
structure Grw (w w2 : Wd) (H H2 : Hp) : Prop where
  le : Le w w2
  hA : w2.A = w.A
  eH : ∀ a o, H a = some o → H2 a = some o
  fr : ∀ a o, w2.G a = some o → H2 a = some o
  gn : ∀ a o, w2.G a = some o → w.G a = some o ∨ H a = none
theorem Grw.cs {F : Fx} {w w2 : Wd} {H H2 : Hp} {m : List Dt} (g : Grw w w2 H H2) (c : Cs F w H m) : Cs F w2 H2 m := by
  refine ⟨g.fr, by rw [g.hA]; exact c.nd, by rw [g.hA]; exact c.ln, fun a ha => ?_, fun k a d h1 h2 => ?_⟩
  · rw [g.hA] at ha
    cases e : w2.G a with
    | none => rfl
    | some u =>
      rcases g.gn a u e with q | q
      · rw [c.ce a ha] at q
        cases q
      · obtain ⟨o, ho⟩ := c.some ha
        rw [ho] at q
        cases q
  · rw [g.hA] at h1
    exact (c.co k a d h1 h2).move g.le fun o q => g.eH a o q
theorem Grw.xt {w w2 : Wd} {H H2 : Hp} (g : Grw w w2 H H2) : Xt ⟨H, w, [], []⟩ w2 H2 :=
  ⟨g.le, fun a o h => (g.gn a o h).imp_right .inl, fun a ha => .inl (by rw [g.hA] at ha; exact ha), fun a o h _ _ => g.eH a o h, fun _ z => (nomatch z)⟩
theorem Grw.refl {F : Fx} {w : Wd} {H : Hp} {m : List Dt} (c : Cs F w H m) : Grw w w H H := ⟨Le.refl _, rfl, fun _ _ z => z, c.fr, fun _ _ z => .inl z⟩
def Bnd (K : PySem.W.Frag) (F : Fx) (fd : FuncData) (ps : List Str) (n : Nat) (ks : List Str) (sh : List Ar) : Prop :=
  ∀ (P : Program) (w : World) (mg : Str → Option Value) (base : Heap) (A : Around) (outer : List Env) (s : Shared) (H : Hp) (us ws : List Value) (vs zs : List V) (E : XK) (wd : Wd) (m ds xs : List Dt), Env0 P w K mg base A outer s H → us.length = n → ws.length = ks.length → Vals vs us → Vals zs ws →
    Cs F wd H m → Dns F wd ds (vs ++ zs) → pick ds sh = some xs → xs.length = ps.length → StX.Bnd (L2.CX P w) P w K mg base fd ⟨us, ks.zip ws⟩ ps A outer s H E (fun ys H2 => ∃ wd2, Grw wd wd2 H H2 ∧ Dns F wd2 xs ys)
def BndI (K : PySem.W.Frag) (F : Fx) (fd : FuncData) (ps : List Str) (n : Nat) (ks : List Str) (sh : List Ar) : Prop :=
  ∀ (P : Program) (w : World) (mg : Str → Option Value) (base : Heap) (A : Around) (outer : List Env) (s : Shared) (H : Hp) (x : Addr) (us ws : List Value) (vs zs : List V) (E : XK) (wd : Wd) (m ds xs : List Dt), Env0 P w K mg base A outer s H → us.length = n → ws.length = ks.length → Vals vs us → Vals zs ws →
    Cs F wd H m → Dns F wd ds (vs ++ zs) → pick ds sh = some xs → xs.length + 1 = ps.length → StX.Bnd (L2.CX P w) P w K mg base fd ⟨.ref x :: us, ks.zip ws⟩ ps A outer s H E (fun ys H2 => ∃ wd2 yt, ys = .ref x :: yt ∧ Grw wd wd2 H H2 ∧ Dns F wd2 xs yt)
/-! ### what holds of the whole program -/
structure Glo (P : Program) (w : World) (K : PySem.W.Frag) (mg : Str → Option Value) (base : Heap) (F : Fx) (I : Nf) (k : Nat) (cf ci : Nat → List Dt → List Dt → Rc) : Prop where
  hK : K = F.K
  cls : ClsT K F I.P
  fns : ∀ g n ks sh, I.P.shf g n ks = some sh → CalG P w K mg base k (F.fa g) n ks (spS F (cf g) sh)
  cis : ∀ c n ks sh, I.P.shc c n ks = some sh → ∃ fi, Mk K (F.ca c) fi ∧ CalG P w K mg base k fi (n + 1) ks (spI F c (ci c) sh)
  pok : PgOk I.P
  gf : ∀ x i, I.gf.lookup x = some i → mg x = some (.ref (F.fa i)) ∧ PySem.W.keepIn K (.ref (F.fa i)) = true
  gc : ∀ x i, I.gc.lookup x = some i → mg x = some (.ref (F.ca i)) ∧ PySem.W.keepIn K (.ref (F.ca i)) = true
  gl : ∀ x d, I.gd.lookup x = some d → ∃ u v, mg x = some u ∧ RelV v u ∧ ∀ w, Dn F w d v
  bn : ∀ x, x ∈ I.bn → mg x = none
/-- a def as it stands behind the top -/
structure FnT (K : PySem.W.Frag) (fa : Addr) (N ps : List Str) (scope : Scope) (body : List Stmt) (B : FuncData → Prop) : Prop where
  ex : ∃ (name qual : Str) (params : Arguments) (oc : Value) (od : Option Addr) (dV kV doc pm : Value) (an : Option Addr) (cdv ct : Value) (osl : Array (Option Value)),
    K.lookup fa = some ⟨oc, od, .func (PySem.W.fnOf name qual params body scope dV kV doc pm an cdv ct), osl⟩ ∧ PySem.W.codeIn K cdv qual = true ∧ B (PySem.W.fnOf name qual params body scope dV kV doc pm an cdv ct)
  sc : FnScope N ps scope
section
variable {P : Program} {w : World} {K : PySem.W.Frag} {mg : Str → Option Value} {base : Heap} {F : Fx} {I : Nf} {k : Nat} {cf ci : Nat → List Dt → List Dt → Rc}
theorem Glo.good (G : Glo P w K mg base F I k cf ci) {N : List Str} {qual : Str} {scope : Scope} {f : Addr} {cd : Value} {A : Around} {outer : List Env} {s : Shared} {H : Hp} {E : XK} (nd : N.Nodup) (hg : A.guards = some []) (hr : Room (k + 5) A) :
    Good (cxOf (L2.CX P w) P w K mg base N qual scope f cd A outer s H E) F { I with N := N } k cf ci :=
  ⟨G.hK, rfl, nd, rfl, hg, hr.deeper _, G.cls, G.fns, G.cis, G.pok, G.gf, G.gc, G.gl, G.bn⟩
/-- a def's body runs -/
theorem fn_run {f : Addr} {name qual : Str} {params : Arguments} {body : List Stmt} {scope : Scope} {dV kV doc pm cdv ct oc : Value} {an od : Option Addr} {osl : Array (Option Value)} {N ps : List Str} {b : List Sm}
    (G : Glo P w K mg base F I k cf ci) (lk : K.lookup f = some ⟨oc, od, .func (PySem.W.fnOf name qual params body scope dV kV doc pm an cdv ct), osl⟩) (hcd : PySem.W.codeIn K cdv qual = true) (S : FnScope N ps scope) (hm : mss { I with N := N } scope false b body = true)
    {A : Around} {outer : List Env} {s : Shared} {H : Hp} {args : Args} {Q : VK} {E : XK} (hr : Room (k + 5) A) (hg : A.guards = some []) (e0 : Env0 P w K mg base A outer s H) {B : List V → Hp → Prop}
    (hb : StX.Bnd (L2.CX P w) P w K mg base (PySem.W.fnOf name qual params body scope dV kV doc pm an cdv ct) args ps A outer s H E B) {fr : Fm} {wd : Wd} {S0 : Sto} (hex : fr.ex = []) (R : ∀ vs H2, B vs H2 → ∃ wd2, Le wd wd2 ∧ Rr F fr wd2 (start N vs) H2 S0)
    (h : PoS F fr (fun cls d _ H => E cls d H) wd (evSs I.P cf ci b S0) { nx := fun _ H' => Q .non H', rt := Q }) :
    codeAny (model P w) A (.call (.ref f) args) (CR (L2.CX P w) outer P w H s Q E) s := by
  refine StX.run_bnd (k := k + 4) lk hcd S hr e0 hb fun s2 H2 vs hB hr2 => ?_
  obtain ⟨wd2, l, R⟩ := R vs H2 hB
  exact ⟨_, ssds (ini := false) (f := fr) (W := fun cls d _ H => E cls d H) (G.good (qual := qual) (scope := scope) (f := f) (cd := cdv) (outer := outer) (s := s2) (H := H2) (E := E) S.nd hg hr) (takes_of rfl rfl rfl rfl) (fun _ => rfl) (passes_of rfl) S.kind (fun _ => hex) b hm, wd2, S0, R, h.le l⟩
theorem start_get {N : List Str} {vs : List V} {xs : List Dt} {wd : Wd} (dn : Dns F wd xs vs) {n : Nat} (hn : N.length = n) (hk : xs.length ≤ n) {i : Nat} {d : Dt} (h : (xs.map (fun d => some (Bn.p d)) ++ List.replicate (n - xs.length) none)[i]? = some (some (.p d))) :
    ∃ v, (start N vs)[i]? = some (some v) ∧ Dn F wd d v := by
  have hi : i < xs.length := by
    by_cases hi : i < xs.length
    · exact hi
    · rw [List.getElem?_append_right (by simpa using hi), List.getElem?_replicate] at h
      split at h <;> cases h
  rw [List.getElem?_append_left (by simpa using hi), List.getElem?_map] at h
  cases e : xs[i]? with
  | none => rw [e] at h; cases h
  | some x =>
    rw [e] at h
    cases h
    obtain ⟨v, g1, g2⟩ := dn.get e
    refine ⟨v, ?_, g2⟩
    unfold L2.start
    rw [List.getElem?_append_left (by rw [List.length_map, ← dn.length]; exact hi), List.getElem?_map, g1]
    rfl
theorem no_own {xs : List Dt} {n i : Nat} {d : Dt} (h : (xs.map (fun d => some (Bn.p d)) ++ List.replicate n none)[i]? = some (some (.o d))) : False := by
  have := List.mem_of_getElem? h
  simp at this
theorem start_rr {N : List Str} {vs : List V} {xs m : List Dt} {wd wd2 : Wd} {H H2 : Hp} (cs : Cs F wd H m) (g : Grw wd wd2 H H2) (dn : Dns F wd2 xs vs) {n : Nat} (hn : N.length = n) (hk : xs.length ≤ n) :
    Rr F ⟨H, wd, [], []⟩ wd2 (start N vs) H2 ⟨xs.map (fun d => some (.p d)) ++ List.replicate (n - xs.length) none, m⟩ := by
  refine ⟨g.cs cs, g.xt, ?_, fun i d q => start_get dn hn hk q, fun i d q => (no_own q).elim, fun i j a d e q _ _ _ => (no_own q).elim⟩
  unfold L2.start
  have := dn.length
  simp only [List.length_append, List.length_map, List.length_replicate]
  omega
/-- the promise of a def -/
theorem cal_fn {g : Nat} {fd : FnD} {N ps : List Str} {scope : Scope} {body : List Stmt} {n : Nat} {ks : List Str} {sh : List Ar} (G : Glo P w K mg base F I k cf ci) (hfd : I.P.fn[g]? = some fd) (T : FnT K (F.fa g) N ps scope body fun D => Bnd K F D ps n ks sh) (hn : N.length = fd.n) (hk : ps.length = fd.k) (hm : mss { I with N := N } scope false fd.b body = true) :
    CalG P w K mg base (k + 5) (F.fa g) n ks (spS F (fnRun I.P cf ci g) sh) := by
  intro A outer s H us ws vs zs Q E hr hg e0 h1 h2 ru rz ⟨wd, m, ds, xs, cs, dn, pk, po⟩
  obtain ⟨name, qual, params, oc, od, dV, kV, doc, pm, an, cdv, ct, osl, lk, hcd, hB⟩ := T.ex
  unfold fnRun at po
  rw [hfd] at po
  dsimp only at po
  split at po
  · rename_i hx
    obtain ⟨hx1, hx2⟩ := hx
    have hk2 : xs.length ≤ fd.n := by omega
    refine fn_run G lk hcd T.sc hm hr hg e0 (hB P w mg base A outer s H us ws vs zs E wd m ds xs e0 h1 h2 ru rz cs dn pk (by rw [hx1, hk])) rfl (fun ys H2 ⟨wd2, g, dy⟩ => ⟨wd2, g.le, start_rr cs g dy hn hk2⟩) ?_
    rw [hx1]
    cases e : evSs I.P cf ci fd.b ⟨xs.map (fun d => some (.p d)) ++ List.replicate (fd.n - fd.k) none, m⟩ with
    | nx S =>
      rw [e] at po
      dsimp only at po
      split at po
      · exact po.elim
      · exact fun σ' w' H' R' l' => po .non w' H' R'.cs ⟨R'.xt.le, R'.xt.gn, R'.xt.an, R'.xt.pr, R'.xt.xs⟩ rfl
    | rt b S =>
      rw [e] at po
      dsimp only at po
      split at po
      · cases b with
        | p d => exact po.elim
        | o d =>
          intro v σ' w' H' R' l' hv
          obtain ⟨a, rfl, g1, a1, m1, hn0⟩ := hv
          have l2 : Le w' ⟨w'.G, w'.A ++ [a]⟩ := ⟨fun _ _ z => z, [a], rfl⟩
          refine po (.ref a) ⟨w'.G, w'.A ++ [a]⟩ H' ⟨R'.cs.fr, ?_, ?_, ?_, ?_⟩ ⟨R'.xt.le.trans l2, R'.xt.gn, ?_, R'.xt.pr, R'.xt.xs⟩ ⟨a, rfl, ?_⟩
          · show (w'.A ++ [a]).Nodup
            rw [List.nodup_append]
            refine ⟨R'.cs.nd, by simp, ?_⟩
            intro b hb c hc
            simp at hc
            subst hc
            intro z
            subst z
            exact a1 hb
          · show (w'.A ++ [a]).length = (S.m ++ [d]).length
            simp [R'.cs.ln]
          · intro b hb
            rcases List.mem_append.mp hb with z | z
            · exact R'.cs.ce b z
            · simp at z
              subst z
              exact g1
          · intro j b e1 q1 q2
            have q1 : (w'.A ++ [a])[j]? = some b := q1
            by_cases hj : j < w'.A.length
            · rw [List.getElem?_append_left hj] at q1
              rw [List.getElem?_append_left (by rw [← R'.cs.ln]; exact hj)] at q2
              exact (R'.cs.co j b e1 q1 q2).move l2 fun _ z => z
            · have hj2 : j = w'.A.length := by
                have := (List.getElem?_eq_some_iff.mp q1).1
                simp at this
                omega
              subst hj2
              rw [List.getElem?_append_right (Nat.le_refl _)] at q1
              rw [List.getElem?_append_right (by rw [R'.cs.ln]; exact Nat.le_refl _)] at q2
              have h0 : w'.A.length - S.m.length = 0 := by rw [R'.cs.ln]; omega
              rw [h0] at q2
              simp at q1 q2
              subst q1
              subst q2
              exact m1.move l2 fun _ z => z
          · intro b hb
            rcases List.mem_append.mp hb with z | z
            · exact R'.xt.an b z
            · simp at z
              subst z
              exact .inr hn0
          · show (w'.A ++ [a])[S.m.length]? = some a
            rw [← R'.cs.ln, List.getElem?_append_right (Nat.le_refl _)]
            simp
      · intro v σ' w' H' R' l' hv
        refine po v w' H' R'.cs ⟨R'.xt.le, R'.xt.gn, R'.xt.an, R'.xt.pr, R'.xt.xs⟩ ?_
        cases b with
        | p d => exact hv
        | o d => exact hv
    | ex c ns ds S =>
      rw [e] at po
      exact fun dx vs σ' w' H' R' l' z1 z2 z3 => po dx vs w' H' R'.cs ⟨R'.xt.le, R'.xt.gn, R'.xt.an, R'.xt.pr, R'.xt.xs⟩ z1 z2 z3
    | bk S => rw [e] at po; exact po.elim
    | ct S => rw [e] at po; exact po.elim
    | bad => rw [e] at po; exact po.elim
  · exact po.elim
/-- the promise of an __init__ -/
theorem cal_init {c : Nat} {cd : ClD} {fd : FnD} {N ps : List Str} {scope : Scope} {body : List Stmt} {n : Nat} {ks : List Str} {sh : List Ar} (G : Glo P w K mg base F I k cf ci) (hcl : I.P.cl[c]? = some cd) (hfd : I.P.fn[cd.init]? = some fd) (T : FnT K (F.fa cd.init) N ps scope body fun D => BndI K F D ps n ks sh) (hn : N.length = fd.n) (hk : ps.length = fd.k) (hm : mss { I with N := N } scope false fd.b body = true) :
    CalG P w K mg base (k + 5) (F.fa cd.init) (n + 1) ks (spI F c (clRun I.P cf ci c) sh) := by
  intro A outer s H us ws vs zs Q E hr hg e0 h1 h2 ru rz ⟨x, dx, vs1, H1, hvs, hH, hx0, hdx0, hne, wd, m, ds, xs, QQ, cs, dn, pk, po, hq⟩
  obtain ⟨name, qual, params, oc, od, dV, kV, doc, pm, an, cdv, ct, osl, lk, hcd, hB⟩ := T.ex
  cases ru with
  | nil => cases h1
  | @cons v0 u0 vs' us' r0 ru0 =>
  have ru : Vals vs' us' := ru0
  rw [List.cons_append] at hvs
  cases hvs
  have r0 : u0 = .ref x := r0
  subst r0
  have up : ∀ a o, H1 a = some o → H a = some o := fun a o z => by
    have n1 : a ≠ x := fun y => by subst y; rw [hx0] at z; cases z
    have n2 : a ≠ dx := fun y => by subst y; rw [hdx0] at z; cases z
    rw [hH, upd_ne n1, upd_ne n2]
    exact z
  have hxg := cs.new hx0
  unfold clRun at po
  rw [hcl] at po
  dsimp only at po
  rw [hfd] at po
  dsimp only at po
  split at po
  · rename_i hx
    obtain ⟨hx1, hx2⟩ := hx
    have hk2 : xs.length + 1 ≤ fd.n := by omega
    have csH : Cs F wd H m := ⟨fun a o z => up a o (cs.fr a o z), cs.nd, cs.ln, cs.ce, fun j a d q1 q2 => (cs.co j a d q1 q2).move (Le.refl _) fun o z => up a o z⟩
    have R : ∀ ys H2, (∃ wd2 yt, ys = V.ref x :: yt ∧ Grw wd wd2 H H2 ∧ Dns F wd2 xs yt) → ∃ wd2, Le wd wd2 ∧ Rr F ⟨H1, wd, [], [x]⟩ wd2 (start N ys) H2 ⟨some (.o (.ins c [] [])) :: (xs.map (fun d => some (.p d)) ++ List.replicate (fd.n - fd.k) none), m⟩ := by
      rintro _ H2 ⟨wd2, ys, rfl, g, dy⟩
      refine ⟨wd2, g.le, ?_⟩
      have es : start N (V.ref x :: ys) = some (V.ref x) :: start (List.replicate (fd.n - 1) "") ys := by
        unfold L2.start
        rw [List.map_cons, List.cons_append, List.length_replicate]
        congr 3
        rw [List.length_cons]
        omega
      have ek : fd.n - fd.k = fd.n - 1 - xs.length := by omega
      have hxs : H x = some (.ins (F.ca c) dx []) := by rw [hH, upd_same]
      have g2 : wd2.G x = none := by
        cases e : wd2.G x with
        | none => rfl
        | some u =>
          rcases g.gn x u e with q | q
          · rw [hxg.1] at q
            cases q
          · rw [hxs] at q
            cases q
      have old : ∀ a, H a = none → H1 a = none := fun a z => by
        cases e : H1 a with
        | none => rfl
        | some o =>
          rw [up a o e] at z
          cases z
      rw [es, ek]
      refine ⟨g.cs csH, ⟨g.le, fun a o z => (g.gn a o z).imp_right fun y => .inl (old a y), fun a z => .inl (by rw [g.hA] at z; exact z), fun a o z _ _ => g.eH a o (up a o z), fun _ z => (nomatch z)⟩, ?_, fun i d q => ?_, fun i d q => ?_, fun i j a d e q q' _ _ => ?_⟩
      · unfold L2.start
        have := dy.length
        simp only [List.length_cons, List.length_append, List.length_map, List.length_replicate]
        omega
      · cases i with
        | zero => cases q
        | succ i => exact start_get (N := List.replicate (fd.n - 1) "") dy (List.length_replicate ..) (by omega) q
      · cases i with
        | zero =>
          cases q
          refine ⟨x, rfl, g2, by rw [g.hA]; exact hxg.2, ⟨dx, [], ?_, rfl, rfl⟩, .inl hx0, fun _ => by simp⟩
          exact g.eH _ _ hxs
        | succ i => exact (no_own q).elim
      · cases i with
        | succ i => exact (no_own q).elim
        | zero =>
          cases j with
          | zero => rfl
          | succ j => exact (no_own q').elim
    refine fn_run G lk hcd T.sc hm hr hg e0 (hB P w mg base A outer s H x us' ws vs' zs E wd m ds xs e0 (by simpa using h1) h2 ru rz csH dn pk (by rw [hx1, hk])) rfl R ?_
    cases e : evSs I.P cf ci fd.b ⟨some (.o (.ins c [] [])) :: (xs.map (fun d => some (.p d)) ++ List.replicate (fd.n - fd.k) none), m⟩ with
    | nx S =>
      rw [e] at po
      intro σ' w' H' R' l'
      dsimp only at po
      split at po
      · rename_i c' ns vs e0
        obtain ⟨a, w2, q1, q2, q3, q4⟩ := R'.freeze e0
        obtain ⟨a', s1, _, _, _, of⟩ := R'.ow 0 _ e0
        rw [q1] at s1
        cases s1
        have ax : a = x := by
          have := of.2 rfl
          simpa using this
        subst ax
        exact hq H' (po (.ref a) w2 H' q3.cs ⟨q3.xt.le, q3.xt.gn, q3.xt.an, q3.xt.pr, q3.xt.xs⟩ q4)
      · exact po.elim
    | ex c ns ds S =>
      rw [e] at po
      exact fun dx vs σ' w' H' R' l' z1 z2 z3 => po dx vs w' H' R'.cs ⟨R'.xt.le, R'.xt.gn, R'.xt.an, R'.xt.pr, R'.xt.xs⟩ z1 z2 z3
    | rt b S => rw [e] at po; exact po.elim
    | bk S => rw [e] at po; exact po.elim
    | ct S => rw [e] at po; exact po.elim
    | bad => rw [e] at po; exact po.elim
  · exact po.elim
end
end PyI
namespace PyI
open PySem PySem.Spec PyProof.Rows L2
/-! ### how arguments bind -/
theorem forIn_pure {α σ : Type} {f : α → σ → Sem (ForInStep σ)} {g : α → σ → σ} : ∀ {l : List α} {s : σ}, (∀ (pre : List α) (a : α) (post : List α), l = pre ++ a :: post → f a (pre.foldl (fun s a => g a s) s) = pure (.yield (g a (pre.foldl (fun s a => g a s) s)))) → forIn l s f = pure (l.foldl (fun s a => g a s) s)
  | [], s, _ => by simp
  | a :: l, s, h => by
    have h0 : f a s = pure (.yield (g a s)) := h [] a l rfl
    rw [List.forIn_cons, h0]
    simp only [pure_bind, List.foldl_cons]
    exact forIn_pure fun pre b post e => h (a :: pre) b post (by rw [e]; rfl)
theorem lookup_append' {β : Type} {x : Str} : ∀ {l r : List (Str × β)}, (l ++ r).lookup x = (l.lookup x).or (r.lookup x)
  | [], r => rfl
  | (n, v) :: l, r => by
    rw [List.cons_append, List.lookup_cons, List.lookup_cons]
    cases h : (x == n) with
    | true => rfl
    | false => exact lookup_append'
def kwG (x : Str × Value) (s : List (Str × Value) × List (Str × Value)) : List (Str × Value) × List (Str × Value) := (s.1 ++ [(x.1, x.2)], s.2)
theorem kwG_fold : ∀ (l : List (Str × Value)) (s : List (Str × Value)), l.foldl (fun s a => kwG a s) (s, []) = (s ++ l, [])
  | [], s => by simp
  | a :: l, s => by
    rw [List.foldl_cons]
    show l.foldl (fun s a => kwG a s) (s ++ [(a.1, a.2)], []) = _
    rw [kwG_fold l, List.append_assoc]
    rfl
def dfG (x : Str × Value) (s : List (Str × Value)) : List (Str × Value) := if (s.lookup x.1).isNone = true then s ++ [(x.1, x.2)] else s
theorem dfG_fold {x : Str} : ∀ (l : List (Str × Value)) (s : List (Str × Value)), (l.foldl (fun s a => dfG a s) s).lookup x = (s.lookup x).or (l.lookup x)
  | [], s => by simp
  | a :: l, s => by
    rw [List.foldl_cons, dfG_fold l]
    unfold dfG
    cases e : s.lookup a.1 with
    | none =>
      simp only [Option.isNone_none, if_true]
      rw [lookup_append', Option.or_assoc]
      congr 1
      obtain ⟨n, v⟩ := a
      rw [List.lookup_cons, List.lookup_cons]
      cases h : (x == n) with
      | true => rfl
      | false => rfl
    | some u =>
      simp only [Option.isNone_some, Bool.false_eq_true, if_false]
      obtain ⟨n, v⟩ := a
      rw [List.lookup_cons]
      cases h : (x == n) with
      | true =>
        have : x = n := by simpa using h
        subst this
        rw [show s.lookup x = some u from e]
        rfl
      | false => rfl
theorem fm_zip {β : Type} {s : List (Str × β)} : ∀ {ps : List Str} {zs : List β}, ps.length = zs.length → (∀ (i : Nat) x, ps[i]? = some x → s.lookup x = zs[i]?) → ps.filterMap (fun n => (s.lookup n).map (n, ·)) = ps.zip zs
  | [], [], _, _ => rfl
  | [], _ :: _, h, _ => by cases h
  | _ :: _, [], h, _ => by cases h
  | p :: ps, z :: zs, hl, h => by
    have h0 := h 0 p rfl
    rw [List.filterMap_cons, h0]
    show (p, z) :: _ = (p, z) :: ps.zip zs
    rw [fm_zip (by simpa using hl) fun i x e => h (i + 1) x e]
/-- the value of the parameter x -/
def chn (ps ks : List Str) (us ws : List Value) (ds : List Value) (x : Str) : Option Value :=
  (((ps.zip us).lookup x).or ((ks.zip ws).lookup x)).or (((ps.drop (ps.length - ds.length)).zip ds).lookup x)
theorem bind_of {fd : FuncData} {ps ks : List Str} {us ws zs : List Value} {o : Option (Array Value)} (h1 : fd.params.posonlyargs = []) (h2 : fd.params.args.map (·.arg) = ps) (h3 : fd.params.vararg = none) (h4 : fd.params.kwonlyargs = []) (h5 : fd.params.kwarg = none)
    (hn : us.length ≤ ps.length) (hd : (o.getD #[]).toList.length ≤ ps.length)
    (hk : ∀ (pre : List (Str × Value)) k v (post : List (Str × Value)), ks.zip ws = pre ++ (k, v) :: post → ps.contains k = true ∧ (ps.zip us ++ pre).lookup k = none)
    (hm : ∀ x ∈ ps.take (ps.length - (o.getD #[]).toList.length), (ps.zip us ++ ks.zip ws).lookup x ≠ none)
    (hz : ps.length = zs.length) (hc : ∀ (i : Nat) x, ps[i]? = some x → chn ps ks us ws (o.getD #[]).toList x = zs[i]?) :
    ∃ kt, bindArgs fd ⟨us, ks.zip ws⟩ = seqItems? fd.defaults >>= kt ∧ kt o = pure (ps.zip zs) := by
  unfold bindArgs
  simp only [h1, h2, h3, h4, h5, List.map_nil, List.nil_append, List.append_nil]
  rw [forIn_pure (g := kwG) (l := ks.zip ws) (s := (ps.zip us, [])) (fun pre a post e => ?_), kwG_fold]
  · simp only [pure_bind]
    refine ⟨_, rfl, ?_⟩
    have c1 : (decide (us.length > ps.length) && (none : Option Arg).isNone) = false := by
      simp only [Option.isNone_none, Bool.and_true, decide_eq_false_iff_not]
      omega
    rw [if_neg (by rw [c1]; simp)]
    have c0 : (o.getD #[]).toList.length - ps.length = 0 := by omega
    rw [c0, List.drop_zero]
    have c2 : (ps.take (ps.length - (o.getD #[]).toList.length)).filter (fun n => ((ps.zip us ++ ks.zip ws).lookup n).isNone) = [] := by
      rw [List.filter_eq_nil_iff]
      intro x hx
      have := hm x hx
      cases e : (ps.zip us ++ ks.zip ws).lookup x with
      | none => exact absurd e this
      | some u => simp
    rw [c2]
    simp only [List.isEmpty_nil, Bool.not_true, Bool.false_eq_true, if_false]
    rw [forIn_pure (g := dfG) (fun pre a post e => ?_)]
    · simp only [pure_bind, List.forIn_nil, List.isEmpty_nil, Bool.not_true, Bool.false_eq_true, if_false]
      congr 1
      refine fm_zip hz fun i x e => ?_
      rw [dfG_fold, lookup_append']
      exact hc i x e
    · unfold dfG
      split <;> rfl
  · have hf := kwG_fold pre (ps.zip us)
    rw [hf]
    obtain ⟨k, v⟩ := a
    obtain ⟨g1, g2⟩ := hk pre k v post e
    show (if (ps.contains k || List.contains [] k) = true then _ else _) = _
    rw [if_pos (by rw [g1]; rfl)]
    show (if ((ps.zip us ++ pre).lookup k).isSome = true then _ else _) = _
    rw [g2, if_neg (by simp)]
    rfl
/-! ### shapes, checked -/
def idx (x : Str) : List Str → Option Nat
  | [] => none
  | n :: r => if (x == n) = true then some 0 else (idx x r).map (· + 1)
theorem idx_lt {x : Str} : ∀ {l : List Str} {i : Nat}, idx x l = some i → i < l.length
  | [], _, h => by cases h
  | n :: r, i, h => by
    unfold idx at h
    split at h
    · cases h
      simp
    · cases e : idx x r with
      | none => rw [e] at h; cases h
      | some j =>
        rw [e] at h
        cases h
        have := idx_lt e
        simp only [List.length_cons]
        omega
theorem lookup_zip {β : Type} {x : Str} : ∀ {l : List Str} {vs : List β}, (l.zip vs).lookup x = (idx x l).bind fun j => vs[j]?
  | [], vs => by simp [idx]
  | n :: r, [] => by
    unfold idx
    cases h : (x == n) with
    | true => simp
    | false => cases idx x r <;> simp
  | n :: r, v :: vs => by
    unfold idx
    rw [List.zip_cons_cons, List.lookup_cons]
    cases h : (x == n) with
    | true => simp
    | false =>
      simp only [Bool.false_eq_true, if_false]
      rw [lookup_zip]
      cases idx x r <;> simp
def valB : Dt → Value → Bool
  | .non, .none => true
  | .bl b, .bool c => b == c
  | .int i, .int j _ => decide (i = j)
  | .str a, .str b _ => a == b
  | _, _ => false
theorem val_of {F : Fx} {v : Dt} {u : Value} (h : valB v u = true) : ∃ x, RelV x u ∧ ∀ w, Dn F w v x := by
  unfold valB at h
  split at h
  · exact ⟨.non, rfl, fun _ => rfl⟩
  · rename_i b c
    have : b = c := by simpa using h
    subst this
    exact ⟨.bl b, rfl, fun _ => rfl⟩
  · rename_i i j t
    have : i = j := by simpa using h
    subst this
    exact ⟨.int i, ⟨t, rfl⟩, fun _ => rfl⟩
  · rename_i i j t
    have : i = j := by simpa using h
    subst this
    exact ⟨.str i, ⟨t, rfl⟩, fun _ => rfl⟩
  · cases h
def srcB (ps ks : List Str) (n : Nat) (ds : List Value) (x : Str) : Ar → Bool
  | .a j => match idx x ps with
    | some i => if i < n then decide (i = j) else (match idx x ks with
      | some q => decide (j = n + q)
      | none => false)
    | none => false
  | .d v => match idx x ps with
    | some i => decide (n ≤ i) && (idx x ks).isNone && (match idx x (ps.drop (ps.length - ds.length)) with
      | some q => (match ds[q]? with
        | some u => valB v u
        | none => false)
      | none => false)
    | none => false
  | .t _ => false
def shB (ps ks : List Str) (n : Nat) (ds : List Value) : List Str → List Ar → Bool
  | [], [] => true
  | x :: qs, a :: sh => srcB ps ks n ds x a && shB ps ks n ds qs sh
  | _, _ => false
def kwB (ps ks : List Str) (n : Nat) : Bool := ks.all (fun k => ps.contains k && (match idx k ps with
    | some i => decide (n ≤ i)
    | none => true)) && decide ks.Nodup
def bnB (ps ks : List Str) (n : Nat) (ds : List Value) (sh : List Ar) : Bool := decide (n ≤ ps.length) && decide (ds.length ≤ ps.length) && kwB ps ks n && (ps.take (ps.length - ds.length)).all (fun x => (match idx x ps with
    | some i => decide (i < n)
    | none => false) || (idx x ks).isSome) && shB ps ks n ds ps sh
theorem src_of {F : Fx} {ps ks : List Str} {us ws ds : List Value} {x : Str} (hk : ws.length = ks.length) : ∀ {a : Ar}, srcB ps ks us.length ds x a = true → ∃ z, chn ps ks us ws ds x = some z ∧ (match a with
    | .a j => (us ++ ws)[j]? = some z
    | .d v => ∃ y, RelV y z ∧ ∀ w, Dn F w v y
    | .t _ => False)
  | .t _, h => by cases h
  | .a j, h => by
    unfold srcB at h
    unfold chn
    rw [lookup_zip, lookup_zip]
    cases e1 : idx x ps with
    | none => rw [e1] at h; cases h
    | some i =>
      rw [e1] at h
      dsimp only at h
      simp only [Option.bind_some]
      split at h
      · rename_i hi
        have : i = j := by simpa using h
        subst this
        refine ⟨us[i], ?_, ?_⟩
        · rw [List.getElem?_eq_getElem hi]
          rfl
        · rw [List.getElem?_append_left hi, List.getElem?_eq_getElem hi]
      · rename_i hi
        cases e2 : idx x ks with
        | none => rw [e2] at h; cases h
        | some q =>
          rw [e2] at h
          have : j = us.length + q := by simpa using h
          subst this
          have hq : q < ws.length := by rw [hk]; exact idx_lt e2
          rw [List.getElem?_eq_none (by omega)]
          refine ⟨ws[q], ?_, ?_⟩
          · rw [Option.bind_some, List.getElem?_eq_getElem hq]
            rfl
          · rw [List.getElem?_append_right (by omega), Nat.add_sub_cancel_left, List.getElem?_eq_getElem hq]
  | .d v, h => by
    unfold srcB at h
    unfold chn
    rw [lookup_zip, lookup_zip, lookup_zip]
    cases e1 : idx x ps with
    | none => rw [e1] at h; cases h
    | some i =>
      rw [e1] at h
      simp only [Bool.and_eq_true, decide_eq_true_eq] at h
      obtain ⟨⟨h1, h2⟩, h3⟩ := h
      cases e2 : idx x ks with
      | some q => rw [e2] at h2; cases h2
      | none =>
        cases e3 : idx x (ps.drop (ps.length - ds.length)) with
        | none => rw [e3] at h3; cases h3
        | some q =>
          rw [e3] at h3
          dsimp only at h3
          cases e4 : ds[q]? with
          | none => rw [e4] at h3; cases h3
          | some u =>
            rw [e4] at h3
            refine ⟨u, ?_, val_of h3⟩
            rw [Option.bind_some, List.getElem?_eq_none h1]
            simp [e4]
theorem sh_of {F : Fx} {ps ks : List Str} {us ws ds : List Value} (hk : ws.length = ks.length) : ∀ {qs : List Str} {sh : List Ar}, shB ps ks us.length ds qs sh = true → ∃ zs, PkV F (us ++ ws) sh zs ∧ qs.length = zs.length ∧ ∀ (i : Nat) x, qs[i]? = some x → chn ps ks us ws ds x = zs[i]?
  | [], [], _ => ⟨[], trivial, rfl, fun i x e => by simp at e⟩
  | [], _ :: _, h => by simp [shB] at h
  | _ :: _, [], h => by simp [shB] at h
  | x :: qs, a :: sh, h => by
    simp only [shB, Bool.and_eq_true] at h
    obtain ⟨z, q1, q2⟩ := src_of (F := F) hk h.1
    obtain ⟨zs, p1, p2, p3⟩ := sh_of (F := F) hk h.2
    refine ⟨z :: zs, ?_, by simp [p2], fun i y e => ?_⟩
    · cases a with
      | a j => exact ⟨q2, p1⟩
      | d v => exact ⟨q2, p1⟩
      | t _ => exact q2.elim
    · cases i with
      | zero =>
        have : x = y := by simpa using e
        subst this
        rw [q1]
        rfl
      | succ i => exact p3 i y (by simpa using e)
/-- the defaults of a def -/
def dflD (K : PySem.W.Frag) : Value → Option (List Value)
  | .none => some []
  | .ref T => match K.lookup T with
    | some ⟨_, _, .seq its _, _⟩ => some its.toList
    | _ => none
  | _ => none
def prmB (p : Arguments) (ps : List Str) : Bool := p.posonlyargs.isEmpty && (p.args.map (·.arg) == ps) && p.vararg.isNone && p.kwonlyargs.isEmpty && p.kwarg.isNone
/-- no object is made: what is bound, by shape -/
def Bn0 (K : PySem.W.Frag) (F : Fx) (fd : FuncData) (ps : List Str) (n : Nat) (ks : List Str) (sh : List Ar) : Prop :=
  ∀ (s : Shared) (us ws : List Value), K.In s.heap → us.length = n → ws.length = ks.length → ∃ zs, BindsTo s fd ⟨us, ks.zip ws⟩ (ps.zip zs) ∧ PkV F (us ++ ws) sh zs
theorem bnd_of0 {K : PySem.W.Frag} {F : Fx} {fd : FuncData} {ps ks : List Str} {n : Nat} {sh : List Ar} (h : Bn0 K F fd ps n ks sh) : Bnd K F fd ps n ks sh := by
  intro P w mg base A outer s H us ws vs zs E wd m ds xs e0 h1 h2 ru rz cs dn pk hl A' Ex Q hQ
  have kin : K.In s.heap := e0.mod.kin.keeps fun a u q => (e0.bs a u q).1
  obtain ⟨bs, hb, hp⟩ := h s us ws kin h1 h2
  obtain ⟨ys, ry, dy⟩ := pk_vals (ru.append rz) dn hp pk
  exact hb _ _ _ _ (hQ s H ys bs e0 Un.refl rfl (fun _ _ z => z) ry (by rw [← dy.length, hl]) ⟨wd, Grw.refl cs, dy⟩)
theorem bndI_of0 {K : PySem.W.Frag} {F : Fx} {fd : FuncData} {ps ks : List Str} {n : Nat} {sh : List Ar} (h : ∀ (s : Shared) (x : Addr) (us ws : List Value), K.In s.heap → us.length = n → ws.length = ks.length → ∃ zs, BindsTo s fd ⟨.ref x :: us, ks.zip ws⟩ (ps.zip (.ref x :: zs)) ∧ PkV F (us ++ ws) sh zs) : BndI K F fd ps n ks sh := by
  intro P w mg base A outer s H x us ws vs zs E wd m ds xs e0 h1 h2 ru rz cs dn pk hl A' Ex Q hQ
  have kin : K.In s.heap := e0.mod.kin.keeps fun a u q => (e0.bs a u q).1
  obtain ⟨bs, hb, hp⟩ := h s x us ws kin h1 h2
  obtain ⟨ys, ry, dy⟩ := pk_vals (ru.append rz) dn hp pk
  exact hb _ _ _ _ (hQ s H (.ref x :: ys) (.ref x :: bs) e0 Un.refl rfl (fun _ _ z => z) (.cons rfl ry) (by rw [List.length_cons, ← dy.length, hl]) ⟨wd, ys, rfl, Grw.refl cs, dy⟩)
theorem bn0_of {K : PySem.W.Frag} {F : Fx} {fd : FuncData} {ps ks : List Str} {n : Nat} {ds : List Value} {sh : List Ar} (hp : prmB fd.params ps = true) (hd : dflD K fd.defaults = some ds) (h : bnB ps ks n ds sh = true) : Bn0 K F fd ps n ks sh := by
  intro s us ws kin hn hk
  subst hn
  unfold prmB at hp
  simp only [Bool.and_eq_true, List.isEmpty_iff, beq_iff_eq, Option.isNone_iff_eq_none] at hp
  obtain ⟨⟨⟨⟨p1, p2⟩, p3⟩, p4⟩, p5⟩ := hp
  unfold bnB at h
  simp only [Bool.and_eq_true, decide_eq_true_eq] at h
  obtain ⟨⟨⟨⟨b1, b2⟩, b3⟩, b4⟩, b5⟩ := h
  obtain ⟨zs, z1, z2, z3⟩ := sh_of (F := F) hk b5
  unfold kwB at b3
  rw [Bool.and_eq_true, decide_eq_true_eq] at b3
  obtain ⟨k1, k2⟩ := b3
  rw [List.all_eq_true] at k1 b4
  have hkw : ∀ (pre : List (Str × Value)) k v (post : List (Str × Value)), ks.zip ws = pre ++ (k, v) :: post → ps.contains k = true ∧ (ps.zip us ++ pre).lookup k = none := by
    intro pre k v post e
    have em : (ks.zip ws).map (·.1) = ks := by
      rw [← List.unzip_fst, List.unzip_zip hk.symm]
    have ek : ks = pre.map (·.1) ++ k :: post.map (·.1) := by
      rw [← em, e]
      simp
    have hmem : k ∈ ks := by rw [ek]; simp
    have q := k1 k hmem
    rw [Bool.and_eq_true] at q
    refine ⟨q.1, ?_⟩
    rw [lookup_append', lookup_zip]
    have a1 : ((idx k ps).bind fun j => us[j]?) = none := by
      cases e1 : idx k ps with
      | none => rfl
      | some i =>
        rw [e1] at q
        have : us.length ≤ i := by simpa using q.2
        rw [Option.bind_some, List.getElem?_eq_none this]
    rw [a1]
    show pre.lookup k = none
    cases e2 : pre.lookup k with
    | none => rfl
    | some u =>
      have : (k, u) ∈ pre := PySem.mem_of_lookup e2
      have : k ∈ pre.map (·.1) := List.mem_map.mpr ⟨_, this, rfl⟩
      rw [ek, List.nodup_append] at k2
      exact (k2.2.2 k this k (by simp) rfl).elim
  have hms : ∀ x ∈ ps.take (ps.length - ds.length), (ps.zip us ++ ks.zip ws).lookup x ≠ none := by
    intro x hx
    have q := b4 x hx
    rw [lookup_append', lookup_zip, lookup_zip]
    rw [Bool.or_eq_true] at q
    rcases q with q | q
    · cases e1 : idx x ps with
      | none => rw [e1] at q; cases q
      | some i =>
        rw [e1] at q
        have : i < us.length := by simpa using q
        rw [Option.bind_some, List.getElem?_eq_getElem this]
        simp
    · obtain ⟨j, hj⟩ := Option.isSome_iff_exists.mp q
      rw [hj]
      have : j < ws.length := by rw [hk]; exact idx_lt hj
      rw [Option.bind_some, List.getElem?_eq_getElem this]
      simp
  refine ⟨zs, ?_, z1⟩
  unfold dflD at hd
  split at hd
  · rename_i e
    cases hd
    obtain ⟨kt, t1, t2⟩ := bind_of (o := none) p1 p2 p3 p4 p5 b1 b2 hkw hms z2 z3
    refine BindsTo.of_eq ?_
    rw [t1, e]
    exact t2
  · rename_i T e
    split at hd
    · rename_i oc od its m osl lT
      cases hd
      obtain ⟨kt, t1, t2⟩ := bind_of (o := some its) p1 p2 p3 p4 p5 b1 b2 hkw hms z2 z3
      refine L2.BindsTo.of_looks fun M => ?_
      rw [t1, e]
      exact L2.looks_items kin lT rfl (.of_pure t2)
    · cases hd
  · cases hd
def upA : Ar → Ar
  | .a i => .a (i + 1)
  | .d v => .d v
  | .t i => .t (i + 1)
theorem pkv_up {F : Fx} {x : Value} {all : List Value} : ∀ {sh : List Ar} {zs : List Value}, PkV F (x :: all) (sh.map upA) zs → PkV F all sh zs
  | [], [], h => trivial
  | [], _ :: _, h => h.elim
  | .a i :: sh, [], h => h.elim
  | .d v :: sh, [], h => h.elim
  | .a i :: sh, z :: zs, h => ⟨by simpa using h.1, pkv_up h.2⟩
  | .d v :: sh, z :: zs, h => ⟨h.1, pkv_up h.2⟩
  | .t i :: sh, [], h => h.elim
  | .t i :: sh, z :: zs, h => h.elim
theorem bnd_of {K : PySem.W.Frag} {F : Fx} {fd : FuncData} {ps ks : List Str} {n : Nat} {ds : List Value} {sh : List Ar} (hp : prmB fd.params ps = true) (hd : dflD K fd.defaults = some ds) (h : bnB ps ks n ds sh = true) : Bnd K F fd ps n ks sh := bnd_of0 (bn0_of hp hd h)
theorem bndI_of {K : PySem.W.Frag} {F : Fx} {fd : FuncData} {ps ks : List Str} {n : Nat} {ds : List Value} {sh : List Ar} (hp : prmB fd.params ps = true) (hd : dflD K fd.defaults = some ds) (h : bnB ps ks (n + 1) ds (.a 0 :: sh.map upA) = true) : BndI K F fd ps n ks sh := by
  refine bndI_of0 fun s x us ws kin hn hk => ?_
  obtain ⟨zs, z1, z2⟩ := bn0_of (F := F) hp hd h s (.ref x :: us) ws kin (by simp [hn]) hk
  cases zs with
  | nil => exact z2.elim
  | cons z zs =>
    obtain ⟨a1, a2⟩ := z2
    have a1 : z = .ref x := by simpa using a1.symm
    subst a1
    exact ⟨zs, z1, pkv_up a2⟩
/-! ### defs with a star parameter -/
/-- the parameters ps, the last one starred; no default -/
def stB (f : FuncData) (ps : List Str) : Bool := f.params.posonlyargs.isEmpty && (match f.params.vararg with
  | some a => f.params.args.map (·.arg) ++ [a.arg] == ps
  | none => false) && f.params.kwonlyargs.isEmpty && f.params.kwarg.isNone && decide (f.defaults = .none) && decide ps.Nodup
structure StD (f : FuncData) (qs : List Str) (pv : Str) : Prop where
  bind : ∀ us rest : List Value, us.length = qs.length → bindArgs f ⟨us ++ rest, []⟩ = (newTuple rest >>= fun t => pure (qs.zip us ++ [(pv, t)]))
theorem idx_get {x : Str} : ∀ {l : List Str} {i : Nat}, l.Nodup → l[i]? = some x → idx x l = some i
  | [], _, _, h => by simp at h
  | n :: r, 0, _, h => by
    have : n = x := by simpa using h
    subst this
    unfold idx
    simp
  | n :: r, i + 1, hd, h => by
    have h : r[i]? = some x := by simpa using h
    rw [List.nodup_cons] at hd
    unfold idx
    have : (x == n) = false := by
      cases e : (x == n) with
      | false => rfl
      | true =>
        have : x = n := by simpa using e
        subst this
        exact (hd.1 (List.mem_of_getElem? h)).elim
    rw [this]
    simp only [Bool.false_eq_true, if_false]
    rw [idx_get hd.2 h]
    rfl
theorem st_of {f : FuncData} {ps : List Str} (h : stB f ps = true) : ∃ qs pv, ps = qs ++ [pv] ∧ StD f qs pv := by
  unfold stB at h
  simp only [Bool.and_eq_true, decide_eq_true_eq, List.isEmpty_iff, Option.isNone_iff_eq_none] at h
  obtain ⟨⟨⟨⟨⟨h1, h2⟩, h3⟩, h4⟩, h5⟩, nd⟩ := h
  split at h2
  · rename_i a ea
    have h2 : f.params.args.map (·.arg) ++ [a.arg] = ps := by simpa using h2
    subst h2
    rw [List.nodup_append] at nd
    obtain ⟨nd1, _, nd2⟩ := nd
    refine ⟨f.params.args.map (·.arg), a.arg, rfl, ⟨fun us rest hl => ?_⟩⟩
    generalize hq : f.params.args.map (·.arg) = qs at *
    have zl : qs.zip (us ++ rest) = qs.zip us := by
      rw [← List.append_nil qs, List.zip_append (by simpa using hl.symm)]
      simp
    have dr : (us ++ rest).drop qs.length = rest := by rw [← hl]; simp
    have fm : qs.filterMap (fun n => ((qs.zip us).lookup n).map (n, ·)) = qs.zip us := fm_zip hl.symm fun i x e => by
      rw [lookup_zip, idx_get nd1 e]
      rfl
    have look : qs.filter (fun n => ((qs.zip us).lookup n).isNone) = [] := by
      rw [List.filter_eq_nil_iff]
      intro x hx
      obtain ⟨i, hi⟩ := List.mem_iff_getElem?.mp hx
      rw [lookup_zip, idx_get nd1 hi]
      have : i < us.length := by
        rw [hl]
        exact (List.getElem?_eq_some_iff.mp hi).1
      simp [this]
    unfold bindArgs
    simp only [h1, h3, h4, ea, hq, List.map_nil, List.nil_append, List.append_nil, zl, h5, List.forIn_nil, pure_bind]
    rw [show seqItems? Value.none = pure none from rfl]
    simp only [pure_bind, Option.isNone_some, Bool.and_false, Bool.false_eq_true, if_false, Option.getD_none, List.length_nil, Nat.zero_sub, Nat.sub_zero, List.drop_nil, List.take_length, look, List.isEmpty_nil, Bool.not_true, List.drop_length, List.zip_nil_left, List.forIn_nil, fm, dr]
  · cases h2
theorem pick_rng {ds : List Dt} : ∀ (c j : Nat) {xs : List Dt}, pick ds ((List.range' j c).map Ar.a ++ [.t (j + c)]) = some xs → xs = (ds.drop j).take c ++ [.tup (ds.drop (j + c))] ∧ (1 ≤ c → j + c ≤ ds.length) ∧ (ds.drop (j + c)).length ≤ sizeLine
  | 0, j, xs, h => by
    simp only [List.range'_zero, List.map_nil, List.nil_append, pick] at h
    split at h
    · rename_i hl
      simp only [Option.map_some, Option.some.injEq] at h
      subst h
      exact ⟨by simp, fun z => by omega, hl⟩
    · cases h
  | c + 1, j, xs, h => by
    rw [List.range'_succ, List.map_cons, List.cons_append] at h
    unfold pick at h
    cases e1 : ds[j]? with
    | none => rw [e1] at h; cases h
    | some d =>
      cases e2 : pick ds ((List.range' (j + 1) c).map Ar.a ++ [.t (j + (c + 1))]) with
      | none => rw [e1, e2] at h; cases h
      | some t =>
        rw [e1, e2] at h
        cases h
        rw [show j + (c + 1) = j + 1 + c from by omega] at e2
        obtain ⟨q1, q2, q3⟩ := pick_rng c (j + 1) e2
        obtain ⟨hj, ej⟩ := List.getElem?_eq_some_iff.mp e1
        have dj : ds.drop j = d :: ds.drop (j + 1) := by rw [← ej]; exact List.drop_eq_getElem_cons hj
        refine ⟨?_, fun _ => ?_, by rw [show j + (c + 1) = j + 1 + c from by omega]; exact q3⟩
        · rw [dj, q1, show j + (c + 1) = j + 1 + c from by omega]
          rfl
        · cases c with
          | zero => omega
          | succ c => have := q2 (by omega); omega
theorem pick_star {ds xs : List Dt} {c : Nat} (h : pick ds (starSh c) = some xs) (hc : c ≤ ds.length) : xs = ds.take c ++ [.tup (ds.drop c)] ∧ (ds.drop c).length ≤ sizeLine := by
  unfold starSh at h
  rw [List.range_eq_range', ← Nat.zero_add c] at h
  have := pick_rng c 0 (by simpa using h)
  rw [List.drop_zero, Nat.zero_add] at this
  exact ⟨this.1, this.2.2⟩
theorem Dns.split {F : Fx} {w : Wd} : ∀ {ds : List Dt} {vs : List V} (c : Nat), Dns F w ds vs → Dns F w (ds.take c) (vs.take c) ∧ Dns F w (ds.drop c) (vs.drop c)
  | [], _, c, h => by cases h; simp [Dns]
  | d :: ds, _, 0, h => ⟨by simp [Dns], by simpa using h⟩
  | d :: ds, _, c + 1, ⟨v, r, e, h, t⟩ => by
    subst e
    obtain ⟨q1, q2⟩ := Dns.split c t
    exact ⟨⟨v, _, rfl, h, q1⟩, by simpa using q2⟩
theorem Grw.tup {F : Fx} {w : Wd} {H : Hp} {m : List Dt} {p : Addr} {o : HO} (c : Cs F w H m) (h : H p = none) : Grw w ⟨upd w.G p o, w.A⟩ H (upd H p o) := by
  refine ⟨le_upd (c.new h).1, rfl, fun a u e => by rw [upd_ne (ne_of_none e h)]; exact e, fun a u e => ?_, fun a u e => ?_⟩
  · have e2 : upd w.G p o a = some u := e
    by_cases q : a = p
    · subst q
      rw [upd_same] at e2 ⊢
      exact e2
    · rw [upd_ne q] at e2 ⊢
      exact c.fr a u e2
  · by_cases q : a = p
    · subst q
      exact .inr h
    · have e2 : upd w.G p o a = some u := e
      rw [upd_ne q] at e2
      exact .inl e2
theorem vals_take : ∀ {vs : List V} {us : List Value} (c : Nat), Vals vs us → Vals (vs.take c) (us.take c) ∧ Vals (vs.drop c) (us.drop c)
  | _, _, 0, r => ⟨.nil, by simpa using r⟩
  | _, _, _ + 1, .nil => ⟨.nil, .nil⟩
  | _, _, c + 1, .cons a r => by
    obtain ⟨q1, q2⟩ := vals_take c r
    exact ⟨.cons a q1, q2⟩
/-- the core: what is bound by a star def -/
theorem star_bnd {P : Program} {w : World} {K : PySem.W.Frag} {mg : Str → Option Value} {base : Heap} {A : Around} {outer : List Env} {s : Shared} {H : Hp} {E : XK} {fd : FuncData} {qs : List Str} {pv : Str} {us : List Value} {vs : List V} {B : List V → Hp → Prop} (S : StD fd qs pv) (e0 : Env0 P w K mg base A outer s H) (r : Vals vs us) (hl : qs.length ≤ us.length) (hz : (us.drop qs.length).length ≤ sizeLine)
    (hB : ∀ p, H p = none → B (vs.take qs.length ++ [V.ref p]) (upd H p (.tup (vs.drop qs.length)))) : StX.Bnd (L2.CX P w) P w K mg base fd ⟨us, []⟩ (qs ++ [pv]) A outer s H E B := by
  intro A' Ex Q' h
  obtain ⟨r1, r2⟩ := vals_take qs.length r
  have hn : H s.heap.objs.size = Option.none := e0.hok.fresh (Nat.le_refl _)
  have hl1 : (us.take qs.length).length = qs.length := by rw [List.length_take]; omega
  have hb := S.bind (us.take qs.length) (us.drop qs.length) hl1
  rw [List.take_append_drop] at hb
  rw [hb]
  refine wpAny_bind (wpAny_newTuple (wpAny_pure ?_) hz)
  have new : ObjOk P w (upd H s.heap.objs.size (.tup (vs.drop qs.length))) (s.heap.push ({ cls := .type "tuple", data := .seq (us.drop qs.length).toArray } : Obj)) s.heap.objs.size (.tup (vs.drop qs.length)) := ⟨by rw [r2.length]; exact hz, _, r2, ⟨_, Heap.get?_push_size _ rfl, rfl, _, rfl⟩⟩
  have un := StX.un_laid (fs := frs outer) (s := s) (o := ({ cls := .type "tuple", data := .seq (us.drop qs.length).toArray } : Obj)) (u := .tup (vs.drop qs.length)) hn
  have z := h _ _ (vs.take qs.length ++ [V.ref s.heap.objs.size]) (us.take qs.length ++ [Value.ref s.heap.objs.size]) (StX.env0_laid e0 new) un rfl (fun e s' => StX.cxUp outer s H _ _ E e s' un (fun b o q => Heap.get?_push_of_some _ q) rfl) (r1.append (.cons rfl .nil))
    (by rw [List.length_append, List.length_append, r1.length, hl1] <;> rfl) (hB _ hn)
  rw [List.zip_append hl1.symm] at z
  exact z
theorem bnd_star {K : PySem.W.Frag} {F : Fx} {fd : FuncData} {ps : List Str} {n : Nat} (h : stB fd ps = true) (hn : ps.length ≤ n + 1) : Bnd K F fd ps n [] (starSh (ps.length - 1)) := by
  obtain ⟨qs, pv, rfl, S⟩ := st_of h
  have hq : (qs ++ [pv]).length - 1 = qs.length := by simp
  rw [hq]
  intro P w mg base A outer s H us ws vs zs E wd m ds xs e0 h1 h2 ru rz cs dn pk hl
  have hn : qs.length ≤ n := by simpa using hn
  cases ws with
  | cons _ _ => cases h2
  | nil =>
  cases rz
  rw [List.append_nil] at dn
  have l1 : ds.length = us.length := by rw [dn.length, ru.length]
  obtain ⟨e1, e2⟩ := pick_star pk (by omega)
  obtain ⟨d1, d2⟩ := Dns.split qs.length dn
  refine star_bnd S e0 ru (by omega) (by rw [List.length_drop, ← l1, ← List.length_drop]; exact e2) fun p hp => ⟨_, Grw.tup cs hp, ?_⟩
  have le : Le wd ⟨upd wd.G p (.tup (vs.drop qs.length)), wd.A⟩ := le_upd (cs.new hp).1
  rw [e1]
  refine Dns.append (Dns.mono le _ d1) ⟨_, [], rfl, ⟨p, vs.drop qs.length, rfl, .inl (.inl ?_), Dns.mono le _ d2⟩, rfl⟩
  exact upd_same
theorem bndI_star {K : PySem.W.Frag} {F : Fx} {fd : FuncData} {ps : List Str} {n : Nat} (h : stB fd ps = true) (hn : ps.length ≤ n + 2) (h2 : 2 ≤ ps.length) : BndI K F fd ps n [] (starSh (ps.length - 2)) := by
  obtain ⟨qs, pv, rfl, S⟩ := st_of h
  have hl2 : 1 ≤ qs.length := by simpa using h2
  have hn : qs.length ≤ n + 1 := by simpa using hn
  have hq : (qs ++ [pv]).length - 2 = qs.length - 1 := by simp
  rw [hq]
  intro P w mg base A outer s H x us ws vs zs E wd m ds xs e0 h1 h2 ru rz cs dn pk hl
  cases ws with
  | cons _ _ => cases h2
  | nil =>
  cases rz
  rw [List.append_nil] at dn
  have l1 : ds.length = us.length := by rw [dn.length, ru.length]
  obtain ⟨e1, e2⟩ := pick_star pk (by omega)
  obtain ⟨d1, d2⟩ := Dns.split (qs.length - 1) dn
  obtain ⟨c, hc⟩ : ∃ c, qs.length = c + 1 := ⟨qs.length - 1, by omega⟩
  rw [hc, Nat.add_sub_cancel] at e1 e2 d1 d2
  refine star_bnd S e0 (.cons (show RelV (.ref x) (.ref x) from rfl) ru) (by simp; omega) (by rw [hc, List.drop_succ_cons, List.length_drop, ← l1, ← List.length_drop]; exact e2) fun p hp => ?_
  rw [hc, List.take_succ_cons, List.drop_succ_cons]
  have le : Le wd ⟨upd wd.G p (.tup (vs.drop c)), wd.A⟩ := le_upd (cs.new hp).1
  refine ⟨_, _, rfl, Grw.tup cs hp, ?_⟩
  rw [e1]
  refine Dns.append (Dns.mono le _ d1) ⟨_, [], rfl, ⟨p, vs.drop c, rfl, .inl (.inl ?_), Dns.mono le _ d2⟩, rfl⟩
  exact upd_same
end PyI
namespace PyI
open PySem PySem.Spec PyProof.Rows L2
/-! ### the table of a program, read off the written part -/
inductive Fat where
  | glob (x : Str) | meth (c : Nat) (m : Str) | prop (c : Nat) (m : Str) | stat (c : Nat) (m : Str)
structure TbD where
  I : Nf
  fat : List (Fat × List Str × List Str)
  cnm : List Str
def wrF (K : PySem.W.Frag) (p : Addr) (T : String) : Addr := match PySem.W.recIn K p T with
  | some (.ref g :: _) => g
  | _ => 0
def TbD.ca (T : TbD) (K : PySem.W.Frag) (c : Nat) : Addr := He.ga K (T.cnm.getD c Str.empty)
def TbD.fa (T : TbD) (K : PySem.W.Frag) (g : Nat) : Addr := match T.fat[g]? with
  | some (.glob x, _) => He.ga K x
  | some (.meth c m, _) => He.ma K (T.ca K c) m
  | some (.prop c m, _) => wrF K (He.ma K (T.ca K c) m) "property"
  | some (.stat c m, _) => wrF K (He.ma K (T.ca K c) m) "staticmethod"
  | none => 0
abbrev TbD.fx (T : TbD) (K : PySem.W.Frag) : Fx := ⟨K, T.ca K, T.fa K⟩
def vOO (a b : Option (Option Value)) : Bool := decide (a = b)
theorem vOO_of {a b : Option (Option Value)} (h : vOO a b = true) : a = b := of_decide_eq_true h
def opB (T : TbD) (K : PySem.W.Frag) (C : Addr) (op : Operator) (nm : String) : Bool :=
  PySem.W.selfFirst K C && (match PySem.W.findIn K (.ref C) (dunderR nm) with
    | some none => true
    | some (some (.ref _)) => true
    | _ => false) &&
  bTys.all (fun t => (PySem.W.findIn K (.type t) (PySem.dunder nm)).isSome && (PySem.W.findIn K (.type t) (dunderR nm)).isSome && decide (PySem.W.subIn K (.type t) (.ref C) = some false)) &&
  (List.range T.I.P.cl.length).all (fun c' => decide (T.ca K c' = C) || (match T.I.P.cl[c']? with | some x' => !noOpM x' op | none => false) || noOpB K (T.ca K c') nm) && noInB K C nm
theorem op_of {T : TbD} {K : PySem.W.Frag} {C : Addr} {op : Operator} {nm : String} (h : opB T K C op nm = true) : OpF K (T.fx K) T.I.P C op nm := by
  unfold opB at h
  simp only [Bool.and_eq_true, Bool.or_eq_true] at h
  obtain ⟨⟨⟨⟨h1, h2⟩, h3⟩, h4⟩, h5⟩ := h
  rw [List.all_eq_true] at h3 h4
  refine ⟨h1, ?_, fun t ht => ?_, fun c' x' e => ?_, h5⟩
  · split at h2
    · rename_i e
      exact ⟨_, e, .inl rfl⟩
    · rename_i g e
      exact ⟨_, e, .inr ⟨g, rfl⟩⟩
    · cases h2
  · have q := h3 t ht
    simp only [Bool.and_eq_true, decide_eq_true_eq] at q
    exact ⟨Option.isSome_iff_exists.mp q.1.1, Option.isSome_iff_exists.mp q.1.2, q.2⟩
  · have q := h4 c' (List.mem_range.mpr (List.getElem?_eq_some_iff.mp e).1)
    rw [e, Bool.or_eq_true, Bool.or_eq_true, decide_eq_true_eq] at q
    by_cases z : T.ca K c' = C
    · exact .inl z
    · rcases q with (q | q) | q
      · exact (z q).elim
      · exact .inr (.inl (by simpa using q))
      · exact .inr (.inr ⟨fun y => z y.symm, q⟩)
theorem opMeth_mem {op : Operator} {nm : Str} (h : opMeth op = some nm) : op ∈ [Operator.Add, .Sub, .Mult, .RShift] := by
  cases op <;> first | decide | (cases h)
/-- a class -/
def clB (T : TbD) (K : PySem.W.Frag) (c : Nat) (x : ClD) : Bool :=
  PySem.W.plainGet K (T.ca K c) Str.empty && PySem.W.hasDictIn K (T.ca K c) && PySem.W.plainOver K (T.ca K c) && vOO (PySem.W.findIn K (.ref (T.ca K c)) "__setattr__") (some (some (.builtin "object.__setattr__"))) &&
  vOO (PySem.W.findIn K (.ref (T.ca K c)) "__class__") (some (some (.builtin "object.__class__"))) && vOO (PySem.W.specialIn K (.builtin "object.__class__") "__get__") (some (some (.builtin "getset_descriptor.__get__"))) &&
  decide (PySem.W.takesIn K (.builtin "object.__class__") = some true) && decide (PySem.W.mroIn K (T.ca K c) (.type "object") = some true) &&
  x.meth.all (fun q => vOO (PySem.W.findIn K (.ref (T.ca K c)) q.1) (some (some (.ref (T.fa K q.2)))) && PySem.W.isFn K (.ref (T.fa K q.2)) && PySem.W.keepIn K (.ref (T.fa K q.2))) &&
  x.prop.all (fun q => vOO (PySem.W.findIn K (.ref (T.ca K c)) q.1) (some (some (.ref (He.ma K (T.ca K c) q.1)))) && vOO (PySem.W.specialIn K (.ref (He.ma K (T.ca K c) q.1)) "__get__") (some (some (.builtin "property.__get__"))) && decide (PySem.W.takesIn K (.ref (He.ma K (T.ca K c) q.1)) = some true) &&
    (match PySem.W.recIn K (He.ma K (T.ca K c) q.1) "property" with
    | some (.ref g :: _) => decide (g = T.fa K q.2)
    | _ => false)) &&
  x.stat.all (fun q => PySem.W.readsIn K (T.ca K c) (.type "type") && vOO (PySem.W.specialIn K (.ref (T.ca K c)) "__getattribute__") (some (some (.builtin "type.__getattribute__"))) && (match PySem.W.findCls K (.ref (T.ca K c)) (.type "type") q.1 with
    | some (.get (.builtin g) (.ref p) .none (.ref D)) => decide (g = "staticmethod.__get__") && decide (D = T.ca K c) && (match PySem.W.recIn K p "staticmethod" with
      | some (.ref f :: _) => decide (f = T.fa K q.2)
      | _ => false)
    | _ => false) && PySem.W.keepIn K (.ref (T.fa K q.2))) &&
  x.flds.all (fun f => vOO (PySem.W.findIn K (.ref (T.ca K c)) f) (some none)) &&
  bTys.all (fun t => PySem.W.notFirst K (T.ca K c) (.type t) && decide (PySem.W.kitOne K (.type t) (.ref (T.ca K c)) = some false) && decide (PySem.W.kitOne K (.ref (T.ca K c)) (.type t) = some false)) &&
  (List.range T.I.P.cl.length).all (fun c' => (!(x.meth.lookup ("__eq__" : Str)).isSome || PySem.W.notFirst K (T.ca K c) (.ref (T.ca K c'))) && decide (PySem.W.kitOne K (.ref (T.ca K c)) (.ref (T.ca K c')) = some (x.up.contains c'))) &&
  bTys.all (fun t => decide (PySem.W.subIn K (.ref (T.ca K c)) (.type t) = some false)) &&
  [Operator.Add, .Sub, .Mult, .RShift].all (fun op => !((opMeth op).bind (x.meth.lookup ·)).isSome || opB T K (T.ca K c) op op.info.2) &&
  (match x.meth.lookup ("__call__" : Str) with
    | some g => PySem.W.fnIn K (T.fa K g)
    | none => true) &&
  (!x.bare || (PySem.W.makesIn K (T.ca K c) && vOO (PySem.W.findIn K (.ref (T.ca K c)) "__init__") (some (some (.builtin "object.__init__"))) && PySem.W.keepIn K (.ref (T.ca K c))))
theorem lookup_all {β : Type} {x : Str} {b : β} {l : List (Str × β)} (h : l.lookup x = some b) : (x, b) ∈ l := PySem.mem_of_lookup h
theorem cl_of {T : TbD} {K : PySem.W.Frag} {c : Nat} {x : ClD} (h : clB T K c x = true) : ClT K (T.fx K) T.I.P c x := by
  unfold clB at h
  simp only [Bool.and_eq_true, decide_eq_true_eq] at h
  obtain ⟨⟨⟨⟨⟨⟨⟨⟨⟨⟨⟨⟨⟨⟨⟨⟨⟨h1, h2⟩, h3⟩, h4⟩, h5⟩, h6⟩, h7⟩, h8⟩, h9⟩, h10⟩, h11⟩, h12⟩, h13⟩, h14⟩, h15⟩, h16⟩, h18⟩, h17⟩ := h
  rw [List.all_eq_true] at h9 h10 h11 h12 h13 h14 h15 h16
  refine ⟨⟨h1, h2, h3, vOO_of h4⟩, vOO_of h5, vOO_of h6, h7, h8, fun m g e => ?_, fun m g e => ?_, fun m g e => ?_, fun f hf => vOO_of (h12 f hf), fun t ht => ?_, fun g he c' x' e => ?_, fun t ht => ?_, fun t ht => ?_, fun c' x' e => ?_, fun t ht => of_decide_eq_true (h15 t ht), fun op g e => ?_, fun hb => ?_, fun g e => by rw [e] at h18; exact h18⟩
  · have q := h9 (m, g) (lookup_all e)
    simp only [Bool.and_eq_true] at q
    exact ⟨vOO_of q.1.1, q.1.2, q.2⟩
  · have q := h10 (m, g) (lookup_all e)
    simp only [Bool.and_eq_true, decide_eq_true_eq] at q
    obtain ⟨⟨⟨q1, q2⟩, q3⟩, q4⟩ := q
    refine ⟨_, vOO_of q1, vOO_of q2, q3, ?_⟩
    split at q4
    · rename_i g' rest e'
      have : g' = T.fa K g := by simpa using q4
      subst this
      exact ⟨rest, e'⟩
    · cases q4
  · have q := h11 (m, g) (lookup_all e)
    simp only [Bool.and_eq_true] at q
    obtain ⟨⟨⟨q1, q2⟩, q3⟩, q4⟩ := q
    refine ⟨⟨q1, vOO_of q2⟩, ?_, q4⟩
    split at q3
    · rename_i g' p D e'
      simp only [Bool.and_eq_true, decide_eq_true_eq] at q3
      obtain ⟨⟨k1, k2⟩, k3⟩ := q3
      subst k1
      subst k2
      split at k3
      · rename_i f' rest e2
        have : f' = T.fa K g := by simpa using k3
        subst this
        exact ⟨p, e', rest, e2⟩
      · cases k3
    · cases q3
  · have q := h13 t ht
    simp only [Bool.and_eq_true] at q
    exact q.1.1
  · have q := h14 c' (List.mem_range.mpr (List.getElem?_eq_some_iff.mp e).1)
    rw [Bool.and_eq_true, he] at q
    simpa using q.1
  · have q := h13 t ht
    simp only [Bool.and_eq_true, decide_eq_true_eq] at q
    exact q.1.2
  · have q := h13 t ht
    simp only [Bool.and_eq_true, decide_eq_true_eq] at q
    exact q.2
  · have q := h14 c' (List.mem_range.mpr (List.getElem?_eq_some_iff.mp e).1)
    simp only [Bool.and_eq_true, decide_eq_true_eq] at q
    exact q.2
  · obtain ⟨nm, e1, _⟩ := Option.bind_eq_some_iff.mp e
    have q := h16 op (opMeth_mem e1)
    rw [e] at q
    exact op_of (by simpa using q)
  · rw [hb] at h17
    simp only [Bool.not_true, Bool.false_or, Bool.and_eq_true] at h17
    exact ⟨h17.1.1, vOO_of h17.1.2, h17.2⟩
def scB (N ps : List Str) (sc : Scope) : Bool := (match sc.kind with
  | .function => true
  | _ => false) && !sc.isCoroutine && !sc.isGenerator && decide N.Nodup && (N.take ps.length == ps) && ps.all (fun x => locB sc x) && sc.names.all (fun y => match y.2 with
  | .free => false
  | _ => true)
theorem sc_of {N ps : List Str} {sc : Scope} (h : scB N ps sc = true) : FnScope N ps sc := by
  unfold scB at h
  simp only [Bool.and_eq_true, Bool.not_eq_true', decide_eq_true_eq, beq_iff_eq] at h
  obtain ⟨⟨⟨⟨⟨⟨h1, h2⟩, h3⟩, h4⟩, h5⟩, h6⟩, h7⟩ := h
  rw [List.all_eq_true] at h6 h7
  refine ⟨?_, h2, h3, h4, h5, fun x hx => locB_of (h6 x hx), fun y hy e => ?_⟩
  · split at h1
    · assumption
    · cases h1
  · have q := h7 y hy
    rw [e] at q
    cases q
/-- a def, its shapes by bn -/
def fnB (T : TbD) (K : PySem.W.Frag) (fa : Addr) (N ps : List Str) (fd : FnD) (bn : FuncData → Bool) : Bool := match K.lookup fa with
  | some ⟨_, _, .func f, _⟩ => (match f.body with
    | .stmts body => decide (f.globals = mainGlobals) && f.closure.isEmpty && decide (f.builtins = builtinsNs) && PySem.W.codeIn K f.code f.qualname && scB N ps f.scope && decide (N.length = fd.n) && decide (ps.length = fd.k) && bn f && mss { T.I with N := N } f.scope false fd.b body
    | _ => false)
  | _ => false
theorem fn_of' {T : TbD} {K : PySem.W.Frag} {fa : Addr} {N ps : List Str} {fd : FnD} {bn : FuncData → Bool} (h : fnB T K fa N ps fd bn = true) : ∃ (scope : Scope) (body : List Stmt), N.length = fd.n ∧ ps.length = fd.k ∧ mss { T.I with N := N } scope false fd.b body = true ∧
    FnT K fa N ps scope body fun D => bn D = true := by
  unfold fnB at h
  cases e : K.lookup fa with
  | none => rw [e] at h; cases h
  | some o =>
    rw [e] at h
    obtain ⟨oc, od, dt, osl⟩ := o
    cases dt with
    | func f =>
      obtain ⟨n1, n2, n3, n4, n5, n6, n7, n8, n9, n10, n11, n12, n13, n14, n15⟩ := f
      cases n4 with
      | stmts body =>
        simp only [Bool.and_eq_true, decide_eq_true_eq, List.isEmpty_iff] at h
        obtain ⟨⟨⟨⟨⟨⟨⟨⟨h1, h2⟩, h3⟩, h4⟩, h5⟩, h6⟩, h7⟩, h8⟩, h9⟩ := h
        subst h1 h2 h3
        refine ⟨n5, body, h6, h7, h9, ⟨n1, n2, n3, oc, od, n8, n9, n10, n11, n12, n13, n14, osl, e, h4, h8⟩, sc_of h5⟩
      | expr _ => cases h
    | _ => cases h
/-! ### all of it -/
structure Tab (K : PySem.W.Frag) (mg : Str → Option Value) (F : Fx) (I : Nf) : Prop where
  hK : K = F.K
  cls : ClsT K F I.P
  pok : PgOk I.P
  gf : ∀ x i, I.gf.lookup x = some i → mg x = some (.ref (F.fa i)) ∧ PySem.W.keepIn K (.ref (F.fa i)) = true
  gc : ∀ x i, I.gc.lookup x = some i → mg x = some (.ref (F.ca i)) ∧ PySem.W.keepIn K (.ref (F.ca i)) = true
  gl : ∀ x d, I.gd.lookup x = some d → ∃ u v, mg x = some u ∧ RelV v u ∧ ∀ w, Dn F w d v
  bn : ∀ x, x ∈ I.bn → mg x = none
  fn : ∀ g n ks sh, I.P.shf g n ks = some sh → ∃ fd, I.P.fn[g]? = some fd ∧ ∃ N ps scope body, N.length = fd.n ∧ ps.length = fd.k ∧ mss { I with N := N } scope false fd.b body = true ∧ FnT K (F.fa g) N ps scope body fun D => Bnd K F D ps n ks sh
  cl : ∀ c n ks sh, I.P.shc c n ks = some sh → ∃ cd fd, I.P.cl[c]? = some cd ∧ I.P.fn[cd.init]? = some fd ∧ Mk K (F.ca c) (F.fa cd.init) ∧ ∃ N ps scope body, N.length = fd.n ∧ ps.length = fd.k ∧ mss { I with N := N } scope false fd.b body = true ∧ FnT K (F.fa cd.init) N ps scope body fun D => BndI K F D ps n ks sh
section
variable {P : Program} {w : World} {K : PySem.W.Frag} {mg : Str → Option Value} {base : Heap} {F : Fx} {I : Nf}
theorem CalG.mono {j k : Nat} {f : Addr} {n : Nat} {ks : List Str} {sp : Sp} (h : CalG P w K mg base j f n ks sp) (l : j ≤ k) : CalG P w K mg base k f n ks sp :=
  fun A outer s H us ws vs zs Q E hr => h A outer s H us ws vs zs Q E (hr.mono l)
/-- the runs of every fuel keep their promises -/
theorem tab_glo (T : Tab K mg F I) : ∀ n, Glo P w K mg base F I (6 * n) (runs I.P n).1 (runs I.P n).2
  | 0 => by
    refine ⟨T.hK, T.cls, fun g n ks sh e => ?_, fun c n ks sh e => ?_, T.pok, T.gf, T.gc, T.gl, T.bn⟩
    · rintro A outer s H us ws vs zs Q E _ _ _ _ _ _ _ ⟨_, _, _, _, _, _, _, z⟩
      exact z.elim
    · obtain ⟨cd, fd, _, f1, f2, _⟩ := T.cl c n ks sh e
      refine ⟨_, f2, ?_⟩
      rintro A outer s H us ws vs zs Q E _ _ _ _ _ _ _ ⟨_, _, _, _, _, _, _, _, _, _, _, _, _, _, _, _, _, z, _⟩
      exact z.elim
  | n + 1 => by
    have G := tab_glo T n
    refine ⟨T.hK, T.cls, fun g m ks sh e => ?_, fun c m ks sh e => ?_, T.pok, T.gf, T.gc, T.gl, T.bn⟩
    · obtain ⟨fd, e1, N, ps, scope, body, f1, f2, f3, f4⟩ := T.fn g m ks sh e
      exact (cal_fn G e1 f4 f1 f2 f3).mono (by omega)
    · obtain ⟨cd, fd, e1, f0, m0, N, ps, scope, body, f1, f2, f3, f4⟩ := T.cl c m ks sh e
      exact ⟨_, m0, (cal_init G e1 f0 f4 f1 f2 f3).mono (by omega)⟩
end
/-! ### the checker of the whole table -/
def isTwo (m : Str) : Bool := m == ("__eq__" : Str) || m == ("__contains__" : Str) || m == ("__add__" : Str) || m == ("__sub__" : Str) || m == ("__mul__" : Str) || m == ("__rshift__" : Str)
theorem two_not {m : Str} (h : isTwo m = true) : (m == ("__len__" : Str) || m == ("__str__" : Str) || m == ("__repr__" : Str)) = false := by
  unfold isTwo at h
  simp only [Bool.or_eq_true, beq_iff_eq] at h
  rcases h with ((((h | h) | h) | h) | h) | h <;> subst h <;> decide +kernel
def pgB (P : Pg) : Bool := P.cl.all fun x => x.prop.all (fun q => shEq (P.shf q.2 1 []) selfSh) && x.meth.all (fun q => if q.1 == ("__len__" : Str) || q.1 == ("__str__" : Str) || q.1 == ("__repr__" : Str) then shEq (P.shf q.2 1 []) selfSh else if isTwo q.1 then shEq (P.shf q.2 2 []) eqSh else true)
where
  shEq : Option (List Ar) → List Ar → Bool
  | some l, r => arsEq l r
  | none, _ => false
  arsEq : List Ar → List Ar → Bool
  | [], [] => true
  | .a i :: l, .a j :: r => decide (i = j) && arsEq l r
  | _, _ => false
theorem arsEq_of : ∀ {l r : List Ar}, pgB.arsEq l r = true → l = r
  | [], [], _ => rfl
  | [], _ :: _, h => by simp [pgB.arsEq] at h
  | .a _ :: _, [], h => by simp [pgB.arsEq] at h
  | .d _ :: _, _, h => by simp [pgB.arsEq] at h
  | .t _ :: _, _, h => by simp [pgB.arsEq] at h
  | .a i :: l, .t j :: r, h => by simp [pgB.arsEq] at h
  | .a i :: l, .d j :: r, h => by simp [pgB.arsEq] at h
  | .a i :: l, .a j :: r, h => by
    simp only [pgB.arsEq, Bool.and_eq_true, decide_eq_true_eq] at h
    rw [h.1, arsEq_of h.2]
theorem shEq_of {o : Option (List Ar)} {r : List Ar} (h : pgB.shEq o r = true) : o = some r := by
  cases o with
  | none => simp [pgB.shEq] at h
  | some l =>
    simp only [pgB.shEq] at h
    rw [arsEq_of h]
theorem pg_ok {P : Pg} (h : pgB P = true) : PgOk P := by
  unfold pgB at h
  rw [List.all_eq_true] at h
  have two : ∀ c g m, isTwo m = true → P.meth c m = some g → P.shf g 2 [] = some eqSh := by
    intro c g m hm e
    obtain ⟨x, e1, e2⟩ := meth_cl e
    have q := h x (List.mem_of_getElem? e1)
    rw [Bool.and_eq_true, List.all_eq_true, List.all_eq_true] at q
    have q := q.2 (m, g) (lookup_all e2)
    simp only [two_not hm, hm, if_true, Bool.false_eq_true, if_false] at q
    exact shEq_of q
  refine ⟨fun c fl g e => ?_, fun c g m hm e => ?_, fun c g m hm e => ?_, fun op c g e => ?_⟩
  · unfold Pg.prop at e
    cases e1 : P.cl[c]? with
    | none => rw [e1] at e; cases e
    | some x =>
      rw [e1] at e
      have q := h x (List.mem_of_getElem? e1)
      rw [Bool.and_eq_true, List.all_eq_true] at q
      exact shEq_of (q.1 (fl, g) (lookup_all e))
  · obtain ⟨x, e1, e2⟩ := meth_cl e
    have q := h x (List.mem_of_getElem? e1)
    rw [Bool.and_eq_true, List.all_eq_true, List.all_eq_true] at q
    have q := q.2 (m, g) (lookup_all e2)
    have hc : (m == ("__len__" : Str) || m == ("__str__" : Str) || m == ("__repr__" : Str)) = true := by
      rcases hm with z | z | z <;> simp [z]
    simp only [hc, if_true] at q
    exact shEq_of q
  · exact two c g m (by rcases hm with z | z <;> subst z <;> decide +kernel) e
  · obtain ⟨nm, e1, e2⟩ := Option.bind_eq_some_iff.mp e
    exact two c g nm (by cases op <;> cases e1 <;> decide +kernel) e2
def valsB : List Dt → List Value → Bool
  | [], [] => true
  | d :: ds, u :: us => valB d u && valsB ds us
  | _, _ => false
theorem vals_of {F : Fx} : ∀ {ds : List Dt} {us : List Value}, valsB ds us = true → ∃ xs, Vals xs us ∧ ∀ w, Dns F w ds xs
  | [], us, h => by
    cases us with
    | nil => exact ⟨[], .nil, fun _ => rfl⟩
    | cons _ _ => simp [valsB] at h
  | d :: ds, us, h => by
    cases us with
    | nil => simp [valsB] at h
    | cons u us =>
      simp only [valsB, Bool.and_eq_true] at h
      obtain ⟨x, h1, h2⟩ := val_of (F := F) h.1
      obtain ⟨xs, h3, h4⟩ := vals_of (F := F) h.2
      exact ⟨x :: xs, .cons h1 h3, fun w => ⟨x, xs, rfl, h2 w, h4 w⟩⟩
/-- a constant of the module: flat, or a tuple of such -/
def tvB (K : PySem.W.Frag) (d : Dt) (u : Value) : Bool := match d, u with
  | .tup ds, .ref a => (match K.lookup a with
    | some o => (match o.data with
      | .seq its _ => decide (o.cls = .type "tuple") && decide (its.size ≤ sizeLine) && valsB ds its.toList
      | _ => false)
    | none => false)
  | d, u => valB d u
theorem tv_of {F : Fx} {d : Dt} {u : Value} (h : tvB F.K d u = true) : ∃ x, RelV x u ∧ ∀ w, Dn F w d x := by
  unfold tvB at h
  split at h
  · rename_i ds a
    split at h
    · rename_i o eo
      split at h
      · rename_i its n ed
        simp only [Bool.and_eq_true, decide_eq_true_eq] at h
        obtain ⟨xs, h3, h4⟩ := vals_of (F := F) h.2
        exact ⟨.ref a, rfl, fun w => ⟨a, xs, rfl, .inr ⟨o, its, n, eo, h.1.1, ed, h.1.2, h3⟩, h4 w⟩⟩
      · cases h
    · cases h
  · exact val_of h
def nsB (K : PySem.W.Frag) (x : Str) (d : Dt) : Bool := match PySem.W.nsIn K mainGlobals x with
  | some (some u) => tvB K d u
  | _ => false
/-- shapes of a def, of a class -/
def dflB (K : PySem.W.Frag) (ps : List Str) (f : FuncData) (b : List Value → Bool) : Bool := prmB f.params ps && (match dflD K f.defaults with
  | some ds => b ds
  | none => false)
theorem dfl_of {K : PySem.W.Frag} {ps : List Str} {f : FuncData} {b : List Value → Bool} (h : dflB K ps f b = true) : prmB f.params ps = true ∧ ∃ ds, dflD K f.defaults = some ds ∧ b ds = true := by
  unfold dflB at h
  rw [Bool.and_eq_true] at h
  refine ⟨h.1, ?_⟩
  cases e2 : dflD K f.defaults with
  | none => rw [e2] at h; cases h.2
  | some ds => rw [e2] at h; exact ⟨ds, rfl, h.2⟩
def shsB (K : PySem.W.Frag) (ps : List Str) (fd : FnD) (f : FuncData) : Bool := if fd.st = true then stB f ps else dflB K ps f fun ds => fd.shs.all fun t => bnB ps t.2.1 t.1 ds t.2.2
def shsI (K : PySem.W.Frag) (ps : List Str) (shs : List (Nat × List Str × List Ar)) (fd : FnD) (f : FuncData) : Bool := if fd.st = true then stB f ps else dflB K ps f fun ds => shs.all fun t => bnB ps t.2.1 (t.1 + 1) ds (.a 0 :: t.2.2.map upA)
def stC (P : Pg) (x : ClD) : Bool := match P.fn[x.init]? with
  | some fd => fd.st
  | none => false
def fnsB (T : TbD) (K : PySem.W.Frag) : Nat → List FnD → Bool
  | _, [] => true
  | g, fd :: r => (match T.fat[g]? with
    | some (_, N, ps) => fnB T K (T.fa K g) N ps fd (shsB K ps fd)
    | none => false) && fnsB T K (g + 1) r
def clsB (T : TbD) (K : PySem.W.Frag) : Nat → List ClD → Bool
  | _, [] => true
  | c, x :: r => clB T K c x && ((x.shs.isEmpty && !stC T.I.P x) || (PySem.W.makesIn K (T.ca K c) && vOO (PySem.W.findIn K (.ref (T.ca K c)) "__init__") (some (some (.ref (T.fa K x.init)))) && PySem.W.isFn K (.ref (T.fa K x.init)) && PySem.W.keepIn K (.ref (T.ca K c)) && (match T.fat[x.init]?, T.I.P.fn[x.init]? with
    | some (_, N, ps), some fd => fnB T K (T.fa K x.init) N ps fd (shsI K ps x.shs fd)
    | _, _ => false))) && clsB T K (c + 1) r
def tabB (T : TbD) (K : PySem.W.Frag) : Bool :=
  T.I.gf.all (fun q => vOO (PySem.W.nsIn K mainGlobals q.1) (some (some (.ref (T.fa K q.2)))) && PySem.W.keepIn K (.ref (T.fa K q.2))) &&
  T.I.gc.all (fun q => vOO (PySem.W.nsIn K mainGlobals q.1) (some (some (.ref (T.ca K q.2)))) && PySem.W.keepIn K (.ref (T.ca K q.2))) &&
  T.I.gd.all (fun q => nsB K q.1 q.2) && T.I.bn.all (fun x => vOO (PySem.W.nsIn K mainGlobals x) (some none)) && fnsB T K 0 T.I.P.fn && clsB T K 0 T.I.P.cl
theorem fns_of {T : TbD} {K : PySem.W.Frag} : ∀ {l : List FnD} {g0 : Nat}, fnsB T K g0 l = true → ∀ (i : Nat) fd, l[i]? = some fd → ∃ a N ps, T.fat[g0 + i]? = some (a, N, ps) ∧ fnB T K (T.fa K (g0 + i)) N ps fd (shsB K ps fd) = true
  | [], _, _, i, fd, e => by simp at e
  | f :: r, g0, h, i, fd, e => by
    simp only [fnsB, Bool.and_eq_true] at h
    cases i with
    | zero =>
      have e : f = fd := by simpa using e
      subst e
      have h1 := h.1
      split at h1
      · rename_i a N ps e2
        exact ⟨a, N, ps, e2, h1⟩
      · cases h1
    | succ i =>
      have := fns_of h.2 i fd (by simpa using e)
      rwa [show g0 + 1 + i = g0 + (i + 1) from by omega] at this
theorem cls_of {T : TbD} {K : PySem.W.Frag} : ∀ {l : List ClD} {c0 : Nat}, clsB T K c0 l = true → ∀ (i : Nat) x, l[i]? = some x → clB T K (c0 + i) x = true ∧ ((x.shs.isEmpty && !stC T.I.P x) = true ∨ (Mk K (T.ca K (c0 + i)) (T.fa K x.init) ∧ ∃ a N ps fd, T.fat[x.init]? = some (a, N, ps) ∧ T.I.P.fn[x.init]? = some fd ∧ fnB T K (T.fa K x.init) N ps fd (shsI K ps x.shs fd) = true))
  | [], _, _, i, x, e => by simp at e
  | y :: r, c0, h, i, x, e => by
    rw [clsB, Bool.and_eq_true, Bool.and_eq_true, Bool.or_eq_true] at h
    cases i with
    | zero =>
      have e : y = x := by simpa using e
      subst e
      refine ⟨h.1.1, ?_⟩
      rcases h.1.2 with q | q
      · exact .inl q
      · simp only [Bool.and_eq_true] at q
        obtain ⟨⟨⟨⟨q1, q2⟩, q3⟩, q4⟩, q5⟩ := q
        refine .inr ⟨⟨q1, vOO_of q2, q3, q4⟩, ?_⟩
        split at q5
        · rename_i a N ps fd e1 e2
          exact ⟨a, N, ps, fd, e1, e2, q5⟩
        · cases q5
    | succ i =>
      have := cls_of h.2 i x (by simpa using e)
      rwa [show c0 + 1 + i = c0 + (i + 1) from by omega] at this
theorem tab_of {T : TbD} {K : PySem.W.Frag} {h : Heap} {mg : Str → Option Value} (X : K.In h) (G : h.Ns mainGlobals mg) (hp : pgB T.I.P = true) (hb : tabB T K = true) : Tab K mg (T.fx K) T.I := by
  unfold tabB at hb
  simp only [Bool.and_eq_true] at hb
  obtain ⟨⟨⟨⟨⟨h1, h2⟩, h3⟩, h4⟩, h5⟩, h6⟩ := hb
  rw [List.all_eq_true] at h1 h2 h3 h4
  refine ⟨rfl, fun c x e => ?_, pg_ok hp, fun x i e => ?_, fun x i e => ?_, fun x d e => ?_, fun x hx => PySem.W.mg_none_of X G (vOO_of (h4 x hx)), fun g n ks sh hs => ?_, fun c n ks sh hs => ?_⟩
  · have := (cls_of h6 c x e).1
    rw [Nat.zero_add] at this
    exact cl_of this
  · have q := h1 (x, i) (lookup_all e)
    rw [Bool.and_eq_true] at q
    exact ⟨PySem.W.mg_of X G (vOO_of q.1), q.2⟩
  · have q := h2 (x, i) (lookup_all e)
    rw [Bool.and_eq_true] at q
    exact ⟨PySem.W.mg_of X G (vOO_of q.1), q.2⟩
  · have q := h3 (x, d) (lookup_all e)
    unfold nsB at q
    split at q
    · rename_i u eu
      obtain ⟨v, q1, q2⟩ := tv_of (F := T.fx K) q
      exact ⟨u, v, PySem.W.mg_of X G eu, q1, q2⟩
    · cases q
  · unfold Pg.shf at hs
    cases e : T.I.P.fn[g]? with
    | none => rw [e] at hs; cases hs
    | some fd =>
    rw [e, Option.bind_some] at hs
    obtain ⟨a, N, ps, e1, e2⟩ := fns_of h5 g fd e
    rw [Nat.zero_add] at e2
    obtain ⟨scope, body, f1, f2, f3, f4⟩ := fn_of' e2
    refine ⟨fd, rfl, N, ps, scope, body, f1, f2, f3, ?_, f4.sc⟩
    obtain ⟨name, qual, params, oc, od, dV, kV, doc, pm, an, cdv, ct, osl, l1, l2, l3⟩ := f4.ex
    refine ⟨name, qual, params, oc, od, dV, kV, doc, pm, an, cdv, ct, osl, l1, l2, ?_⟩
    unfold shsB at l3
    split at l3
    · rename_i hst
      rw [if_pos hst] at hs
      split at hs
      · rename_i hh
        obtain ⟨rfl, hh1, hh2⟩ := hh
        cases hs
        rw [← f2] at hh1 ⊢
        exact bnd_star l3 hh1
      · cases hs
    · rename_i hst
      rw [if_neg hst] at hs
      obtain ⟨l4, ds, l5, l6⟩ := dfl_of l3
      rw [List.all_eq_true] at l6
      exact bnd_of l4 l5 (l6 (n, ks, sh) (shOf_mem hs))
  · have hc : ∃ cd, T.I.P.cl[c]? = some cd := by
      unfold Pg.shc Pg.stI at hs
      cases e : T.I.P.cl[c]? with
      | none => rw [e] at hs; cases hs
      | some cd => exact ⟨cd, rfl⟩
    obtain ⟨cd, e⟩ := hc
    unfold Pg.shc Pg.stI at hs
    rw [e] at hs
    dsimp only at hs
    rcases (cls_of h6 c cd e).2 with q | ⟨q1, a, N, ps, fd, e1, e2, e3⟩
    · rw [Bool.and_eq_true, List.isEmpty_iff] at q
      have q2 : stC T.I.P cd = false := by simpa using q.2
      unfold stC at q2
      have z : shOf n ks cd.shs = some sh := by
        cases e2 : T.I.P.fn[cd.init]? with
        | none => rw [e2] at hs; exact hs
        | some fd =>
          rw [e2] at hs q2
          dsimp only at hs q2
          rw [q2] at hs
          exact hs
      have := shOf_mem z
      rw [q.1] at this
      cases this
    · rw [Nat.zero_add] at q1
      obtain ⟨scope, body, f1, f2, f3, f4⟩ := fn_of' e3
      refine ⟨cd, fd, e, e2, q1, N, ps, scope, body, f1, f2, f3, ?_, f4.sc⟩
      obtain ⟨name, qual, params, oc, od, dV, kV, doc, pm, an, cdv, ct, osl, l1, l2, l3⟩ := f4.ex
      refine ⟨name, qual, params, oc, od, dV, kV, doc, pm, an, cdv, ct, osl, l1, l2, ?_⟩
      rw [e2] at hs
      dsimp only at hs
      unfold shsI at l3
      split at l3
      · rename_i hst
        rw [if_pos hst] at hs
        dsimp only at hs
        split at hs
        · rename_i hh
          obtain ⟨rfl, hh1, hh2⟩ := hh
          cases hs
          rw [← f2] at hh1 hh2 ⊢
          exact bndI_star l3 hh1 hh2
        · cases hs
      · rename_i hst
        rw [if_neg hst] at hs
        obtain ⟨l4, ds, l5, l6⟩ := dfl_of l3
        rw [List.all_eq_true] at l6
        exact bndI_of l4 l5 (l6 (n, ks, sh) (shOf_mem hs))
end PyI
namespace PyI
open PySem PySem.Spec PyProof.Rows L2
/-! ### the end: the law's def is called -/
/-- what is tracked ahead of the call: the script at most -/
structure Pre (K : PySem.W.Frag) (H : Hp) (a : Addr) (ns : List Int) : Prop where
  only : ∀ b, H b = none ∨ ∃ o xs, H b = some (.frz o (.lst xs))
  sq : SqL K H a (ns.map V.int)
theorem end_core {P : Program} {w : World} {K : PySem.W.Frag} {mg mb : Str → Option Value} {k : Nat} {fa a : Addr} {sp : Sp} {s1 : Shared} {vs : List Value} {ns : List Int} {H : Hp}
    (kin : K.In s1.heap) (gns : s1.heap.Ns mainGlobals mg) (bns : s1.heap.Ns builtinsNs mb) (bb : ∀ x : Str, x ≠ "__name__" → mb x = bootBuiltins x) (lim : s1.heap.NoLimit) (gens : s1.gens = #[])
    (lst : s1.heap.get? a = some { cls := .type "list", data := .seq vs.toArray }) (room : Room k callerA) (C : ∀ base : Heap, CalG P w K mg base k fa 1 [] sp)
    (pre : Pre K H a ns) (hsp : sp [.ref a] H (fun v _ => v = .bl true) fun _ _ _ => False) (ok : HOk P w H s1.heap) (only : ∀ b, H b ≠ none → b = a) (notK : H a ≠ none → K.lookup a = none) :
    codeAny (model P w) callerA (.call (.ref fa) ⟨[.ref a], []⟩) (fun r s' => r = .ok (.ret (.bool true)) ∧ OldK s1.heap s'.heap ∧ s'.os = s1.os ∧ AllBare s'.gens) s1 := by
  have free : ∀ {b : Addr} {o : Obj} {es : Array DictEntry} {ep : Nat}, s1.heap.get? b = some o → o.data = .dict es ep → H b = none := by
    intro b o es ep q1 q2
    cases q : H b with
    | none => rfl
    | some u =>
      have eb := only b (by rw [q]; simp)
      rw [eb, lst] at q1
      cases q1
      cases q2
  have toB : ∀ {b : Addr} {m : Str → Option Value}, s1.heap.Ns b m → (hidT s1.heap H).Ns b m := fun ⟨o, es, ep, q1, q2, q3⟩ => ⟨o, es, ep, hidT_get q1 (free q1 q2), q2, q3⟩
  have kinB : K.In (hidT s1.heap H) := by
    intro b o q1
    refine hidT_get (kin b o q1) ?_
    cases q : H b with
    | none => rfl
    | some u =>
      have eb := only b (by rw [q]; simp)
      rw [eb] at q q1
      rw [notK (by rw [q]; simp)] at q1
      cases q1
  obtain ⟨mc, lim1, lim2⟩ := lim
  have env0 : Env0 P w K mg (hidT s1.heap H) callerA [] s1 H :=
    ⟨rfl, ⟨kinB, toB gns, ⟨mb, toB bns, bb⟩, mc, toB lim1, lim2⟩, fun b o q => of_hidT q, Nat.le_of_eq (hidT_size _ _), trivial, fun b q => (nomatch (show b ∈ ([] : List Addr) from q)), ok, .of_eq gens⟩
  refine codeAny_mono (C _ callerA [] s1 H [.ref a] [] [.ref a] [] _ _ room rfl env0 rfl rfl (.cons rfl .nil) .nil hsp) fun r s' res => ?_
  cases r with
  | error e =>
    obtain ⟨_, _, _, _, _, _, _, _, _, _, _, _, z⟩ := res
    exact z.elim
  | ok fl =>
    cases fl with
    | ret u =>
      obtain ⟨v, H', os, bare, un, ok2, rv, q⟩ := res
      have q : v = .bl true := q
      subst q
      have rv : u = Value.bool true := rv
      subst rv
      refine ⟨rfl, OldK.of_keep fun b o q1 => ?_, os, bare⟩
      rcases pre.only b with z | ⟨ob, xs, z⟩
      · exact un.keep b o q1 z (fun y => (nomatch (show b ∈ ([] : List Addr) from y))) (by simp)
      · obtain ⟨k1, _⟩ := ok b _ z
        obtain ⟨k2, _⟩ := ok2 b _ (un.frzs b ob _ z)
        rw [q1] at k1
        cases k1
        exact k2
    | next => exact res.elim
    | brk => exact res.elim
    | cont => exact res.elim
theorem end_call {P : Program} {w : World} {K : PySem.W.Frag} {mg mb : Str → Option Value} {k : Nat} {fa a : Addr} {sp : Sp} {s1 : Shared} {vs : List Value} {ns : List Int}
    (kin : K.In s1.heap) (gns : s1.heap.Ns mainGlobals mg) (bns : s1.heap.Ns builtinsNs mb) (bb : ∀ x : Str, x ≠ "__name__" → mb x = bootBuiltins x) (lim : s1.heap.NoLimit) (gens : s1.gens = #[])
    (lst : s1.heap.get? a = some { cls := .type "list", data := .seq vs.toArray }) (hin : IntsAre vs ns) (small : ns.length ≤ sizeLine) (room : Room k callerA) (C : ∀ base : Heap, CalG P w K mg base k fa 1 [] sp)
    (hsp : ∀ H : Hp, Pre K H a ns → sp [.ref a] H (fun v _ => v = .bl true) fun _ _ _ => False) :
    codeAny (model P w) callerA (.call (.ref fa) ⟨[.ref a], []⟩) (fun r s' => r = .ok (.ret (.bool true)) ∧ OldK s1.heap s'.heap ∧ s'.os = s1.os ∧ AllBare s'.gens) s1 := by
  have rv := vals_ints hin
  have ln := hin.length
  cases q : K.lookup a with
  | some o =>
    have q1 := kin a o q
    rw [lst] at q1
    cases q1
    have pre : Pre K (fun _ => none) a ns := ⟨fun _ => .inl rfl, .inr ⟨_, vs.toArray, _, q, rfl, rfl, rfl, by rw [List.size_toArray, ln]; exact small, by simpa using rv⟩⟩
    exact end_core kin gns bns bb lim gens lst room C pre (hsp _ pre) (fun b u z => nomatch (show (none : Option HO) = some u from z)) (fun b z => absurd rfl z) fun z => absurd rfl z
  | none =>
    let H : Hp := fun b => if b = a then some (.frz { cls := .type "list", data := .seq vs.toArray } (.lst (ns.map V.int))) else none
    have hs : H a = some (.frz { cls := .type "list", data := .seq vs.toArray } (.lst (ns.map V.int))) := if_pos rfl
    have hn : ∀ b, b ≠ a → H b = none := fun b z => if_neg z
    have pre : Pre K H a ns := by
      refine ⟨fun b => ?_, .inl (.inr ⟨_, hs⟩)⟩
      by_cases z : b = a
      · subst z
        exact .inr ⟨_, _, hs⟩
      · exact .inl (hn b z)
    refine end_core kin gns bns bb lim gens lst room C pre (hsp _ pre) (fun b u z => ?_) (fun b z => ?_) fun _ => q
    · by_cases y : b = a
      · subst y
        rw [hs] at z
        cases z
        exact ⟨lst, by rw [List.length_map]; exact small, vs, _, rv, lst⟩
      · rw [hn b y] at z
        cases z
    · by_cases y : b = a
      · exact y
      · exact absurd (hn b y) z
/-! ### the head's look: one Bool of the written part -/
def asP (g : Addr → Option Obj) : Nat → List Addr
  | 0 => [mainGlobals, cStatics]
  | n + 1 => He.growG g (asP g n)
def hookB (n : Nat) (ck : PySem.W.Frag → Bool) : PySem.W.Hook where
  α := Bool
  obs := fun s => ck (He.frG s.heap.get? (asP s.heap.get? n))
  val := fun _ => true
  says := fun _ h => ∃ K : PySem.W.Frag, K.In h ∧ ck K = true
  of := fun _ _ e => ⟨_, He.frG_in, e⟩
  keeps := fun _ _ _ ⟨K, hK, c⟩ k => ⟨K, PySem.W.Frag.In.keeps hK k, c⟩
def obB (n : Nat) (ck : PySem.W.Frag → Bool) (s : PySem.W.SharedT) : Bool := ck (He.frG (HandSHeadRun.getT s) (asP (HandSHeadRun.getT s) n))
theorem obB_eq {n : Nat} {ck : PySem.W.Frag → Bool} (s : PySem.W.SharedT) : obB n ck s = (hookB n ck).obs s.abs := by
  have e : HandSHeadRun.getT s = s.abs.heap.get? := funext (HandSHeadRun.getT_eq s)
  show ck (He.frG (HandSHeadRun.getT s) (asP (HandSHeadRun.getT s) n)) = ck (He.frG s.abs.heap.get? (asP s.abs.heap.get? n))
  rw [e]
/-- the same look, at addresses that are told -/
def hookL (as : List Addr) (ck : PySem.W.Frag → Bool) : PySem.W.Hook where
  α := Bool
  obs := fun s => ck (He.frG s.heap.get? as)
  val := fun _ => true
  says := fun _ h => ∃ K : PySem.W.Frag, K.In h ∧ ck K = true
  of := fun _ _ e => ⟨_, He.frG_in, e⟩
  keeps := fun _ _ _ ⟨K, hK, c⟩ k => ⟨K, PySem.W.Frag.In.keeps hK k, c⟩
def obL (as : List Addr) (ck : PySem.W.Frag → Bool) (s : PySem.W.SharedT) : Bool := ck (He.frG (HandSHeadRun.getT s) as)
theorem obL_eq {as : List Addr} {ck : PySem.W.Frag → Bool} (s : PySem.W.SharedT) : obL as ck s = (hookL as ck).obs s.abs := by
  have e : HandSHeadRun.getT s = s.abs.heap.get? := funext (HandSHeadRun.getT_eq s)
  show ck (He.frG (HandSHeadRun.getT s) as) = ck (He.frG s.abs.heap.get? as)
  rw [e]
/-- the law holds where its run answers True for every script -/
theorem walk_run {l : PySem.W.OpenLaw} {q : Program} {loose : List Str} {XP : (Str → Option Value) → Heap → Prop} {d : DefRec} {n fuel g : Nat} {T : TbD} (hn : l.most = some n) (hn2 : n ≤ sizeLine) (hdf : d.params.defaults = []) (room : Room (6 * fuel) callerA)
    (hp : pgB T.I.P = true) (hg : T.I.gf.lookup d.name = some g) (hs : T.I.P.shf g 1 [] = some selfSh)
    (hrun : ∀ ns : List Int, ns.length ≤ n → ∃ m, (runs T.I.P fuel).1 g [.scr ns] [] = .ok (.p (.bl true)) m) :
    PySem.W.WalkO q loose XP (fun _ h => ∃ K : PySem.W.Frag, K.In h ∧ tabB T K = true) l.row.toRowW d [] (fun f vs => PySem.call f vs) := by
  refine Att.attach_call hn hdf fun w s₀ s1 mg mb fa o pm cd doc a vs ns G Y ho hd hcd hmg hobj hints hlen hgn => ?_
  obtain ⟨K, kin, ck⟩ := Y
  have tb : Tab K mg (T.fx K) T.I := tab_of kin G.T.g hp ck
  have efa : fa = T.fa K g := by
    have z := (tb.gf _ _ hg).1
    rw [hmg] at z
    cases z
    rfl
  subst efa
  refine end_call (sp := spS (T.fx K) ((runs T.I.P fuel).1 g) selfSh) kin G.T.g G.T.b G.T.builtins G.T.nolimit hgn hobj hints (Nat.le_trans hlen hn2) room (fun base => (tab_glo tb fuel).fns g 1 [] selfSh hs) fun H pre => ?_
  obtain ⟨m, em⟩ := hrun ns hlen
  refine ⟨⟨H, []⟩, [], [.scr ns], [.scr ns], ⟨fun _ _ z => z, List.nodup_nil, rfl, fun _ z => (nomatch z), fun j b e z _ => (by simp at z)⟩, ⟨.ref a, [], rfl, ⟨a, rfl, pre.sq⟩, rfl⟩, rfl, ?_⟩
  rw [em]
  intro v w' H' _ _ vb
  exact vb
end PyI
namespace K15
open PySem PyI
abbrev i__wall : Nat := 0
abbrev i_is_integer : Nat := 1
abbrev i_is_count : Nat := 2
abbrev i_is_count_from : Nat := 3
abbrev i_is_list : Nat := 4
abbrev i_is_decimal : Nat := 5
abbrev i_want_width : Nat := 6
abbrev i_want_fill : Nat := 7
abbrev i_is_extent_word : Nat := 8
abbrev i_Fill___init__ : Nat := 9
abbrev i_Fill_read : Nat := 10
abbrev i_Fill_word : Nat := 11
abbrev i_Fill_extent : Nat := 12
abbrev i_Fill_cut : Nat := 13
abbrev i_Fill_covers : Nat := 14
abbrev i_Fill___eq__ : Nat := 15
abbrev i_Fill___str__ : Nat := 16
abbrev i_Fill___repr__ : Nat := 17
abbrev i_is_bit : Nat := 18
abbrev i_want_bits : Nat := 19
abbrev i_filled : Nat := 20
abbrev i_plain_fills : Nat := 21
abbrev i_Work___init__ : Nat := 22
abbrev i_Work_fills : Nat := 23
abbrev i_Work___len__ : Nat := 24
abbrev i_Work___add__ : Nat := 25
abbrev i_Work_plain : Nat := 26
abbrev i_Work_is_like : Nat := 27
abbrev i_Work___call__ : Nat := 28
abbrev i_Work___eq__ : Nat := 29
abbrev i_Work___repr__ : Nat := 30
abbrev i_is_group : Nat := 31
abbrev i_is_alignment : Nat := 32
abbrev i_Place_bits : Nat := 33
abbrev i_Register___init__ : Nat := 34
abbrev i_Register_group : Nat := 35
abbrev i_Register_number : Nat := 36
abbrev i_Register_bits : Nat := 37
abbrev i_Register___eq__ : Nat := 38
abbrev i_Register___repr__ : Nat := 39
abbrev i_Slots___init__ : Nat := 40
abbrev i_Slots_offset : Nat := 41
abbrev i_Slots_many : Nat := 42
abbrev i_Slots_end : Nat := 43
abbrev i_Slots_bits : Nat := 44
abbrev i_Slots___contains__ : Nat := 45
abbrev i_Slots_meets : Nat := 46
abbrev i_Slots___add__ : Nat := 47
abbrev i_Slots___sub__ : Nat := 48
abbrev i_Slots___eq__ : Nat := 49
abbrev i_Slots___repr__ : Nat := 50
abbrev i_Next___init__ : Nat := 51
abbrev i_Next_align : Nat := 52
abbrev i_Next_many : Nat := 53
abbrev i_Next_bits : Nat := 54
abbrev i_Next_from_offset : Nat := 55
abbrev i_Next___eq__ : Nat := 56
abbrev i_Next___repr__ : Nat := 57
abbrev i_l_pot : Nat := 58
abbrev i_l_draw : Nat := 59
abbrev i_l_pick : Nat := 60
abbrev i_l_place : Nat := 61
abbrev i_l_fill : Nat := 62
abbrev i_l_work : Nat := 63
abbrev i_l_set : Nat := 64
abbrev i_l_alone_right : Nat := 65
abbrev i_l_shows : Nat := 66
abbrev i_l_pair_right : Nat := 67
abbrev i_l_right : Nat := 68
abbrev i_law : Nat := 69
abbrev j_Fill : Nat := 0
abbrev j_Work : Nat := 1
abbrev j_Place : Nat := 2
abbrev j_Register : Nat := 3
abbrev j_Slots : Nat := 4
abbrev j_Next : Nat := 5
/-- _wall -/
abbrev b__wall : List Sm := [.whl 100000 (.cst (.bl true)) [.pas]]
abbrev f__wall : FnD := ⟨1, 1, false, [(1, [], [.a 0])], b__wall, false⟩
def a__wall : Fat × List Str × List Str := (.glob "_wall", ["k"], ["k"])
/-- is_integer -/
abbrev b_is_integer : List Sm := [.ret (.and2 (.isi (.var 0) [.int]) (.not1 (.isi (.var 0) [.bool])))]
abbrev f_is_integer : FnD := ⟨1, 1, false, [(1, [], [.a 0])], b_is_integer, false⟩
def a_is_integer : Fat × List Str × List Str := (.glob "is_integer", ["value"], ["value"])
/-- is_count -/
abbrev b_is_count : List Sm := [.ret (.and2 (.call i_is_integer [] [(.var 0)]) (.cmp .GtE (.var 0) (.cst (.int 0))))]
abbrev f_is_count : FnD := ⟨1, 1, false, [(1, [], [.a 0])], b_is_count, false⟩
def a_is_count : Fat × List Str × List Str := (.glob "is_count", ["value"], ["value"])
/-- is_count_from -/
abbrev b_is_count_from : List Sm := [.ret (.and2 (.call i_is_count [] [(.var 0)]) (.chn .LtE .LtE (.var 1) (.var 0) (.var 2)))]
abbrev f_is_count_from : FnD := ⟨3, 3, false, [(3, [], [.a 0, .a 1, .a 2])], b_is_count_from, false⟩
def a_is_count_from : Fat × List Str × List Str := (.glob "is_count_from", ["value", "least", "most"], ["value", "least", "most"])
/-- is_list -/
abbrev b_is_list : List Sm := [.ret (.isi (.var 0) [.list, .tuple])]
abbrev f_is_list : FnD := ⟨1, 1, false, [(1, [], [.a 0])], b_is_list, false⟩
def a_is_list : Fat × List Str × List Str := (.glob "is_list", ["value"], ["value"])
/-- is_decimal -/
abbrev b_is_decimal : List Sm := [.iff (.or2 (.cmp .Eq (.var 0) (.cst (.str ""))) (.not1 (.bi .all [(.comp (.cmp .In (.var 1) (.glo "DIGITS" (.str "0123456789"))) [1] (.nm 1) (.var 0) (.cst (.bl true)))]))) [.ret (.cst (.bl false))] [], .ret (.or2 (.cmp .Eq (.var 0) (.cst (.str "0"))) (.cmp .NotEq (.ix (.var 0) (.cst (.int 0))) (.cst (.str "0"))))]
abbrev f_is_decimal : FnD := ⟨1, 2, false, [(1, [], [.a 0])], b_is_decimal, false⟩
def a_is_decimal : Fat × List Str × List Str := (.glob "is_decimal", ["text", "sign"], ["text"])
/-- want_width -/
abbrev b_want_width : List Sm := [.iff (.not1 (.call i_is_count_from [] [(.var 0), (.glo "LEAST_WIDTH" (.int 2)), (.glo "MOST_EXTENT" (.int 128))])) [.nev] []]
abbrev f_want_width : FnD := ⟨1, 1, false, [(1, [], [.a 0])], b_want_width, false⟩
def a_want_width : Fat × List Str × List Str := (.glob "want_width", ["width"], ["width"])
/-- want_fill -/
abbrev b_want_fill : List Sm := [.iff (.not1 (.isi (.var 0) [.own j_Fill])) [.nev] []]
abbrev f_want_fill : FnD := ⟨1, 1, false, [(1, [], [.a 0])], b_want_fill, false⟩
def a_want_fill : Fat × List Str × List Str := (.glob "want_fill", ["value"], ["value"])
/-- is_extent_word -/
abbrev b_is_extent_word : List Sm := [.ret (.and2 (.call i_is_decimal [] [(.var 0)]) (.and2 (.cmp .LtE (.bi .len [(.var 0)]) (.bi .len [(.bi .str [(.glo "MOST_EXTENT" (.int 128))])])) (.chn .LtE .LtE (.glo "LEAST_EXTENT" (.int 3)) (.bi .int [(.var 0)]) (.glo "MOST_EXTENT" (.int 128)))))]
abbrev f_is_extent_word : FnD := ⟨1, 1, false, [(1, [], [.a 0])], b_is_extent_word, false⟩
def a_is_extent_word : Fat × List Str × List Str := (.glob "is_extent_word", ["word"], ["word"])
/-- __init__ -/
abbrev b_Fill___init__ : List Sm := [.iff (.or2 (.not1 (.isi (.var 1) [.str])) (.cmp .NotIn (.var 1) (.tup [(.glo "FREE" (.str "free")), (.glo "ZEROS" (.str "zeros")), (.glo "SIGN" (.str "sign"))]))) [.nev] [], .iff (.and2 (.cmp .Eq (.var 1) (.glo "FREE" (.str "free"))) (.cmp .IsNot (.var 2) (.cst (.non)))) [.nev] [], .iff (.and2 (.cmp .NotEq (.var 1) (.glo "FREE" (.str "free"))) (.not1 (.call i_is_count_from [] [(.var 2), (.glo "LEAST_EXTENT" (.int 3)), (.glo "MOST_EXTENT" (.int 128))]))) [.nev] [], .fld "own_word" (.var 1), .fld "own_extent" (.var 2)]
abbrev f_Fill___init__ : FnD := ⟨3, 3, false, [], b_Fill___init__, false⟩
def a_Fill___init__ : Fat × List Str × List Str := (.meth 0 "__init__", ["self", "word", "extent"], ["self", "word", "extent"])
/-- read -/
abbrev b_Fill_read : List Sm := [.asg (.nm 1) (.ife (.isi (.var 0) [.str]) (.split (.var 0) (.cst (.str " "))) (.lst [])), .iff (.cmp .Eq (.var 1) (.lst [(.glo "FREE" (.str "free"))])) [.ret (.make j_Fill [] [])] [], .iff (.or2 (.cmp .NotEq (.bi .len [(.var 1)]) (.cst (.int 2))) (.or2 (.cmp .NotIn (.ix (.var 1) (.cst (.int 0))) (.tup [(.glo "ZEROS" (.str "zeros")), (.glo "SIGN" (.str "sign"))])) (.not1 (.call i_is_extent_word [] [(.ix (.var 1) (.cst (.int 1)))])))) [.nev] [], .ret (.make j_Fill [] [(.ix (.var 1) (.cst (.int 0))), (.bi .int [(.ix (.var 1) (.cst (.int 1)))])])]
abbrev f_Fill_read : FnD := ⟨1, 2, false, [], b_Fill_read, false⟩
def a_Fill_read : Fat × List Str × List Str := (.stat 0 "read", ["text", "words"], ["text"])
/-- word -/
abbrev b_Fill_word : List Sm := [.ret (.fld (.var 0) "own_word")]
abbrev f_Fill_word : FnD := ⟨1, 1, false, [(1, [], [.a 0])], b_Fill_word, false⟩
def a_Fill_word : Fat × List Str × List Str := (.prop 0 "word", ["self"], ["self"])
/-- extent -/
abbrev b_Fill_extent : List Sm := [.ret (.fld (.var 0) "own_extent")]
abbrev f_Fill_extent : FnD := ⟨1, 1, false, [(1, [], [.a 0])], b_Fill_extent, false⟩
def a_Fill_extent : Fat × List Str × List Str := (.prop 0 "extent", ["self"], ["self"])
/-- cut -/
abbrev b_Fill_cut : List Sm := [.exp (.call i_want_width [] [(.var 1)]), .iff (.not1 (.call i_is_count_from [] [(.var 2), (.var 1), (.glo "MOST_EXTENT" (.int 128))])) [.nev] [], .iff (.cmp .Eq (.fld (.var 0) "own_word") (.glo "FREE" (.str "free"))) [.ret (.make j_Fill [] [])] [], .asg (.nm 3) (.ife (.cmp .Lt (.var 2) (.fld (.var 0) "own_extent")) (.var 2) (.fld (.var 0) "own_extent")), .ret (.ife (.cmp .Gt (.var 3) (.var 1)) (.make j_Fill [] [(.fld (.var 0) "own_word"), (.var 3)]) (.make j_Fill [] []))]
abbrev f_Fill_cut : FnD := ⟨3, 4, false, [(3, [], [.a 0, .a 1, .a 2])], b_Fill_cut, false⟩
def a_Fill_cut : Fat × List Str × List Str := (.meth 0 "cut", ["self", "width", "bits", "extent"], ["self", "width", "bits"])
/-- covers -/
abbrev b_Fill_covers : List Sm := [.exp (.call i_want_fill [] [(.var 1)]), .iff (.cmp .Eq (.fld (.var 1) "word") (.glo "FREE" (.str "free"))) [.ret (.cst (.bl true))] [], .ret (.and2 (.cmp .Eq (.fld (.var 0) "own_word") (.fld (.var 1) "word")) (.cmp .GtE (.fld (.var 0) "own_extent") (.fld (.var 1) "extent")))]
abbrev f_Fill_covers : FnD := ⟨2, 2, false, [(2, [], [.a 0, .a 1])], b_Fill_covers, false⟩
def a_Fill_covers : Fat × List Str × List Str := (.meth 0 "covers", ["self", "other"], ["self", "other"])
/-- __eq__ -/
abbrev b_Fill___eq__ : List Sm := [.iff (.not1 (.isi (.var 1) [.own j_Fill])) [.ret (.cst (.bl false))] [], .ret (.and2 (.cmp .Eq (.fld (.var 0) "own_word") (.fld (.var 1) "own_word")) (.cmp .Eq (.fld (.var 0) "own_extent") (.fld (.var 1) "own_extent")))]
abbrev f_Fill___eq__ : FnD := ⟨2, 2, false, [(2, [], [.a 0, .a 1])], b_Fill___eq__, false⟩
def a_Fill___eq__ : Fat × List Str × List Str := (.meth 0 "__eq__", ["self", "other"], ["self", "other"])
/-- __str__ -/
abbrev b_Fill___str__ : List Sm := [.iff (.cmp .Eq (.fld (.var 0) "own_word") (.glo "FREE" (.str "free"))) [.ret (.cst (.str "free"))] [], .ret (.fst [(.fms (.fld (.var 0) "own_word")), (.cst (.str " ")), (.fms (.fld (.var 0) "own_extent"))])]
abbrev f_Fill___str__ : FnD := ⟨1, 1, false, [(1, [], [.a 0])], b_Fill___str__, false⟩
def a_Fill___str__ : Fat × List Str × List Str := (.meth 0 "__str__", ["self"], ["self"])
/-- __repr__ -/
abbrev b_Fill___repr__ : List Sm := [.iff (.cmp .Eq (.fld (.var 0) "own_word") (.glo "FREE" (.str "free"))) [.ret (.fst [(.cst (.str "Fill(")), (.fmr (.fld (.var 0) "own_word")), (.cst (.str ")"))])] [], .ret (.fst [(.cst (.str "Fill(")), (.fmr (.fld (.var 0) "own_word")), (.cst (.str ", ")), (.fmr (.fld (.var 0) "own_extent")), (.cst (.str ")"))])]
abbrev f_Fill___repr__ : FnD := ⟨1, 1, false, [(1, [], [.a 0])], b_Fill___repr__, false⟩
def a_Fill___repr__ : Fat × List Str × List Str := (.meth 0 "__repr__", ["self"], ["self"])
/-- is_bit -/
abbrev b_is_bit : List Sm := [.ret (.or2 (.cmp .Is (.var 0) (.cst (.non))) (.and2 (.call i_is_integer [] [(.var 0)]) (.chn .LtE .LtE (.cst (.int 0)) (.var 0) (.cst (.int 1)))))]
abbrev f_is_bit : FnD := ⟨1, 1, false, [(1, [], [.a 0])], b_is_bit, false⟩
def a_is_bit : Fat × List Str × List Str := (.glob "is_bit", ["value"], ["value"])
/-- want_bits -/
abbrev b_want_bits : List Sm := [.iff (.not1 (.call i_is_list [] [(.var 0)])) [.nev] [], .for_ (.tp [(.nm 1), (.nm 2)]) (.enm (.var 0)) [.iff (.not1 (.call i_is_bit [] [(.var 2)])) [.nev] []]]
abbrev f_want_bits : FnD := ⟨1, 3, false, [(1, [], [.a 0])], b_want_bits, false⟩
def a_want_bits : Fat × List Str × List Str := (.glob "want_bits", ["bits", "position", "bit"], ["bits"])
/-- filled -/
abbrev b_filled : List Sm := [.asgO 3 (.bi .list [(.var 0)]), .iff (.cmp .NotEq (.fld (.var 2) "word") (.glo "FREE" (.str "free"))) [.for_ (.nm 4) (.rng2 (.var 1) (.bi .min [(.fld (.var 2) "extent"), (.lenB 3)])) [.putB 3 (.var 4) (.ife (.cmp .Eq (.fld (.var 2) "word") (.glo "ZEROS" (.str "zeros"))) (.cst (.int 0)) (.ixB 3 (.bin .Sub (.var 1) (.cst (.int 1)))))]] [], .retO 3]
abbrev f_filled : FnD := ⟨3, 5, false, [(3, [], [.a 0, .a 1, .a 2])], b_filled, false⟩
def a_filled : Fat × List Str × List Str := (.glob "filled", ["row", "width", "fill", "found", "place"], ["row", "width", "fill"])
/-- plain_fills -/
abbrev b_plain_fills : List Sm := [.asgO 1 (.lst []), .for_ (.nm 2) (.rev (.var 0)) [.iff (.bor (.or2 (.cmp .Eq (.var 1) (.lst [])) (.cmp .Gt (.fld (.var 2) "extent") (.fld (.ixB 1 (.neg (.cst (.int 1)))) "extent")))) [.iff (.bor (.and2 (.cmp .NotEq (.var 1) (.lst [])) (.cmp .Eq (.fld (.var 2) "word") (.fld (.ixB 1 (.neg (.cst (.int 1)))) "word")))) [.pop 1] [], .app 1 (.var 2)] []], .ret (.rev (.var 1))]
abbrev f_plain_fills : FnD := ⟨1, 3, false, [(1, [], [.a 0])], b_plain_fills, false⟩
def a_plain_fills : Fat × List Str × List Str := (.glob "plain_fills", ["fills", "found", "fill"], ["fills"])
/-- __init__ -/
abbrev b_Work___init__ : List Sm := [.for_ (.tp [(.nm 2), (.nm 3)]) (.enm (.var 1)) [.iff (.or2 (.not1 (.isi (.var 3) [.own j_Fill])) (.cmp .Eq (.fld (.var 3) "word") (.glo "FREE" (.str "free")))) [.nev] []], .iff (.cmp .Gt (.bi .len [(.var 1)]) (.glo "MOST_FILLS" (.int 126))) [.nev] [], .fld "own_fills" (.bi .list [(.var 1)])]
abbrev f_Work___init__ : FnD := ⟨2, 4, false, [], b_Work___init__, true⟩
def a_Work___init__ : Fat × List Str × List Str := (.meth 1 "__init__", ["self", "fills", "position", "fill"], ["self", "fills"])
/-- fills -/
abbrev b_Work_fills : List Sm := [.retF (.bi .list [(.fld (.var 0) "own_fills")])]
abbrev f_Work_fills : FnD := ⟨1, 1, false, [], b_Work_fills, false⟩
def a_Work_fills : Fat × List Str × List Str := (.meth 1 "fills", ["self"], ["self"])
/-- __len__ -/
abbrev b_Work___len__ : List Sm := [.ret (.bi .len [(.fld (.var 0) "own_fills")])]
abbrev f_Work___len__ : FnD := ⟨1, 1, false, [(1, [], [.a 0])], b_Work___len__, false⟩
def a_Work___len__ : Fat × List Str × List Str := (.meth 1 "__len__", ["self"], ["self"])
/-- __add__ -/
abbrev b_Work___add__ : List Sm := [.iff (.isi (.var 1) [.own j_Work]) [.ret (.makeS j_Work [(.star (.fld (.var 0) "own_fills")), (.star (.fld (.var 1) "own_fills"))])] [], .iff (.not1 (.isi (.var 1) [.own j_Fill])) [.nev] [], .asg (.nm 2) (.ife (.cmp .Eq (.fld (.var 1) "word") (.glo "FREE" (.str "free"))) (.lst []) (.lst [(.var 1)])), .ret (.makeS j_Work [(.star (.fld (.var 0) "own_fills")), (.star (.var 2))])]
abbrev f_Work___add__ : FnD := ⟨2, 3, false, [(2, [], [.a 0, .a 1])], b_Work___add__, false⟩
def a_Work___add__ : Fat × List Str × List Str := (.meth 1 "__add__", ["self", "other", "more"], ["self", "other"])
/-- plain -/
abbrev b_Work_plain : List Sm := [.asg (.nm 1) (.call i_plain_fills [] [(.fld (.var 0) "own_fills")]), .ret (.makeS j_Work [(.star (.var 1))])]
abbrev f_Work_plain : FnD := ⟨1, 2, false, [(1, [], [.a 0])], b_Work_plain, false⟩
def a_Work_plain : Fat × List Str × List Str := (.meth 1 "plain", ["self", "fills"], ["self"])
/-- is_like -/
abbrev b_Work_is_like : List Sm := [.iff (.not1 (.isi (.var 1) [.own j_Work])) [.nev] [], .ret (.cmp .Eq (.meth (.var 0) "plain" [] []) (.meth (.var 1) "plain" [] []))]
abbrev f_Work_is_like : FnD := ⟨2, 2, false, [(2, [], [.a 0, .a 1])], b_Work_is_like, false⟩
def a_Work_is_like : Fat × List Str × List Str := (.meth 1 "is_like", ["self", "other"], ["self", "other"])
/-- __call__ -/
abbrev b_Work___call__ : List Sm := [.exp (.call i_want_bits [] [(.var 1)]), .exp (.call i_want_width [] [(.var 2)]), .asgO 3 (.bi .list [(.var 1)]), .for_ (.nm 4) (.fld (.var 0) "own_fills") [.asgF 3 (.call i_filled [] [(.var 3), (.var 2), (.var 4)])], .retO 3]
abbrev f_Work___call__ : FnD := ⟨3, 5, false, [(3, [], [.a 0, .a 1, .a 2])], b_Work___call__, false⟩
def a_Work___call__ : Fat × List Str × List Str := (.meth 1 "__call__", ["self", "row", "width", "found", "fill"], ["self", "row", "width"])
/-- __eq__ -/
abbrev b_Work___eq__ : List Sm := [.iff (.not1 (.isi (.var 1) [.own j_Work])) [.ret (.cst (.bl false))] [], .ret (.cmp .Eq (.fld (.var 0) "own_fills") (.fld (.var 1) "own_fills"))]
abbrev f_Work___eq__ : FnD := ⟨2, 2, false, [(2, [], [.a 0, .a 1])], b_Work___eq__, false⟩
def a_Work___eq__ : Fat × List Str × List Str := (.meth 1 "__eq__", ["self", "other"], ["self", "other"])
/-- __repr__ -/
abbrev b_Work___repr__ : List Sm := [.ret (.fst [(.cst (.str "Work(")), (.fms (.join (.cst (.str ", ")) (.comp (.bi .repr [(.var 1)]) [1] (.nm 1) (.fld (.var 0) "own_fills") (.cst (.bl true))))), (.cst (.str ")"))])]
abbrev f_Work___repr__ : FnD := ⟨1, 2, false, [(1, [], [.a 0])], b_Work___repr__, false⟩
def a_Work___repr__ : Fat × List Str × List Str := (.meth 1 "__repr__", ["self", "fill"], ["self"])
/-- is_group -/
abbrev b_is_group : List Sm := [.ret (.and2 (.isi (.var 0) [.str]) (.cmp .In (.var 0) (.glo "GROUPS" (.tup [(.str "whole"), (.str "float")]))))]
abbrev f_is_group : FnD := ⟨1, 1, false, [(1, [], [.a 0])], b_is_group, false⟩
def a_is_group : Fat × List Str × List Str := (.glob "is_group", ["value"], ["value"])
/-- is_alignment -/
abbrev b_is_alignment : List Sm := [.ret (.and2 (.call i_is_count [] [(.var 0)]) (.cmp .In (.var 0) (.glo "ALIGNMENTS" (.tup [(.int 1), (.int 2), (.int 4), (.int 8), (.int 16)]))))]
abbrev f_is_alignment : FnD := ⟨1, 1, false, [(1, [], [.a 0])], b_is_alignment, false⟩
def a_is_alignment : Fat × List Str × List Str := (.glob "is_alignment", ["value"], ["value"])
/-- bits -/
abbrev b_Place_bits : List Sm := [.ret (.cst (.int 0))]
abbrev f_Place_bits : FnD := ⟨1, 1, false, [(1, [], [.a 0])], b_Place_bits, false⟩
def a_Place_bits : Fat × List Str × List Str := (.prop 2 "bits", ["self"], ["self"])
/-- __init__ -/
abbrev b_Register___init__ : List Sm := [.iff (.not1 (.call i_is_group [] [(.var 1)])) [.nev] [], .iff (.not1 (.call i_is_count_from [] [(.var 2), (.cst (.int 0)), (.glo "MOST_NUMBER" (.int 7))])) [.nev] [], .fld "own_group" (.var 1), .fld "own_number" (.var 2)]
abbrev f_Register___init__ : FnD := ⟨3, 3, false, [], b_Register___init__, false⟩
def a_Register___init__ : Fat × List Str × List Str := (.meth 3 "__init__", ["self", "group", "number"], ["self", "group", "number"])
/-- group -/
abbrev b_Register_group : List Sm := [.ret (.fld (.var 0) "own_group")]
abbrev f_Register_group : FnD := ⟨1, 1, false, [(1, [], [.a 0])], b_Register_group, false⟩
def a_Register_group : Fat × List Str × List Str := (.prop 3 "group", ["self"], ["self"])
/-- number -/
abbrev b_Register_number : List Sm := [.ret (.fld (.var 0) "own_number")]
abbrev f_Register_number : FnD := ⟨1, 1, false, [(1, [], [.a 0])], b_Register_number, false⟩
def a_Register_number : Fat × List Str × List Str := (.prop 3 "number", ["self"], ["self"])
/-- bits -/
abbrev b_Register_bits : List Sm := [.ret (.glo "REGISTER_BITS" (.int 64))]
abbrev f_Register_bits : FnD := ⟨1, 1, false, [(1, [], [.a 0])], b_Register_bits, false⟩
def a_Register_bits : Fat × List Str × List Str := (.prop 3 "bits", ["self"], ["self"])
/-- __eq__ -/
abbrev b_Register___eq__ : List Sm := [.iff (.not1 (.isi (.var 1) [.own j_Register])) [.ret (.cst (.bl false))] [], .ret (.and2 (.cmp .Eq (.fld (.var 0) "own_group") (.fld (.var 1) "own_group")) (.cmp .Eq (.fld (.var 0) "own_number") (.fld (.var 1) "own_number")))]
abbrev f_Register___eq__ : FnD := ⟨2, 2, false, [(2, [], [.a 0, .a 1])], b_Register___eq__, false⟩
def a_Register___eq__ : Fat × List Str × List Str := (.meth 3 "__eq__", ["self", "other"], ["self", "other"])
/-- __repr__ -/
abbrev b_Register___repr__ : List Sm := [.ret (.fst [(.cst (.str "Register(")), (.fmr (.fld (.var 0) "own_group")), (.cst (.str ", ")), (.fmr (.fld (.var 0) "own_number")), (.cst (.str ")"))])]
abbrev f_Register___repr__ : FnD := ⟨1, 1, false, [(1, [], [.a 0])], b_Register___repr__, false⟩
def a_Register___repr__ : Fat × List Str × List Str := (.meth 3 "__repr__", ["self"], ["self"])
/-- __init__ -/
abbrev b_Slots___init__ : List Sm := [.iff (.not1 (.call i_is_count [] [(.var 1)])) [.nev] [], .iff (.not1 (.call i_is_count_from [] [(.var 2), (.cst (.int 1)), (.glo "MOST_BYTES" (.int 16))])) [.nev] [], .fld "own_offset" (.var 1), .fld "own_many" (.var 2)]
abbrev f_Slots___init__ : FnD := ⟨3, 3, false, [], b_Slots___init__, false⟩
def a_Slots___init__ : Fat × List Str × List Str := (.meth 4 "__init__", ["self", "offset", "many"], ["self", "offset", "many"])
/-- offset -/
abbrev b_Slots_offset : List Sm := [.ret (.fld (.var 0) "own_offset")]
abbrev f_Slots_offset : FnD := ⟨1, 1, false, [(1, [], [.a 0])], b_Slots_offset, false⟩
def a_Slots_offset : Fat × List Str × List Str := (.prop 4 "offset", ["self"], ["self"])
/-- many -/
abbrev b_Slots_many : List Sm := [.ret (.fld (.var 0) "own_many")]
abbrev f_Slots_many : FnD := ⟨1, 1, false, [(1, [], [.a 0])], b_Slots_many, false⟩
def a_Slots_many : Fat × List Str × List Str := (.prop 4 "many", ["self"], ["self"])
/-- end -/
abbrev b_Slots_end : List Sm := [.exp (.call i__wall [] [(.cst (.int 0))])]
abbrev f_Slots_end : FnD := ⟨1, 1, false, [(1, [], [.a 0])], b_Slots_end, false⟩
def a_Slots_end : Fat × List Str × List Str := (.prop 4 "end", ["self"], ["self"])
/-- bits -/
abbrev b_Slots_bits : List Sm := [.ret (.bin .Mult (.glo "BYTE_BITS" (.int 8)) (.fld (.var 0) "own_many"))]
abbrev f_Slots_bits : FnD := ⟨1, 1, false, [(1, [], [.a 0])], b_Slots_bits, false⟩
def a_Slots_bits : Fat × List Str × List Str := (.prop 4 "bits", ["self"], ["self"])
/-- __contains__ -/
abbrev b_Slots___contains__ : List Sm := [.ret (.and2 (.call i_is_count [] [(.var 1)]) (.chn .LtE .Lt (.fld (.var 0) "own_offset") (.var 1) (.bin .Add (.fld (.var 0) "own_offset") (.fld (.var 0) "own_many"))))]
abbrev f_Slots___contains__ : FnD := ⟨2, 2, false, [(2, [], [.a 0, .a 1])], b_Slots___contains__, false⟩
def a_Slots___contains__ : Fat × List Str × List Str := (.meth 4 "__contains__", ["self", "value"], ["self", "value"])
/-- meets -/
abbrev b_Slots_meets : List Sm := [.exp (.call i__wall [] [(.cst (.int 1))])]
abbrev f_Slots_meets : FnD := ⟨2, 2, false, [], b_Slots_meets, false⟩
def a_Slots_meets : Fat × List Str × List Str := (.meth 4 "meets", ["self", "other"], ["self", "other"])
/-- __add__ -/
abbrev b_Slots___add__ : List Sm := [.iff (.not1 (.call i_is_count [] [(.var 1)])) [.nev] [], .ret (.make j_Slots [] [(.bin .Add (.fld (.var 0) "own_offset") (.var 1)), (.fld (.var 0) "own_many")])]
abbrev f_Slots___add__ : FnD := ⟨2, 2, false, [(2, [], [.a 0, .a 1])], b_Slots___add__, false⟩
def a_Slots___add__ : Fat × List Str × List Str := (.meth 4 "__add__", ["self", "by"], ["self", "by"])
/-- __sub__ -/
abbrev b_Slots___sub__ : List Sm := [.iff (.or2 (.not1 (.call i_is_count [] [(.var 1)])) (.cmp .Gt (.var 1) (.fld (.var 0) "own_offset"))) [.nev] [], .ret (.make j_Slots [] [(.bin .Sub (.fld (.var 0) "own_offset") (.var 1)), (.fld (.var 0) "own_many")])]
abbrev f_Slots___sub__ : FnD := ⟨2, 2, false, [(2, [], [.a 0, .a 1])], b_Slots___sub__, false⟩
def a_Slots___sub__ : Fat × List Str × List Str := (.meth 4 "__sub__", ["self", "by"], ["self", "by"])
/-- __eq__ -/
abbrev b_Slots___eq__ : List Sm := [.iff (.not1 (.isi (.var 1) [.own j_Slots])) [.ret (.cst (.bl false))] [], .ret (.and2 (.cmp .Eq (.fld (.var 0) "own_offset") (.fld (.var 1) "own_offset")) (.cmp .Eq (.fld (.var 0) "own_many") (.fld (.var 1) "own_many")))]
abbrev f_Slots___eq__ : FnD := ⟨2, 2, false, [(2, [], [.a 0, .a 1])], b_Slots___eq__, false⟩
def a_Slots___eq__ : Fat × List Str × List Str := (.meth 4 "__eq__", ["self", "other"], ["self", "other"])
/-- __repr__ -/
abbrev b_Slots___repr__ : List Sm := [.ret (.fst [(.cst (.str "Slots(")), (.fmr (.fld (.var 0) "own_offset")), (.cst (.str ", ")), (.fmr (.fld (.var 0) "own_many")), (.cst (.str ")"))])]
abbrev f_Slots___repr__ : FnD := ⟨1, 1, false, [(1, [], [.a 0])], b_Slots___repr__, false⟩
def a_Slots___repr__ : Fat × List Str × List Str := (.meth 4 "__repr__", ["self"], ["self"])
/-- __init__ -/
abbrev b_Next___init__ : List Sm := [.iff (.not1 (.call i_is_alignment [] [(.var 1)])) [.nev] [], .iff (.not1 (.call i_is_count_from [] [(.var 2), (.cst (.int 1)), (.glo "MOST_BYTES" (.int 16))])) [.nev] [], .fld "own_align" (.var 1), .fld "own_many" (.var 2)]
abbrev f_Next___init__ : FnD := ⟨3, 3, false, [], b_Next___init__, false⟩
def a_Next___init__ : Fat × List Str × List Str := (.meth 5 "__init__", ["self", "align", "many"], ["self", "align", "many"])
/-- align -/
abbrev b_Next_align : List Sm := [.ret (.fld (.var 0) "own_align")]
abbrev f_Next_align : FnD := ⟨1, 1, false, [(1, [], [.a 0])], b_Next_align, false⟩
def a_Next_align : Fat × List Str × List Str := (.prop 5 "align", ["self"], ["self"])
/-- many -/
abbrev b_Next_many : List Sm := [.ret (.fld (.var 0) "own_many")]
abbrev f_Next_many : FnD := ⟨1, 1, false, [(1, [], [.a 0])], b_Next_many, false⟩
def a_Next_many : Fat × List Str × List Str := (.prop 5 "many", ["self"], ["self"])
/-- bits -/
abbrev b_Next_bits : List Sm := [.ret (.bin .Mult (.glo "BYTE_BITS" (.int 8)) (.fld (.var 0) "own_many"))]
abbrev f_Next_bits : FnD := ⟨1, 1, false, [(1, [], [.a 0])], b_Next_bits, false⟩
def a_Next_bits : Fat × List Str × List Str := (.prop 5 "bits", ["self"], ["self"])
/-- from_offset -/
abbrev b_Next_from_offset : List Sm := [.exp (.call i__wall [] [(.cst (.int 2))])]
abbrev f_Next_from_offset : FnD := ⟨2, 2, false, [], b_Next_from_offset, false⟩
def a_Next_from_offset : Fat × List Str × List Str := (.meth 5 "from_offset", ["self", "offset"], ["self", "offset"])
/-- __eq__ -/
abbrev b_Next___eq__ : List Sm := [.iff (.not1 (.isi (.var 1) [.own j_Next])) [.ret (.cst (.bl false))] [], .ret (.and2 (.cmp .Eq (.fld (.var 0) "own_align") (.fld (.var 1) "own_align")) (.cmp .Eq (.fld (.var 0) "own_many") (.fld (.var 1) "own_many")))]
abbrev f_Next___eq__ : FnD := ⟨2, 2, false, [(2, [], [.a 0, .a 1])], b_Next___eq__, false⟩
def a_Next___eq__ : Fat × List Str × List Str := (.meth 5 "__eq__", ["self", "other"], ["self", "other"])
/-- __repr__ -/
abbrev b_Next___repr__ : List Sm := [.ret (.fst [(.cst (.str "Next(")), (.fmr (.fld (.var 0) "own_align")), (.cst (.str ", ")), (.fmr (.fld (.var 0) "own_many")), (.cst (.str ")"))])]
abbrev f_Next___repr__ : FnD := ⟨1, 1, false, [(1, [], [.a 0])], b_Next___repr__, false⟩
def a_Next___repr__ : Fat × List Str × List Str := (.meth 5 "__repr__", ["self"], ["self"])
/-- _law_pot -/
abbrev b_l_pot : List Sm := [.asg (.nm 2) (.bin .Add (.bin .Mult (.cst (.int 29)) (.var 1)) (.cst (.int 8))), .iff (.cmp .Lt (.var 1) (.bi .len [(.var 0)])) [.asg (.nm 2) (.bi .abs [(.ix (.var 0) (.var 1))])] [], .retF (.lst [(.bi .max [(.cst (.int 0)), (.bin .Sub (.var 2) (.bin .Pow (.cst (.int 10)) (.cst (.int 18))))]), (.bin .Add (.bin .Mod (.bin .Mult (.bi .int [(.bin .Add (.bin .Mod (.bi .int [(.var 2)]) (.cst (.int 2147483549))) (.cst (.int 7)))]) (.bin .Pow (.bin .Add (.bin .Mult (.cst (.int 2)) (.var 1)) (.cst (.int 3))) (.cst (.int 3)))) (.cst (.int 2147483477))) (.cst (.int 1)))])]
abbrev f_l_pot : FnD := ⟨2, 3, true, [(2, [], [.a 0, .a 1])], b_l_pot, false⟩
def a_l_pot : Fat × List Str × List Str := (.glob "_law_pot", ["_law_script", "_law_k", "_law_cell"], ["_law_script", "_law_k"])
/-- _law_draw -/
abbrev b_l_draw : List Sm := [.iff (.cmp .Gt (.ix (.var 0) (.cst (.int 0))) (.cst (.int 0))) [.tsub (.var 0) (.cst (.int 0)) 2 (.bi .divmod [(.ix (.var 0) (.cst (.int 0))), (.var 1)]), .ret (.var 2)] [], .put (.var 0) (.cst (.int 1)) (.bin .Mod (.bi .int [(.bin .Add (.bin .Mult (.ix (.var 0) (.cst (.int 1))) (.cst (.int 48271))) (.cst (.int 12161)))]) (.cst (.int 2147483587))), .ret (.bin .Mod (.bi .int [(.bin .FloorDiv (.bin .Mod (.bi .int [(.bin .Mult (.ix (.var 0) (.cst (.int 1))) (.ix (.var 0) (.cst (.int 1))))]) (.cst (.int 2147483549))) (.cst (.int 13)))]) (.var 1))]
abbrev f_l_draw : FnD := ⟨2, 3, false, [(2, [], [.a 0, .a 1])], b_l_draw, false⟩
def a_l_draw : Fat × List Str × List Str := (.glob "_law_draw", ["_law_pot_here", "_law_size", "_law_digit"], ["_law_pot_here", "_law_size"])
/-- _law_pick -/
abbrev b_l_pick : List Sm := [.ret (.ix (.var 1) (.call i_l_draw [] [(.var 0), (.bi .len [(.var 1)])]))]
abbrev f_l_pick : FnD := ⟨2, 2, false, [(2, [], [.a 0, .a 1])], b_l_pick, false⟩
def a_l_pick : Fat × List Str × List Str := (.glob "_law_pick", ["_law_pot_here", "_law_some"], ["_law_pot_here", "_law_some"])
/-- _law_place -/
abbrev b_l_place : List Sm := [.asg (.nm 1) (.call i_l_draw [] [(.var 0), (.cst (.int 4))]), .iff (.cmp .Eq (.var 1) (.cst (.int 0))) [.ret (.make j_Register [] [(.call i_l_pick [] [(.var 0), (.lst [(.cst (.str "whole")), (.cst (.str "float"))])]), (.call i_l_draw [] [(.var 0), (.cst (.int 8))])])] [], .asg (.nm 2) (.call i_l_pick [] [(.var 0), (.lst [(.cst (.int 1)), (.cst (.int 2)), (.cst (.int 4)), (.cst (.int 8)), (.cst (.int 16)), (.bin .Add (.cst (.int 1)) (.call i_l_draw [] [(.var 0), (.cst (.int 16))]))])]), .iff (.cmp .Eq (.var 1) (.cst (.int 1))) [.ret (.make j_Next [] [(.call i_l_pick [] [(.var 0), (.lst [(.cst (.int 1)), (.cst (.int 4)), (.cst (.int 16))])]), (.var 2)])] [], .ret (.make j_Slots [] [(.call i_l_draw [] [(.var 0), (.cst (.int 99))]), (.var 2)])]
abbrev f_l_place : FnD := ⟨1, 3, false, [(1, [], [.a 0])], b_l_place, false⟩
def a_l_place : Fat × List Str × List Str := (.glob "_law_place", ["_law_pot_here", "_law_way", "_law_many"], ["_law_pot_here"])
/-- _law_fill -/
abbrev b_l_fill : List Sm := [.par 2 3 (.call i_l_pick [] [(.var 0), (.lst [(.cst (.str "zeros")), (.cst (.str "sign"))])]) (.call i_l_pick [] [(.var 0), (.lst [(.var 1), (.bin .Add (.var 1) (.cst (.int 1))), (.bin .Sub (.var 1) (.cst (.int 1))), (.bin .Add (.cst (.int 3)) (.call i_l_draw [] [(.var 0), (.cst (.int 126))]))])]), .ret (.make j_Fill [] [(.var 2), (.bi .max [(.cst (.int 3)), (.bi .min [(.cst (.int 128)), (.var 3)])])])]
abbrev f_l_fill : FnD := ⟨2, 4, false, [(2, [], [.a 0, .a 1])], b_l_fill, false⟩
def a_l_fill : Fat × List Str × List Str := (.glob "_law_fill", ["_law_pot_here", "_law_near", "_law_word", "_law_reach"], ["_law_pot_here", "_law_near"])
/-- _law_work -/
abbrev b_l_work : List Sm := [.ret (.ife (.cmp .Eq (.fld (.var 0) "word") (.cst (.str "free"))) (.make j_Work [] []) (.make j_Work [] [(.var 0)]))]
abbrev f_l_work : FnD := ⟨1, 1, false, [(1, [], [.a 0])], b_l_work, false⟩
def a_l_work : Fat × List Str × List Str := (.glob "_law_work", ["_law_fill_here"], ["_law_fill_here"])
/-- _law_set -/
abbrev b_l_set : List Sm := [.asgO 3 (.bi .list [(.var 1)]), .for_ (.nm 4) (.rng1 (.lenB 3)) [.iff (.and2 (.cmp .NotEq (.fld (.var 0) "word") (.cst (.str "free"))) (.chn .LtE .Lt (.var 2) (.var 4) (.fld (.var 0) "extent"))) [.putB 3 (.var 4) (.ife (.cmp .Eq (.fld (.var 0) "word") (.cst (.str "zeros"))) (.cst (.int 0)) (.ix (.var 1) (.bin .Sub (.var 2) (.cst (.int 1)))))] []], .ret (.var 3)]
abbrev f_l_set : FnD := ⟨3, 5, false, [(3, [], [.a 0, .a 1, .a 2])], b_l_set, false⟩
def a_l_set : Fat × List Str × List Str := (.glob "_law_set", ["_law_fill_here", "_law_bits_now", "_law_wide", "_law_found", "_law_at"], ["_law_fill_here", "_law_bits_now", "_law_wide"])
/-- _law_alone_right -/
abbrev b_l_alone_right : List Sm := [.asg (.nm 3) (.meth (.var 0) "cut" [] [(.var 2), (.bi .len [(.var 1)])]), .asg (.nm 4) (.call i_l_set [] [(.var 0), (.var 1), (.var 2)]), .asg (.nm 5) (.lst [(.icall (.call i_l_work [] [(.var 0)]) [] [(.var 1), (.var 2)]), (.icall (.call i_l_work [] [(.var 3)]) [] [(.var 1), (.var 2)]), (.icall (.bin .Add (.make j_Work [] []) (.var 3)) [] [(.var 1), (.var 2)])]), .iff (.or2 (.cmp .NotEq (.comp (.bi .repr [(.var 7)]) [7] (.nm 7) (.var 5) (.cst (.bl true))) (.bin .Mult (.lst [(.bi .repr [(.var 4)])]) (.cst (.int 3)))) (.cmp .NotEq (.bi .repr [(.call i_l_set [] [(.var 3), (.var 1), (.var 2)])]) (.bi .repr [(.var 4)]))) [.ret (.cst (.bl false))] [], .asg (.nm 6) (.bin .Add (.bi .list [(.var 1)]) (.bin .Mult (.lst [(.cst (.non))]) (.cst (.int 3)))), .ret (.or2 (.cmp .Eq (.fld (.var 3) "word") (.cst (.str "free"))) (.cmp .Eq (.bi .repr [(.slcL (.icall (.call i_l_work [] [(.var 3)]) [] [(.var 6), (.var 2)]) (.neg (.cst (.int 3))))]) (.cst (.str "[None, None, None]"))))]
abbrev f_l_alone_right : FnD := ⟨3, 8, false, [(3, [], [.a 0, .a 1, .a 2])], b_l_alone_right, false⟩
def a_l_alone_right : Fat × List Str × List Str := (.glob "_law_alone_right", ["_law_fill_here", "_law_bits_now", "_law_wide", "_law_less", "_law_due", "_law_told", "_law_longer", "_law_one"], ["_law_fill_here", "_law_bits_now", "_law_wide"])
/-- _law_shows -/
abbrev b_l_shows : List Sm := [.asg (.nm 3) (.bin .Add (.bin .Add (.bin .Mult (.lst [(.cst (.int 0))]) (.bin .Sub (.var 2) (.cst (.int 1)))) (.lst [(.cst (.int 1))])) (.bin .Mult (.lst [(.cst (.non))]) (.bin .Sub (.var 1) (.var 2)))), .ret (.bi .repr [(.icall (.var 0) [] [(.var 3), (.var 2)])])]
abbrev f_l_shows : FnD := ⟨3, 4, false, [(3, [], [.a 0, .a 1, .a 2])], b_l_shows, false⟩
def a_l_shows : Fat × List Str × List Str := (.glob "_law_shows", ["_law_plan", "_law_room", "_law_wide", "_law_bits_now"], ["_law_plan", "_law_room", "_law_wide"])
/-- _law_pair_right -/
abbrev b_l_pair_right : List Sm := [.asg (.nm 4) (.bi .len [(.var 2)]), .par 7 8 (.meth (.var 0) "cut" [] [(.var 3), (.var 4)]) (.meth (.var 1) "cut" [] [(.var 3), (.var 4)]), .par 9 10 (.call i_l_work [] [(.var 7)]) (.call i_l_work [] [(.var 8)]), .par3 11 12 13 (.icall (.var 9) [] [(.var 2), (.var 3)]) (.icall (.bin .Add (.var 9) (.var 10)) [] [(.var 2), (.var 3)]) (.icall (.bin .Add (.var 10) (.var 9)) [] [(.var 2), (.var 3)]), .iff (.or2 (.cmp .NotEq (.bi .repr [(.icall (.var 10) [] [(.var 11), (.var 3)])]) (.bi .repr [(.var 12)])) (.cmp .NotEq (.bi .repr [(.icall (.var 9) [] [(.icall (.var 10) [] [(.var 2), (.var 3)]), (.var 3)])]) (.bi .repr [(.var 13)]))) [.ret (.cst (.bl false))] [], .asg (.nm 5) (.call i_l_shows [] [(.var 9), (.var 4), (.var 3)]), .asg (.nm 6) (.and2 (.cmp .Eq (.var 5) (.call i_l_shows [] [(.bin .Add (.var 9) (.var 10)), (.var 4), (.var 3)])) (.cmp .Eq (.var 5) (.call i_l_shows [] [(.bin .Add (.var 10) (.var 9)), (.var 4), (.var 3)]))), .iff (.or2 (.cmp .NotEq (.bi .repr [(.meth (.var 7) "covers" [] [(.var 8)])]) (.bi .repr [(.var 6)])) (.and2 (.var 6) (.cmp .NotEq (.lst [(.bi .repr [(.var 12)]), (.bi .repr [(.var 13)])]) (.bin .Mult (.lst [(.bi .repr [(.var 11)])]) (.cst (.int 2)))))) [.ret (.cst (.bl false))] [], .iff (.cmp .NotEq (.cmp .Eq (.var 5) (.call i_l_shows [] [(.var 10), (.var 4), (.var 3)])) (.cmp .Eq (.var 7) (.var 8))) [.ret (.cst (.bl false))] [], .ret (.cmp .Eq (.bi .repr [(.meth (.var 9) "is_like" [] [(.var 10)])]) (.bi .repr [(.cmp .Eq (.var 7) (.var 8))]))]
abbrev f_l_pair_right : FnD := ⟨4, 14, false, [(4, [], [.a 0, .a 1, .a 2, .a 3])], b_l_pair_right, false⟩
def a_l_pair_right : Fat × List Str × List Str := (.glob "_law_pair_right", ["_law_fill_here", "_law_other", "_law_bits_now", "_law_wide", "_law_room", "_law_seen", "_law_is_hidden", "_law_one", "_law_mate", "_law_first", "_law_second", "_law_alone", "_law_both", "_law_back"], ["_law_fill_here", "_law_other", "_law_bits_now", "_law_wide"])
/-- _law_right -/
abbrev b_l_right : List Sm := [.for_ (.nm 1) (.rng1 (.cst (.int 4))) [.asg (.nm 2) (.call i_l_place [] [(.var 0)]), .asg (.nm 3) (.fld (.var 2) "bits"), .iff (.cmp .NotEq (.var 3) (.ife (.isi (.var 2) [.own j_Register]) (.cst (.int 64)) (.bin .Mult (.cst (.int 8)) (.fld (.var 2) "many")))) [.ret (.cst (.bl false))] [], .asg (.nm 4) (.bi .max [(.cst (.int 2)), (.bi .min [(.bi .int [(.var 3)]), (.call i_l_pick [] [(.var 0), (.lst [(.var 3), (.bin .Sub (.var 3) (.cst (.int 1))), (.cst (.int 2)), (.cst (.int 8)), (.bin .Add (.cst (.int 2)) (.call i_l_draw [] [(.var 0), (.cst (.int 127))]))])])])]), .asg (.nm 5) (.call i_l_pick [] [(.var 0), (.lst [(.var 3), (.var 4), (.bin .Add (.cst (.int 3)) (.call i_l_draw [] [(.var 0), (.cst (.int 126))]))])]), .par 7 8 (.call i_l_fill [] [(.var 0), (.var 5)]) (.call i_l_fill [] [(.var 0), (.var 5)]), .asg (.nm 6) (.comp (.call i_l_pick [] [(.var 0), (.lst [(.cst (.int 0)), (.cst (.int 1)), (.cst (.non))])]) [9] (.nm 9) (.rng1 (.var 3)) (.cst (.bl true))), .iff (.or2 (.not1 (.call i_l_alone_right [] [(.var 7), (.var 6), (.var 4)])) (.not1 (.call i_l_alone_right [] [(.var 8), (.var 6), (.var 4)]))) [.ret (.cst (.bl false))] [], .iff (.not1 (.call i_l_pair_right [] [(.var 7), (.var 8), (.var 6), (.var 4)])) [.ret (.cst (.bl false))] []], .ret (.cst (.bl true))]
abbrev f_l_right : FnD := ⟨1, 10, false, [(1, [], [.a 0])], b_l_right, false⟩
def a_l_right : Fat × List Str × List Str := (.glob "_law_right", ["_law_pot_here", "_law_turn", "_law_place_here", "_law_room", "_law_wide", "_law_near", "_law_bits_now", "_law_fill_here", "_law_other", "_law_at"], ["_law_pot_here"])
/-- law -/
abbrev b_law : List Sm := [.ret (.bi .all [(.comp (.call i_l_right [] [(.call i_l_pot [] [(.var 0), (.var 1)])]) [1] (.nm 1) (.rng1 (.bi .max [(.cst (.int 1)), (.bi .min [(.bi .len [(.var 0)]), (.cst (.int 4))])])) (.cst (.bl true)))])]
abbrev f_law : FnD := ⟨1, 2, false, [(1, [], [.a 0])], b_law, false⟩
def a_law : Fat × List Str × List Str := (.glob "law", ["_law_script", "_law_k"], ["_law_script"])
def c0 : ClD := ⟨9, [(0, [], [.d (.str "free"), .d (.non)]), (2, [], [.a 0, .a 1])], [("cut", 13), ("covers", 14), ("__eq__", 15), ("__str__", 16), ("__repr__", 17)], [("word", 11), ("extent", 12)], [("read", 10)], ["own_word", "own_extent"], [0], false⟩
def c1 : ClD := ⟨22, [], [("fills", 23), ("__len__", 24), ("__add__", 25), ("plain", 26), ("is_like", 27), ("__call__", 28), ("__eq__", 29), ("__repr__", 30)], [], [], ["own_fills"], [1], false⟩
def c2 : ClD := ⟨0, [], [], [("bits", 33)], [], [], [2], false⟩
def c3 : ClD := ⟨34, [(2, [], [.a 0, .a 1])], [("__eq__", 38), ("__repr__", 39)], [("group", 35), ("number", 36), ("bits", 37)], [], ["own_group", "own_number"], [3, 2], false⟩
def c4 : ClD := ⟨40, [(2, [], [.a 0, .a 1])], [("__contains__", 45), ("meets", 46), ("__add__", 47), ("__sub__", 48), ("__eq__", 49), ("__repr__", 50)], [("offset", 41), ("many", 42), ("end", 43), ("bits", 44)], [], ["own_offset", "own_many"], [4, 2], false⟩
def c5 : ClD := ⟨51, [(2, [], [.a 0, .a 1])], [("from_offset", 55), ("__eq__", 56), ("__repr__", 57)], [("align", 52), ("many", 53), ("bits", 54)], [], ["own_align", "own_many"], [5, 2], false⟩
def pg : Pg := ⟨[f__wall, f_is_integer, f_is_count, f_is_count_from, f_is_list, f_is_decimal, f_want_width, f_want_fill, f_is_extent_word, f_Fill___init__, f_Fill_read, f_Fill_word, f_Fill_extent, f_Fill_cut, f_Fill_covers, f_Fill___eq__, f_Fill___str__, f_Fill___repr__, f_is_bit, f_want_bits, f_filled, f_plain_fills, f_Work___init__, f_Work_fills, f_Work___len__, f_Work___add__, f_Work_plain, f_Work_is_like, f_Work___call__, f_Work___eq__, f_Work___repr__, f_is_group, f_is_alignment, f_Place_bits, f_Register___init__, f_Register_group, f_Register_number, f_Register_bits, f_Register___eq__, f_Register___repr__, f_Slots___init__, f_Slots_offset, f_Slots_many, f_Slots_end, f_Slots_bits, f_Slots___contains__, f_Slots_meets, f_Slots___add__, f_Slots___sub__, f_Slots___eq__, f_Slots___repr__, f_Next___init__, f_Next_align, f_Next_many, f_Next_bits, f_Next_from_offset, f_Next___eq__, f_Next___repr__, f_l_pot, f_l_draw, f_l_pick, f_l_place, f_l_fill, f_l_work, f_l_set, f_l_alone_right, f_l_shows, f_l_pair_right, f_l_right, f_law], [c0, c1, c2, c3, c4, c5], []⟩
def gfs : List (Str × Nat) := [("_wall", 0), ("is_integer", 1), ("is_count", 2), ("is_count_from", 3), ("is_list", 4), ("is_decimal", 5), ("want_width", 6), ("want_fill", 7), ("is_extent_word", 8), ("is_bit", 18), ("want_bits", 19), ("filled", 20), ("plain_fills", 21), ("is_group", 31), ("is_alignment", 32), ("_law_pot", 58), ("_law_draw", 59), ("_law_pick", 60), ("_law_place", 61), ("_law_fill", 62), ("_law_work", 63), ("_law_set", 64), ("_law_alone_right", 65), ("_law_shows", 66), ("_law_pair_right", 67), ("_law_right", 68), ("law", 69)]
def gcs : List (Str × Nat) := [("Fill", 0), ("Work", 1), ("Place", 2), ("Register", 3), ("Slots", 4), ("Next", 5)]
def gds : List (Str × Dt) := [("DIGITS", .str "0123456789"), ("FREE", .str "free"), ("ZEROS", .str "zeros"), ("SIGN", .str "sign"), ("LEAST_EXTENT", .int 3), ("MOST_EXTENT", .int 128), ("LEAST_WIDTH", .int 2), ("MOST_FILLS", .int 126), ("WHOLE", .str "whole"), ("FLOAT", .str "float"), ("GROUPS", .tup [(.str "whole"), (.str "float")]), ("ALIGNMENTS", .tup [(.int 1), (.int 2), (.int 4), (.int 8), (.int 16)]), ("MOST_NUMBER", .int 7), ("REGISTER_BITS", .int 64), ("BYTE_BITS", .int 8), ("MOST_BYTES", .int 16)]
def bns : List Str := ["abs", "all", "bool", "divmod", "enumerate", "int", "isinstance", "len", "list", "max", "min", "range", "repr", "str", "tuple"]
def tb : TbD := ⟨⟨[], pg, gfs, gcs, gds, bns⟩, [a__wall, a_is_integer, a_is_count, a_is_count_from, a_is_list, a_is_decimal, a_want_width, a_want_fill, a_is_extent_word, a_Fill___init__, a_Fill_read, a_Fill_word, a_Fill_extent, a_Fill_cut, a_Fill_covers, a_Fill___eq__, a_Fill___str__, a_Fill___repr__, a_is_bit, a_want_bits, a_filled, a_plain_fills, a_Work___init__, a_Work_fills, a_Work___len__, a_Work___add__, a_Work_plain, a_Work_is_like, a_Work___call__, a_Work___eq__, a_Work___repr__, a_is_group, a_is_alignment, a_Place_bits, a_Register___init__, a_Register_group, a_Register_number, a_Register_bits, a_Register___eq__, a_Register___repr__, a_Slots___init__, a_Slots_offset, a_Slots_many, a_Slots_end, a_Slots_bits, a_Slots___contains__, a_Slots_meets, a_Slots___add__, a_Slots___sub__, a_Slots___eq__, a_Slots___repr__, a_Next___init__, a_Next_align, a_Next_many, a_Next_bits, a_Next_from_offset, a_Next___eq__, a_Next___repr__, a_l_pot, a_l_draw, a_l_pick, a_l_place, a_l_fill, a_l_work, a_l_set, a_l_alone_right, a_l_shows, a_l_pair_right, a_l_right, a_law], ["Fill", "Work", "Place", "Register", "Slots", "Next"]⟩
def lo0 : List Str := ["_wall", "DIGITS", "is_integer", "is_count", "is_count_from", "is_list", "is_decimal", "CallError", "InvalidNumber", "InvalidPlace", "InvalidFill", "InvalidWork", "InvalidBits", "LimitError", "TooMany", "FREE", "ZEROS", "SIGN", "LEAST_EXTENT", "MOST_EXTENT", "LEAST_WIDTH", "MOST_FILLS", "want_width", "want_fill", "is_extent_word", "Fill", "is_bit", "want_bits", "filled", "plain_fills"]
def lo1 : List Str := ["Work", "WHOLE", "FLOAT", "GROUPS", "ALIGNMENTS", "MOST_NUMBER", "REGISTER_BITS", "BYTE_BITS", "MOST_BYTES", "is_group", "is_alignment", "Place", "Register", "Slots", "Next", "_law_pot", "_law_draw", "_law_pick", "_law_place", "_law_fill", "_law_work", "_law_set", "_law_alone_right", "_law_shows", "_law_pair_right", "_law_right"]
def loose : List Str := lo0 ++ lo1
abbrev lawIx : Nat := 61
abbrev lawF : Nat := 69
end K15
namespace K15
open PySem PyI
def as0 : List Nat := [2, 3, 4, 6, 15, 16, 17, 18, 19, 20, 21, 22, 23, 24, 25, 26, 27, 28, 29, 30, 31, 32, 33, 34, 35, 36, 37, 38, 39, 40, 41, 42, 43, 44, 45, 46, 47, 48, 49, 50, 51, 52, 53, 54, 62, 63, 64, 65, 75, 76, 77, 78, 79, 80, 81, 82, 83, 84, 94, 95]
def as1 : List Nat := [96, 97, 98, 99, 100, 101, 102, 103, 113, 114, 115, 116, 117, 118, 119, 120, 121, 122, 132, 133, 134, 135, 136, 137, 138, 139, 140, 141, 151, 152, 153, 154, 155, 156, 157, 158, 159, 160, 170, 171, 172, 173, 183, 184, 185, 186, 187, 188, 189, 190, 191, 192, 195, 196, 197, 198, 199, 200, 201, 202]
def as2 : List Nat := [203, 204, 205, 206, 207, 208, 209, 210, 211, 212, 213, 214, 215, 223, 224, 225, 226, 227, 228, 229, 230, 231, 232, 233, 234, 235, 236, 237, 239, 241, 242, 243, 244, 245, 246, 247, 248, 249, 250, 251, 252, 253, 254, 255, 256, 257, 258, 259, 260, 261, 262, 263, 264, 265, 266, 267, 268, 269, 270, 271]
def as3 : List Nat := [272, 273, 274, 275, 276, 277, 278, 279, 280, 281, 282, 283, 284, 285, 286, 287, 288, 289, 290, 291, 292, 293, 294, 295, 296, 299, 300, 301, 302, 303, 304, 305, 306, 307, 308, 309, 310, 311, 312, 313, 314, 315, 316, 317, 318, 319, 320, 321, 322, 323, 324, 325, 326, 334, 335, 336, 337, 338, 339, 340]
def as4 : List Nat := [341, 342, 343, 344, 345, 346, 347, 348, 349, 350, 351, 352, 353, 354, 355, 356, 357, 358, 359, 360, 361, 362, 363, 364, 365, 366, 367, 368, 369, 370, 371, 372, 373, 374, 375, 376, 377, 378, 379, 380, 381, 382, 383, 384, 385, 386, 387, 388, 389, 390, 391, 392, 393, 394, 395, 396, 397, 398, 399, 402]
def as5 : List Nat := [403, 404, 405, 406, 407, 408, 409, 410, 411, 412, 413, 414, 415, 416, 417, 425, 426, 427, 428, 429, 430, 431, 432, 433, 434, 435, 436, 437, 447, 448, 449, 450, 451, 452, 453, 454, 455, 456, 457, 458, 459, 460, 461, 462, 463, 464, 465, 466, 467, 468, 469, 470, 471, 472, 473, 474, 475, 476, 477, 478]
def as6 : List Nat := [479, 480, 481, 482, 483, 484, 485, 486, 487, 488, 489, 490, 491, 492, 493, 494, 504, 505, 506, 507, 508, 509, 510, 511, 512, 513, 514, 515, 516, 517, 518, 519, 520, 521, 522, 523, 524, 525, 526, 527, 528, 529, 530, 531, 532, 533, 534, 535, 536, 537, 538, 539, 540, 541, 542, 543, 544, 545, 546, 547]
def as7 : List Nat := [548, 549, 550, 551, 552, 553, 554, 555, 556, 557, 558, 559, 560, 561, 562, 563, 564, 565, 566, 567, 568, 569, 570, 571, 572, 573, 574, 575, 576, 577, 578, 579, 580, 581, 582, 583, 584, 585, 586, 587, 597, 598, 599, 600, 601, 602, 603, 604, 605, 606, 607, 608, 609, 610, 611, 612, 613, 614, 615, 616]
def as8 : List Nat := [617, 618, 619, 620, 621, 622, 623, 624, 625, 626, 627, 628, 629, 630, 631, 632, 633, 634, 635, 636, 637, 638, 639, 640, 641, 642, 643, 644, 645, 646, 647, 648, 649, 650, 651, 654, 655, 656, 657, 658, 659, 660, 661, 662, 663, 664, 665, 666, 667, 668, 669, 670, 671, 672, 673, 674, 675, 676, 677, 678]
def as9 : List Nat := [679, 680, 681, 682, 683, 684, 685, 686, 687, 688, 689, 690, 691, 692, 693, 694, 695, 696, 697, 698, 699, 700, 701, 702, 703, 704, 705, 706, 707, 708, 709, 710, 711, 712, 713, 714, 715, 716, 717, 718, 719, 720, 721, 722, 723, 724, 725, 726, 727, 728, 729, 730, 731]
def asL : List Addr := as0 ++ as1 ++ as2 ++ as3 ++ as4 ++ as5 ++ as6 ++ as7 ++ as8 ++ as9
end K15
namespace K15
open PySem PySem.Spec PyProof.Rows PyI
abbrev R : PySem.W.OpenRow := PySem.W.OpenLaw.row PySem.Challenge.rw_unlikecalls_k15_whole_fills_done_as_work
theorem run (w : World) : HandSHeadRun.RunEq R (PySem.W.view R.prog [lawIx]) (hookL asL (tabB tb)) (obL asL (tabB tb)) 8000 loose w := by
  intro os
  kernel_rfl
end K15
namespace PyI
open PySem PySem.Spec PyProof.Rows L2
/-! ### running code by rules -/
section
variable {P : Pg} {cf ci : Nat → List Dt → List Dt → Rc} {S S1 S2 S3 : Sto} {a b c : Tm} {x y z d : Dt} {es : List Tm} {ds : List Dt} {ks : List Str} {op : Operator} {cp o1 o2 : CmpOp} {p q : Bool} {R : Rt} {m' : List Dt} {sh : List Ar} {xs : List Dt}
theorem e_var {i : Nat} (h : S.r[i]? = some (some (.p d))) : evE P cf ci (.var i) S = .ok d S := by rw [evE, h]
theorem e_cst : evE P cf ci (.cst d) S = .ok d S := by rw [evE]
theorem e_glo {g : Str} : evE P cf ci (.glo g d) S = .ok d S := by rw [evE]
theorem opD_ins {op : Operator} {c0 : Nat} {ns : List Str} {vs : List Dt} {y : Dt} : opD op (.ins c0 ns vs) y = none := by
  cases op <;> rfl
theorem bin1_pl {op : Operator} (h : opD op x y = some d) : bin1 P cf op x y S = .ok d S := by
  cases x with
  | ins c0 ns vs => rw [opD_ins] at h; cases h
  | _ => simp only [bin1, h, okD]
theorem e_binO {op : Operator} {c0 g : Nat} {ns : List Str} {vs : List Dt} (ha : evE P cf ci a S = .ok (.ins c0 ns vs) S1) (hb : evE P cf ci b S1 = .ok y S2) (hm : (opMeth op).bind (P.meth c0) = some g) (ht : typedO P op c0 y = true) (hc : cf g [.ins c0 ns vs, y] S2.m = .ok (.p d) m') : evE P cf ci (.bin op a b) S = .ok d ⟨S2.r, m'⟩ := by
  rw [evE, ha]
  simp only [Rs.bind]
  rw [hb]
  simp only [Rs.bind, bin1, hm, ht, if_true, hc, upR]
theorem e_bin (ha : evE P cf ci a S = .ok x S1) (hb : evE P cf ci b S1 = .ok y S2) (h : opD op x y = some d) : evE P cf ci (.bin op a b) S = .ok d S2 := by
  rw [evE, ha]
  simp only [Rs.bind]
  rw [hb]
  exact bin1_pl h
theorem e_neg {i : Int} (ha : evE P cf ci a S = .ok (.int i) S1) : evE P cf ci (.neg a) S = .ok (.int (-i)) S1 := by
  rw [evE, ha]
  rfl
theorem e_cmp (ha : evE P cf ci a S = .ok x S1) (hb : evE P cf ci b S1 = .ok y S2) (h : cmp1 P cf cp x y S2 = .ok d S3) : evE P cf ci (.cmp cp a b) S = .ok d S3 := by
  rw [evE, ha]
  simp only [Rs.bind]
  rw [hb]
  exact h
theorem c_pl {k : Bool} (hx : insB x = false) (h : cmpD cp x y = some k) : cmp1 P cf cp x y S = .ok (.bl k) S := by
  have e : cmp1 P cf cp x y S = okD ((cmpD cp x y).map .bl) S := by
    cases y with
    | ins c0 ns vs =>
      exfalso
      cases cp <;> cases x <;> first | (simp [insB] at hx; done) | (simp [cmpD, eqD, toPy] at h; done)
    | _ =>
      cases x with
      | ins _ _ _ => simp [insB] at hx
      | _ => cases cp <;> first | rfl | (have h' : eqD _ _ = some k := h; simp only [cmp1, lstEq, cmpD, h'])
  rw [e, h]
  rfl
theorem c_eq {c0 g : Nat} {ns : List Str} {vs : List Dt} (hm : P.meth c0 "__eq__" = some g) (ht : typed P y = true) (hc : cf g [.ins c0 ns vs, y] S.m = .ok (.p d) m') : cmp1 P cf .Eq (.ins c0 ns vs) y S = .ok d ⟨S.r, m'⟩ := by
  unfold cmp1
  simp only [hm, ht, if_true, hc, upN]
theorem c_eqB {c0 g : Nat} {ns : List Str} {vs : List Dt} (hx : eqBk x = true) (hm : P.meth c0 "__eq__" = some g) (hc : cf g [.ins c0 ns vs, x] S.m = .ok (.p d) m') : cmp1 P cf .Eq x (.ins c0 ns vs) S = .ok d ⟨S.r, m'⟩ := by
  cases x with
  | ins _ _ _ => cases hx
  | _ => simp only [cmp1, hm, hx, if_true, hc, upN]
theorem c_in {c0 g : Nat} {ns : List Str} {vs : List Dt} (hm : P.meth c0 "__contains__" = some g) (hc : cf g [.ins c0 ns vs, x] S.m = .ok (.p (.bl p)) m') : cmp1 P cf .In x (.ins c0 ns vs) S = .ok (.bl p) ⟨S.r, m'⟩ := by
  simp only [cmp1, hm, hc, upN, Rs.bind, blB]
theorem e_chn {j k : Bool} (ha : evE P cf ci a S = .ok x S1) (hb : evE P cf ci b S1 = .ok y S2) (h1 : cmpD o1 x y = some j) (hc : evE P cf ci c S2 = .ok z S2) (h2 : cmpD o2 y z = some k) : evE P cf ci (.chn o1 o2 a b c) S = .ok (.bl (j && k)) S2 := by
  rw [evE, ha]
  simp only [Rs.bind]
  rw [hb]
  simp only [Rs.bind, h1, Option.map_some, okD]
  cases j with
  | false => rfl
  | true =>
    simp only [hc, Rs.bind, h2, Option.map_some, okD, Bool.true_and]
theorem e_and (ha : evE P cf ci a S = .ok (.bl p) S1) (hb : evE P cf ci b S1 = .ok (.bl q) S1) : evE P cf ci (.and2 a b) S = .ok (.bl (p && q)) S1 := by
  rw [evE, ha]
  cases p with
  | false => rfl
  | true => exact hb
theorem e_and_f (ha : evE P cf ci a S = .ok (.bl p) S1) (hp : p = false) : evE P cf ci (.and2 a b) S = .ok (.bl false) S1 := by
  rw [evE, ha, hp]
  rfl
theorem e_and_t (ha : evE P cf ci a S = .ok (.bl p) S1) (hp : p = true) (hb : evE P cf ci b S1 = .ok d S2) : evE P cf ci (.and2 a b) S = .ok d S2 := by
  rw [evE, ha, hp]
  exact hb
theorem e_or (ha : evE P cf ci a S = .ok (.bl p) S1) (hb : evE P cf ci b S1 = .ok (.bl q) S1) : evE P cf ci (.or2 a b) S = .ok (.bl (p || q)) S1 := by
  rw [evE, ha]
  cases p with
  | true => rfl
  | false => exact hb
theorem e_or_t (ha : evE P cf ci a S = .ok (.bl p) S1) (hp : p = true) : evE P cf ci (.or2 a b) S = .ok (.bl true) S1 := by
  rw [evE, ha, hp]
  rfl
theorem e_or_f (ha : evE P cf ci a S = .ok (.bl p) S1) (hp : p = false) (hb : evE P cf ci b S1 = .ok d S2) : evE P cf ci (.or2 a b) S = .ok d S2 := by
  rw [evE, ha, hp]
  exact hb
theorem e_not (ha : evE P cf ci a S = .ok (.bl p) S1) : evE P cf ci (.not1 a) S = .ok (.bl (!p)) S1 := by
  rw [evE, ha]
  rfl
theorem e_ife_t (hc : evE P cf ci c S = .ok (.bl p) S1) (hp : p = true) (ha : evE P cf ci a S1 = .ok d S2) : evE P cf ci (.ife c a b) S = .ok d S2 := by
  rw [evE, hc, hp]
  exact ha
theorem e_ife_f (hc : evE P cf ci c S = .ok (.bl p) S1) (hp : p = false) (hb : evE P cf ci b S1 = .ok d S2) : evE P cf ci (.ife c a b) S = .ok d S2 := by
  rw [evE, hc, hp]
  exact hb
theorem e_nil : evEs P cf ci [] S = .ok [] S := by rw [evEs]
theorem e_cons (ha : evE P cf ci a S = .ok d S1) (hs : evEs P cf ci es S1 = .ok ds S2) : evEs P cf ci (a :: es) S = .ok (d :: ds) S2 := by
  rw [evEs, ha]
  simp only [Rs.bind]
  rw [hs]
theorem e_tup (hs : evEs P cf ci es S = .ok ds S1) (hl : ds.length ≤ sizeLine) : evE P cf ci (.tup es) S = .ok (.tup ds) S1 := by
  rw [evE, hs]
  simp only [Rs.bind, if_pos hl]
theorem e_lst (hs : evEs P cf ci es S = .ok ds S1) (hl : ds.length ≤ sizeLine) : evE P cf ci (.lst es) S = .ok (.lst ds) S1 := by
  rw [evE, hs]
  simp only [Rs.bind, if_pos hl]
theorem e_ix (ha : evE P cf ci a S = .ok x S1) (hb : evE P cf ci b S1 = .ok y S2) (h : ixD S2.m x y = some d) : evE P cf ci (.ix a b) S = .ok d S2 := by
  rw [evE, ha]
  simp only [Rs.bind]
  rw [hb]
  simp only [Rs.bind, h, okD]
theorem e_fld {c0 : Nat} {ns : List Str} {vs : List Dt} {fl : Str} (ha : evE P cf ci a S = .ok (.ins c0 ns vs) S1) (hp : P.prop c0 fl = none) (hf : P.fld c0 fl = true) (h : lookD fl ns vs = some d) : evE P cf ci (.fld a fl) S = .ok d S1 := by
  rw [evE, ha]
  simp only [Rs.bind, hp, hf, if_true, h, okD]
theorem e_prop {c0 g : Nat} {ns : List Str} {vs : List Dt} {fl : Str} (ha : evE P cf ci a S = .ok (.ins c0 ns vs) S1) (hp : P.prop c0 fl = some g) (hc : cf g [.ins c0 ns vs] S1.m = .ok (.p d) m') : evE P cf ci (.fld a fl) S = .ok d ⟨S1.r, m'⟩ := by
  rw [evE, ha]
  simp only [Rs.bind, hp, hc, upN]
theorem e_bi {bb : Bi} (hs : evEs P cf ci es S = .ok ds S1) (h : bi1 P cf bb ds S1 = .ok d S2) : evE P cf ci (.bi bb es) S = .ok d S2 := by
  rw [evE, hs]
  exact h
theorem e_isi {ts : List Ty} {k : Bool} (ha : evE P cf ci a S = .ok x S1) (h : isTs P x ts = some k) : evE P cf ci (.isi a ts) S = .ok (.bl k) S1 := by
  rw [evE, ha]
  simp only [Rs.bind, h, Option.map_some, okD]
theorem e_call {f n : Nat} (hs : evEs P cf ci es S = .ok ds S1) (hn : ds.length - ks.length = n) (hsh : P.shf f n ks = some sh) (hp : pick ds sh = some xs) (hc : cf f xs S1.m = .ok (.p d) m') : evE P cf ci (.call f ks es) S = .ok d ⟨S1.r, m'⟩ := by
  rw [evE, hs]
  simp only [Rs.bind, hn, hsh, hp, upP, hc, upR]
theorem e_smeth {f n c0 : Nat} {mt : Str} (hs : evEs P cf ci es S = .ok ds S1) (hn : ds.length - ks.length = n) (hsh : P.shf f n ks = some sh) (hp : pick ds sh = some xs) (hc : cf f xs S1.m = .ok (.p d) m') : evE P cf ci (.smeth c0 mt f ks es) S = .ok d ⟨S1.r, m'⟩ := by
  rw [evE, hs]
  simp only [Rs.bind, hn, hsh, hp, upP, hc, upR]
theorem e_make {c0 n : Nat} (hs : evEs P cf ci es S = .ok ds S1) (hn : ds.length - ks.length = n) (hsh : P.shc c0 n ks = some sh) (hp : pick ds sh = some xs) (hc : ci c0 xs S1.m = .ok (.p d) m') : evE P cf ci (.make c0 ks es) S = .ok d ⟨S1.r, m'⟩ := by
  rw [evE, hs]
  simp only [Rs.bind, hn, hsh, hp, upP, hc, upR]
theorem e_meth {c0 g n : Nat} {ns : List Str} {vs : List Dt} {mt : Str} (ha : evE P cf ci a S = .ok (.ins c0 ns vs) S1) (hm : P.meth c0 mt = some g) (hl : lookD mt ns vs = none) (hs : evEs P cf ci es S1 = .ok ds S2) (hn : ds.length + 1 - ks.length = n) (hsh : P.shf g n ks = some sh) (hp : pick (.ins c0 ns vs :: ds) sh = some xs) (hc : cf g xs S2.m = .ok (.p d) m') :
    evE P cf ci (.meth a mt ks es) S = .ok d ⟨S2.r, m'⟩ := by
  rw [evE, ha]
  simp only [Rs.bind, hm, hl]
  rw [hs]
  simp only [Rs.bind, hn, hsh, hp, upP, hc, upR]
theorem e_slcL {i : Int} (ha : evE P cf ci a S = .ok x S1) (hb : evE P cf ci b S1 = .ok (.int i) S2) (h : slD x (some i) none = some d) : evE P cf ci (.slcL a b) S = .ok d S2 := by
  rw [evE, ha]
  simp only [Rs.bind]
  rw [hb]
  simp only [Rs.bind, h, okD]
theorem e_slcH {i : Int} (ha : evE P cf ci a S = .ok x S1) (hb : evE P cf ci b S1 = .ok (.int i) S2) (h : slD x none (some i) = some d) : evE P cf ci (.slcH a b) S = .ok d S2 := by
  rw [evE, ha]
  simp only [Rs.bind]
  rw [hb]
  simp only [Rs.bind, h, okD]
theorem e_enm (ha : evE P cf ci a S = .ok (.lst ds) S1) : evE P cf ci (.enm a) S = .ok (.lst (enmL 0 ds)) S1 := by
  rw [evE, ha]
  rfl
theorem e_lrg2 {i j : Int} (ha : evE P cf ci a S = .ok (.int i) S1) (hb : evE P cf ci b S1 = .ok (.int j) S2) (h : (j - i).toNat ≤ 65536) : evE P cf ci (.lrg2 a b) S = .ok (.lst (rangeD i j)) S2 := by
  rw [evE, ha]
  simp only [Rs.bind]
  rw [hb]
  simp only [Rs.bind, lrgD, if_pos h]
theorem e_mk0 {c0 : Nat} {cd : ClD} (hc : P.cl[c0]? = some cd) (hb : cd.bare = true) : evE P cf ci (.mk0 c0) S = .ok (.ins c0 [] []) S := by
  rw [evE, hc]
  simp only [hb, if_true]
/-! statements -/
theorem s_aug {i : Nat} {op : Operator} {c0 g : Nat} {ns : List Str} {vs : List Dt} (h0 : S.r[i]? = some (some (.p (.ins c0 ns vs)))) (ha : evE P cf ci a S = .ok y S1) (hm : (opMeth op).bind (P.meth c0) = some g) (ht : typedO P op c0 y = true) (hc : cf g [.ins c0 ns vs, y] S1.m = .ok (.p d) m') (hi : i < S1.r.length) : evS P cf ci (.aug i op a) S = .nx ⟨S1.r.set i (some (.p d)), m'⟩ := by
  rw [evS, h0]
  simp only [ha, toRt, aug1, bin1, hm, ht, if_true, hc, upR, if_pos hi]
theorem s_nil : evSs P cf ci [] S = .nx S := by rw [evSs]
theorem s_cons {s : Sm} {ss : List Sm} (h : evS P cf ci s S = .nx S1) (hs : evSs P cf ci ss S1 = R) : evSs P cf ci (s :: ss) S = R := by
  rw [evSs, h]
  exact hs
theorem s_stop {s : Sm} {ss : List Sm} {bn : Bn} (h : evS P cf ci s S = .rt bn S1) : evSs P cf ci (s :: ss) S = .rt bn S1 := by
  rw [evSs, h]
theorem s_asg {tg : Tg} {r' : List (Option Bn)} (h : evE P cf ci a S = .ok d S1) (ht : tgD tg d S1.r = some r') : evS P cf ci (.asg tg a) S = .nx ⟨r', S1.m⟩ := by
  rw [evS, h]
  simp only [toRt, ht]
theorem s_ret (h : evE P cf ci a S = .ok d S1) : evS P cf ci (.ret a) S = .rt (.p d) S1 := by
  rw [evS, h]
  rfl
theorem s_retF (h : evE P cf ci a S = .ok d S1) : evS P cf ci (.retF a) S = .rt (.o d) S1 := by
  rw [evS, h]
  rfl
theorem s_exp (h : evE P cf ci a S = .ok d S1) : evS P cf ci (.exp a) S = .nx S1 := by
  rw [evS, h]
  rfl
theorem s_iff_t {s1 s2 : List Sm} (h : evE P cf ci c S = .ok (.bl p) S1) (hp : p = true) (hs : evSs P cf ci s1 S1 = R) : evS P cf ci (.iff c s1 s2) S = R := by
  rw [evS, tst, h]
  simp only [Rs.bind, toRt, hp, if_true]
  exact hs
theorem s_iff_f {s1 s2 : List Sm} (h : evE P cf ci c S = .ok (.bl p) S1) (hp : p = false) (hs : evSs P cf ci s2 S1 = R) : evS P cf ci (.iff c s1 s2) S = R := by
  rw [evS, tst, h]
  simp only [Rs.bind, toRt, hp, Bool.false_eq_true, if_false]
  exact hs
theorem s_par {i j : Nat} (ha : evE P cf ci a S = .ok x S1) (hb : evE P cf ci b S1 = .ok y S2) (hl : i < S2.r.length ∧ j < S2.r.length) : evS P cf ci (.par i j a b) S = .nx ⟨(S2.r.set i (some (.p x))).set j (some (.p y)), S2.m⟩ := by
  rw [evS, ha]
  simp only [toRt]
  rw [hb]
  simp only [if_pos hl]
theorem s_put (h : evE P cf ci a S = .ok d S1) (ho : evE P cf ci b S1 = .ok x S2) (hi : evE P cf ci c S2 = .ok y S3) (hs : setC S3.m x y d = some m') : evS P cf ci (.put b c a) S = .nx ⟨S3.r, m'⟩ := by
  rw [evS, h]
  simp only [toRt]
  rw [ho]
  simp only [toRt]
  rw [hi]
  simp only [hs]
theorem s_tsub {j : Nat} {d1 d2 : Dt} (h : evE P cf ci a S = .ok (.tup [d1, d2]) S1) (ho : evE P cf ci b S1 = .ok x S2) (hi : evE P cf ci c S2 = .ok y S3) (hs : setC S3.m x y d1 = some m') (hj : j < S3.r.length) : evS P cf ci (.tsub b c j a) S = .nx ⟨S3.r.set j (some (.p d2)), m'⟩ := by
  rw [evS, h]
  simp only [toRt]
  rw [ho]
  simp only [toRt]
  rw [hi]
  simp only [hs, if_pos hj]
theorem s_fld {fl : Str} {c0 : Nat} {ns : List Str} {vs : List Dt} (h : evE P cf ci a S = .ok d S1) (h0 : S1.r[(0 : Nat)]? = some (some (.o (.ins c0 ns vs)))) (hf : P.fld c0 fl = true) (hl : ns.length < 1000) : evS P cf ci (.fld fl a) S = .nx ⟨S1.r.set 0 (some (.o (.ins c0 (putD fl d ns vs).1 (putD fl d ns vs).2))), S1.m⟩ := by
  rw [evS, h]
  simp only [toRt, h0, hf, hl, and_self, if_true]
/-! defs -/
theorem f_run {g : Nat} {fd : FnD} {m : List Dt} (hg : P.fn[g]? = some fd) (hl : xs.length = fd.k ∧ fd.k ≤ fd.n) (hc : fd.cell = false) (h : evSs P cf ci fd.b ⟨xs.map (fun d => some (.p d)) ++ List.replicate (fd.n - fd.k) none, m⟩ = .rt (.p d) S1) : fnRun P cf ci g xs m = .ok (.p d) S1.m := by
  unfold fnRun
  rw [hg]
  simp only [if_pos hl, h, hc, Bool.false_eq_true, if_false]
theorem f_end {g : Nat} {fd : FnD} {m : List Dt} (hg : P.fn[g]? = some fd) (hl : xs.length = fd.k ∧ fd.k ≤ fd.n) (hc : fd.cell = false) (h : evSs P cf ci fd.b ⟨xs.map (fun d => some (.p d)) ++ List.replicate (fd.n - fd.k) none, m⟩ = .nx S1) : fnRun P cf ci g xs m = .ok (.p .non) S1.m := by
  unfold fnRun
  rw [hg]
  simp only [if_pos hl, h, hc, Bool.false_eq_true, if_false]
theorem f_cell {g : Nat} {fd : FnD} {m : List Dt} (hg : P.fn[g]? = some fd) (hl : xs.length = fd.k ∧ fd.k ≤ fd.n) (hc : fd.cell = true) (h : evSs P cf ci fd.b ⟨xs.map (fun d => some (.p d)) ++ List.replicate (fd.n - fd.k) none, m⟩ = .rt (.o d) S1) : fnRun P cf ci g xs m = .ok (.p (.cel S1.m.length)) (S1.m ++ [d]) := by
  unfold fnRun
  rw [hg]
  simp only [if_pos hl, h, hc, if_true]
theorem c_run {c0 : Nat} {cd : ClD} {fd : FnD} {m : List Dt} {c1 : Nat} {ns : List Str} {vs : List Dt} (hc : P.cl[c0]? = some cd) (hg : P.fn[cd.init]? = some fd) (hl : xs.length + 1 = fd.k ∧ fd.k ≤ fd.n)
    (h : evSs P cf ci fd.b ⟨some (.o (.ins c0 [] [])) :: (xs.map (fun d => some (.p d)) ++ List.replicate (fd.n - fd.k) none), m⟩ = .nx S1) (h0 : S1.r[(0 : Nat)]? = some (some (.o (.ins c1 ns vs)))) : clRun P cf ci c0 xs m = .ok (.p (.ins c1 ns vs)) S1.m := by
  unfold clRun
  rw [hc]
  simp only
  rw [hg]
  simp only [if_pos hl, h, h0]
end
end PyI
namespace PyI
open PySem PySem.Spec PyProof.Rows L2
/-! ### the laws' own source of choices: a pot -/
structure Pot where
  a : Nat
  b : Nat
  hb : b < 2147483648
def potD (p : Pot) : Dt := .lst [.int p.a, .int p.b]
def nxB (b : Nat) : Nat := (b * 48271 + 12161) % 2147483587
theorem nxB_lt (b : Nat) : nxB b < 2147483648 := Nat.lt_of_lt_of_le (Nat.mod_lt _ (by decide)) (by decide)
def dr (p : Pot) (s : Nat) : Nat × Pot := if 0 < p.a then (p.a % s, ⟨p.a / s, p.b, p.hb⟩) else ((nxB p.b * nxB p.b) % 2147483549 / 13 % s, ⟨p.a, nxB p.b, nxB_lt _⟩)
theorem dr_lt (p : Pot) {s : Nat} (hs : 0 < s) : (dr p s).1 < s := by
  unfold dr
  split <;> exact Nat.mod_lt _ hs
/-- _law_draw -/
def drawC : List Sm := [.iff (.cmp .Gt (.ix (.var 0) (.cst (.int 0))) (.cst (.int 0))) [.tsub (.var 0) (.cst (.int 0)) 2 (.bi .divmod [(.ix (.var 0) (.cst (.int 0))), (.var 1)]), .ret (.var 2)] [], .put (.var 0) (.cst (.int 1)) (.bin .Mod (.bi .int [(.bin .Add (.bin .Mult (.ix (.var 0) (.cst (.int 1))) (.cst (.int 48271))) (.cst (.int 12161)))]) (.cst (.int 2147483587))), .ret (.bin .Mod (.bi .int [(.bin .FloorDiv (.bin .Mod (.bi .int [(.bin .Mult (.ix (.var 0) (.cst (.int 1))) (.ix (.var 0) (.cst (.int 1))))]) (.cst (.int 2147483549))) (.cst (.int 13)))]) (.var 1))]
section
variable {P : Pg} {cf ci : Nat → List Dt → List Dt → Rc}
theorem cel_get {m : List Dt} {k : Nat} {p : Pot} (hk : k < m.length) : (m.set k (potD p))[k]? = some (potD p) := by simp [hk]
theorem cel_ix {m : List Dt} {k : Nat} {ds : List Dt} {i : Int} {d : Dt} (hg : m[k]? = some (.lst ds)) (h : atI ds i = some d) : ixD m (.cel k) (.int i) = some d := by
  simp only [ixD, hg, h]
theorem cel_set {m : List Dt} {k : Nat} {ds : List Dt} {i : Int} {n : Nat} {d : Dt} (hg : m[k]? = some (.lst ds)) (h : ixN ds.length i = some n) : setC m (.cel k) (.int i) d = some (m.set k (.lst (ds.set n d))) := by
  simp only [setC, hg, h, Option.map_some]
theorem mulOk_of {i j : Nat} (h : i < 2147483648) : mulOk i j = true := by
  unfold mulOk
  have h1 : decide (-(2 ^ 64 : Int) < (i : Int)) = true := decide_eq_true (by omega)
  have h2 : decide ((i : Int) < 2 ^ 64) = true := decide_eq_true (by omega)
  rw [h1, h2]
  rfl
theorem op_mulN {i j : Nat} (h : i < 2147483648) : opD .Mult (.int i) (.int j) = some (.int ((i * j : Nat) : Int)) := by
  simp only [opD]
  rw [if_pos (mulOk_of h), Int.natCast_mul]
theorem op_addN {i j : Nat} : opD .Add (.int i) (.int j) = some (.int ((i + j : Nat) : Int)) := by
  simp only [opD]
  rw [Int.natCast_add]
theorem op_modN {i j : Nat} (h : 0 < j) : opD .Mod (.int i) (.int j) = some (.int ((i % j : Nat) : Int)) := by
  simp only [opD]
  rw [if_pos (by omega), Int.natCast_emod]
theorem op_divN {i j : Nat} (h : 0 < j ∧ j < 1073741824) : opD .FloorDiv (.int i) (.int j) = some (.int ((i / j : Nat) : Int)) := by
  simp only [opD]
  rw [if_pos (by omega), Int.natCast_ediv]
theorem draw_run {g : Nat} {shs : List (Nat × List Str × List Ar)} (hg : P.fn[g]? = some ⟨2, 3, false, shs, drawC, false⟩) {k s : Nat} {m : List Dt} {p : Pot} (hk : k < m.length) (hs : 0 < s ∧ s < 1073741824) :
    fnRun P cf ci g [.cel k, .int s] (m.set k (potD p)) = .ok (.p (.int (dr p s).1)) (m.set k (potD (dr p s).2)) := by
  have g0 : (m.set k (potD p))[k]? = some (.lst [.int p.a, .int p.b]) := cel_get hk
  have cond : evE P cf ci (.cmp .Gt (.ix (.var 0) (.cst (.int 0))) (.cst (.int 0))) ⟨[some (.p (.cel k)), some (.p (.int s)), none], m.set k (potD p)⟩ = .ok (.bl (decide ((0 : Int) < p.a))) ⟨[some (.p (.cel k)), some (.p (.int s)), none], m.set k (potD p)⟩ :=
    e_cmp (e_ix (e_var rfl) e_cst (cel_ix g0 rfl)) e_cst (c_pl rfl rfl)
  by_cases h : 0 < p.a
  · have hd : dr p s = (p.a % s, ⟨p.a / s, p.b, p.hb⟩) := if_pos h
    rw [hd]
    have db : bi1 P cf .divmod [.int p.a, .int s] ⟨[some (.p (.cel k)), some (.p (.int s)), none], m.set k (potD p)⟩ = .ok (.tup [.int ((p.a / s : Nat) : Int), .int ((p.a % s : Nat) : Int)]) ⟨[some (.p (.cel k)), some (.p (.int s)), none], m.set k (potD p)⟩ := by
      simp only [bi1, biD]
      rw [if_pos (by omega), Int.natCast_ediv, Int.natCast_emod]
      rfl
    have z := f_run (P := P) (cf := cf) (ci := ci) (m := m.set k (potD p)) hg (xs := [.cel k, .int s]) ⟨rfl, Nat.le_of_ble_eq_true rfl⟩ rfl (s_stop (s_iff_t cond (decide_eq_true (by omega)) (s_cons (s_tsub (e_bi (e_cons (e_ix (e_var rfl) e_cst (cel_ix g0 rfl)) (e_cons (e_var rfl) e_nil)) db) (e_var rfl) e_cst (cel_set g0 rfl) (Nat.le_of_ble_eq_true rfl)) (s_stop (s_ret (e_var rfl))))))
    refine z.trans ?_
    simp only [List.set_set]
    rfl
  · have hd : dr p s = ((nxB p.b * nxB p.b) % 2147483549 / 13 % s, ⟨p.a, nxB p.b, nxB_lt _⟩) := if_neg h
    rw [hd]
    have g1 : ((m.set k (potD p)).set k (.lst ([Dt.int p.a, .int p.b].set 1 (.int ((nxB p.b : Nat) : Int)))))[k]? = some (.lst [.int p.a, .int ((nxB p.b : Nat) : Int)]) := by simp [hk]
    have z := f_run (P := P) (cf := cf) (ci := ci) (m := m.set k (potD p)) hg (xs := [.cel k, .int s]) ⟨rfl, Nat.le_of_ble_eq_true rfl⟩ rfl (s_cons (s_iff_f cond (decide_eq_false (by omega)) s_nil)
      (s_cons (s_put (e_bin (e_bi (e_cons (e_bin (e_bin (e_ix (e_var rfl) e_cst (cel_ix g0 rfl)) e_cst (op_mulN (j := 48271) p.hb)) e_cst (op_addN (j := 12161))) e_nil) rfl) e_cst (op_modN (j := 2147483587) (by decide))) (e_var rfl) e_cst (cel_set g0 rfl))
        (s_stop (s_ret (e_bin (e_bi (e_cons (e_bin (e_bin (e_bi (e_cons (e_bin (e_ix (e_var rfl) e_cst (cel_ix g1 rfl)) (e_ix (e_var rfl) e_cst (cel_ix g1 rfl)) (op_mulN (nxB_lt _))) e_nil) rfl) e_cst (op_modN (j := 2147483549) (by decide))) e_cst (op_divN (j := 13) (by decide))) e_nil) rfl) (e_var rfl) (op_modN hs.1))))))
    refine z.trans ?_
    simp only [List.set_set]
    rfl
/-- _law_pick: some[draw(pot, len(some))], draw the def g0 -/
def pickC (g0 : Nat) : List Sm := [.ret (.ix (.var 1) (.call g0 [] [(.var 0), (.bi .len [(.var 1)])]))]
def pk (ds : List Dt) (p : Pot) : Dt := ds.getD (dr p ds.length).1 .non
theorem pick_run {g g0 : Nat} {shs : List (Nat × List Str × List Ar)} (hg : P.fn[g]? = some ⟨2, 2, false, shs, pickC g0, false⟩) (hsh : P.shf g0 2 [] = some [.a 0, .a 1]) {k : Nat} {m ds : List Dt} {p : Pot} (hs : 0 < ds.length)
    (hc : cf g0 [.cel k, .int ds.length] (m.set k (potD p)) = .ok (.p (.int (dr p ds.length).1)) (m.set k (potD (dr p ds.length).2))) :
    fnRun P cf ci g [.cel k, .lst ds] (m.set k (potD p)) = .ok (.p (pk ds p)) (m.set k (potD (dr p ds.length).2)) := by
  have hl := dr_lt p hs
  have h0 : ixD (m.set k (potD (dr p ds.length).2)) (.lst ds) (.int (dr p ds.length).1) = some (pk ds p) := by
    have e : ixN ds.length ((dr p ds.length).1 : Int) = some (dr p ds.length).1 := by
      unfold ixN
      simp only [Int.natCast_nonneg, if_true]
      first | (rw [if_pos (by omega)]; simp) | simp [hl]
    show atI ds _ = _
    unfold atI
    rw [e]
    simp [pk, List.getD, List.getElem?_eq_getElem hl]
  exact f_run (P := P) (cf := cf) (ci := ci) (m := m.set k (potD p)) hg (xs := [.cel k, .lst ds]) ⟨rfl, Nat.le_of_ble_eq_true rfl⟩ rfl (s_stop (s_ret (e_ix (e_var rfl) (e_call (e_cons (e_var rfl) (e_cons (e_bi (e_cons (e_var rfl) e_nil) rfl) e_nil)) rfl hsh rfl hc) h0)))
/-- _law_pot -/
def potC : List Sm := [.asg (.nm 2) (.bin .Add (.bin .Mult (.cst (.int 29)) (.var 1)) (.cst (.int 8))), .iff (.cmp .Lt (.var 1) (.bi .len [(.var 0)])) [.asg (.nm 2) (.bi .abs [(.ix (.var 0) (.var 1))])] [], .retF (.lst [(.bi .max [(.cst (.int 0)), (.bin .Sub (.var 2) (.bin .Pow (.cst (.int 10)) (.cst (.int 18))))]), (.bin .Add (.bin .Mod (.bin .Mult (.bi .int [(.bin .Add (.bin .Mod (.bi .int [(.var 2)]) (.cst (.int 2147483549))) (.cst (.int 7)))]) (.bin .Pow (.bin .Add (.bin .Mult (.cst (.int 2)) (.var 1)) (.cst (.int 3))) (.cst (.int 3)))) (.cst (.int 2147483477))) (.cst (.int 1)))])]
def celN (ns : List Int) (k : Nat) : Nat := match ns[k]? with
  | some i => i.natAbs
  | none => 29 * k + 8
def potOf (ns : List Int) (k : Nat) : Pot := ⟨celN ns k - 1000000000000000000, ((celN ns k % 2147483549 + 7) * (2 * k + 3) ^ 3) % 2147483477 + 1, by
  have := Nat.mod_lt ((celN ns k % 2147483549 + 7) * (2 * k + 3) ^ 3) (show 0 < 2147483477 by decide)
  omega⟩
theorem op_powN {i e : Nat} (h : i < 18446744073709551616) (he : e ≤ 1000000) : opD .Pow (.int i) (.int e) = some (.int ((i ^ e : Nat) : Int)) := by
  simp only [opD]
  rw [if_pos ⟨by omega, by omega, by simpa using h⟩, Int.natCast_pow]
  rfl
theorem max_sub {c d : Nat} : biD .max [.int 0, .int ((c : Int) - (d : Int))] = some (.int ((c - d : Nat) : Int)) := by
  simp only [biD]
  congr 2
  split <;> omega
theorem pot_run {g : Nat} {shs : List (Nat × List Str × List Ar)} (hg : P.fn[g]? = some ⟨2, 3, true, shs, potC, false⟩) {ns : List Int} {k : Nat} {m : List Dt} (hk : k < 1000) :
    fnRun P cf ci g [.scr ns, .int k] m = .ok (.p (.cel m.length)) (m ++ [potD (potOf ns k)]) := by
  have tail : ∀ c : Nat, evE P cf ci (.lst [(.bi .max [(.cst (.int 0)), (.bin .Sub (.var 2) (.bin .Pow (.cst (.int 10)) (.cst (.int 18))))]), (.bin .Add (.bin .Mod (.bin .Mult (.bi .int [(.bin .Add (.bin .Mod (.bi .int [(.var 2)]) (.cst (.int 2147483549))) (.cst (.int 7)))]) (.bin .Pow (.bin .Add (.bin .Mult (.cst (.int 2)) (.var 1)) (.cst (.int 3))) (.cst (.int 3)))) (.cst (.int 2147483477))) (.cst (.int 1)))]) ⟨[some (.p (.scr ns)), some (.p (.int k)), some (.p (.int c))], m⟩ =
      .ok (.lst [.int ((c - 1000000000000000000 : Nat) : Int), .int ((((c % 2147483549 + 7) * (2 * k + 3) ^ 3) % 2147483477 + 1 : Nat) : Int)]) ⟨[some (.p (.scr ns)), some (.p (.int k)), some (.p (.int c))], m⟩ := by
    intro c
    have hc : c % 2147483549 < 2147483549 := Nat.mod_lt _ (by decide)
    have mx : bi1 P cf .max [.int 0, .int ((c : Int) - ((1000000000000000000 : Nat) : Int))] ⟨[some (.p (.scr ns)), some (.p (.int k)), some (.p (.int c))], m⟩ = .ok (.int ((c - 1000000000000000000 : Nat) : Int)) ⟨[some (.p (.scr ns)), some (.p (.int k)), some (.p (.int c))], m⟩ := by
      simp only [bi1]
      rw [max_sub]
      rfl
    have pw : opD .Pow (.int 10) (.int 18) = some (.int ((1000000000000000000 : Nat) : Int)) := op_powN (i := 10) (e := 18) (by decide) (by decide)
    exact e_lst (e_cons (e_bi (e_cons e_cst (e_cons (e_bin (e_var rfl) (e_bin e_cst e_cst pw) rfl) e_nil)) mx)
      (e_cons (e_bin (e_bin (e_bin (e_bi (e_cons (e_bin (e_bin (e_bi (e_cons (e_var rfl) e_nil) rfl) e_cst (op_modN (j := 2147483549) (by decide))) e_cst (op_addN (j := 7))) e_nil) rfl) (e_bin (e_bin (e_bin e_cst (e_var rfl) (op_mulN (i := 2) (by decide))) e_cst (op_addN (j := 3))) e_cst (op_powN (e := 3) (by omega) (by decide))) (op_mulN (by omega))) e_cst (op_modN (j := 2147483477) (by decide))) e_cst (op_addN (j := 1))) e_nil)) (Nat.le_of_ble_eq_true rfl)
  have a0 : evS P cf ci (.asg (.nm 2) (.bin .Add (.bin .Mult (.cst (.int 29)) (.var 1)) (.cst (.int 8)))) ⟨[some (.p (.scr ns)), some (.p (.int k)), none], m⟩ = .nx ⟨[some (.p (.scr ns)), some (.p (.int k)), some (.p (.int ((29 * k + 8 : Nat) : Int)))], m⟩ :=
    s_asg (e_bin (e_bin e_cst (e_var rfl) (op_mulN (i := 29) (by decide))) e_cst (op_addN (j := 8))) rfl
  have cd : evE P cf ci (.cmp .Lt (.var 1) (.bi .len [(.var 0)])) ⟨[some (.p (.scr ns)), some (.p (.int k)), some (.p (.int ((29 * k + 8 : Nat) : Int)))], m⟩ = .ok (.bl (decide ((k : Int) < (ns.length : Nat)))) ⟨[some (.p (.scr ns)), some (.p (.int k)), some (.p (.int ((29 * k + 8 : Nat) : Int)))], m⟩ :=
    e_cmp (e_var rfl) (e_bi (e_cons (e_var rfl) e_nil) rfl) (c_pl rfl rfl)
  by_cases h : k < ns.length
  · have ec : celN ns k = (ns[k]).natAbs := by
      unfold celN
      rw [List.getElem?_eq_getElem h]
    have ix : ixD m (.scr ns) (.int k) = some (.int ns[k]) := by
      show (atI ns (k : Int)).map Dt.int = _
      unfold atI ixN
      rw [if_pos (by omega), if_pos (by omega)]
      simp [List.getElem?_eq_getElem h]
    have ab : bi1 P cf .abs [.int ns[k]] ⟨[some (.p (.scr ns)), some (.p (.int k)), some (.p (.int ((29 * k + 8 : Nat) : Int)))], m⟩ = .ok (.int ((ns[k]).natAbs : Int)) ⟨[some (.p (.scr ns)), some (.p (.int k)), some (.p (.int ((29 * k + 8 : Nat) : Int)))], m⟩ := by
      simp only [bi1, biD, okD]
      congr 2
      split <;> omega
    refine (f_cell (P := P) (cf := cf) (ci := ci) (m := m) hg (xs := [.scr ns, .int k]) ⟨rfl, Nat.le_of_ble_eq_true rfl⟩ rfl (s_cons a0 (s_cons (s_iff_t cd (decide_eq_true (by omega)) (s_cons (s_asg (e_bi (e_cons (e_ix (e_var rfl) (e_var rfl) ix) e_nil) ab) rfl) s_nil)) (s_stop (s_retF (tail _)))))).trans ?_
    rw [← ec]
    rfl
  · have ec : celN ns k = 29 * k + 8 := by
      unfold celN
      rw [List.getElem?_eq_none (by omega)]
    refine (f_cell (P := P) (cf := cf) (ci := ci) (m := m) hg (xs := [.scr ns, .int k]) ⟨rfl, Nat.le_of_ble_eq_true rfl⟩ rfl (s_cons a0 (s_cons (s_iff_f cd (decide_eq_false (by omega)) s_nil) (s_stop (s_retF (tail _)))))).trans ?_
    rw [← ec]
    rfl
end
end PyI
namespace PyI
open PySem PySem.Spec PyProof.Rows L2
/-! ### comprehensions whose parts change nothing -/
theorem backB_out {r0 r : List (Option Bn)} {i : Nat} : ∀ {vs : List Nat}, i ∉ vs → (backB r0 vs r)[i]? = r[i]?
  | [], _ => rfl
  | v :: vs, h => by
    unfold backB
    have h1 : v ≠ i := fun e => h (by simp [e])
    rw [List.getElem?_set_ne h1]
    exact backB_out fun z => h (List.mem_cons_of_mem _ z)
theorem backB_in {r0 r : List (Option Bn)} {i : Nat} (hi : i < r.length) : ∀ {vs : List Nat}, i ∈ vs → (backB r0 vs r)[i]? = some ((r0[i]?).getD none)
  | [], h => by cases h
  | v :: vs, h => by
    unfold backB
    by_cases e : v = i
    · subst e
      rw [List.getElem?_set_self (by rw [backB_len]; exact hi)]
    · rw [List.getElem?_set_ne e]
      rcases List.mem_cons.mp h with z | z
      · exact absurd z.symm e
      · exact backB_in hi z
theorem back_same {r0 r : List (Option Bn)} {vs : List Nat} (h : wipeB r vs = wipeB r0 vs) : backB r0 vs r = r0 := by
  have hl : r.length = r0.length := by rw [← wipeB_len r vs, h, wipeB_len]
  apply List.ext_getElem?
  intro i
  by_cases hi : i ∈ vs
  · by_cases hb : i < r.length
    · rw [backB_in hb hi, List.getElem?_eq_getElem (by omega)]
      rfl
    · rw [List.getElem?_eq_none (by rw [backB_len]; omega), List.getElem?_eq_none (by omega)]
  · rw [backB_out hi, ← wipeB_get hi, h, wipeB_get hi]
/-- the turns: rx the slots at an item, q the condition, h the value -/
structure CompOk (ev cnd : Sto → Rs Dt) (tg : Tg) (own : List Nat) (w0 : List (Option Bn)) (m : List Dt) (x : Dt) (q : Bool) (v : Dt) : Prop where
  ex : ∃ rx, tgD tg x w0 = some rx ∧ wipeB rx own = w0 ∧ cnd ⟨rx, m⟩ = .ok (.bl q) ⟨rx, m⟩ ∧ (q = true → ev ⟨rx, m⟩ = .ok v ⟨rx, m⟩)
theorem compL_ok {ev cnd : Sto → Rs Dt} {tg : Tg} {own : List Nat} {w0 : List (Option Bn)} {m : List Dt} {q : Dt → Bool} {v : Dt → Dt} : ∀ {xs acc : List Dt} {r : List (Option Bn)}, wipeB r own = w0 → (∀ x ∈ xs, CompOk ev cnd tg own w0 m x (q x) (v x)) →
    ∃ r', wipeB r' own = w0 ∧ compL ev cnd tg own xs acc ⟨r, m⟩ = .ok (acc ++ (xs.filter q).map v) ⟨r', m⟩
  | [], acc, r, hw, _ => ⟨r, hw, by simp [compL]⟩
  | x :: xs, acc, r, hw, h => by
    obtain ⟨rx, h1, h2, h3, h4⟩ := (h x (by simp)).ex
    unfold compL
    simp only [hw, h1, h3]
    cases e : q x with
    | true =>
      simp only [h4 e]
      obtain ⟨r', k1, k2⟩ := compL_ok (xs := xs) (acc := acc ++ [v x]) (r := rx) h2 fun y hy => h y (by simp [hy])
      refine ⟨r', k1, ?_⟩
      rw [k2]
      simp [e]
    | false =>
      simp only
      obtain ⟨r', k1, k2⟩ := compL_ok (xs := xs) (acc := acc) (r := rx) h2 fun y hy => h y (by simp [hy])
      refine ⟨r', k1, ?_⟩
      rw [k2]
      simp [e]
section
variable {P : Pg} {cf ci : Nat → List Dt → List Dt → Rc}
theorem e_comp {S S1 : Sto} {e it c : Tm} {own : List Nat} {tg : Tg} {x : Dt} {xs : List Dt} {q : Dt → Bool} {v : Dt → Dt} (hi : evE P cf ci it S = .ok x S1) (hx : itemsD x = some xs) (hl : xs.length ≤ sizeLine) (hp : own.all (pureAt S1.r) = true)
    (h : ∀ y ∈ xs, CompOk (evE P cf ci e) (evE P cf ci c) tg own (wipeB S1.r own) S1.m y (q y) (v y)) : evE P cf ci (.comp e own tg it c) S = .ok (.lst ((xs.filter q).map v)) S1 := by
  rw [evE, hi]
  simp only [Rs.bind, compR, hx]
  rw [if_pos ⟨hl, hp⟩]
  obtain ⟨r', k1, k2⟩ := compL_ok (acc := []) (r := S1.r) rfl h
  have k2 : compL (evE P cf ci e) (evE P cf ci c) tg own xs [] S1 = .ok ([] ++ (xs.filter q).map v) ⟨r', S1.m⟩ := k2
  rw [k2]
  simp only [List.nil_append]
  rw [back_same k1]
theorem e_rng1 {S S1 : Sto} {a : Tm} {j : Int} (ha : evE P cf ci a S = .ok (.int j) S1) (h : smallI j = true) : evE P cf ci (.rng1 a) S = .ok (.lst (rangeD 0 j)) S1 := by
  rw [evE, ha]
  simp only [Rs.bind, rng1D, h, if_true]
theorem e_rng2 {S S1 S2 : Sto} {a b : Tm} {i j : Int} (ha : evE P cf ci a S = .ok (.int i) S1) (hb : evE P cf ci b S1 = .ok (.int j) S2) (h : (smallI i && smallI j) = true) : evE P cf ci (.rng2 a b) S = .ok (.lst (rangeD i j)) S2 := by
  rw [evE, ha]
  simp only [Rs.bind]
  rw [hb]
  simp only [Rs.bind, rng2D, h, if_true]
theorem small_of {n : Nat} (h : n < 4611686018427387904) : smallI n = true := by
  unfold smallI
  rw [decide_eq_true (by omega), decide_eq_true (by omega)]
  rfl
theorem qint {i j : Int} : cmpD .Eq (.int i) (.int j) = some (i == j) := rfl
theorem filter_yes {α : Type} {l : List α} : l.filter (fun _ => true) = l := by simp
end
end PyI
namespace PyI
open PySem PySem.Spec PyProof.Rows L2
/-! ### comparing data of any length -/
structure Pl (d : Dt) (x : PyData) (n : Nat) : Prop where
  py : toPy d = some x
  lay : x.canLay0 = true
  dep : x.depth ≤ n
structure Pls (ds : List Dt) (xs : List PyData) (n : Nat) : Prop where
  py : toPys ds = some xs
  lay : PyData.canLayAll0 xs = true
  dep : PyData.depthAll xs ≤ n
theorem Pl.int {i : Int} : Pl (.int i) (.int i) 0 := ⟨rfl, by rw [PyData.canLay0], by rw [PyData.depth]; exact Nat.le_refl _⟩
theorem Pl.bl {b : Bool} : Pl (.bl b) (.bool b) 0 := ⟨rfl, by rw [PyData.canLay0], by rw [PyData.depth]; exact Nat.le_refl _⟩
theorem Pl.non : Pl .non .none 0 := ⟨rfl, by rw [PyData.canLay0], by rw [PyData.depth]; exact Nat.le_refl _⟩
theorem Pl.str {x : Str} (h : PyData.canLay0 (.str x) = true) : Pl (.str x) (.str x) 0 := ⟨rfl, h, by rw [PyData.depth]; exact Nat.le_refl _⟩
theorem Pl.mono {d : Dt} {x : PyData} {n k : Nat} (h : Pl d x n) (l : n ≤ k) : Pl d x k := ⟨h.py, h.lay, Nat.le_trans h.dep l⟩
theorem Pls.nil {n : Nat} : Pls [] [] n := ⟨rfl, by rw [PyData.canLayAll0], by rw [PyData.depthAll]; exact Nat.zero_le _⟩
theorem Pls.cons {d : Dt} {x : PyData} {ds : List Dt} {xs : List PyData} {n : Nat} (h : Pl d x n) (t : Pls ds xs n) : Pls (d :: ds) (x :: xs) n := by
  refine ⟨?_, ?_, ?_⟩
  · unfold toPys
    rw [h.py, t.py]
  · rw [PyData.canLayAll0, h.lay, t.lay]
    rfl
  · rw [PyData.depthAll]
    exact Nat.max_le.mpr ⟨h.dep, t.dep⟩
theorem Pls.map {α : Type} {f : α → Dt} {g : α → PyData} {n : Nat} : ∀ {l : List α}, (∀ a ∈ l, Pl (f a) (g a) n) → Pls (l.map f) (l.map g) n
  | [], _ => Pls.nil
  | a :: l, h => Pls.cons (h a (by simp)) (Pls.map fun b hb => h b (by simp [hb]))
theorem Pl.lst {ds : List Dt} {xs : List PyData} {n : Nat} (h : Pls ds xs n) : Pl (.lst ds) (.list xs) (n + 1) := by
  refine ⟨?_, ?_, ?_⟩
  · unfold toPy
    rw [h.py]
    rfl
  · rw [PyData.canLay0]
    exact h.lay
  · rw [PyData.depth]
    exact Nat.add_le_add_right h.dep 1
theorem Pl.tup {ds : List Dt} {xs : List PyData} {n : Nat} (h : Pls ds xs n) : Pl (.tup ds) (.tuple xs) (n + 1) := by
  refine ⟨?_, ?_, ?_⟩
  · unfold toPy
    rw [h.py]
    rfl
  · rw [PyData.canLay0]
    exact h.lay
  · rw [PyData.depth]
    exact Nat.add_le_add_right h.dep 1
theorem Pl.shaped {d : Dt} {x : PyData} {n : Nat} (h : Pl d x n) (hn : n ≤ 64) : SeqAt.shaped x = true := by
  unfold SeqAt.shaped
  rw [h.lay, decide_eq_true (Nat.le_trans h.dep hn)]
  rfl
theorem eq_of {a b : Dt} {x y : PyData} {n k : Nat} (ha : Pl a x n) (hb : Pl b y k) (hn : n ≤ 64) (hk : k ≤ 64) : eqD a b = some (PyData.eqv x y) := by
  unfold eqD
  rw [ha.py, hb.py]
  simp only [ha.shaped hn, hb.shaped hk, Bool.and_self, if_true]
theorem cmpEq_of {a b : Dt} {x y : PyData} {n k : Nat} (ha : Pl a x n) (hb : Pl b y k) (hn : n ≤ 64) (hk : k ≤ 64) : cmpD .Eq a b = some (PyData.eqv x y) := by
  have e : cmpD .Eq a b = eqD a b := by cases a <;> cases b <;> rfl
  rw [e]
  exact eq_of ha hb hn hk
theorem cmpNe_of {a b : Dt} {x y : PyData} {n k : Nat} (ha : Pl a x n) (hb : Pl b y k) (hn : n ≤ 64) (hk : k ≤ 64) : cmpD .NotEq a b = some (!PyData.eqv x y) := by
  have e : cmpD .NotEq a b = (eqD a b).map (!·) := by cases a <;> cases b <;> rfl
  rw [e, eq_of ha hb hn hk]
  rfl
theorem in_of {a : Dt} {ds : List Dt} {x : PyData} {xs : List PyData} {n k : Nat} (ha : Pl a x n) (hb : Pls ds xs k) (hn : n ≤ 64) (hk : k + 1 ≤ 64) : inLD a ds = some (xs.any fun z => PyData.eqv z x) := by
  unfold inLD
  rw [ha.py, hb.py]
  have h2 := (Pl.lst hb).shaped hk
  simp only [ha.shaped hn, h2, Bool.and_self, if_true]
theorem cmpIn_of {a : Dt} {ds : List Dt} {x : PyData} {xs : List PyData} {n k : Nat} (ha : Pl a x n) (hb : Pls ds xs k) (hn : n ≤ 64) (hk : k + 1 ≤ 64) : cmpD .In a (.lst ds) = some (xs.any fun z => PyData.eqv z x) := by
  have e : cmpD .In a (.lst ds) = inLD a ds := by cases a <;> rfl
  rw [e]
  exact in_of ha hb hn hk
end PyI
namespace PyI
open PySem PySem.Spec PyProof.Rows L2
/-! ### draws, loops and comprehensions by what they keep -/
theorem pk_mem {ds : List Dt} {p : Pot} (h : 0 < ds.length) : pk ds p ∈ ds := by
  unfold pk
  rw [List.getD_eq_getElem?_getD, List.getElem?_eq_getElem (dr_lt p h)]
  exact List.getElem_mem _
theorem clampN {lo hi : Nat} (i : Int) (h : lo ≤ hi) : ∃ r : Nat, lo ≤ r ∧ r ≤ hi ∧ (if (if i < (hi : Int) then i else (hi : Int)) > (lo : Int) then (if i < (hi : Int) then i else (hi : Int)) else (lo : Int)) = (r : Int) := by
  by_cases h1 : i < (hi : Int)
  · rw [if_pos h1]
    by_cases h2 : i > (lo : Int)
    · rw [if_pos h2]
      exact ⟨i.toNat, by omega, by omega, by omega⟩
    · rw [if_neg h2]
      exact ⟨lo, by omega, by omega, rfl⟩
  · rw [if_neg h1]
    by_cases h2 : (hi : Int) > (lo : Int)
    · rw [if_pos h2]
      exact ⟨hi, by omega, by omega, rfl⟩
    · rw [if_neg h2]
      exact ⟨lo, by omega, by omega, rfl⟩
section
variable {P : Pg} {cf ci : Nat → List Dt → List Dt → Rc}
theorem mxmn {S : Sto} {lo hi : Nat} {i : Int} {r : Nat} (er : (if (if i < (hi : Int) then i else (hi : Int)) > (lo : Int) then (if i < (hi : Int) then i else (hi : Int)) else (lo : Int)) = (r : Int)) : bi1 P cf .max [.int (lo : Int), .int (if i < (hi : Int) then i else (hi : Int))] S = .ok (.int r) S := by
  simp only [bi1, biD, okD]
  rw [er]
theorem mxN {S : Sto} {a b : Nat} : bi1 P cf .max [.int a, .int b] S = .ok (.int (max a b : Nat)) S := by
  simp only [bi1, biD, okD]
  congr 2
  split <;> omega
theorem mnN {S : Sto} {a b : Nat} : bi1 P cf .min [.int a, .int b] S = .ok (.int (min a b : Nat)) S := by
  simp only [bi1, biD, okD]
  congr 2
  split <;> omega
theorem op_subN {i j : Nat} (h : j ≤ i) : opD .Sub (.int i) (.int j) = some (.int ((i - j : Nat) : Int)) := by
  simp only [opD]
  congr 2
  omega
theorem draw_ex {g : Nat} {shs : List (Nat × List Str × List Ar)} (hg : P.fn[g]? = some ⟨2, 3, false, shs, drawC, false⟩) {k s : Nat} {m : List Dt} (p : Pot) (hk : k < m.length) (hs : 0 < s ∧ s < 1073741824) :
    ∃ (d : Nat) (p' : Pot), d < s ∧ fnRun P cf ci g [.cel k, .int s] (m.set k (potD p)) = .ok (.p (.int d)) (m.set k (potD p')) :=
  ⟨_, _, dr_lt p hs.1, draw_run hg hk hs⟩
theorem s_for_inv {S S1 : Sto} {tg : Tg} {it : Tm} {b : List Sm} {x : Dt} {xs : List Dt} (I : Sto → Prop) (hi : evE P cf ci it S = .ok x S1) (hx : itemsD x = some xs) (h0 : I S1)
    (hb : ∀ y ∈ xs, ∀ S, I S → ∃ r', tgD tg y S.r = some r' ∧ ∃ S', evSs P cf ci b ⟨r', S.m⟩ = .nx S' ∧ I S') : ∃ S', evS P cf ci (.for_ tg it b) S = .nx S' ∧ I S' := by
  have go : ∀ (ys : List Dt), (∀ y ∈ ys, y ∈ xs) → ∀ S, I S → ∃ S', forL (evSs P cf ci b) tg ys S = .nx S' ∧ I S' := by
    intro ys
    induction ys with
    | nil => exact fun _ S h => ⟨S, rfl, h⟩
    | cons y ys ih =>
      intro hy S h
      obtain ⟨r', h1, S', h2, h3⟩ := hb y (hy y (by simp)) S h
      obtain ⟨S2, h4, h5⟩ := ih (fun z hz => hy z (by simp [hz])) S' h3
      refine ⟨S2, ?_, h5⟩
      unfold forL
      simp only [h1, h2]
      exact h4
  obtain ⟨S', h1, h2⟩ := go xs (fun _ h => h) S1 h0
  refine ⟨S', ?_, h2⟩
  rw [evS, hi]
  simp only [toRt, hx]
  exact h1
/-- turns that may change the memory; v the value of a turn -/
theorem compL_inv {ev cnd : Sto → Rs Dt} {tg : Tg} {own : List Nat} {w0 : List (Option Bn)} {v : Dt → Dt} (I : List Dt → Prop) : ∀ {xs acc : List Dt} {r : List (Option Bn)} {m : List Dt}, wipeB r own = w0 → I m →
    (∀ x ∈ xs, ∀ m, I m → ∃ rx, tgD tg x w0 = some rx ∧ cnd ⟨rx, m⟩ = .ok (.bl true) ⟨rx, m⟩ ∧ ∃ rx' m', ev ⟨rx, m⟩ = .ok (v x) ⟨rx', m'⟩ ∧ wipeB rx' own = w0 ∧ I m') →
    ∃ r' m', wipeB r' own = w0 ∧ I m' ∧ compL ev cnd tg own xs acc ⟨r, m⟩ = .ok (acc ++ xs.map v) ⟨r', m'⟩
  | [], acc, r, m, hw, hm, _ => ⟨r, m, hw, hm, by simp [compL]⟩
  | x :: xs, acc, r, m, hw, hm, h => by
    obtain ⟨rx, h1, h2, rx', m', h3, h4, h5⟩ := h x (by simp) m hm
    obtain ⟨r2, m2, k1, k2, k3⟩ := compL_inv I (xs := xs) (acc := acc ++ [v x]) (r := rx') (m := m') h4 h5 fun y hy => h y (by simp [hy])
    refine ⟨r2, m2, k1, k2, ?_⟩
    unfold compL
    simp only [hw, h1, h2, h3, k3]
    simp
theorem e_comp_inv {S S1 : Sto} {e it c : Tm} {own : List Nat} {tg : Tg} {x : Dt} {xs : List Dt} {v : Dt → Dt} (I : List Dt → Prop) (hi : evE P cf ci it S = .ok x S1) (hx : itemsD x = some xs) (hl : xs.length ≤ sizeLine) (hp : own.all (pureAt S1.r) = true) (h0 : I S1.m)
    (h : ∀ y ∈ xs, ∀ m, I m → ∃ rx, tgD tg y (wipeB S1.r own) = some rx ∧ evE P cf ci c ⟨rx, m⟩ = .ok (.bl true) ⟨rx, m⟩ ∧ ∃ rx' m', evE P cf ci e ⟨rx, m⟩ = .ok (v y) ⟨rx', m'⟩ ∧ wipeB rx' own = wipeB S1.r own ∧ I m') :
    ∃ m', I m' ∧ evE P cf ci (.comp e own tg it c) S = .ok (.lst (xs.map v)) ⟨S1.r, m'⟩ := by
  obtain ⟨r', m', k1, k2, k3⟩ := compL_inv (r := S1.r) (m := S1.m) (acc := []) I rfl h0 h
  refine ⟨m', k2, ?_⟩
  rw [evE, hi]
  simp only [Rs.bind, compR, hx]
  rw [if_pos ⟨hl, hp⟩]
  have k3 : compL (evE P cf ci e) (evE P cf ci c) tg own xs [] S1 = .ok ([] ++ xs.map v) ⟨r', m'⟩ := k3
  rw [k3]
  simp only [List.nil_append]
  rw [back_same k1]
theorem new_cell {m : List Dt} {d : Dt} : m ++ [d] = (m ++ [d]).set m.length d := by simp
theorem cell_lt {m : List Dt} {d : Dt} : m.length < (m ++ [d]).length := by simp
end
end PyI
namespace PyI
open PySem PySem.Spec PyProof.Rows L2
/-! ### rules for a walk by tactic -/
def seqK (x : Rt) (k : Sto → Rt) : Rt := match x with
  | .nx S1 => k S1
  | r => r
section
variable {P : Pg} {cf ci : Nat → List Dt → List Dt → Rc} {S S1 S2 S3 : Sto} {a b c : Tm} {x y z d : Dt} {es : List Tm} {ds : List Dt} {ks : List Str} {p q : Bool} {R R1 : Rt} {V : Rs Dt} {m' : List Dt} {sh : List Ar} {xs : List Dt}
theorem w_seq {s : Sm} {ss : List Sm} (h : evS P cf ci s S = R1) (hs : seqK R1 (evSs P cf ci ss) = R) : evSs P cf ci (s :: ss) S = R := by
  rw [evSs, h, ← hs]
  cases R1 <;> rfl
theorem w_nx {k : Sto → Rt} (h : k S = R) : seqK (.nx S) k = R := h
theorem w_rt {k : Sto → Rt} {bn : Bn} : seqK (.rt bn S) k = .rt bn S := rfl
theorem w_ct {k : Sto → Rt} : seqK (.ct S) k = .ct S := rfl
theorem w_bk {k : Sto → Rt} : seqK (.bk S) k = .bk S := rfl
theorem w_if {s1 s2 : List Sm} (h : evE P cf ci c S = .ok (.bl p) S1) (hs : cond p (evSs P cf ci s1 S1) (evSs P cf ci s2 S1) = R) : evS P cf ci (.iff c s1 s2) S = R := by
  rw [evS, tst, h]
  simp only [Rs.bind, toRt]
  cases p <;> exact hs
theorem w_ife (h : evE P cf ci c S = .ok (.bl p) S1) (hs : cond p (evE P cf ci a S1) (evE P cf ci b S1) = V) : evE P cf ci (.ife c a b) S = V := by
  rw [evE, h]
  simp only [Rs.bind]
  cases p <;> exact hs
theorem w_and (h : evE P cf ci a S = .ok (.bl p) S1) (hs : cond p (evE P cf ci b S1) (.ok (.bl false) S1) = V) : evE P cf ci (.and2 a b) S = V := by
  rw [evE, h]
  simp only [Rs.bind]
  cases p <;> exact hs
theorem w_or (h : evE P cf ci a S = .ok (.bl p) S1) (hs : cond p (.ok (.bl true) S1) (evE P cf ci b S1) = V) : evE P cf ci (.or2 a b) S = V := by
  rw [evE, h]
  simp only [Rs.bind]
  cases p <;> exact hs
theorem cond_t {α : Type} {u v w : α} (hp : p = true) (h : u = w) : cond p u v = w := by subst hp; exact h
theorem cond_f {α : Type} {u v w : α} (hp : p = false) (h : v = w) : cond p u v = w := by subst hp; exact h
theorem w_retN : evS P cf ci .retN S = .rt (.p .non) S := by rw [evS]
theorem w_pas : evS P cf ci .pas S = .nx S := by rw [evS]
end
end PyI
namespace PyI
open PySem PySem.Spec PyProof.Rows L2
/-! ### the runs, shut -/
@[irreducible] def Cf (P : Pg) (n : Nat) : Nat → List Dt → List Dt → Rc := (runs P n).1
@[irreducible] def Df (P : Pg) (n : Nat) : Nat → List Dt → List Dt → Rc := (runs P n).2
theorem Cf_eq {P : Pg} {n : Nat} : Cf P n = (runs P n).1 := by unfold Cf; rfl
theorem Df_eq {P : Pg} {n : Nat} : Df P n = (runs P n).2 := by unfold Df; rfl
theorem Cf_succ {P : Pg} {n : Nat} : Cf P (n + 1) = fnRun P (Cf P n) (Df P n) := by rw [Cf_eq, Cf_eq, Df_eq]; rfl
theorem Df_succ {P : Pg} {n : Nat} : Df P (n + 1) = clRun P (Cf P n) (Df P n) := by rw [Df_eq, Cf_eq, Df_eq]; rfl
section
variable {P : Pg} {N g : Nat} {xs m m' : List Dt} {d d' : Dt} {S1 : Sto} {fd : FnD}
theorem q_run (hg : P.fn[g]? = some fd) (hl : xs.length = fd.k ∧ fd.k ≤ fd.n) (hc : fd.cell = false) (h : evSs P (Cf P N) (Df P N) fd.b ⟨xs.map (fun d => some (.p d)) ++ List.replicate (fd.n - fd.k) none, m⟩ = .rt (.p d) S1) (hd : d = d') (hm : S1.m = m') : Cf P (N + 1) g xs m = .ok (.p d') m' := by
  subst hd hm
  rw [Cf_succ]
  exact f_run hg hl hc h
theorem q_end (hg : P.fn[g]? = some fd) (hl : xs.length = fd.k ∧ fd.k ≤ fd.n) (hc : fd.cell = false) (h : evSs P (Cf P N) (Df P N) fd.b ⟨xs.map (fun d => some (.p d)) ++ List.replicate (fd.n - fd.k) none, m⟩ = .nx S1) (hm : S1.m = m') : Cf P (N + 1) g xs m = .ok (.p .non) m' := by
  subst hm
  rw [Cf_succ]
  exact f_end hg hl hc h
theorem q_make {c c1 : Nat} {ns : List Str} {vs : List Dt} {cd : ClD} (hcl : P.cl[c]? = some cd) (hg : P.fn[cd.init]? = some fd) (hl : xs.length + 1 = fd.k ∧ fd.k ≤ fd.n) (h : evSs P (Cf P N) (Df P N) fd.b ⟨some (.o (.ins c [] [])) :: (xs.map (fun d => some (.p d)) ++ List.replicate (fd.n - fd.k) none), m⟩ = .nx S1)
    (h0 : S1.r[(0 : Nat)]? = some (some (.o (.ins c1 ns vs)))) (hd : .ins c1 ns vs = d') (hm : S1.m = m') : Df P (N + 1) c xs m = .ok (.p d') m' := by
  subst hd hm
  rw [Df_succ]
  exact c_run hcl hg hl h h0
/-- a draw below s -/
theorem q_draw {shs : List (Nat × List Str × List Ar)} (hg : P.fn[g]? = some ⟨2, 3, false, shs, drawC, false⟩) {k : Nat} (s : Int) (p : Pot) (hk : k < m.length) (hs : 0 < s ∧ s < 1073741824) :
    ∃ (d : Int) (p' : Pot), (0 ≤ d ∧ d < s) ∧ Cf P (N + 1) g [.cel k, .int s] (m.set k (potD p)) = .ok (.p (.int d)) (m.set k (potD p')) := by
  obtain ⟨d, p', h1, h2⟩ := draw_ex (P := P) (cf := Cf P N) (ci := Df P N) (s := s.toNat) hg p hk (by omega)
  rw [show ((s.toNat : Nat) : Int) = s by omega] at h2
  rw [Cf_succ]
  exact ⟨d, p', by omega, h2⟩
theorem q_pick {g0 : Nat} {shs shs0 : List (Nat × List Str × List Ar)} (hg : P.fn[g]? = some ⟨2, 2, false, shs, pickC g0, false⟩) (hsh : P.shf g0 2 [] = some [.a 0, .a 1]) (hg0 : P.fn[g0]? = some ⟨2, 3, false, shs0, drawC, false⟩) {k : Nat} (ds : List Dt) (p : Pot) (hk : k < m.length) (hs : 0 < ds.length ∧ ds.length < 1073741824) :
    ∃ (x : Dt) (p' : Pot), x ∈ ds ∧ Cf P (N + 2) g [.cel k, .lst ds] (m.set k (potD p)) = .ok (.p x) (m.set k (potD p')) := by
  refine ⟨pk ds p, (dr p ds.length).2, pk_mem hs.1, ?_⟩
  rw [Cf_succ]
  refine PyI.pick_run (P := P) hg hsh hs.1 ?_
  rw [Cf_succ]
  exact draw_run hg0 hk hs
end
end PyI
namespace PyI
open PySem PySem.Spec PyProof.Rows L2
section
variable {P : Pg} {cf ci : Nat → List Dt → List Dt → Rc} {i j : Int}
theorem op_fdivI (h : 0 < j ∧ j < 1073741824) : opD .FloorDiv (.int i) (.int j) = some (.int (i / j)) := if_pos h
theorem op_modI (h : 0 < j) : opD .Mod (.int i) (.int j) = some (.int (i % j)) := if_pos h
theorem op_mulI (h : -18446744073709551616 < j ∧ j < 18446744073709551616) : opD .Mult (.int i) (.int j) = some (.int (i * j)) := by
  simp only [opD]
  rw [if_pos]
  unfold mulOk
  rw [decide_eq_true (p := -(2 ^ 64) < j) (by omega), decide_eq_true (p := j < 2 ^ 64) (by omega)]
  simp
theorem op_mulL (h : -18446744073709551616 < i ∧ i < 18446744073709551616) : opD .Mult (.int i) (.int j) = some (.int (i * j)) := by
  simp only [opD]
  rw [if_pos]
  unfold mulOk
  rw [decide_eq_true (p := -(2 ^ 64) < i) (by omega), decide_eq_true (p := i < 2 ^ 64) (by omega)]
  simp
/-- data equal to itself -/
theorem eqv_int {a b : Int} : PyData.eqv (.int a) (.int b) = (a == b) := by rw [PyData.eqv]
theorem beqI {a b : Int} : (a == b) = decide (a = b) := by
  by_cases h : a = b
  · simp [h]
  · simp [h]
end
/-- what a body hands back -/
def outR : Rt → Option (Dt × List Dt)
  | .rt (.p d) S => some (d, S.m)
  | _ => none
theorem outR_of {r : Rt} {d : Dt} {m : List Dt} (h : outR r = some (d, m)) : ∃ S, r = .rt (.p d) S ∧ S.m = m := by
  unfold outR at h
  split at h
  · cases h
    exact ⟨_, rfl, rfl⟩
  · cases h
end PyI
namespace PyI
open PySem PySem.Spec PyProof.Rows L2
section
variable {P : Pg} {cf ci : Nat → List Dt → List Dt → Rc} {S : Sto} {a b : Tm} {x y d : Dt} {es : List Tm} {ds xs : List Dt} {ks : List Str} {m m' : List Dt} {r r' r1 : List (Option Bn)} {sh : List Ar} {ns : List Str} {vs : List Dt} {c0 g n f i j : Nat} {fl mt : Str} {op : Operator}
theorem w_call (hs : evEs P cf ci es S = .ok ds ⟨r, m⟩) (hn : ds.length - ks.length = n) (hsh : P.shf f n ks = some sh) (hp : pick ds sh = some xs) (hc : cf f xs m = .ok (.p d) m') : evE P cf ci (.call f ks es) S = .ok d ⟨r, m'⟩ := e_call hs hn hsh hp hc
theorem w_make (hs : evEs P cf ci es S = .ok ds ⟨r, m⟩) (hn : ds.length - ks.length = n) (hsh : P.shc c0 n ks = some sh) (hp : pick ds sh = some xs) (hc : ci c0 xs m = .ok (.p d) m') : evE P cf ci (.make c0 ks es) S = .ok d ⟨r, m'⟩ := e_make hs hn hsh hp hc
theorem w_meth {S1 : Sto} (ha : evE P cf ci a S = .ok (.ins c0 ns vs) S1) (hm : P.meth c0 mt = some g) (hl : lookD mt ns vs = none) (hs : evEs P cf ci es S1 = .ok ds ⟨r, m⟩) (hn : ds.length + 1 - ks.length = n) (hsh : P.shf g n ks = some sh) (hp : pick (.ins c0 ns vs :: ds) sh = some xs) (hc : cf g xs m = .ok (.p d) m') : evE P cf ci (.meth a mt ks es) S = .ok d ⟨r, m'⟩ := e_meth ha hm hl hs hn hsh hp hc
theorem w_prop (ha : evE P cf ci a S = .ok (.ins c0 ns vs) ⟨r, m⟩) (hp : P.prop c0 fl = some g) (hc : cf g [.ins c0 ns vs] m = .ok (.p d) m') : evE P cf ci (.fld a fl) S = .ok d ⟨r, m'⟩ := e_prop ha hp hc
theorem w_binO {S1 : Sto} (ha : evE P cf ci a S = .ok (.ins c0 ns vs) S1) (hb : evE P cf ci b S1 = .ok y ⟨r, m⟩) (hm : (opMeth op).bind (P.meth c0) = some g) (ht : typedO P op c0 y = true) (hc : cf g [.ins c0 ns vs, y] m = .ok (.p d) m') : evE P cf ci (.bin op a b) S = .ok d ⟨r, m'⟩ := e_binO ha hb hm ht hc
theorem w_eq (hm : P.meth c0 "__eq__" = some g) (ht : typed P y = true) (hc : cf g [.ins c0 ns vs, y] m = .ok (.p d) m') : cmp1 P cf .Eq (.ins c0 ns vs) y ⟨r, m⟩ = .ok d ⟨r, m'⟩ := c_eq hm ht hc
theorem w_in {p : Bool} (hm : P.meth c0 "__contains__" = some g) (hc : cf g [.ins c0 ns vs, x] m = .ok (.p (.bl p)) m') : cmp1 P cf .In x (.ins c0 ns vs) ⟨r, m⟩ = .ok (.bl p) ⟨r, m'⟩ := c_in hm hc
theorem w_asg {tg : Tg} (h : evE P cf ci a S = .ok d ⟨r, m⟩) (ht : tgD tg d r = some r') : evS P cf ci (.asg tg a) S = .nx ⟨r', m⟩ := s_asg h ht
theorem w_par {S1 : Sto} (ha : evE P cf ci a S = .ok x S1) (hb : evE P cf ci b S1 = .ok y ⟨r, m⟩) (hl : i < r.length ∧ j < r.length) : evS P cf ci (.par i j a b) S = .nx ⟨(r.set i (some (.p x))).set j (some (.p y)), m⟩ := s_par ha hb hl
theorem w_aug (h0 : S.r[i]? = some (some (.p (.ins c0 ns vs)))) (ha : evE P cf ci a S = .ok y ⟨r, m⟩) (hm : (opMeth op).bind (P.meth c0) = some g) (ht : typedO P op c0 y = true) (hc : cf g [.ins c0 ns vs, y] m = .ok (.p d) m') (hi : i < r.length) : evS P cf ci (.aug i op a) S = .nx ⟨r.set i (some (.p d)), m'⟩ := s_aug h0 ha hm ht hc hi
end
end PyI
namespace PyI
open PySem PySem.Spec PyProof.Rows L2
theorem pl_ints {l : List Int} : Pl (.lst (l.map Dt.int)) (.list (l.map PyData.int)) 1 := Pl.lst (Pls.map fun _ _ => Pl.int)
theorem eqv_ints : ∀ {l k : List Int}, PyData.eqv (.list (l.map PyData.int)) (.list (k.map PyData.int)) = decide (l = k) := by
  have go : ∀ l k : List Int, PyData.eqvAll (l.map PyData.int) (k.map PyData.int) = decide (l = k) := by
    intro l
    induction l with
    | nil =>
      intro k
      cases k with
      | nil => simp [PyData.eqvAll]
      | cons a k => simp [PyData.eqvAll]
    | cons a l ih =>
      intro k
      cases k with
      | nil => simp [PyData.eqvAll]
      | cons b k =>
        rw [List.map_cons, List.map_cons, PyData.eqvAll, ih, PyData.eqv]
        by_cases h : a = b
        · subst h
          simp
        · simp [h]
  intro l k
  rw [PyData.eqv]
  exact go l k
theorem ne_ints {l : List Int} : cmpD .NotEq (.lst (l.map Dt.int)) (.lst (l.map Dt.int)) = some false := by
  rw [cmpNe_of pl_ints pl_ints (by decide) (by decide), eqv_ints]
  simp
theorem eq_ints {l k : List Int} : cmpD .Eq (.lst (l.map Dt.int)) (.lst (k.map Dt.int)) = some (decide (l = k)) := by
  rw [cmpEq_of pl_ints pl_ints (by decide) (by decide), eqv_ints]
theorem pl_bls {l : List Bool} : Pl (.lst (l.map Dt.bl)) (.list (l.map PyData.bool)) 1 := Pl.lst (Pls.map fun _ _ => Pl.bl)
theorem eqv_bls : ∀ {l : List Bool}, PyData.eqv (.list (l.map PyData.bool)) (.list (l.map PyData.bool)) = true := by
  have go : ∀ l : List Bool, PyData.eqvAll (l.map PyData.bool) (l.map PyData.bool) = true := by
    intro l
    induction l with
    | nil => simp [PyData.eqvAll]
    | cons a l ih =>
      rw [List.map_cons, PyData.eqvAll, ih, PyData.eqv]
      simp
  intro l
  rw [PyData.eqv]
  exact go l
theorem ne_bls {l : List Bool} : cmpD .NotEq (.lst (l.map Dt.bl)) (.lst (l.map Dt.bl)) = some false := by
  rw [cmpNe_of pl_bls pl_bls (by decide) (by decide), eqv_bls]
  rfl
theorem in_ints {x : Int} {l : List Int} : cmpD .In (.int x) (.lst (l.map Dt.int)) = some (l.contains x) := by
  rw [cmpIn_of (k := 0) (xs := l.map PyData.int) Pl.int (Pls.map fun _ _ => Pl.int) (by decide) (by decide)]
  congr 1
  rw [List.any_map]
  induction l with
  | nil => rfl
  | cons a l ih =>
    rw [List.any_cons, List.contains_cons, ih]
    congr 1
    show PyData.eqv (.int a) (.int x) = _
    rw [PyData.eqv, Bool.beq_comm]
end PyI
namespace PyI
open PySem PySem.Spec PyProof.Rows L2
theorem eqDI {a b : Int} : cmpD .Eq (.int a) (.int b) = some (decide (a = b)) := by
  rw [← beqI]
  rfl
theorem neDI {a b : Int} : cmpD .NotEq (.int a) (.int b) = some (!decide (a = b)) := by
  rw [← beqI]
  rfl
theorem neDB {a b : Bool} : cmpD .NotEq (.bl a) (.bl b) = some (a != b) := by
  cases a <;> cases b <;> kernel_rfl
theorem mem_rgI {j : Int} {y : Dt} (h : y ∈ rangeD 0 j) : ∃ i : Int, (0 ≤ i ∧ i < j) ∧ y = .int i := by
  unfold rangeD at h
  obtain ⟨i, hi, rfl⟩ := List.mem_map.mp h
  have := List.mem_range.mp hi
  exact ⟨i, by omega, by simp⟩
end PyI
namespace PyI
open PySem PySem.Spec PyProof.Rows L2
/-! ### texts -/
theorem strOk_app {x y : Str} : PyData.strOk (x ++ y) = (PyData.strOk x && PyData.strOk y) := by
  unfold PyData.strOk
  rw [show (x ++ y).cps = x.cps ++ y.cps from rfl, Array.all_append]
theorem strOk_of (s : String) : PyData.strOk (Str.ofString s) = true := by
  unfold PyData.strOk
  rw [Str.ofString_eq_toList]
  rw [List.all_toArray, List.all_eq_true]
  intro c hc
  obtain ⟨a, _, rfl⟩ := List.mem_map.mp hc
  have h := a.valid
  simp only [UInt32.isValidChar, Nat.isValidChar] at h
  have e : a.toNat = a.val.toNat := rfl
  rw [decide_eq_true_eq]
  omega
theorem pl_str {x : Str} (h : PyData.strOk x = true) : Pl (.str x) (.str x) 0 := Pl.str (by rw [PyData.canLay0]; exact h)
theorem ne_str {x : Str} (h : PyData.strOk x = true) : cmpD .NotEq (.str x) (.str x) = some false := by
  rw [cmpNe_of (pl_str h) (pl_str h) (by decide) (by decide), PyData.eqv]
  simp
theorem len_app {x y : Str} : (x ++ y).length = x.length + y.length := by
  show (x.cps ++ y.cps).size = _
  rw [Array.size_append]
  rfl
theorem log_ok {i : Int} (h : i.natAbs < 2 ^ 100) : i.natAbs.log2 < 1920 := by
  by_cases h0 : i.natAbs = 0
  · rw [h0]
    decide
  · exact Nat.lt_trans ((Nat.log2_lt h0).mpr h) (by decide)
section
variable {P : Pg} {cf ci : Nat → List Dt → List Dt → Rc} {S S1 : Sto} {a : Tm} {es : List Tm} {i : Int} {acc x y : Str} {V : Rs Str} {r : List (Option Bn)} {m m' : List Dt} {c0 g : Nat} {ns : List Str} {vs : List Dt}
theorem bi_str (h : i.natAbs.log2 < 1920) : bi1 P cf .str [.int i] S = .ok (.str (toString i)) S := by
  simp only [bi1, biD, if_pos h, okD]
theorem b_repr (hm : P.meth c0 "__repr__" = some g) (hc : cf g [.ins c0 ns vs] m = .ok (.p (.str x)) m') : bi1 P cf .repr [.ins c0 ns vs] ⟨r, m⟩ = .ok (.str x) ⟨r, m'⟩ := by
  simp only [bi1, hm, hc, upN, Rs.bind, strB]
theorem j_nil : evJ P cf ci [] acc S = .ok acc S := by rw [evJ]
theorem j_cons (ha : evE P cf ci a S = .ok (.str y) S1) (hl : (acc ++ y).length ≤ sizeLine) (h : evJ P cf ci es (acc ++ y) S1 = V) : evJ P cf ci (a :: es) acc S = V := by
  rw [evJ, ha]
  simp only [Rs.bind, if_pos hl]
  exact h
theorem e_fst (h : evJ P cf ci es Str.empty S = .ok x S1) : evE P cf ci (.fst es) S = .ok (.str x) S1 := by
  rw [evE, h]
  rfl
theorem e_fmrI (ha : evE P cf ci a S = .ok (.int i) S1) (h : i.natAbs.log2 < 1920) : evE P cf ci (.fmr a) S = .ok (.str (toString i)) S1 := by
  rw [evE, ha]
  simp only [Rs.bind, if_pos h]
theorem op_addS (h : x.length + y.length ≤ sizeLine) : opD .Add (.str x) (.str y) = some (.str (x ++ y)) := if_pos h
end
/-! ### ranges -/
theorem mem_rg2 {a b : Int} {y : Dt} : y ∈ rangeD a b ↔ ∃ i : Int, (a ≤ i ∧ i < b) ∧ y = .int i := by
  unfold rangeD
  rw [List.mem_map]
  constructor
  · rintro ⟨i, hi, rfl⟩
    have := List.mem_range.mp hi
    exact ⟨_, by omega, rfl⟩
  · rintro ⟨i, hi, rfl⟩
    exact ⟨(i - a).toNat, List.mem_range.mpr (by omega), by congr 1; omega⟩
def intsR (a b : Int) : List Int := (List.range (b - a).toNat).map fun i => a + (i : Nat)
theorem rg_ints {a b : Int} : rangeD a b = (intsR a b).map Dt.int := by
  unfold rangeD intsR
  rw [List.map_map]
  rfl
theorem mem_intsR {a b x : Int} : x ∈ intsR a b ↔ a ≤ x ∧ x < b := by
  unfold intsR
  rw [List.mem_map]
  constructor
  · rintro ⟨i, hi, rfl⟩
    have := List.mem_range.mp hi
    omega
  · rintro hi
    exact ⟨(x - a).toNat, List.mem_range.mpr (by omega), by omega⟩
theorem len_rangeD {a b : Int} : (rangeD a b).length = (b - a).toNat := by simp [rangeD]
theorem len_rg {P : Pg} {cf : Nat → List Dt → List Dt → Rc} {S : Sto} {a n : Int} (h : 0 ≤ n) : bi1 P cf .len [.lst (rangeD a (a + n))] S = .ok (.int n) S := by
  simp only [bi1, biD, okD]
  rw [len_rangeD]
  congr 2
  omega
theorem last_rg {m : List Dt} {a n : Int} (h : 1 ≤ n) : ixD m (.lst (rangeD a (a + n))) (.int (-1)) = some (.int (a + n - 1)) := by
  show atI (rangeD a (a + n)) (-1) = _
  unfold atI ixN
  rw [len_rangeD, if_neg (by omega), if_pos (by omega), Option.bind_some]
  unfold rangeD
  rw [List.getElem?_map, List.getElem?_range (by omega), Option.map_some]
  congr 2
  omega
theorem in_rg {a b x : Int} : cmpD .In (.int x) (.lst (rangeD a b)) = some (decide (a ≤ x) && decide (x < b)) := by
  rw [rg_ints, in_ints]
  congr 1
  rw [← Bool.decide_and, List.contains_eq_mem]
  by_cases h : x ∈ intsR a b
  · rw [decide_eq_true h, decide_eq_true (mem_intsR.mp h)]
  · rw [decide_eq_false h, decide_eq_false fun z => h (mem_intsR.mpr z)]
theorem eq_rg {a n c k : Int} (hn : 1 ≤ n) (hk : 1 ≤ k) : cmpD .Eq (.lst (rangeD a (a + n))) (.lst (rangeD c (c + k))) = some (decide (a = c) && decide (n = k)) := by
  rw [rg_ints, rg_ints, eq_ints]
  congr 1
  rw [← Bool.decide_and]
  by_cases h : a = c ∧ n = k
  · obtain ⟨rfl, rfl⟩ := h
    simp
  · rw [decide_eq_false h, decide_eq_false]
    intro e
    apply h
    have l : (intsR a (a + n)).length = (intsR c (c + k)).length := by rw [e]
    simp only [intsR, List.length_map, List.length_range] at l
    have m1 : a ∈ intsR c (c + k) := by rw [← e]; exact mem_intsR.mpr (by omega)
    have m2 : c ∈ intsR a (a + n) := by rw [e]; exact mem_intsR.mpr (by omega)
    have := mem_intsR.mp m1
    have := mem_intsR.mp m2
    omega
/-- in the interval -/
def qI (c d : Int) : Dt → Bool
  | .int x => decide (c ≤ x) && decide (x < d)
  | _ => false
theorem filt_pos {a b c d : Int} (h1 : a < b) (h2 : c < d) : decide (0 < (((rangeD a b).filter (qI c d)).length : Int)) = (decide (a < d) && decide (c < b)) := by
  rw [← Bool.decide_and]
  by_cases h : a < d ∧ c < b
  · rw [decide_eq_true h, decide_eq_true_eq]
    have : (.int (max a c)) ∈ (rangeD a b).filter (qI c d) := by
      rw [List.mem_filter]
      refine ⟨mem_rg2.mpr ⟨_, by omega, rfl⟩, ?_⟩
      simp only [qI, Bool.and_eq_true, decide_eq_true_eq]
      omega
    have := List.length_pos_of_mem this
    omega
  · rw [decide_eq_false h, decide_eq_false_iff_not]
    intro z
    have z : 0 < ((rangeD a b).filter (qI c d)).length := by omega
    obtain ⟨y, hy⟩ := List.exists_mem_of_length_pos z
    rw [List.mem_filter] at hy
    obtain ⟨i, hi, rfl⟩ := mem_rg2.mp hy.1
    have h3 := hy.2
    simp only [qI, Bool.and_eq_true, decide_eq_true_eq] at h3
    exact h (by omega)
end PyI
namespace PyI
open PySem PySem.Spec PyProof.Rows L2
def rpB (a b : Bool) : Str := (PyData.list [.bool a, .bool b]).shown
theorem rp2 {P : Pg} {cf : Nat → List Dt → List Dt → Rc} {S : Sto} {a b : Bool} : bi1 P cf .repr [.lst [.bl a, .bl b]] S = .ok (.str (rpB a b)) S := by
  cases a <;> cases b <;> kernel_rfl
theorem rp2_ne {a b : Bool} : cmpD .NotEq (.str (rpB a b)) (.str (rpB a b)) = some false := by
  cases a <;> cases b <;> kernel_rfl
end PyI
namespace PyI
open PySem PySem.Spec PyProof.Rows L2
/-! ### rules for what V3 brings -/
/-- what a call hands back, as data -/
def bnD : Bn → Dt
  | .p d => d
  | .o d => d
section
variable {P : Pg} {cf ci : Nat → List Dt → List Dt → Rc} {S S1 S2 : Sto} {a b c : Tm} {x y d : Dt} {es : List Tm} {ds xs : List Dt} {ks : List Str} {m m' : List Dt} {r r' : List (Option Bn)} {sh : List Ar} {ns : List Str} {vs : List Dt} {c0 g n f i j : Nat} {fl mt : Str} {op : Operator} {bn : Bn}
theorem upR_ok {rc : Rc} (h : rc = .ok bn m') : upR rc S = .ok (bnD bn) ⟨S.r, m'⟩ := by
  subst h
  cases bn <;> rfl
theorem v_call (hs : evEs P cf ci es S = .ok ds ⟨r, m⟩) (hn : ds.length - ks.length = n) (hsh : P.shf f n ks = some sh) (hp : pick ds sh = some xs) (hc : cf f xs m = .ok bn m') : evE P cf ci (.call f ks es) S = .ok (bnD bn) ⟨r, m'⟩ := by
  rw [evE, hs]
  simp only [Rs.bind, hn, hsh, hp, upP]
  exact upR_ok hc
theorem v_meth (ha : evE P cf ci a S = .ok (.ins c0 ns vs) S1) (hm : P.meth c0 mt = some g) (hl : lookD mt ns vs = none) (hs : evEs P cf ci es S1 = .ok ds ⟨r, m⟩) (hn : ds.length + 1 - ks.length = n) (hsh : P.shf g n ks = some sh) (hp : pick (.ins c0 ns vs :: ds) sh = some xs) (hc : cf g xs m = .ok bn m') : evE P cf ci (.meth a mt ks es) S = .ok (bnD bn) ⟨r, m'⟩ := by
  rw [evE, ha]
  simp only [Rs.bind, hm, hl]
  rw [hs]
  simp only [Rs.bind, hn, hsh, hp, upP]
  exact upR_ok hc
theorem v_icall (ha : evE P cf ci a S = .ok (.ins c0 ns vs) S1) (hm : P.meth c0 "__call__" = some g) (hs : evEs P cf ci es S1 = .ok ds ⟨r, m⟩) (hn : ds.length + 1 - ks.length = n) (hsh : P.shf g n ks = some sh) (hp : pick (.ins c0 ns vs :: ds) sh = some xs) (hc : cf g xs m = .ok bn m') : evE P cf ci (.icall a ks es) S = .ok (bnD bn) ⟨r, m'⟩ := by
  rw [evE, ha]
  simp only [Rs.bind, hm]
  rw [hs]
  simp only [Rs.bind, hn, hsh, hp, upP]
  exact upR_ok hc
theorem v_icallO (ha : evE P cf ci a S = .ok (.ins c0 ns vs) S1) (hm : P.meth c0 "__call__" = some g) (hs : evEs P cf ci es S1 = .ok ds ⟨r, m⟩) (hn : ds.length + 1 - ks.length = n) (hsh : P.shf g n ks = some sh) (hp : pick (.ins c0 ns vs :: ds) sh = some xs) (hc : cf g xs m = .ok (.o d) m') : evE P cf ci (.icall a ks es) S = .ok d ⟨r, m'⟩ := v_icall ha hm hs hn hsh hp hc
theorem v_methO (ha : evE P cf ci a S = .ok (.ins c0 ns vs) S1) (hm : P.meth c0 mt = some g) (hl : lookD mt ns vs = none) (hs : evEs P cf ci es S1 = .ok ds ⟨r, m⟩) (hn : ds.length + 1 - ks.length = n) (hsh : P.shf g n ks = some sh) (hp : pick (.ins c0 ns vs :: ds) sh = some xs) (hc : cf g xs m = .ok (.o d) m') : evE P cf ci (.meth a mt ks es) S = .ok d ⟨r, m'⟩ := v_meth ha hm hl hs hn hsh hp hc
theorem v_callO (hs : evEs P cf ci es S = .ok ds ⟨r, m⟩) (hn : ds.length - ks.length = n) (hsh : P.shf f n ks = some sh) (hp : pick ds sh = some xs) (hc : cf f xs m = .ok (.o d) m') : evE P cf ci (.call f ks es) S = .ok d ⟨r, m'⟩ := v_call hs hn hsh hp hc
theorem v_makeS {ds0 : List Dt} (hs : evEs P cf ci es S = .ok ds0 ⟨r, m⟩) (hsp : splD (es.map isSt) ds0 = some ds) (hsh : P.shc c0 ds.length [] = some sh) (hp : pick ds sh = some xs) (hc : ci c0 xs m = .ok (.p d) m') : evE P cf ci (.makeS c0 es) S = .ok d ⟨r, m'⟩ := by
  rw [evE, hs]
  simp only [Rs.bind, hsp, hsh, hp, upP, hc, upR]
theorem v_starL (ha : evE P cf ci a S = .ok (.lst ds) S1) : evE P cf ci (.star a) S = .ok (.lst ds) S1 := by
  rw [evE, ha]
  rfl
theorem v_bor (h : evE P cf ci a ⟨frzB S.r, S.m⟩ = .ok d S1) (hf : flatD d = true ∧ S1.m.length = S.m.length ∧ S1.m.all flatC = true) : evE P cf ci (.bor a) S = .ok d ⟨S.r, S1.m⟩ := by
  rw [evE, h]
  simp only [borK, if_pos hf]
theorem v_lenB (h : S.r[i]? = some (some (.o (.lst ds)))) : evE P cf ci (.lenB i) S = .ok (.int ds.length) S := by
  rw [evE, h]
theorem v_ixB {ds' : List Dt} {k : Int} (h : S.r[i]? = some (some (.o (.lst ds')))) (hb : evE P cf ci b S = .ok (.int k) S1) (h1 : S1.r[i]? = some (some (.o (.lst ds)))) (hx : atI ds k = some d) : evE P cf ci (.ixB i b) S = .ok d S1 := by
  rw [evE, h]
  simp only
  rw [hb]
  simp only [Rs.bind, h1, hx, okD]
theorem v_varO (h : S.r[i]? = some (some (.o (.lst ds)))) : evE P cf ci (.var i) S = .ok (.lst ds) ⟨S.r.set i (some (.p (.lst ds))), S.m⟩ := by
  rw [evE, h]
theorem v_enm (ha : evE P cf ci a S = .ok (.tup ds) S1) : evE P cf ci (.enm a) S = .ok (.lst (enmL 0 ds)) S1 := by
  rw [evE, ha]
  rfl
theorem v_join {s : Str} {ts : List Str} (ha : evE P cf ci a S = .ok (.str s) S1) (hb : evE P cf ci b S1 = .ok (.lst ds) S2) (hs : strsD ds = some ts) (hj : joinOk s ts = true) : evE P cf ci (.join a b) S = .ok (.str (Txt.join s ts)) S2 := by
  rw [evE, ha]
  simp only [Rs.bind]
  rw [hb]
  simp only [Rs.bind, joinD, hs, hj, if_true]
theorem v_fmrS {z : Str} (ha : evE P cf ci a S = .ok (.str z) S1) (h : (reprText z).length ≤ sizeLine) : evE P cf ci (.fmr a) S = .ok (.str (reprText z)) S1 := by
  rw [evE, ha]
  simp only [Rs.bind, if_pos h]
theorem v_fmsS {z : Str} (ha : evE P cf ci a S = .ok (.str z) S1) (h : z.length ≤ sizeLine) : evE P cf ci (.fms a) S = .ok (.str z) S1 := by
  rw [evE, ha]
  simp only [Rs.bind, if_pos h]
/-! statements -/
theorem v_asgO (h : evE P cf ci a S = .ok d ⟨r, m⟩) (hi : i < r.length) : evS P cf ci (.asgO i a) S = .nx ⟨r.set i (some (.o d)), m⟩ := by
  rw [evS, h]
  simp only [toRt, if_pos hi]
theorem upB_ok {rc : Rc} {ds : List Dt} (h : rc = .ok (.o (.lst ds)) m') : upB rc S = .ok (.o (.lst ds)) ⟨S.r, m'⟩ := by
  subst h
  rfl
theorem v_asgF_call (hs : evEs P cf ci es S = .ok ds ⟨r, m⟩) (hn : ds.length - ks.length = n) (hsh : P.shf f n ks = some sh) (hp : pick ds sh = some xs) {zs : List Dt} (hc : cf f xs m = .ok (.o (.lst zs)) m') (hi : i < r.length) : evS P cf ci (.asgF i (.call f ks es)) S = .nx ⟨r.set i (some (.o (.lst zs))), m'⟩ := by
  rw [evS, evB, hs]
  simp only [Rs.bind, hn, hsh, hp, upPB, upB_ok hc, toRt, if_pos hi]
theorem v_asgF_meth (ha : evE P cf ci a S = .ok (.ins c0 ns vs) S1) (hm : P.meth c0 mt = some g) (hl : lookD mt ns vs = none) (hs : evEs P cf ci es S1 = .ok ds ⟨r, m⟩) (hn : ds.length + 1 - ks.length = n) (hsh : P.shf g n ks = some sh) (hp : pick (.ins c0 ns vs :: ds) sh = some xs) {zs : List Dt} (hc : cf g xs m = .ok (.o (.lst zs)) m') (hi : i < r.length) : evS P cf ci (.asgF i (.meth a mt ks es)) S = .nx ⟨r.set i (some (.o (.lst zs))), m'⟩ := by
  rw [evS, evB, ha]
  simp only [Rs.bind, hm, hl]
  rw [hs]
  simp only [Rs.bind, hn, hsh, hp, upPB, upB_ok hc, toRt, if_pos hi]
theorem v_asgF_icall (ha : evE P cf ci a S = .ok (.ins c0 ns vs) S1) (hm : P.meth c0 "__call__" = some g) (hs : evEs P cf ci es S1 = .ok ds ⟨r, m⟩) (hn : ds.length + 1 - ks.length = n) (hsh : P.shf g n ks = some sh) (hp : pick (.ins c0 ns vs :: ds) sh = some xs) {zs : List Dt} (hc : cf g xs m = .ok (.o (.lst zs)) m') (hi : i < r.length) : evS P cf ci (.asgF i (.icall a ks es)) S = .nx ⟨r.set i (some (.o (.lst zs))), m'⟩ := by
  rw [evS, evB, ha]
  simp only [Rs.bind, hm]
  rw [hs]
  simp only [Rs.bind, hn, hsh, hp, upPB, upB_ok hc, toRt, if_pos hi]
theorem v_parO (ha : evE P cf ci a S = .ok x S1) (hb : evE P cf ci b S1 = .ok y ⟨r, m⟩) (hl : i < r.length ∧ j < r.length) : evS P cf ci (.parO i j a b) S = .nx ⟨(r.set i (some (.p x))).set j (some (.o y)), m⟩ := by
  rw [evS, ha]
  simp only [toRt]
  rw [hb]
  simp only [if_pos hl]
theorem v_retO (h : S.r[i]? = some (some (.o (.lst ds)))) : evS P cf ci (.retO i) S = .rt (.o (.lst ds)) S := by
  rw [evS, h]
theorem v_app {ds' : List Dt} (h : S.r[i]? = some (some (.o (.lst ds')))) (ha : evE P cf ci a S = .ok d ⟨r, m⟩) (h1 : r[i]? = some (some (.o (.lst ds)))) (hl : ds.length < sizeLine) : evS P cf ci (.app i a) S = .nx ⟨r.set i (some (.o (.lst (ds ++ [d])))), m⟩ := by
  rw [evS, h]
  simp only
  rw [ha]
  simp only [toRt, h1, if_pos hl]
theorem v_putB {dz : Dt} {k : Int} {q : Nat} (ha : evE P cf ci a S = .ok d S1) (h1 : S1.r[i]? = some (some (.o dz))) (hb : evE P cf ci b S1 = .ok (.int k) ⟨r, m⟩) (h2 : r[i]? = some (some (.o (.lst ds)))) (hx : ixN ds.length k = some q) : evS P cf ci (.putB i b a) S = .nx ⟨r.set i (some (.o (.lst (ds.set q d)))), m⟩ := by
  rw [evS, ha]
  simp only [toRt, h1]
  rw [hb]
  simp only [h2, hx]
/-- a for loop, item by item: I (items done) holds -/
theorem v_for {tg : Tg} {it : Tm} {bd : List Sm} {x : Dt} {xs : List Dt} (I : Nat → Sto → Prop) (hi : evE P cf ci it S = .ok x S1) (hx : itemsD x = some xs) (h0 : I 0 S1)
    (hb : ∀ (n : Nat) (y : Dt), xs[n]? = some y → ∀ S, I n S → ∃ r', tgD tg y S.r = some r' ∧ ∃ S', evSs P cf ci bd ⟨r', S.m⟩ = .nx S' ∧ I (n + 1) S') : ∃ S', evS P cf ci (.for_ tg it bd) S = .nx S' ∧ I xs.length S' := by
  have go : ∀ (ys : List Dt) (n : Nat), (∀ k, ys[k]? = xs[n + k]?) → n + ys.length = xs.length → ∀ S, I n S → ∃ S', forL (evSs P cf ci bd) tg ys S = .nx S' ∧ I xs.length S' := by
    intro ys
    induction ys with
    | nil => intro n _ hl S h; simp at hl; exact ⟨S, rfl, hl ▸ h⟩
    | cons y ys ih =>
      intro n hk hl S h
      obtain ⟨r', h1, S', h2, h3⟩ := hb n y (by have := hk 0; simpa using this.symm) S h
      obtain ⟨S2, h4, h5⟩ := ih (n + 1) (fun k => by have := hk (k + 1); rw [show n + 1 + k = n + (k + 1) by omega]; simpa using this) (by simp at hl; omega) S' h3
      refine ⟨S2, ?_, h5⟩
      unfold forL
      simp only [h1, h2]
      exact h4
  obtain ⟨S', h1, h2⟩ := go xs 0 (fun k => by simp) (by simp) S1 h0
  refine ⟨S', ?_, h2⟩
  rw [evS, hi]
  simp only [toRt, hx]
  exact h1
end
section
variable {P : Pg} {N g : Nat} {xs m m' : List Dt} {d d' : Dt} {S1 : Sto} {fd : FnD}
theorem q_runO (hg : P.fn[g]? = some fd) (hl : xs.length = fd.k ∧ fd.k ≤ fd.n) (hc : fd.cell = false) (h : evSs P (Cf P N) (Df P N) fd.b ⟨xs.map (fun d => some (.p d)) ++ List.replicate (fd.n - fd.k) none, m⟩ = .rt (.o d) S1) (hd : d = d') (hm : S1.m = m') : Cf P (N + 1) g xs m = .ok (.o d') m' := by
  subst hd hm
  rw [Cf_succ]
  unfold fnRun
  rw [hg]
  simp only [if_pos hl, h, hc, Bool.false_eq_true, if_false]
end
end PyI
namespace PyI
open PySem PySem.Spec PyProof.Rows L2
/-! ### texts of data -/
def rpT (d : Dt) : Str := match toPy d with
  | some x => x.shown
  | none => Str.empty
structure Rp (d : Dt) (L D : Nat) : Prop where
  ex : ∃ x, toPy d = some x ∧ x.showable = true ∧ x.depth ≤ D ∧ PyData.strOk x.shown = true ∧ x.shown.length ≤ L
theorem tf_ok {L : Nat} : ∀ (ts : List Str) (k : Nat) (acc : Str), PyData.strOk acc = true → (∀ t ∈ ts, PyData.strOk t = true ∧ t.length ≤ L) → PyData.strOk (textFrom k acc ts) = true ∧ (textFrom k acc ts).length ≤ acc.length + ts.length * (L + 2)
  | [], k, acc, h, _ => ⟨h, by simp [textFrom]⟩
  | t :: ts, k, acc, h, ht => by
    obtain ⟨h1, h2⟩ := ht t (by simp)
    have hc : PyData.strOk (if k > 0 then ", " else "" : String) = true := strOk_of _
    have hl : (Str.ofString (if k > 0 then ", " else "")).length ≤ 2 := by split <;> decide
    obtain ⟨q1, q2⟩ := tf_ok ts (k + 1) (acc ++ (if k > 0 then ", " else "" : String) ++ t) (by rw [strOk_app, strOk_app, h, hc, h1]; rfl) fun t ht' => ht t (by simp [ht'])
    refine ⟨q1, Nat.le_trans q2 ?_⟩
    rw [len_app, len_app, List.length_cons, Nat.add_mul]
    omega
theorem shownAll_map : ∀ xs : List PyData, PyData.shownAll xs = xs.map PyData.shown
  | [] => by rw [PyData.shownAll]; rfl
  | x :: xs => by rw [PyData.shownAll, shownAll_map xs]; rfl
theorem showAll_of : ∀ {xs : List PyData}, (∀ x ∈ xs, x.showable = true) → PyData.showableAll xs = true
  | [], _ => by rw [PyData.showableAll]
  | x :: xs, h => by rw [PyData.showableAll, h x (by simp), showAll_of fun y hy => h y (by simp [hy])]; rfl
theorem depAll_of {D : Nat} : ∀ {xs : List PyData}, (∀ x ∈ xs, x.depth ≤ D) → PyData.depthAll xs ≤ D
  | [], _ => by rw [PyData.depthAll]; exact Nat.zero_le _
  | x :: xs, h => by rw [PyData.depthAll]; exact Nat.max_le.mpr ⟨h x (by simp), depAll_of fun y hy => h y (by simp [hy])⟩
theorem toPys_of {L D : Nat} : ∀ {ds : List Dt}, (∀ d ∈ ds, Rp d L D) → ∃ xs, toPys ds = some xs ∧ xs.length = ds.length ∧ ∀ x ∈ xs, x.showable = true ∧ x.depth ≤ D ∧ PyData.strOk x.shown = true ∧ x.shown.length ≤ L
  | [], _ => ⟨[], rfl, rfl, fun x h => by cases h⟩
  | d :: ds, h => by
    obtain ⟨x, e, q⟩ := (h d (by simp)).ex
    obtain ⟨xs, e2, l, q2⟩ := toPys_of (ds := ds) fun d hd => h d (List.mem_cons_of_mem _ hd)
    refine ⟨x :: xs, by simp only [toPys, e, e2], by simp [l], fun y hy => ?_⟩
    rcases List.mem_cons.mp hy with z | z
    · subst z; exact q
    · exact q2 y z
theorem Rp.lst {ds : List Dt} {L D : Nat} (h : ∀ d ∈ ds, Rp d L D) : Rp (.lst ds) (ds.length * (L + 2) + 2) (D + 1) := by
  obtain ⟨xs, e, l, q⟩ := toPys_of h
  obtain ⟨q1, q2⟩ := tf_ok (L := L) (xs.map PyData.shown) 0 "[" (strOk_of _) (fun t ht => by
    obtain ⟨x, hx, rfl⟩ := List.mem_map.mp ht
    exact ⟨(q x hx).2.2.1, (q x hx).2.2.2⟩)
  refine ⟨.list xs, by simp only [toPy, e, Option.map_some], ?_, ?_, ?_, ?_⟩
  · rw [PyData.showable]; exact showAll_of fun x hx => (q x hx).1
  · rw [PyData.depth]; exact Nat.add_le_add_right (depAll_of fun x hx => (q x hx).2.1) 1
  · rw [PyData.shown, shownAll_map]
    unfold listText
    rw [strOk_app, q1]
    exact strOk_of _
  · rw [PyData.shown, shownAll_map]
    unfold listText
    rw [len_app]
    rw [List.length_map, l] at q2
    have e1 : (Str.ofString "[").length = 1 := rfl
    have e2 : (Str.ofString "]").length = 1 := rfl
    rw [e1] at q2
    rw [e2]
    omega
theorem Rp.mono {d : Dt} {L D L' D' : Nat} (h : Rp d L D) (h1 : L ≤ L') (h2 : D ≤ D') : Rp d L' D' := by
  obtain ⟨x, e, a, b, c, f⟩ := h.ex
  exact ⟨x, e, a, Nat.le_trans b h2, c, Nat.le_trans f h1⟩
theorem Rp.non : Rp .non 4 0 := ⟨.none, rfl, rfl, by rw [PyData.depth]; exact Nat.le_refl _, strOk_of _, by rw [PyData.shown]; decide⟩
theorem Rp.bl {b : Bool} : Rp (.bl b) 5 0 := ⟨.bool b, rfl, rfl, by rw [PyData.depth]; exact Nat.le_refl _, by cases b <;> exact strOk_of _, by cases b <;> (rw [PyData.shown]; decide)⟩
theorem int_len3 {i : Int} (h : 0 ≤ i ∧ i < 1000) : (Str.ofString (toString i)).length ≤ 3 := by
  have z : (List.range 1000).all (fun n => decide ((Str.ofString (toString (n : Int))).length ≤ 3)) = true := by kernel_rfl
  have := List.all_eq_true.mp z i.toNat (List.mem_range.mpr (by omega))
  rw [show ((i.toNat : Nat) : Int) = i by omega] at this
  exact of_decide_eq_true this
theorem Rp.int {i : Int} (h : 0 ≤ i ∧ i < 1000) : Rp (.int i) 3 0 := ⟨.int i, rfl, by rw [PyData.showable]; exact decide_eq_true (log_ok (by omega)), by rw [PyData.depth]; exact Nat.le_refl _, by rw [PyData.shown]; exact strOk_of _, by rw [PyData.shown]; exact int_len3 h⟩
theorem rp_ok {d : Dt} {L D : Nat} (h : Rp d L D) : PyData.strOk (rpT d) = true := by
  obtain ⟨x, e, _, _, c, _⟩ := h.ex
  unfold rpT
  rw [e]
  exact c
section
variable {P : Pg} {cf ci : Nat → List Dt → List Dt → Rc} {S : Sto}
theorem b_rp {d : Dt} {L D : Nat} (h : Rp d L D) (hL : L ≤ sizeLine) (hD : D ≤ 20) : bi1 P cf .repr [d] S = .ok (.str (rpT d)) S := by
  obtain ⟨x, e, a, b, c, f⟩ := h.ex
  have q : bi1 P cf .repr [d] S = okD (biD .repr [d]) S := by
    cases d with
    | ins _ _ _ => cases e
    | _ => rfl
  rw [q]
  unfold biD rpT
  simp only [e, a, decide_eq_true (Nat.le_trans f hL), decide_eq_true (Nat.le_trans b hD), Bool.and_self, if_true, okD]
theorem eq_str {x : Str} (h : PyData.strOk x = true) : cmpD .Eq (.str x) (.str x) = some true := by
  rw [cmpEq_of (pl_str h) (pl_str h) (by decide) (by decide), PyData.eqv]
  simp
end
/-! joined texts -/
theorem join_ok {L : Nat} {s : Str} (hs : PyData.strOk s = true) {ts : List Str} (h : ∀ t ∈ ts, PyData.strOk t = true ∧ t.length ≤ L) : PyData.strOk (Txt.join s ts) = true ∧ (Txt.join s ts).length ≤ ts.length * (L + s.length) := by
  cases ts with
  | nil => exact ⟨by kernel_rfl, Nat.zero_le _⟩
  | cons t ts =>
    have gl : ∀ (us : List Str) (acc : Str), PyData.strOk acc = true → (∀ t ∈ us, PyData.strOk t = true ∧ t.length ≤ L) → PyData.strOk ⟨us.foldl (fun acc p => acc ++ s.cps ++ p.cps) acc.cps⟩ = true ∧ Str.length ⟨us.foldl (fun acc p => acc ++ s.cps ++ p.cps) acc.cps⟩ ≤ acc.length + us.length * (L + s.length) := by
      intro us
      induction us with
      | nil => intro acc h _; exact ⟨h, by simp⟩
      | cons u us ih =>
        intro acc ha hu
        obtain ⟨h1, h2⟩ := hu u (by simp)
        obtain ⟨q1, q2⟩ := ih (acc ++ s ++ u) (by rw [strOk_app, strOk_app, ha, hs, h1]; rfl) fun t ht => hu t (by simp [ht])
        refine ⟨q1, Nat.le_trans q2 ?_⟩
        rw [len_app, len_app, List.length_cons, Nat.add_mul]
        omega
    obtain ⟨h1, h2⟩ := h t (by simp)
    obtain ⟨q1, q2⟩ := gl ts t h1 fun t ht => h t (by simp [ht])
    refine ⟨q1, Nat.le_trans q2 ?_⟩
    rw [List.length_cons, Nat.add_mul]
    omega
theorem joinOk_of {L : Nat} {s : Str} {ts : List Str} (h : ∀ t ∈ ts, t.length ≤ L) (hl : ts.length * (L + s.length) ≤ 16777216) : joinOk s ts = true := by
  unfold joinOk
  refine decide_eq_true (Nat.le_trans ?_ hl)
  rw [Nat.mul_add]
  refine Nat.add_le_add_right ?_ _
  clear hl
  induction ts with
  | nil => simp
  | cons t ts ih =>
    rw [List.map_cons, List.sum_cons, List.length_cons, Nat.add_mul]
    have := ih fun t ht => h t (by simp [ht])
    have := h t (by simp)
    omega
theorem strsD_map {α : Type} {g : α → Str} : ∀ {l : List α}, strsD (l.map fun a => .str (g a)) = some (l.map g)
  | [] => rfl
  | a :: l => by
    show (strsD (l.map fun a => .str (g a))).map (g a :: ·) = _
    rw [strsD_map]
    rfl
/-! comprehensions over lists that are maps -/
section
variable {P : Pg} {cf ci : Nat → List Dt → List Dt → Rc} {S S1 : Sto} {e it c : Tm} {own : List Nat} {tg : Tg} {x : Dt}
theorem compL_map {α : Type} {ev cnd : Sto → Rs Dt} {w0 : List (Option Bn)} {m : List Dt} {g v : α → Dt} : ∀ {l : List α} {acc : List Dt} {r : List (Option Bn)}, wipeB r own = w0 → (∀ a ∈ l, ∃ rx, tgD tg (g a) w0 = some rx ∧ wipeB rx own = w0 ∧ cnd ⟨rx, m⟩ = .ok (.bl true) ⟨rx, m⟩ ∧ ev ⟨rx, m⟩ = .ok (v a) ⟨rx, m⟩) →
    ∃ r', wipeB r' own = w0 ∧ compL ev cnd tg own (l.map g) acc ⟨r, m⟩ = .ok (acc ++ l.map v) ⟨r', m⟩
  | [], acc, r, hw, _ => ⟨r, hw, by simp [compL]⟩
  | a :: l, acc, r, hw, h => by
    obtain ⟨rx, h1, h2, h3, h4⟩ := h a (by simp)
    obtain ⟨r', k1, k2⟩ := compL_map (l := l) (acc := acc ++ [v a]) (r := rx) h2 fun y hy => h y (by simp [hy])
    refine ⟨r', k1, ?_⟩
    rw [List.map_cons]
    unfold compL
    simp only [hw, h1, h3, h4, k2]
    simp
theorem e_compM {α : Type} {l : List α} {g v : α → Dt} (hi : evE P cf ci it S = .ok x S1) (hx : itemsD x = some (l.map g)) (hl : l.length ≤ sizeLine) (hp : own.all (pureAt S1.r) = true)
    (h : ∀ a ∈ l, ∃ rx, tgD tg (g a) (wipeB S1.r own) = some rx ∧ wipeB rx own = wipeB S1.r own ∧ evE P cf ci c ⟨rx, S1.m⟩ = .ok (.bl true) ⟨rx, S1.m⟩ ∧ evE P cf ci e ⟨rx, S1.m⟩ = .ok (v a) ⟨rx, S1.m⟩) : evE P cf ci (.comp e own tg it c) S = .ok (.lst (l.map v)) S1 := by
  rw [evE, hi]
  simp only [Rs.bind, compR, hx]
  rw [if_pos ⟨by simpa using hl, hp⟩]
  obtain ⟨r', k1, k2⟩ := compL_map (acc := []) (r := S1.r) rfl h
  have k2 : compL (evE P cf ci e) (evE P cf ci c) tg own (l.map g) [] S1 = .ok ([] ++ l.map v) ⟨r', S1.m⟩ := k2
  rw [k2]
  simp only [List.nil_append]
  rw [back_same k1]
theorem compL_ex {ev cnd : Sto → Rs Dt} {w0 : List (Option Bn)} (I : List Dt → Prop) (Pr : Dt → Prop) : ∀ {xs acc : List Dt} {r : List (Option Bn)} {m : List Dt}, wipeB r own = w0 → I m →
    (∀ x ∈ xs, ∀ m, I m → ∃ rx, tgD tg x w0 = some rx ∧ cnd ⟨rx, m⟩ = .ok (.bl true) ⟨rx, m⟩ ∧ ∃ d rx' m', ev ⟨rx, m⟩ = .ok d ⟨rx', m'⟩ ∧ wipeB rx' own = w0 ∧ I m' ∧ Pr d) →
    ∃ r' m' ds, wipeB r' own = w0 ∧ I m' ∧ ds.length = xs.length ∧ (∀ d ∈ ds, Pr d) ∧ compL ev cnd tg own xs acc ⟨r, m⟩ = .ok (acc ++ ds) ⟨r', m'⟩
  | [], acc, r, m, hw, hm, _ => ⟨r, m, [], hw, hm, rfl, fun d h => (by cases h), by simp [compL]⟩
  | x :: xs, acc, r, m, hw, hm, h => by
    obtain ⟨rx, h1, h2, d, rx', m', h3, h4, h5, h6⟩ := h x (by simp) m hm
    obtain ⟨r2, m2, ds, k1, k2, k3, k4, k5⟩ := compL_ex I Pr (xs := xs) (acc := acc ++ [d]) (r := rx') (m := m') h4 h5 fun y hy => h y (by simp [hy])
    refine ⟨r2, m2, d :: ds, k1, k2, by simp [k3], fun y hy => ?_, ?_⟩
    · rcases List.mem_cons.mp hy with z | z
      · subst z; exact h6
      · exact k4 y z
    · unfold compL
      simp only [hw, h1, h2, h3, k5]
      simp
theorem e_comp_ex {xs : List Dt} (I : List Dt → Prop) (Pr : Dt → Prop) (hi : evE P cf ci it S = .ok x S1) (hx : itemsD x = some xs) (hl : xs.length ≤ sizeLine) (hp : own.all (pureAt S1.r) = true) (h0 : I S1.m)
    (h : ∀ y ∈ xs, ∀ m, I m → ∃ rx, tgD tg y (wipeB S1.r own) = some rx ∧ evE P cf ci c ⟨rx, m⟩ = .ok (.bl true) ⟨rx, m⟩ ∧ ∃ d rx' m', evE P cf ci e ⟨rx, m⟩ = .ok d ⟨rx', m'⟩ ∧ wipeB rx' own = wipeB S1.r own ∧ I m' ∧ Pr d) :
    ∃ m' ds, I m' ∧ ds.length = xs.length ∧ (∀ d ∈ ds, Pr d) ∧ evE P cf ci (.comp e own tg it c) S = .ok (.lst ds) ⟨S1.r, m'⟩ := by
  obtain ⟨r', m', ds, k1, k2, k3, k4, k5⟩ := compL_ex (r := S1.r) (m := S1.m) (acc := []) I Pr rfl h0 h
  refine ⟨m', ds, k2, k3, k4, ?_⟩
  rw [evE, hi]
  simp only [Rs.bind, compR, hx]
  rw [if_pos ⟨hl, hp⟩]
  have k5 : compL (evE P cf ci e) (evE P cf ci c) tg own xs [] S1 = .ok ([] ++ ds) ⟨r', m'⟩ := k5
  rw [k5]
  simp only [List.nil_append]
  rw [back_same k1]
theorem c_lst {as bs : List Dt} {k : Bool} (h : lstEq P cf as bs S.m = some k) : cmp1 P cf .Eq (.lst as) (.lst bs) S = .ok (.bl k) S := by
  simp only [cmp1, h, Option.map_some, okD]
theorem mem_enmL : ∀ {ds : List Dt} {n : Nat} {y : Dt}, y ∈ enmL n ds → ∃ (i : Int) (d : Dt), d ∈ ds ∧ y = .tup [.int i, d]
  | [], _, _, h => by cases h
  | d :: ds, n, y, h => by
    rcases List.mem_cons.mp h with z | z
    · exact ⟨_, d, by simp, z⟩
    · obtain ⟨i, d', h1, h2⟩ := mem_enmL z
      exact ⟨i, d', by simp [h1], h2⟩
theorem dtF_flat : ∀ {a : Dt}, flatC a = true → dtF a a = true
  | .lst ds, h => by rw [dtF]; exact dtsF_self_flat h
  | .non, h | .bl _, h | .int _, h | .str _, h | .tup _, h | .dct _ _, h | .ins _ _ _, h | .cel _, h | .cls _, h | .ty _, h | .scr _, h => by cases h
theorem dtsF_flat : ∀ {m : List Dt}, m.all flatC = true → dtsF m m = true
  | [], _ => by rw [dtsF]
  | a :: m, h => by
    rw [List.all_cons, Bool.and_eq_true] at h
    rw [dtsF, dtF_flat h.1, dtsF_flat h.2]
    rfl
theorem flat_pot {m : List Dt} {k : Nat} {p : Pot} (h : m.all flatC = true) : (m.set k (potD p)).all flatC = true := by
  rw [List.all_eq_true] at h ⊢
  intro d hd
  rcases List.mem_or_eq_of_mem_set hd with z | z
  · exact h d z
  · subst z; rfl
theorem pick_t {ds : List Dt} (h : ds.length ≤ sizeLine) : pick ds [.t 0] = some [.tup ds] := by
  simp only [pick, List.drop_zero, if_pos h, Option.map_some]
theorem empty_app {x : Str} : Str.empty ++ x = x := by
  show (⟨#[] ++ x.cps⟩ : Str) = x
  simp
end
theorem at_ix {l : List Dt} {i : Int} {d : Dt} (h0 : 0 ≤ i) (h : l[i.toNat]? = some d) : atI l i = some d := by
  have hl := (List.getElem?_eq_some_iff.mp h).1
  unfold atI ixN
  rw [if_pos h0, if_pos (by omega), Option.bind_some]
  exact h
theorem ixN_of {n : Nat} {i : Int} (h0 : 0 ≤ i) (h : i < n) : ixN n i = some i.toNat := by
  unfold ixN
  rw [if_pos h0, if_pos (by omega)]
theorem small_i {i : Int} (h : -4611686018427387904 ≤ i ∧ i < 4611686018427387904) : smallI i = true := by
  unfold smallI
  rw [decide_eq_true (by omega), decide_eq_true (by omega)]
  rfl
theorem rg_at {a b : Int} {n : Nat} {y : Dt} (h : (rangeD a b)[n]? = some y) : y = .int (a + n) ∧ a + n < b := by
  have hl := (List.getElem?_eq_some_iff.mp h).1
  unfold rangeD at h hl
  rw [List.length_map, List.length_range] at hl
  rw [List.getElem?_map, List.getElem?_range hl] at h
  cases h
  exact ⟨rfl, by omega⟩
theorem v_enmG {P : Pg} {cf ci : Nat → List Dt → List Dt → Rc} {S S1 : Sto} {a : Tm} {x : Dt} {ds : List Dt} (ha : evE P cf ci a S = .ok x S1) (he : enmD x = some ds) : evE P cf ci (.enm a) S = .ok (.lst ds) S1 := by
  rw [evE, ha]
  simp only [Rs.bind, he, Option.map_some, okD]
end PyI
namespace PyI
open PySem PySem.Spec PyProof.Rows L2
abbrev Rg := List (Option Bn)
abbrev NoX : Nat → List Str → List Dt → Rg → List Dt → Prop := fun _ _ _ _ _ => False
abbrev NoC : Nat → List Str → List Dt → List Dt → Prop := fun _ _ _ _ => False
/-! ### runs by what is asked behind them -/
@[irreducible] def We {α : Type} (r : Rs α) (K : α → Rg → List Dt → Prop) (X : Nat → List Str → List Dt → Rg → List Dt → Prop) : Prop := match r with
  | .ok a S => K a S.r S.m
  | .ex c ns ds S => X c ns ds S.r S.m
  | .bad => False
@[irreducible] def Wc (r : Rc) (K : Bn → List Dt → Prop) (X : Nat → List Str → List Dt → List Dt → Prop) : Prop := match r with
  | .ok b m => K b m
  | .ex c ns ds m => X c ns ds m
  | .bad => False
@[irreducible] def Wt (r : Rt) (Q : Rt → Prop) : Prop := Q r
def Xq (Q : Rt → Prop) (c : Nat) (ns : List Str) (ds : List Dt) (r : Rg) (m : List Dt) : Prop := Q (.ex c ns ds ⟨r, m⟩)
def sq (k : Sto → Rt) (Q : Rt → Prop) (r : Rt) : Prop := match r with
  | .nx S => Wt (k S) Q
  | r => Q r
/-- what a def hands back -/
def fnQ (K : Bn → List Dt → Prop) (X : Nat → List Str → List Dt → List Dt → Prop) (r : Rt) : Prop := match r with
  | .nx S => K (.p .non) S.m
  | .rt b S => K b S.m
  | .ex c ns ds S => X c ns ds S.m
  | _ => False
def celQ (K : Bn → List Dt → Prop) (X : Nat → List Str → List Dt → List Dt → Prop) (r : Rt) : Prop := match r with
  | .rt (.o d) S => K (.p (.cel S.m.length)) (S.m ++ [d])
  | .ex c ns ds S => X c ns ds S.m
  | _ => False
def iniQ (K : Bn → List Dt → Prop) (X : Nat → List Str → List Dt → List Dt → Prop) (r : Rt) : Prop := match r with
  | .nx S => ∃ c ns vs, S.r[(0 : Nat)]? = some (some (.o (.ins c ns vs))) ∧ K (.p (.ins c ns vs)) S.m
  | .ex c ns ds S => X c ns ds S.m
  | _ => False
section
variable {α β : Type} {K : Bn → List Dt → Prop} {X : Nat → List Str → List Dt → List Dt → Prop}
theorem Wc.mono {r : Rc} {K' : Bn → List Dt → Prop} {X' : Nat → List Str → List Dt → List Dt → Prop} (h : Wc r K' X') (hk : ∀ b m, K' b m → K b m) (hx : ∀ c ns ds m, X' c ns ds m → X c ns ds m) : Wc r K X := by
  with_unfolding_all
    cases r with
    | ok b m => exact hk _ _ h
    | ex c ns ds m => exact hx _ _ _ _ h
    | bad => exact h
/-- a run that raises nothing -/
theorem Wc.use {r : Rc} {K' : Bn → List Dt → Prop} (h : Wc r K' NoC) (hk : ∀ b m, K' b m → K b m) : Wc r K X := by
  with_unfolding_all exact h.mono hk fun _ _ _ _ z => z.elim
theorem wc_ok {r : Rc} {b : Bn} {m : List Dt} (h : r = .ok b m) (k : K b m) : Wc r K X := by
  with_unfolding_all
    subst h
    exact k
theorem wc_ex {r : Rc} {c : Nat} {ns : List Str} {ds m : List Dt} (h : r = .ex c ns ds m) (k : X c ns ds m) : Wc r K X := by
  with_unfolding_all
    subst h
    exact k
theorem wc_eq {r : Rc} {b : Bn} {m : List Dt} (h : Wc r (fun b' m' => b' = b ∧ m' = m) NoC) : r = .ok b m := by
  with_unfolding_all
    cases r with
    | ok b m => unfold Wc at h; obtain ⟨rfl, rfl⟩ := h; rfl
    | ex c ns ds m => exact h.elim
    | bad => exact h.elim
theorem wc_eqX {r : Rc} {c : Nat} {ns : List Str} {ds m : List Dt} (h : Wc r (fun _ _ => False) fun c' ns' ds' m' => c' = c ∧ ns' = ns ∧ ds' = ds ∧ m' = m) : r = .ex c ns ds m := by
  with_unfolding_all
    cases r with
    | ok b m => exact h.elim
    | ex c ns ds m => unfold Wc at h; obtain ⟨rfl, rfl, rfl, rfl⟩ := h; rfl
    | bad => exact h.elim
theorem wc_out {r : Rc} {K : Bn → List Dt → Prop} (h : Wc r K NoC) : ∃ b m, r = .ok b m ∧ K b m := by
  with_unfolding_all
    cases r with
    | ok b m => exact ⟨_, _, rfl, h⟩
    | ex c ns ds m => exact h.elim
    | bad => exact h.elim
theorem we_bind {r : Rs α} {k : α → Sto → Rs β} {K : β → Rg → List Dt → Prop} {X : Nat → List Str → List Dt → Rg → List Dt → Prop} (h : We r (fun a r m => We (k a ⟨r, m⟩) K X) X) : We (r.bind k) K X := by
  with_unfolding_all
    cases r with
    | ok a S => exact h
    | ex c ns ds S => exact h
    | bad => exact h
theorem we_ok {a : α} {r : Rg} {m : List Dt} {K : α → Rg → List Dt → Prop} {X : Nat → List Str → List Dt → Rg → List Dt → Prop} (h : K a r m) : We (.ok a ⟨r, m⟩) K X := by
  with_unfolding_all exact h
theorem we_eq {rs : Rs α} {a : α} {r : Rg} {m : List Dt} {K : α → Rg → List Dt → Prop} {X : Nat → List Str → List Dt → Rg → List Dt → Prop} (h : rs = .ok a ⟨r, m⟩) (k : K a r m) : We rs K X := by
  with_unfolding_all
    subst h
    exact k
theorem wt_rt {r : Rs α} {k : α → Sto → Rt} {Q : Rt → Prop} (h : We r (fun a r m => Wt (k a ⟨r, m⟩) Q) (Xq Q)) : Wt (toRt r k) Q := by
  with_unfolding_all
    cases r with
    | ok a S => exact h
    | ex c ns ds S => exact h
    | bad => exact h.elim
theorem wt_eq {r r' : Rt} {Q : Rt → Prop} (h : r = r') (k : Q r') : Wt r Q := by
  with_unfolding_all
    subst h
    exact k
end
section
variable {P : Pg} {cf ci : Nat → List Dt → List Dt → Rc} {r r1 r2 : Rg} {m m1 m2 : List Dt} {K : Dt → Rg → List Dt → Prop} {X : Nat → List Str → List Dt → Rg → List Dt → Prop} {a b c : Tm} {es : List Tm} {ks : List Str} {x y d : Dt} {ds : List Dt} {i j f g n c0 : Nat} {fl mt : Str} {op : Operator} {cp o1 o2 : CmpOp} {ns : List Str} {vs : List Dt} {p : Bool}
/-- what comes of a call -/
def Wk (K : Dt → Rg → List Dt → Prop) (r : List (Option Bn)) (b : Bn) (m : List Dt) : Prop := K (bnD b) r m
def Wkb (K : Dt → Rg → List Dt → Prop) (r : List (Option Bn)) (b : Bn) (m : List Dt) : Prop := ∃ p, bnD b = .bl p ∧ K (.bl p) r m
def Wkn (K : Dt → Rg → List Dt → Prop) (r : List (Option Bn)) (b : Bn) (m : List Dt) : Prop := ∃ p, bnD b = .bl p ∧ K (.bl (!p)) r m
def Wks (K : Dt → Rg → List Dt → Prop) (r : List (Option Bn)) (b : Bn) (m : List Dt) : Prop := ∃ z, bnD b = .str z ∧ K (.str z) r m
def Wkl (K : Dt → Rg → List Dt → Prop) (r : List (Option Bn)) (b : Bn) (m : List Dt) : Prop := ∃ z : Int, bnD b = .int z ∧ (0 ≤ z ∧ z < 9223372036854775808) ∧ K (.int z) r m
theorem wk_p {r : List (Option Bn)} {m : List Dt} (h : K d r m) : Wk K r (.p d) m := by
  with_unfolding_all exact h
theorem wk_o {r : List (Option Bn)} {m : List Dt} (h : K d r m) : Wk K r (.o d) m := by
  with_unfolding_all exact h
theorem wk_b {r : List (Option Bn)} {m : List Dt} (h : K (.bl p) r m) : Wkb K r (.p (.bl p)) m := by
  with_unfolding_all exact ⟨p, rfl, h⟩
theorem wk_n {r : List (Option Bn)} {m : List Dt} (h : K (.bl (!p)) r m) : Wkn K r (.p (.bl p)) m := by
  with_unfolding_all exact ⟨p, rfl, h⟩
theorem wk_s {r : List (Option Bn)} {m : List Dt} {z : Str} (h : K (.str z) r m) : Wks K r (.p (.str z)) m := by
  with_unfolding_all exact ⟨z, rfl, h⟩
theorem wk_l {r : List (Option Bn)} {m : List Dt} {z : Int} (h0 : 0 ≤ z ∧ z < 9223372036854775808) (h : K (.int z) r m) : Wkl K r (.p (.int z)) m := by
  with_unfolding_all exact ⟨z, rfl, h0, h⟩
def Wx (X : Nat → List Str → List Dt → Rg → List Dt → Prop) (r : Rg) (c : Nat) (ns : List Str) (ds m : List Dt) : Prop := X c ns ds r m
theorem we_upR {rc : Rc} (h : Wc rc (Wk K r) (Wx X r)) : We (upR rc ⟨r, m⟩) K X := by
  with_unfolding_all
    cases rc with
    | ok b m => cases b <;> exact h
    | ex c ns ds m => exact h
    | bad => exact h
theorem we_upN {rc : Rc} (h : Wc rc (Wk K r) NoC) : We (upN rc ⟨r, m⟩) K X := by
  with_unfolding_all
    cases rc with
    | ok b m => cases b <;> exact h
    | ex c ns ds m => exact h.elim
    | bad => exact h
theorem we_upP {xs : List Dt} {o : Option (List Dt)} {gg : List Dt → List Dt → Rc} (ho : o = some xs) (h : Wc (gg xs m) (Wk K r) (Wx X r)) : We (upP o gg ⟨r, m⟩) K X := by
  with_unfolding_all
    subst ho
    exact we_upR h
theorem we_okD {o : Option Dt} (ho : o = some d) (k : K d r m) : We (okD o ⟨r, m⟩) K X := by
  with_unfolding_all
    subst ho
    exact k
theorem we_var (h : r[i]? = some (some (.p d))) (k : K d r m) : We (evE P cf ci (.var i) ⟨r, m⟩) K X := by
  with_unfolding_all exact we_eq (e_var h) k
theorem we_varO (h : r[i]? = some (some (.o (.lst ds)))) (k : K (.lst ds) (r.set i (some (.p (.lst ds)))) m) : We (evE P cf ci (.var i) ⟨r, m⟩) K X := by
  with_unfolding_all exact we_eq (v_varO h) k
theorem we_cst (k : K d r m) : We (evE P cf ci (.cst d) ⟨r, m⟩) K X := by
  with_unfolding_all exact we_eq e_cst k
theorem we_glo {g : Str} (k : K d r m) : We (evE P cf ci (.glo g d) ⟨r, m⟩) K X := by
  with_unfolding_all exact we_eq e_glo k
theorem we_bin (h : We (evE P cf ci a ⟨r, m⟩) (fun x r1 m1 => We (evE P cf ci b ⟨r1, m1⟩) (fun y r2 m2 => We (bin1 P cf op x y ⟨r2, m2⟩) K X) X) X) : We (evE P cf ci (.bin op a b) ⟨r, m⟩) K X := by
  with_unfolding_all
    rw [evE]
    exact we_bind (by
      cases e : evE P cf ci a ⟨r, m⟩ with
      | ok x S1 => rw [e] at h; exact we_bind h
      | ex c ns ds S => rw [e] at h; exact h
      | bad => rw [e] at h; exact h)
theorem we_opD (h : opD op x y = some d) (k : K d r m) : We (bin1 P cf op x y ⟨r, m⟩) K X := by
  with_unfolding_all exact we_eq (bin1_pl h) k
theorem we_opO (hm : (opMeth op).bind (P.meth c0) = some g) (ht : typedO P op c0 y = true) (h : Wc (cf g [.ins c0 ns vs, y] m) (Wk K r) (Wx X r)) : We (bin1 P cf op (.ins c0 ns vs) y ⟨r, m⟩) K X := by
  with_unfolding_all
    simp only [bin1, hm, ht, if_true]
    exact we_upR h
theorem we_neg (h : We (evE P cf ci a ⟨r, m⟩) (fun x r1 m1 => ∃ k, x = .int k ∧ K (.int (-k)) r1 m1) X) : We (evE P cf ci (.neg a) ⟨r, m⟩) K X := by
  with_unfolding_all
    rw [evE]
    refine we_bind ?_
    cases e : evE P cf ci a ⟨r, m⟩ with
    | ok x S1 => rw [e] at h; unfold We at h; obtain ⟨k, rfl, h⟩ := h; exact h
    | ex c ns ds S => rw [e] at h; exact h
    | bad => rw [e] at h; exact h
theorem We.of {α : Type} {rs : Rs α} {K K' : α → Rg → List Dt → Prop} {X : Nat → List Str → List Dt → Rg → List Dt → Prop} (h : We rs K' X) (hk : ∀ a r m, K' a r m → K a r m) : We rs K X := by
  with_unfolding_all
    cases rs with
    | ok a S => exact hk _ _ _ h
    | ex c ns ds S => exact h
    | bad => exact h
theorem we_cmp (h : We (evE P cf ci a ⟨r, m⟩) (fun x r1 m1 => We (evE P cf ci b ⟨r1, m1⟩) (fun y r2 m2 => We (cmp1 P cf cp x y ⟨r2, m2⟩) K X) X) X) : We (evE P cf ci (.cmp cp a b) ⟨r, m⟩) K X := by
  with_unfolding_all
    rw [evE]
    exact we_bind (h.of fun _ _ _ h => we_bind h)
theorem we_cmD {k : Bool} (hx : insB x = false) (h : cmpD cp x y = some k) (q : K (.bl k) r m) : We (cmp1 P cf cp x y ⟨r, m⟩) K X := by
  with_unfolding_all exact we_eq (c_pl hx h) q
theorem we_cEq (hm : P.meth c0 "__eq__" = some g) (ht : typed P y = true) (h : Wc (cf g [.ins c0 ns vs, y] m) (Wk K r) NoC) : We (cmp1 P cf .Eq (.ins c0 ns vs) y ⟨r, m⟩) K X := by
  with_unfolding_all
    unfold cmp1
    simp only [hm, ht, if_true]
    exact we_upN h
theorem we_cEqB (hx : eqBk x = true) (hm : P.meth c0 "__eq__" = some g) (h : Wc (cf g [.ins c0 ns vs, x] m) (Wk K r) NoC) : We (cmp1 P cf .Eq x (.ins c0 ns vs) ⟨r, m⟩) K X := by
  with_unfolding_all
    cases x with
    | ins _ _ _ => cases hx
    | _ => simp only [cmp1, hm, hx, if_true]; exact we_upN h
theorem we_cIn (hm : P.meth c0 "__contains__" = some g) (h : Wc (cf g [.ins c0 ns vs, x] m) (Wkb K r) NoC) : We (cmp1 P cf .In x (.ins c0 ns vs) ⟨r, m⟩) K X := by
  with_unfolding_all
    simp only [cmp1, hm]
    refine we_bind (we_upN (h.mono (fun b m => ?_) fun _ _ _ _ z => z))
    rintro ⟨p, e, h⟩
    show We (blB (bnD b) _) K X
    rw [e]
    exact h
theorem we_cNin (hm : P.meth c0 "__contains__" = some g) (h : Wc (cf g [.ins c0 ns vs, x] m) (Wkn K r) NoC) : We (cmp1 P cf .NotIn x (.ins c0 ns vs) ⟨r, m⟩) K X := by
  with_unfolding_all
    simp only [cmp1, hm]
    refine we_bind (we_upN (h.mono (fun b m => ?_) fun _ _ _ _ z => z))
    rintro ⟨p, e, h⟩
    show We (negB (bnD b) _) K X
    rw [e]
    exact h
theorem we_cLst {as bs : List Dt} {k : Bool} (h : lstEq P cf as bs m = some k) (q : K (.bl k) r m) : We (cmp1 P cf .Eq (.lst as) (.lst bs) ⟨r, m⟩) K X := by
  with_unfolding_all exact we_eq (c_lst h) q
theorem we_chn (h : We (evE P cf ci a ⟨r, m⟩) (fun x r1 m1 => We (evE P cf ci b ⟨r1, m1⟩) (fun y r2 m2 => We (evE P cf ci c ⟨r2, m2⟩) (fun z r3 m3 => ∃ j k, cmpD o1 x y = some j ∧ cmpD o2 y z = some k ∧ (⟨r3, m3⟩ : Sto) = ⟨r2, m2⟩ ∧ K (.bl (j && k)) r2 m2) NoX) X) X) : We (evE P cf ci (.chn o1 o2 a b c) ⟨r, m⟩) K X := by
  with_unfolding_all
    rw [evE]
    refine we_bind (h.of fun x r1 m1 h => we_bind (h.of fun y r2 m2 h => ?_))
    cases e : evE P cf ci c ⟨r2, m2⟩ with
    | bad => rw [e] at h; exact h.elim
    | ex _ _ _ _ => rw [e] at h; exact h.elim
    | ok z S3 =>
      rw [e] at h
      unfold We at h
      obtain ⟨j, k, h1, h2, h0, h3⟩ := h
      have h0 : S3 = ⟨r2, m2⟩ := h0
      subst h0
      simp only [h1, Option.map_some, okD, Rs.bind]
      cases j with
      | true => simp only [e, h2, Rs.bind, Option.map_some, okD]; exact h3
      | false => exact h3
theorem we_and (h : We (evE P cf ci a ⟨r, m⟩) (fun x r1 m1 => ∃ p, x = .bl p ∧ We (cond p (evE P cf ci b ⟨r1, m1⟩) (.ok (.bl false) ⟨r1, m1⟩)) K X) X) : We (evE P cf ci (.and2 a b) ⟨r, m⟩) K X := by
  with_unfolding_all
    rw [evE]
    refine we_bind (h.of fun x r1 m1 h => ?_)
    obtain ⟨p, rfl, h⟩ := h
    cases p <;> exact h
theorem we_or (h : We (evE P cf ci a ⟨r, m⟩) (fun x r1 m1 => ∃ p, x = .bl p ∧ We (cond p (.ok (.bl true) ⟨r1, m1⟩) (evE P cf ci b ⟨r1, m1⟩)) K X) X) : We (evE P cf ci (.or2 a b) ⟨r, m⟩) K X := by
  with_unfolding_all
    rw [evE]
    refine we_bind (h.of fun x r1 m1 h => ?_)
    obtain ⟨p, rfl, h⟩ := h
    cases p <;> exact h
theorem we_ife (h : We (evE P cf ci c ⟨r, m⟩) (fun x r1 m1 => ∃ p, x = .bl p ∧ We (cond p (evE P cf ci a ⟨r1, m1⟩) (evE P cf ci b ⟨r1, m1⟩)) K X) X) : We (evE P cf ci (.ife c a b) ⟨r, m⟩) K X := by
  with_unfolding_all
    rw [evE]
    refine we_bind (h.of fun x r1 m1 h => ?_)
    obtain ⟨p, rfl, h⟩ := h
    cases p <;> exact h
theorem we_not (h : We (evE P cf ci a ⟨r, m⟩) (fun x r1 m1 => ∃ p, x = .bl p ∧ K (.bl (!p)) r1 m1) X) : We (evE P cf ci (.not1 a) ⟨r, m⟩) K X := by
  with_unfolding_all
    rw [evE]
    refine we_bind (h.of fun x r1 m1 h => ?_)
    obtain ⟨p, rfl, h⟩ := h
    exact h
theorem we_t {α : Type} {u v : Rs α} {K : α → Rg → List Dt → Prop} (hp : p = true) (h : We u K X) : We (cond p u v) K X := by
  with_unfolding_all
    subst hp
    exact h
theorem we_f {α : Type} {u v : Rs α} {K : α → Rg → List Dt → Prop} (hp : p = false) (h : We v K X) : We (cond p u v) K X := by
  with_unfolding_all
    subst hp
    exact h
theorem we_tf {α : Type} {u v : Rs α} {K : α → Rg → List Dt → Prop} (h1 : p = true → We u K X) (h2 : p = false → We v K X) : We (cond p u v) K X := by
  with_unfolding_all
    cases p
    · exact h2 rfl
    · exact h1 rfl
/-- and, or of plain tests -/
theorem we_andP (h : We (evE P cf ci b ⟨r, m⟩) (fun y r2 m2 => ∃ q, y = .bl q ∧ (⟨r2, m2⟩ : Sto) = ⟨r, m⟩ ∧ K (.bl (p && q)) r m) NoX) : We (cond p (evE P cf ci b ⟨r, m⟩) (.ok (.bl false) ⟨r, m⟩)) K X := by
  with_unfolding_all
    cases e : evE P cf ci b ⟨r, m⟩ with
    | bad => rw [e] at h; exact h.elim
    | ex _ _ _ _ => rw [e] at h; exact h.elim
    | ok z S3 =>
      rw [e] at h
      unfold We at h
      obtain ⟨q, rfl, h0, h⟩ := h
      have h0 : S3 = ⟨r, m⟩ := h0
      subst h0
      cases p <;> exact h
theorem we_orP (h : We (evE P cf ci b ⟨r, m⟩) (fun y r2 m2 => ∃ q, y = .bl q ∧ (⟨r2, m2⟩ : Sto) = ⟨r, m⟩ ∧ K (.bl (p || q)) r m) NoX) : We (cond p (.ok (.bl true) ⟨r, m⟩) (evE P cf ci b ⟨r, m⟩)) K X := by
  with_unfolding_all
    cases e : evE P cf ci b ⟨r, m⟩ with
    | bad => rw [e] at h; exact h.elim
    | ex _ _ _ _ => rw [e] at h; exact h.elim
    | ok z S3 =>
      rw [e] at h
      unfold We at h
      obtain ⟨q, rfl, h0, h⟩ := h
      have h0 : S3 = ⟨r, m⟩ := h0
      subst h0
      cases p <;> exact h
theorem we_nil {K : List Dt → Rg → List Dt → Prop} (h : K [] r m) : We (evEs P cf ci [] ⟨r, m⟩) K X := by
  with_unfolding_all exact we_eq e_nil h
theorem we_cons {K : List Dt → Rg → List Dt → Prop} (h : We (evE P cf ci a ⟨r, m⟩) (fun d r1 m1 => We (evEs P cf ci es ⟨r1, m1⟩) (fun ds r2 m2 => K (d :: ds) r2 m2) X) X) : We (evEs P cf ci (a :: es) ⟨r, m⟩) K X := by
  with_unfolding_all
    rw [evEs]
    exact we_bind (h.of fun _ _ _ h => we_bind h)
theorem we_tup (h : We (evEs P cf ci es ⟨r, m⟩) (fun ds r1 m1 => ds.length ≤ sizeLine ∧ K (.tup ds) r1 m1) X) : We (evE P cf ci (.tup es) ⟨r, m⟩) K X := by
  with_unfolding_all
    rw [evE]
    refine we_bind (h.of fun ds r1 m1 h => ?_)
    rw [if_pos h.1]
    exact h.2
theorem we_lst (h : We (evEs P cf ci es ⟨r, m⟩) (fun ds r1 m1 => ds.length ≤ sizeLine ∧ K (.lst ds) r1 m1) X) : We (evE P cf ci (.lst es) ⟨r, m⟩) K X := by
  with_unfolding_all
    rw [evE]
    refine we_bind (h.of fun ds r1 m1 h => ?_)
    rw [if_pos h.1]
    exact h.2
theorem we_ix (h : We (evE P cf ci a ⟨r, m⟩) (fun x r1 m1 => We (evE P cf ci b ⟨r1, m1⟩) (fun y r2 m2 => ∃ d, ixD m2 x y = some d ∧ K d r2 m2) X) X) : We (evE P cf ci (.ix a b) ⟨r, m⟩) K X := by
  with_unfolding_all
    rw [evE]
    exact we_bind (h.of fun _ _ _ h => we_bind (h.of fun _ _ _ ⟨d, h1, h2⟩ => we_okD h1 h2))
/-- a field or a property -/
def fld1 (P : Pg) (cf : Nat → List Dt → List Dt → Rc) (f : Str) (x : Dt) (S1 : Sto) : Rs Dt := match x with
    | .ins c ns vs => match P.prop c f with
      | some g => upN (cf g [.ins c ns vs] S1.m) S1
      | none => if P.fld c f then okD (lookD f ns vs) S1 else .bad
    | _ => .bad
theorem we_fld (h : We (evE P cf ci a ⟨r, m⟩) (fun x r1 m1 => We (fld1 P cf fl x ⟨r1, m1⟩) K X) X) : We (evE P cf ci (.fld a fl) ⟨r, m⟩) K X := by
  with_unfolding_all
    rw [evE]
    exact we_bind h
theorem we_fl (hp : P.prop c0 fl = none) (hf : P.fld c0 fl = true) (h : lookD fl ns vs = some d) (k : K d r m) : We (fld1 P cf fl (.ins c0 ns vs) ⟨r, m⟩) K X := by
  with_unfolding_all
    simp only [fld1, hp, hf, if_true, h, okD]
    exact k
theorem we_pr (hp : P.prop c0 fl = some g) (h : Wc (cf g [.ins c0 ns vs] m) (Wk K r) NoC) : We (fld1 P cf fl (.ins c0 ns vs) ⟨r, m⟩) K X := by
  with_unfolding_all
    simp only [fld1, hp]
    exact we_upN h
theorem we_bi {bb : Bi} (h : We (evEs P cf ci es ⟨r, m⟩) (fun ds r1 m1 => We (bi1 P cf bb ds ⟨r1, m1⟩) K X) X) : We (evE P cf ci (.bi bb es) ⟨r, m⟩) K X := by
  with_unfolding_all
    rw [evE]
    exact we_bind h
theorem we_biE {bb : Bi} {S2 : Sto} (h : bi1 P cf bb ds ⟨r, m⟩ = .ok d ⟨r2, m2⟩) (k : K d r2 m2) : We (bi1 P cf bb ds ⟨r, m⟩) K X := by
  with_unfolding_all exact we_eq h k
theorem bi1_pl {bb : Bi} {S : Sto} (h : biD bb ds = some d) : bi1 P cf bb ds S = .ok d S := by
  have e : bi1 P cf bb ds S = okD (biD bb ds) S := by
    unfold bi1
    split
    · cases h
    · cases h
    · cases h
    · rfl
  rw [e, h]
  rfl
theorem we_biD {bb : Bi} (h : biD bb ds = some d) (k : K d r m) : We (bi1 P cf bb ds ⟨r, m⟩) K X := by
  with_unfolding_all exact we_eq (bi1_pl h) k
theorem we_biR (hm : P.meth c0 "__repr__" = some g) (h : Wc (cf g [.ins c0 ns vs] m) (Wks K r) NoC) : We (bi1 P cf .repr [.ins c0 ns vs] ⟨r, m⟩) K X := by
  with_unfolding_all
    simp only [bi1, hm]
    refine we_bind (we_upN (h.mono (fun b m => ?_) fun _ _ _ _ z => z))
    rintro ⟨p, e, h⟩
    show We (strB (bnD b) _) K X
    rw [e]
    exact h
theorem we_biS (hm : P.meth c0 "__str__" = some g) (h : Wc (cf g [.ins c0 ns vs] m) (Wks K r) NoC) : We (bi1 P cf .str [.ins c0 ns vs] ⟨r, m⟩) K X := by
  with_unfolding_all
    simp only [bi1, hm]
    refine we_bind (we_upN (h.mono (fun b m => ?_) fun _ _ _ _ z => z))
    rintro ⟨p, e, h⟩
    show We (strB (bnD b) _) K X
    rw [e]
    exact h
theorem we_biL (hm : P.meth c0 "__len__" = some g) (h : Wc (cf g [.ins c0 ns vs] m) (Wkl K r) NoC) : We (bi1 P cf .len [.ins c0 ns vs] ⟨r, m⟩) K X := by
  with_unfolding_all
    simp only [bi1, hm]
    refine we_bind (we_upN (h.mono (fun b m => ?_) fun _ _ _ _ z => z))
    rintro ⟨p, e, h0, h⟩
    show We (lenB' (bnD b) _) K X
    rw [e]
    simp only [lenB']
    rw [if_pos (by omega)]
    exact h
theorem we_isi {ts : List Ty} (h : We (evE P cf ci a ⟨r, m⟩) (fun x r1 m1 => ∃ k, isTs P x ts = some k ∧ K (.bl k) r1 m1) X) : We (evE P cf ci (.isi a ts) ⟨r, m⟩) K X := by
  with_unfolding_all
    rw [evE]
    exact we_bind (h.of fun _ _ _ ⟨k, h1, h2⟩ => we_okD (by rw [h1]; rfl) h2)
theorem we_call (h : We (evEs P cf ci es ⟨r, m⟩) (fun ds r1 m1 => ∃ sh xs, P.shf f (ds.length - ks.length) ks = some sh ∧ pick ds sh = some xs ∧ Wc (cf f xs m1) (Wk K r1) (Wx X r1)) X) : We (evE P cf ci (.call f ks es) ⟨r, m⟩) K X := by
  with_unfolding_all
    rw [evE]
    refine we_bind (h.of fun ds r1 m1 h => ?_)
    obtain ⟨sh, xs, h1, h2, h3⟩ := h
    simp only [h1]
    exact we_upP h2 h3
theorem we_smeth (h : We (evEs P cf ci es ⟨r, m⟩) (fun ds r1 m1 => ∃ sh xs, P.shf f (ds.length - ks.length) ks = some sh ∧ pick ds sh = some xs ∧ Wc (cf f xs m1) (Wk K r1) (Wx X r1)) X) : We (evE P cf ci (.smeth c0 mt f ks es) ⟨r, m⟩) K X := by
  with_unfolding_all
    rw [evE]
    refine we_bind (h.of fun ds r1 m1 h => ?_)
    obtain ⟨sh, xs, h1, h2, h3⟩ := h
    simp only [h1]
    exact we_upP h2 h3
theorem we_make (h : We (evEs P cf ci es ⟨r, m⟩) (fun ds r1 m1 => ∃ sh xs, P.shc c0 (ds.length - ks.length) ks = some sh ∧ pick ds sh = some xs ∧ Wc (ci c0 xs m1) (Wk K r1) (Wx X r1)) X) : We (evE P cf ci (.make c0 ks es) ⟨r, m⟩) K X := by
  with_unfolding_all
    rw [evE]
    refine we_bind (h.of fun ds r1 m1 h => ?_)
    obtain ⟨sh, xs, h1, h2, h3⟩ := h
    simp only [h1]
    exact we_upP h2 h3
theorem we_makeS (h : We (evEs P cf ci es ⟨r, m⟩) (fun ds0 r1 m1 => ∃ ds sh xs, splD (es.map isSt) ds0 = some ds ∧ P.shc c0 ds.length [] = some sh ∧ pick ds sh = some xs ∧ Wc (ci c0 xs m1) (Wk K r1) (Wx X r1)) X) : We (evE P cf ci (.makeS c0 es) ⟨r, m⟩) K X := by
  with_unfolding_all
    rw [evE]
    refine we_bind (h.of fun ds r1 m1 h => ?_)
    obtain ⟨ds, sh, xs, h0, h1, h2, h3⟩ := h
    simp only [h0, h1]
    exact we_upP h2 h3
theorem we_star (h : We (evE P cf ci a ⟨r, m⟩) (fun x r1 m1 => We (starK x ⟨r1, m1⟩) K X) X) : We (evE P cf ci (.star a) ⟨r, m⟩) K X := by
  with_unfolding_all
    rw [evE]
    exact we_bind h
theorem we_stL (h : K (.lst ds) r m) : We (starK (.lst ds) ⟨r, m⟩) K X := by
  with_unfolding_all exact h
theorem we_stT (h : K (.tup ds) r m) : We (starK (.tup ds) ⟨r, m⟩) K X := by
  with_unfolding_all exact h
theorem we_meth (h : We (evE P cf ci a ⟨r, m⟩) (fun x r1 m1 => ∃ c0 ns vs g, x = .ins c0 ns vs ∧ P.meth c0 mt = some g ∧ lookD mt ns vs = none ∧ We (evEs P cf ci es ⟨r1, m1⟩) (fun ds r2 m2 => ∃ sh xs, P.shf g (ds.length + 1 - ks.length) ks = some sh ∧ pick (.ins c0 ns vs :: ds) sh = some xs ∧ Wc (cf g xs m2) (Wk K r2) (Wx X r2)) X) X) : We (evE P cf ci (.meth a mt ks es) ⟨r, m⟩) K X := by
  with_unfolding_all
    rw [evE]
    refine we_bind (h.of fun x r1 m1 h => ?_)
    obtain ⟨c0, ns, vs, g, rfl, h1, h2, h⟩ := h
    simp only [h1, h2]
    refine we_bind (h.of fun ds r1 m1 h => ?_)
    obtain ⟨sh, xs, h3, h4, h5⟩ := h
    simp only [h3]
    exact we_upP h4 h5
theorem we_icall (h : We (evE P cf ci a ⟨r, m⟩) (fun x r1 m1 => ∃ c0 ns vs g, x = .ins c0 ns vs ∧ P.meth c0 "__call__" = some g ∧ We (evEs P cf ci es ⟨r1, m1⟩) (fun ds r2 m2 => ∃ sh xs, P.shf g (ds.length + 1 - ks.length) ks = some sh ∧ pick (.ins c0 ns vs :: ds) sh = some xs ∧ Wc (cf g xs m2) (Wk K r2) (Wx X r2)) X) X) : We (evE P cf ci (.icall a ks es) ⟨r, m⟩) K X := by
  with_unfolding_all
    rw [evE]
    refine we_bind (h.of fun x r1 m1 h => ?_)
    obtain ⟨c0, ns, vs, g, rfl, h1, h⟩ := h
    simp only [h1]
    refine we_bind (h.of fun ds r1 m1 h => ?_)
    obtain ⟨sh, xs, h3, h4, h5⟩ := h
    simp only [h3]
    exact we_upP h4 h5
theorem we_rng1 (h : We (evE P cf ci a ⟨r, m⟩) (fun x r1 m1 => ∃ j, x = .int j ∧ smallI j = true ∧ K (.lst (rangeD 0 j)) r1 m1) X) : We (evE P cf ci (.rng1 a) ⟨r, m⟩) K X := by
  with_unfolding_all
    rw [evE]
    refine we_bind (h.of fun x r1 m1 h => ?_)
    obtain ⟨j, rfl, h1, h2⟩ := h
    simp only [rng1D, h1, if_true]
    exact h2
theorem we_rng2 (h : We (evE P cf ci a ⟨r, m⟩) (fun x r1 m1 => We (evE P cf ci b ⟨r1, m1⟩) (fun y r2 m2 => ∃ i j, x = .int i ∧ y = .int j ∧ (smallI i && smallI j) = true ∧ K (.lst (rangeD i j)) r2 m2) X) X) : We (evE P cf ci (.rng2 a b) ⟨r, m⟩) K X := by
  with_unfolding_all
    rw [evE]
    refine we_bind (h.of fun x r1 m1 h => we_bind (h.of fun y r2 m2 h => ?_))
    obtain ⟨i, j, rfl, rfl, h1, h2⟩ := h
    simp only [rng2D, h1, if_true]
    exact h2
theorem we_enm (h : We (evE P cf ci a ⟨r, m⟩) (fun x r1 m1 => ∃ ds, enmD x = some ds ∧ K (.lst ds) r1 m1) X) : We (evE P cf ci (.enm a) ⟨r, m⟩) K X := by
  with_unfolding_all
    rw [evE]
    exact we_bind (h.of fun _ _ _ ⟨k, h1, h2⟩ => we_okD (by rw [h1]; rfl) h2)
theorem we_join (h : We (evE P cf ci a ⟨r, m⟩) (fun x r1 m1 => ∃ s, x = .str s ∧ We (evE P cf ci b ⟨r1, m1⟩) (fun y r2 m2 => ∃ ds ts, y = .lst ds ∧ strsD ds = some ts ∧ joinOk s ts = true ∧ K (.str (Txt.join s ts)) r2 m2) X) X) : We (evE P cf ci (.join a b) ⟨r, m⟩) K X := by
  with_unfolding_all
    rw [evE]
    refine we_bind (h.of fun x r1 m1 h => ?_)
    obtain ⟨s, rfl, h⟩ := h
    refine we_bind (h.of fun x r1 m1 h => ?_)
    obtain ⟨ds, ts, rfl, h1, h2, h3⟩ := h
    simp only [joinD, h1, h2, if_true]
    exact h3
/-! f-strings -/
theorem we_fst (h : We (evJ P cf ci es Str.empty ⟨r, m⟩) (fun z r1 m1 => K (.str z) r1 m1) X) : We (evE P cf ci (.fst es) ⟨r, m⟩) K X := by
  with_unfolding_all
    rw [evE]
    exact we_bind h
theorem we_jnil {K : Str → Rg → List Dt → Prop} {acc : Str} (h : K acc r m) : We (evJ P cf ci [] acc ⟨r, m⟩) K X := by
  with_unfolding_all exact we_eq j_nil h
theorem we_jcons {K : Str → Rg → List Dt → Prop} {acc : Str} (h : We (evE P cf ci a ⟨r, m⟩) (fun x r1 m1 => ∃ y, x = .str y ∧ (acc ++ y).length ≤ sizeLine ∧ We (evJ P cf ci es (acc ++ y) ⟨r1, m1⟩) K X) X) : We (evJ P cf ci (a :: es) acc ⟨r, m⟩) K X := by
  with_unfolding_all
    rw [evJ]
    refine we_bind (h.of fun x r1 m1 h => ?_)
    obtain ⟨y, rfl, h1, h⟩ := h
    simp only [if_pos h1]
    exact h
def fms1 (x : Dt) (S1 : Sto) : Rs Dt := match x with
    | .str y => if y.length ≤ sizeLine then .ok (.str y) S1 else .bad
    | .int i => if i.natAbs.log2 < 1920 then .ok (.str (toString i)) S1 else .bad
    | _ => .bad
def fmr1 (x : Dt) (S1 : Sto) : Rs Dt := match x with
    | .str y => if (reprText y).length ≤ sizeLine then .ok (.str (reprText y)) S1 else .bad
    | .int i => if i.natAbs.log2 < 1920 then .ok (.str (toString i)) S1 else .bad
    | _ => .bad
theorem we_fms (h : We (evE P cf ci a ⟨r, m⟩) (fun x r1 m1 => We (fms1 x ⟨r1, m1⟩) K X) X) : We (evE P cf ci (.fms a) ⟨r, m⟩) K X := by
  with_unfolding_all
    rw [evE]
    exact we_bind h
theorem we_fmr (h : We (evE P cf ci a ⟨r, m⟩) (fun x r1 m1 => We (fmr1 x ⟨r1, m1⟩) K X) X) : We (evE P cf ci (.fmr a) ⟨r, m⟩) K X := by
  with_unfolding_all
    rw [evE]
    exact we_bind h
theorem we_fmsS {z : Str} (h : z.length ≤ sizeLine) (k : K (.str z) r m) : We (fms1 (.str z) ⟨r, m⟩) K X := by
  with_unfolding_all
    simp only [fms1, if_pos h]
    exact k
theorem we_fmsI {z : Int} (h : z.natAbs.log2 < 1920) (k : K (.str (toString z)) r m) : We (fms1 (.int z) ⟨r, m⟩) K X := by
  with_unfolding_all
    simp only [fms1, if_pos h]
    exact k
theorem we_fmrS {z : Str} (h : (reprText z).length ≤ sizeLine) (k : K (.str (reprText z)) r m) : We (fmr1 (.str z) ⟨r, m⟩) K X := by
  with_unfolding_all
    simp only [fmr1, if_pos h]
    exact k
theorem we_fmrI {z : Int} (h : z.natAbs.log2 < 1920) (k : K (.str (toString z)) r m) : We (fmr1 (.int z) ⟨r, m⟩) K X := by
  with_unfolding_all
    simp only [fmr1, if_pos h]
    exact k
/-! own lists, slices -/
theorem we_lenB (h : r[i]? = some (some (.o (.lst ds)))) (k : K (.int ds.length) r m) : We (evE P cf ci (.lenB i) ⟨r, m⟩) K X := by
  with_unfolding_all exact we_eq (v_lenB h) k
theorem we_ixB {dz : Dt} (h0 : r[i]? = some (some (.o dz))) (h : We (evE P cf ci b ⟨r, m⟩) (fun y r1 m1 => ∃ ds k d, r1[i]? = some (some (.o (.lst ds))) ∧ y = .int k ∧ atI ds k = some d ∧ K d r1 m1) X) : We (evE P cf ci (.ixB i b) ⟨r, m⟩) K X := by
  with_unfolding_all
    rw [evE, h0]
    refine we_bind (h.of fun x r1 m1 h => ?_)
    obtain ⟨ds, k, d, h1, rfl, h2, h3⟩ := h
    simp only [h1, h2, okD]
    exact h3
theorem we_slcL (h : We (evE P cf ci a ⟨r, m⟩) (fun x r1 m1 => We (evE P cf ci b ⟨r1, m1⟩) (fun y r2 m2 => ∃ i d, y = .int i ∧ slD x (some i) none = some d ∧ K d r2 m2) X) X) : We (evE P cf ci (.slcL a b) ⟨r, m⟩) K X := by
  with_unfolding_all
    rw [evE]
    refine we_bind (h.of fun x r1 m1 h => we_bind (h.of fun y r2 m2 h => ?_))
    obtain ⟨i, d, rfl, h1, h2⟩ := h
    simp only [h1, okD]
    exact h2
theorem we_slcH (h : We (evE P cf ci a ⟨r, m⟩) (fun x r1 m1 => We (evE P cf ci b ⟨r1, m1⟩) (fun y r2 m2 => ∃ i d, y = .int i ∧ slD x none (some i) = some d ∧ K d r2 m2) X) X) : We (evE P cf ci (.slcH a b) ⟨r, m⟩) K X := by
  with_unfolding_all
    rw [evE]
    refine we_bind (h.of fun x r1 m1 h => we_bind (h.of fun y r2 m2 h => ?_))
    obtain ⟨i, d, rfl, h1, h2⟩ := h
    simp only [h1, okD]
    exact h2
theorem we_bor (h : We (evE P cf ci a ⟨frzB r, m⟩) (fun d r1 m1 => (flatD d = true ∧ m1.length = m.length ∧ m1.all flatC = true) ∧ K d r m1) NoX) : We (evE P cf ci (.bor a) ⟨r, m⟩) K X := by
  with_unfolding_all
    rw [evE]
    cases e : evE P cf ci a ⟨frzB r, m⟩ with
    | ok x S1 => rw [e] at h; simp only [borK, if_pos h.1]; exact h.2
    | ex c ns ds S => rw [e] at h; exact h.elim
    | bad => rw [e] at h; exact h.elim
theorem we_rev (h : We (evE P cf ci a ⟨r, m⟩) (fun x r1 m1 => ∃ xs, x = .lst xs ∧ K (.lst xs.reverse) r1 m1) X) : We (evE P cf ci (.rev a) ⟨r, m⟩) K X := by
  rw [evE]
  refine we_bind (h.of fun x r1 m1 h => ?_)
  obtain ⟨xs, rfl, h⟩ := h
  exact we_eq (a := .lst xs.reverse) rfl h
theorem we_mk0 {cd : ClD} (hc : P.cl[c0]? = some cd) (hb : cd.bare = true) (k : K (.ins c0 [] []) r m) : We (evE P cf ci (.mk0 c0) ⟨r, m⟩) K X := by
  with_unfolding_all exact we_eq (e_mk0 hc hb) k
end
/-! ### statements -/
section
variable {P : Pg} {cf ci : Nat → List Dt → List Dt → Rc} {r r1 r2 : Rg} {m m1 m2 : List Dt} {Q : Rt → Prop} {a b c : Tm} {es : List Tm} {ks : List Str} {x y d : Dt} {ds : List Dt} {i j f g n c0 : Nat} {fl mt : Str} {op : Operator} {ns : List Str} {vs : List Dt} {p : Bool} {s : Sm} {ss s1 s2 : List Sm} {k : Sto → Rt}
theorem wt_nil (h : Q (.nx ⟨r, m⟩)) : Wt (evSs P cf ci [] ⟨r, m⟩) Q := by
  with_unfolding_all exact wt_eq s_nil h
theorem wt_seq (h : Wt (evS P cf ci s ⟨r, m⟩) (sq (evSs P cf ci ss) Q)) : Wt (evSs P cf ci (s :: ss) ⟨r, m⟩) Q := by
  with_unfolding_all
    have e : evSs P cf ci (s :: ss) ⟨r, m⟩ = seqK (evS P cf ci s ⟨r, m⟩) (evSs P cf ci ss) := w_seq rfl rfl
    rw [e]
    unfold Wt at h
    cases e : evS P cf ci s ⟨r, m⟩ with
    | nx S1 => rw [e] at h; exact h
    | rt b S => rw [e] at h; exact h
    | bk S => rw [e] at h; exact h
    | ct S => rw [e] at h; exact h
    | ex c ns ds S => rw [e] at h; exact h
    | bad => rw [e] at h; exact h
theorem sq_nx (h : Wt (k ⟨r, m⟩) Q) : sq k Q (.nx ⟨r, m⟩) := by
  with_unfolding_all exact h
def Nrm (r r' : Rg) : Prop := r = r'
theorem Nrm.same : Nrm r r := by
  with_unfolding_all exact Eq.refl r
theorem sq_nxN {r' : Rg} (hr : Nrm r r') (h : Wt (k ⟨r', m⟩) Q) : sq k Q (.nx ⟨r, m⟩) := by
  with_unfolding_all
    unfold Nrm at hr
    subst hr
    exact h
theorem sq_rt {bn : Bn} (h : Q (.rt bn ⟨r, m⟩)) : sq k Q (.rt bn ⟨r, m⟩) := by
  with_unfolding_all exact h
theorem sq_bk (h : Q (.bk ⟨r, m⟩)) : sq k Q (.bk ⟨r, m⟩) := by
  with_unfolding_all exact h
theorem sq_ct (h : Q (.ct ⟨r, m⟩)) : sq k Q (.ct ⟨r, m⟩) := by
  with_unfolding_all exact h
theorem sq_ex {c : Nat} (h : Q (.ex c ns ds ⟨r, m⟩)) : sq k Q (.ex c ns ds ⟨r, m⟩) := by
  with_unfolding_all exact h
theorem xq {c : Nat} (h : Q (.ex c ns ds ⟨r, m⟩)) : Xq Q c ns ds r m := by
  with_unfolding_all exact h
theorem fn_rt {K : Bn → List Dt → Prop} {X : Nat → List Str → List Dt → List Dt → Prop} {bn : Bn} (h : K bn m) : fnQ K X (.rt bn ⟨r, m⟩) := by
  with_unfolding_all exact h
theorem fn_nx {K : Bn → List Dt → Prop} {X : Nat → List Str → List Dt → List Dt → Prop} (h : K (.p .non) m) : fnQ K X (.nx ⟨r, m⟩) := by
  with_unfolding_all exact h
theorem fn_ex {K : Bn → List Dt → Prop} {X : Nat → List Str → List Dt → List Dt → Prop} {c : Nat} (h : X c ns ds m) : fnQ K X (.ex c ns ds ⟨r, m⟩) := by
  with_unfolding_all exact h
theorem wt_asg {tg : Tg} (h : We (evE P cf ci a ⟨r, m⟩) (fun d r1 m1 => ∃ r', tgD tg d r1 = some r' ∧ Q (.nx ⟨r', m1⟩)) (Xq Q)) : Wt (evS P cf ci (.asg tg a) ⟨r, m⟩) Q := by
  with_unfolding_all
    rw [evS]
    refine wt_rt (h.of fun d r1 m1 h => ?_)
    obtain ⟨r', h1, h2⟩ := h
    simp only [h1]
    exact h2
theorem wt_asgO (h : We (evE P cf ci a ⟨r, m⟩) (fun d r1 m1 => i < r1.length ∧ Q (.nx ⟨r1.set i (some (.o d)), m1⟩)) (Xq Q)) : Wt (evS P cf ci (.asgO i a) ⟨r, m⟩) Q := by
  with_unfolding_all
    rw [evS]
    refine wt_rt (h.of fun d r1 m1 h => ?_)
    simp only [if_pos h.1]
    exact h.2
theorem wt_par (h : We (evE P cf ci a ⟨r, m⟩) (fun x r1 m1 => We (evE P cf ci b ⟨r1, m1⟩) (fun y r2 m2 => (i < r2.length ∧ j < r2.length) ∧ Q (.nx ⟨(r2.set i (some (.p x))).set j (some (.p y)), m2⟩)) (Xq Q)) (Xq Q)) : Wt (evS P cf ci (.par i j a b) ⟨r, m⟩) Q := by
  with_unfolding_all
    rw [evS]
    refine wt_rt (h.of fun d r1 m1 h => wt_rt (h.of fun y r2 m2 h => ?_))
    simp only [if_pos h.1]
    exact h.2
theorem wt_parO (h : We (evE P cf ci a ⟨r, m⟩) (fun x r1 m1 => We (evE P cf ci b ⟨r1, m1⟩) (fun y r2 m2 => (i < r2.length ∧ j < r2.length) ∧ Q (.nx ⟨(r2.set i (some (.p x))).set j (some (.o y)), m2⟩)) (Xq Q)) (Xq Q)) : Wt (evS P cf ci (.parO i j a b) ⟨r, m⟩) Q := by
  with_unfolding_all
    rw [evS]
    refine wt_rt (h.of fun d r1 m1 h => wt_rt (h.of fun y r2 m2 h => ?_))
    simp only [if_pos h.1]
    exact h.2
theorem wt_par3 {l : Nat} (h : We (evE P cf ci a ⟨r, m⟩) (fun x r1 m1 => We (evE P cf ci b ⟨r1, m1⟩) (fun y r2 m2 => We (evE P cf ci c ⟨r2, m2⟩) (fun z r3 m3 => (i < r3.length ∧ j < r3.length ∧ l < r3.length) ∧ Q (.nx ⟨((r3.set i (some (.p x))).set j (some (.p y))).set l (some (.p z)), m3⟩)) (Xq Q)) (Xq Q)) (Xq Q)) : Wt (evS P cf ci (.par3 i j l a b c) ⟨r, m⟩) Q := by
  rw [evS]
  refine wt_rt (h.of fun d r1 m1 h => wt_rt (h.of fun y r2 m2 h => wt_rt (h.of fun z r3 m3 h => ?_)))
  simp only [if_pos h.1]
  exact wt_eq rfl h.2
theorem wt_put (h : We (evE P cf ci a ⟨r, m⟩) (fun d r1 m1 => We (evE P cf ci b ⟨r1, m1⟩) (fun x r2 m2 => We (evE P cf ci c ⟨r2, m2⟩) (fun y r3 m3 => ∃ m', setC m3 x y d = some m' ∧ Q (.nx ⟨r3, m'⟩)) (Xq Q)) (Xq Q)) (Xq Q)) : Wt (evS P cf ci (.put b c a) ⟨r, m⟩) Q := by
  with_unfolding_all
    rw [evS]
    refine wt_rt (h.of fun d r1 m1 h => wt_rt (h.of fun y r2 m2 h => wt_rt (h.of fun z r3 m3 h => ?_)))
    obtain ⟨m', h1, h2⟩ := h
    simp only [h1]
    exact h2
theorem wt_putB (h : We (evE P cf ci a ⟨r, m⟩) (fun d r1 m1 => ∃ dz, r1[i]? = some (some (.o dz)) ∧ We (evE P cf ci b ⟨r1, m1⟩) (fun y r2 m2 => ∃ ds k q, r2[i]? = some (some (.o (.lst ds))) ∧ y = .int k ∧ ixN ds.length k = some q ∧ Q (.nx ⟨r2.set i (some (.o (.lst (ds.set q d)))), m2⟩)) (Xq Q)) (Xq Q)) : Wt (evS P cf ci (.putB i b a) ⟨r, m⟩) Q := by
  with_unfolding_all
    rw [evS]
    refine wt_rt (h.of fun d r1 m1 h => ?_)
    obtain ⟨dz, h0, h⟩ := h
    simp only [h0]
    refine wt_rt (h.of fun y r2 m2 h => ?_)
    obtain ⟨ds, k, q, h1, rfl, h2, h3⟩ := h
    simp only [h1, h2]
    exact h3
theorem wt_fld (h : We (evE P cf ci a ⟨r, m⟩) (fun d r1 m1 => ∃ c0 ns vs, r1[(0 : Nat)]? = some (some (Bn.o (Dt.ins c0 ns vs))) ∧ (P.fld c0 fl = true ∧ ns.length < 1000) ∧ Q (.nx ⟨r1.set 0 (some (.o (.ins c0 (putD fl d ns vs).1 (putD fl d ns vs).2))), m1⟩)) (Xq Q)) : Wt (evS P cf ci (.fld fl a) ⟨r, m⟩) Q := by
  with_unfolding_all
    rw [evS]
    refine wt_rt (h.of fun d r1 m1 h => ?_)
    obtain ⟨c0, ns, vs, h0, h1, h2⟩ := h
    simp only [h0, if_pos h1]
    exact h2
theorem wt_if (h : We (evE P cf ci c ⟨r, m⟩) (fun x r1 m1 => ∃ p, x = .bl p ∧ Wt (cond p (evSs P cf ci s1 ⟨r1, m1⟩) (evSs P cf ci s2 ⟨r1, m1⟩)) Q) (Xq Q)) : Wt (evS P cf ci (.iff c s1 s2) ⟨r, m⟩) Q := by
  with_unfolding_all
    rw [evS]
    refine wt_rt ?_
    unfold tst
    refine we_bind (h.of fun x r1 m1 h => ?_)
    obtain ⟨p, rfl, h⟩ := h
    cases p <;> exact h
theorem wt_t {u v : Rt} (hp : p = true) (h : Wt u Q) : Wt (cond p u v) Q := by
  with_unfolding_all
    subst hp
    exact h
theorem wt_f {u v : Rt} (hp : p = false) (h : Wt v Q) : Wt (cond p u v) Q := by
  with_unfolding_all
    subst hp
    exact h
theorem wt_tf {u v : Rt} (h1 : p = true → Wt u Q) (h2 : p = false → Wt v Q) : Wt (cond p u v) Q := by
  with_unfolding_all
    cases p
    · exact h2 rfl
    · exact h1 rfl
theorem wt_ret (h : We (evE P cf ci a ⟨r, m⟩) (fun d r1 m1 => Q (.rt (.p d) ⟨r1, m1⟩)) (Xq Q)) : Wt (evS P cf ci (.ret a) ⟨r, m⟩) Q := by
  with_unfolding_all
    rw [evS]
    exact wt_rt h
theorem wt_retF (h : We (evE P cf ci a ⟨r, m⟩) (fun d r1 m1 => Q (.rt (.o d) ⟨r1, m1⟩)) (Xq Q)) : Wt (evS P cf ci (.retF a) ⟨r, m⟩) Q := by
  with_unfolding_all
    rw [evS]
    exact wt_rt h
theorem wt_retO (h : r[i]? = some (some (.o (.lst ds)))) (q : Q (.rt (.o (.lst ds)) ⟨r, m⟩)) : Wt (evS P cf ci (.retO i) ⟨r, m⟩) Q := by
  with_unfolding_all exact wt_eq (v_retO h) q
theorem wt_pop (h : r[i]? = some (some (.o (.lst ds)))) (hl : 0 < ds.length) (q : Q (.nx ⟨r.set i (some (.o (.lst ds.dropLast))), m⟩)) : Wt (evS P cf ci (.pop i) ⟨r, m⟩) Q := by
  refine wt_eq ?_ q
  rw [evS]
  simp only [h, if_pos hl]
theorem wt_retN (q : Q (.rt (.p .non) ⟨r, m⟩)) : Wt (evS P cf ci .retN ⟨r, m⟩) Q := by
  with_unfolding_all exact wt_eq w_retN q
theorem wt_exp (h : We (evE P cf ci a ⟨r, m⟩) (fun d r1 m1 => Q (.nx ⟨r1, m1⟩)) (Xq Q)) : Wt (evS P cf ci (.exp a) ⟨r, m⟩) Q := by
  with_unfolding_all
    rw [evS]
    exact wt_rt h
theorem wt_pas (q : Q (.nx ⟨r, m⟩)) : Wt (evS P cf ci .pas ⟨r, m⟩) Q := by
  with_unfolding_all exact wt_eq w_pas q
theorem wt_brk (q : Q (.bk ⟨r, m⟩)) : Wt (evS P cf ci .brk ⟨r, m⟩) Q := by
  with_unfolding_all exact wt_eq (by rw [evS]) q
theorem wt_cnt (q : Q (.ct ⟨r, m⟩)) : Wt (evS P cf ci .cnt ⟨r, m⟩) Q := by
  with_unfolding_all exact wt_eq (by rw [evS]) q
theorem wt_app {dz : List Dt} (h0 : r[i]? = some (some (.o (.lst dz)))) (h : We (evE P cf ci a ⟨r, m⟩) (fun d r1 m1 => ∃ ds, r1[i]? = some (some (.o (.lst ds))) ∧ ds.length < sizeLine ∧ Q (.nx ⟨r1.set i (some (.o (.lst (ds ++ [d])))), m1⟩)) (Xq Q)) : Wt (evS P cf ci (.app i a) ⟨r, m⟩) Q := by
  with_unfolding_all
    rw [evS, h0]
    refine wt_rt (h.of fun d r1 m1 h => ?_)
    obtain ⟨ds, h1, h2, h3⟩ := h
    simp only [h1, if_pos h2]
    exact h3
theorem wt_aug (h0 : r[i]? = some (some (.p x))) (h : We (evE P cf ci a ⟨r, m⟩) (fun y r1 m1 => We (aug1 P cf op x y ⟨r1, m1⟩) (fun z r2 m2 => i < r2.length ∧ Q (.nx ⟨r2.set i (some (.p z)), m2⟩)) (Xq Q)) (Xq Q)) : Wt (evS P cf ci (.aug i op a) ⟨r, m⟩) Q := by
  with_unfolding_all
    rw [evS, h0]
    refine wt_rt (h.of fun y r1 m1 h => wt_rt (h.of fun z r2 m2 h => ?_))
    simp only [if_pos h.1]
    exact h.2
theorem we_augO {K : Dt → Rg → List Dt → Prop} {X : Nat → List Str → List Dt → Rg → List Dt → Prop} (hm : (opMeth op).bind (P.meth c0) = some g) (ht : typedO P op c0 y = true) (h : Wc (cf g [.ins c0 ns vs, y] m) (Wk K r) (Wx X r)) : We (aug1 P cf op (.ins c0 ns vs) y ⟨r, m⟩) K X := by
  with_unfolding_all exact we_opO hm ht h
/-- x = call that hands back a list of its own -/
def Wb (Q : Rt → Prop) (i : Nat) (r : List (Option Bn)) (b : Bn) (m : List Dt) : Prop := (∀ d, b = .o d → ∃ ds, d = .lst ds) ∧ i < r.length ∧ Q (.nx ⟨r.set i (some b), m⟩)
theorem wb_lst {m : List Dt} {r : List (Option Bn)} (hi : i < r.length) (h : Q (.nx ⟨r.set i (some (.o (.lst ds))), m⟩)) : Wb Q i r (.o (.lst ds)) m := by
  with_unfolding_all exact ⟨fun d e => by cases e; exact ⟨_, rfl⟩, hi, h⟩
theorem wb_p {m : List Dt} {r : List (Option Bn)} (hi : i < r.length) (h : Q (.nx ⟨r.set i (some (.p d)), m⟩)) : Wb Q i r (.p d) m := by
  with_unfolding_all exact ⟨fun d e => (by cases e), hi, h⟩
theorem wt_upB {rc : Rc} (h : Wc rc (Wb Q i r) (Wx (Xq Q) r)) : We (upB rc ⟨r, m⟩) (fun bn r1 m1 => Wt (if i < r1.length then Rt.nx ⟨r1.set i (some bn), m1⟩ else Rt.bad) Q) (Xq Q) := by
  with_unfolding_all
    cases rc with
    | bad => exact h
    | ex c ns ds m => exact h
    | ok bn m =>
      unfold Wc at h
      obtain ⟨h1, h2, h3⟩ := h
      cases bn with
      | p d => show Wt (if i < r.length then _ else _) Q; rw [if_pos h2]; exact h3
      | o d =>
        obtain ⟨ds, rfl⟩ := h1 d rfl
        show Wt (if i < r.length then _ else _) Q
        rw [if_pos h2]
        exact h3
theorem wt_asgFc (h : We (evEs P cf ci es ⟨r, m⟩) (fun ds r1 m1 => ∃ sh xs, P.shf f (ds.length - ks.length) ks = some sh ∧ pick ds sh = some xs ∧ Wc (cf f xs m1) (Wb Q i r1) (Wx (Xq Q) r1)) (Xq Q)) : Wt (evS P cf ci (.asgF i (.call f ks es)) ⟨r, m⟩) Q := by
  with_unfolding_all
    rw [evS, evB]
    refine wt_rt (we_bind (h.of fun ds r1 m1 h => ?_))
    obtain ⟨sh, xs, h1, h2, h3⟩ := h
    simp only [h1, upPB, h2]
    exact wt_upB h3
theorem wt_asgFm (h : We (evE P cf ci a ⟨r, m⟩) (fun x r1 m1 => ∃ c0 ns vs g, x = .ins c0 ns vs ∧ P.meth c0 mt = some g ∧ lookD mt ns vs = none ∧ We (evEs P cf ci es ⟨r1, m1⟩) (fun ds r2 m2 => ∃ sh xs, P.shf g (ds.length + 1 - ks.length) ks = some sh ∧ pick (.ins c0 ns vs :: ds) sh = some xs ∧ Wc (cf g xs m2) (Wb Q i r2) (Wx (Xq Q) r2)) (Xq Q)) (Xq Q)) : Wt (evS P cf ci (.asgF i (.meth a mt ks es)) ⟨r, m⟩) Q := by
  with_unfolding_all
    rw [evS, evB]
    refine wt_rt (we_bind (h.of fun x r1 m1 h => ?_))
    obtain ⟨c0, ns, vs, g, rfl, h1, h2, h⟩ := h
    simp only [h1, h2]
    refine we_bind (h.of fun ds r1 m1 h => ?_)
    obtain ⟨sh, xs, h1, h2, h3⟩ := h
    simp only [h1, upPB, h2]
    exact wt_upB h3
theorem wt_asgFi (h : We (evE P cf ci a ⟨r, m⟩) (fun x r1 m1 => ∃ c0 ns vs g, x = .ins c0 ns vs ∧ P.meth c0 "__call__" = some g ∧ We (evEs P cf ci es ⟨r1, m1⟩) (fun ds r2 m2 => ∃ sh xs, P.shf g (ds.length + 1 - ks.length) ks = some sh ∧ pick (.ins c0 ns vs :: ds) sh = some xs ∧ Wc (cf g xs m2) (Wb Q i r2) (Wx (Xq Q) r2)) (Xq Q)) (Xq Q)) : Wt (evS P cf ci (.asgF i (.icall a ks es)) ⟨r, m⟩) Q := by
  with_unfolding_all
    rw [evS, evB]
    refine wt_rt (we_bind (h.of fun x r1 m1 h => ?_))
    obtain ⟨c0, ns, vs, g, rfl, h1, h⟩ := h
    simp only [h1]
    refine we_bind (h.of fun ds r1 m1 h => ?_)
    obtain ⟨sh, xs, h1, h2, h3⟩ := h
    simp only [h1, upPB, h2]
    exact wt_upB h3
/-- for, item by item -/
def forQ (I : Rg → List Dt → Prop) (Q : Rt → Prop) (r : Rt) : Prop := match r with
  | .nx S => I S.r S.m
  | .ct S => I S.r S.m
  | .bk S => Q (.nx S)
  | r => Q r
theorem wt_forL {tg : Tg} {bd : List Sm} {xs : List Dt} (I : Nat → Rg → List Dt → Prop) (h0 : I 0 r m) (hb : ∀ (n : Nat) (y : Dt), xs[n]? = some y → ∀ r m, I n r m → ∃ r', tgD tg y r = some r' ∧ Wt (evSs P cf ci bd ⟨r', m⟩) (forQ (I (n + 1)) Q)) (he : ∀ r m, I xs.length r m → Q (.nx ⟨r, m⟩)) : Wt (forL (evSs P cf ci bd) tg xs ⟨r, m⟩) Q := by
  with_unfolding_all
    have go : ∀ (ys : List Dt) (n : Nat), (∀ k, ys[k]? = xs[n + k]?) → n + ys.length = xs.length → ∀ S : Sto, I n S.r S.m → Wt (forL (evSs P cf ci bd) tg ys S) Q := by
      intro ys
      induction ys with
      | nil => intro n _ hl S h; simp at hl; exact he S.r S.m (hl ▸ h)
      | cons y ys ih =>
        intro n hk hl S h
        obtain ⟨r', h1, h2⟩ := hb n y (by have := hk 0; simpa using this.symm) S.r S.m h
        have ih' := ih (n + 1) (fun k => by have := hk (k + 1); rw [show n + 1 + k = n + (k + 1) by omega]; simpa using this) (by simp at hl; omega)
        unfold forL
        simp only [h1]
        unfold Wt at h2
        cases e : evSs P cf ci bd ⟨r', S.m⟩ with
        | nx S1 => rw [e] at h2; exact ih' S1 h2
        | ct S1 => rw [e] at h2; exact ih' S1 h2
        | rt b S => rw [e] at h2; exact h2
        | bk S => rw [e] at h2; exact h2
        | ex c ns ds S => rw [e] at h2; exact h2
        | bad => rw [e] at h2; exact h2
    exact go xs 0 (fun k => by simp) (by simp) ⟨r, m⟩ h0
theorem wt_for {tg : Tg} {bd : List Sm} {it : Tm} (h : We (evE P cf ci it ⟨r, m⟩) (fun x r1 m1 => ∃ xs, itemsD x = some xs ∧ Wt (forL (evSs P cf ci bd) tg xs ⟨r1, m1⟩) Q) (Xq Q)) : Wt (evS P cf ci (.for_ tg it bd) ⟨r, m⟩) Q := by
  with_unfolding_all
    rw [evS]
    refine wt_rt (h.of fun d r1 m1 h => ?_)
    obtain ⟨xs, h1, h2⟩ := h
    simp only [h1]
    exact h2
/-- the same, over a list that is a map -/
theorem wt_forM {tg : Tg} {bd : List Sm} {α : Type} {l : List α} {v : α → Dt} (I : Nat → Rg → List Dt → Prop) (h0 : I 0 r m) (hb : ∀ (n : Nat) (y : α), l[n]? = some y → ∀ r m, I n r m → ∃ r', tgD tg (v y) r = some r' ∧ Wt (evSs P cf ci bd ⟨r', m⟩) (forQ (I (n + 1)) Q)) (he : ∀ r m, I l.length r m → Q (.nx ⟨r, m⟩)) : Wt (forL (evSs P cf ci bd) tg (l.map v) ⟨r, m⟩) Q := by
  with_unfolding_all
    refine wt_forL I h0 (fun n y hy r m hS => ?_) (fun r m h => he r m (by simpa using h))
    rw [List.getElem?_map] at hy
    cases e : l[n]? with
    | none => rw [e] at hy; cases hy
    | some z => rw [e] at hy; cases hy; exact hb n z e r m hS
theorem fq_nx {I : Rg → List Dt → Prop} (h : I r m) : forQ I Q (.nx ⟨r, m⟩) := by
  with_unfolding_all exact h
theorem fq_ct {I : Rg → List Dt → Prop} (h : I r m) : forQ I Q (.ct ⟨r, m⟩) := by
  with_unfolding_all exact h
theorem fq_bk {I : Rg → List Dt → Prop} (h : Q (.nx ⟨r, m⟩)) : forQ I Q (.bk ⟨r, m⟩) := by
  with_unfolding_all exact h
theorem fq_rt {I : Rg → List Dt → Prop} {bn : Bn} (h : Q (.rt bn ⟨r, m⟩)) : forQ I Q (.rt bn ⟨r, m⟩) := by
  with_unfolding_all exact h
theorem fq_ex {I : Rg → List Dt → Prop} {c : Nat} (h : Q (.ex c ns ds ⟨r, m⟩)) : forQ I Q (.ex c ns ds ⟨r, m⟩) := by
  with_unfolding_all exact h
end
/-! ### comprehensions -/
section
variable {P : Pg} {cf ci : Nat → List Dt → List Dt → Rc} {r : Rg} {m : List Dt} {K : Dt → Rg → List Dt → Prop} {X : Nat → List Str → List Dt → Rg → List Dt → Prop} {e it c : Tm} {own : List Nat} {tg : Tg} {x : Dt} {xs : List Dt}
/-- what comes of the turns -/
def cpQ (K : Dt → Rg → List Dt → Prop) (r : Rg) (own : List Nat) (acc : List Dt) (r2 : Rg) (m2 : List Dt) : Prop := K (.lst acc) (backB r own r2) m2
theorem we_comp (h : We (evE P cf ci it ⟨r, m⟩) (fun x r1 m1 => ∃ xs, itemsD x = some xs ∧ xs.length ≤ sizeLine ∧ own.all (pureAt r1) = true ∧ We (compL (evE P cf ci e) (evE P cf ci c) tg own xs [] ⟨r1, m1⟩) (cpQ K r1 own) NoX) X) : We (evE P cf ci (.comp e own tg it c) ⟨r, m⟩) K X := by
  with_unfolding_all
    rw [evE]
    refine we_bind (h.of fun x r1 m1 h => ?_)
    obtain ⟨xs, h1, h2, h3, h4⟩ := h
    simp only [compR, h1]
    rw [if_pos ⟨h2, h3⟩]
    cases q : compL (evE P cf ci e) (evE P cf ci c) tg own xs [] ⟨r1, m1⟩ with
    | ok acc S2 => rw [q] at h4; exact h4
    | ex c ns ds S => rw [q] at h4; exact h4.elim
    | bad => rw [q] at h4; exact h4.elim
/-- turn by turn: I n acc m -/
theorem we_compI {xs : List Dt} (I : Nat → List Dt → List Dt → Prop) (h0 : I 0 [] m)
    (hb : ∀ (n : Nat) (y : Dt), xs[n]? = some y → ∀ acc m, I n acc m → ∃ rx, tgD tg y (wipeB r own) = some rx ∧
      We (evE P cf ci c ⟨rx, m⟩) (fun x r2 m2 => (x = .bl false ∧ wipeB r2 own = wipeB r own ∧ I (n + 1) acc m2) ∨ (x = .bl true ∧ We (evE P cf ci e ⟨r2, m2⟩) (fun d r3 m3 => wipeB r3 own = wipeB r own ∧ I (n + 1) (acc ++ [d]) m3) NoX)) NoX)
    (he : ∀ acc m, I xs.length acc m → K (.lst acc) r m) : We (compL (evE P cf ci e) (evE P cf ci c) tg own xs [] ⟨r, m⟩) (cpQ K r own) X := by
  with_unfolding_all
    have go : ∀ (ys : List Dt) (n : Nat) (acc : List Dt) (T : Sto), (∀ k, ys[k]? = xs[n + k]?) → n + ys.length = xs.length → wipeB T.r own = wipeB r own → I n acc T.m → We (compL (evE P cf ci e) (evE P cf ci c) tg own ys acc T) (cpQ K r own) X := by
      intro ys
      induction ys with
      | nil =>
        intro n acc T _ hl hw h
        simp at hl
        show K (.lst acc) (backB r own T.r) T.m
        rw [back_same hw]
        exact he acc _ (hl ▸ h)
      | cons y ys ih =>
        intro n acc T hk hl hw h
        obtain ⟨rx, h1, h3⟩ := hb n y (by have := hk 0; simpa using this.symm) acc T.m h
        have ih' := fun acc T => ih (n + 1) acc T (fun k => by have := hk (k + 1); rw [show n + 1 + k = n + (k + 1) by omega]; simpa using this) (by simp at hl; omega)
        unfold compL
        simp only [hw, h1]
        cases q : evE P cf ci c ⟨rx, T.m⟩ with
        | bad => rw [q] at h3; exact h3.elim
        | ex _ _ _ _ => rw [q] at h3; exact h3.elim
        | ok z S2 =>
          rw [q] at h3
          unfold We at h3
          rcases h3 with ⟨rfl, h4, h5⟩ | ⟨rfl, h4⟩
          · exact ih' acc S2 h4 h5
          · cases q2 : evE P cf ci e S2 with
            | bad => rw [q2] at h4; exact h4.elim
            | ex _ _ _ _ => rw [q2] at h4; exact h4.elim
            | ok d S3 => rw [q2] at h4; simp only [q2]; exact ih' _ S3 h4.1 h4.2
    exact go xs 0 [] ⟨r, m⟩ (fun k => by simp) (by simp) rfl h0
/-- each item a value, nothing changes -/
theorem we_compM {α : Type} {l : List α} {v g : α → Dt}
    (hb : ∀ y ∈ l, ∃ rx, tgD tg (v y) (wipeB r own) = some rx ∧ wipeB rx own = wipeB r own ∧ evE P cf ci c ⟨rx, m⟩ = .ok (.bl true) ⟨rx, m⟩ ∧ We (evE P cf ci e ⟨rx, m⟩) (fun d r3 m3 => d = g y ∧ r3 = rx ∧ m3 = m) NoX)
    (he : K (.lst (l.map g)) r m) : We (compL (evE P cf ci e) (evE P cf ci c) tg own (l.map v) [] ⟨r, m⟩) (cpQ K r own) X := by
  with_unfolding_all
    refine we_compI (fun n acc m' => acc = (l.take n).map g ∧ m' = m) ⟨by simp, rfl⟩ (fun n y hy acc m h => ?_) (fun acc m h => ?_)
    · obtain ⟨rfl, rfl⟩ := h
      rw [List.getElem?_map] at hy
      cases q : l[n]? with
      | none => rw [q] at hy; cases hy
      | some z =>
        rw [q] at hy
        cases hy
        obtain ⟨rx, h1, h2, h3, h4⟩ := hb z (List.mem_of_getElem? q)
        refine ⟨rx, h1, we_eq h3 (.inr ⟨rfl, h4.of fun d r3 m3 h => ?_⟩)⟩
        obtain ⟨rfl, rfl, rfl⟩ := h
        exact ⟨h2, by rw [List.take_add_one, q]; simp, rfl⟩
    · obtain ⟨rfl, rfl⟩ := h
      rw [List.length_map, List.take_length]
      exact he
end
/-! ### defs -/
section
variable {P : Pg} {N g : Nat} {xs m : List Dt} {fd : FnD} {K : Bn → List Dt → Prop} {X : Nat → List Str → List Dt → List Dt → Prop}
theorem wc_fn (hg : P.fn[g]? = some fd) (hl : xs.length = fd.k ∧ fd.k ≤ fd.n) (hc : fd.cell = false) (h : Wt (evSs P (Cf P N) (Df P N) fd.b ⟨xs.map (fun d => some (.p d)) ++ List.replicate (fd.n - fd.k) none, m⟩) (fnQ K X)) : Wc (Cf P (N + 1) g xs m) K X := by
  with_unfolding_all
    rw [Cf_succ]
    unfold fnRun
    rw [hg]
    simp only [if_pos hl]
    unfold Wt at h
    cases e : evSs P (Cf P N) (Df P N) fd.b ⟨xs.map (fun d => some (.p d)) ++ List.replicate (fd.n - fd.k) none, m⟩ with
    | nx S => rw [e] at h; simp only [hc, Bool.false_eq_true, if_false]; exact h
    | rt b S => rw [e] at h; simp only [hc, Bool.false_eq_true, if_false]; exact h
    | ex c ns ds S => rw [e] at h; exact h
    | bk S => rw [e] at h; exact h.elim
    | ct S => rw [e] at h; exact h.elim
    | bad => rw [e] at h; exact h.elim
theorem wc_fnN {k n : Nat} {shs : List (Nat × List Str × List Ar)} {b : List Sm} {st : Bool} {r0 : Rg} (hg : P.fn[g]? = some ⟨k, n, false, shs, b, st⟩) (hl : xs.length = k ∧ k ≤ n) (hr : Nrm (xs.map (fun d => some (.p d)) ++ List.replicate (n - k) none) r0) (h : Wt (evSs P (Cf P N) (Df P N) b ⟨r0, m⟩) (fnQ K X)) : Wc (Cf P (N + 1) g xs m) K X := by
  with_unfolding_all
    unfold Nrm at hr
    subst hr
    exact wc_fn hg hl rfl h
theorem wc_ini {c : Nat} {cd : ClD} (hcl : P.cl[c]? = some cd) (hg : P.fn[cd.init]? = some fd) (hl : xs.length + 1 = fd.k ∧ fd.k ≤ fd.n) (h : Wt (evSs P (Cf P N) (Df P N) fd.b ⟨some (.o (.ins c [] [])) :: (xs.map (fun d => some (.p d)) ++ List.replicate (fd.n - fd.k) none), m⟩) (iniQ K X)) : Wc (Df P (N + 1) c xs m) K X := by
  with_unfolding_all
    rw [Df_succ]
    unfold clRun
    rw [hcl]
    simp only
    rw [hg]
    simp only [if_pos hl]
    unfold Wt at h
    cases e : evSs P (Cf P N) (Df P N) fd.b ⟨some (.o (.ins c [] [])) :: (xs.map (fun d => some (.p d)) ++ List.replicate (fd.n - fd.k) none), m⟩ with
    | nx S =>
      rw [e] at h
      obtain ⟨c', ns, vs, h1, h2⟩ := h
      simp only [h1]
      exact h2
    | rt b S => rw [e] at h; exact h.elim
    | ex c ns ds S => rw [e] at h; exact h
    | bk S => rw [e] at h; exact h.elim
    | ct S => rw [e] at h; exact h.elim
    | bad => rw [e] at h; exact h.elim
theorem wc_iniN {c i k n : Nat} {cshs : List (Nat × List Str × List Ar)} {me pr sa : List (Str × Nat)} {fl : List Str} {up : List Nat} {ba : Bool} {shs : List (Nat × List Str × List Ar)} {ce : Bool} {b : List Sm} {st : Bool} {r0 : Rg} (hcl : P.cl[c]? = some ⟨i, cshs, me, pr, sa, fl, up, ba⟩) (hg : P.fn[i]? = some ⟨k, n, ce, shs, b, st⟩) (hl : xs.length + 1 = k ∧ k ≤ n) (hr : Nrm (some (.o (.ins c [] [])) :: (xs.map (fun d => some (.p d)) ++ List.replicate (n - k) none)) r0) (h : Wt (evSs P (Cf P N) (Df P N) b ⟨r0, m⟩) (iniQ K X)) : Wc (Df P (N + 1) c xs m) K X := by
  with_unfolding_all
    unfold Nrm at hr
    subst hr
    exact wc_ini hcl hg hl h
theorem in_nx {r : Rg} {m : List Dt} {c : Nat} {ns : List Str} {vs : List Dt} (h1 : r[(0 : Nat)]? = some (some (.o (.ins c ns vs)))) (h : K (.p (.ins c ns vs)) m) : iniQ K X (.nx ⟨r, m⟩) := by
  with_unfolding_all exact ⟨c, ns, vs, h1, h⟩
theorem in_ex {r : Rg} {m : List Dt} {c : Nat} {ns : List Str} {ds : List Dt} (h : X c ns ds m) : iniQ K X (.ex c ns ds ⟨r, m⟩) := by
  with_unfolding_all exact h
/-- a draw below s -/
theorem wc_draw {shs : List (Nat × List Str × List Ar)} {k : Nat} {s : Int} {p : Pot} (hg : P.fn[g]? = some ⟨2, 3, false, shs, drawC, false⟩) (hk : k < m.length) (hs : 0 < s ∧ s < 1073741824) (h : ∀ (d : Int) (p' : Pot), (0 ≤ d ∧ d < s) → K (.p (.int d)) (m.set k (potD p'))) : Wc (Cf P (N + 1) g [.cel k, .int s] (m.set k (potD p))) K X := by
  with_unfolding_all
    obtain ⟨d, p', h1, h2⟩ := q_draw (N := N) hg s p hk hs
    exact wc_ok h2 (h d p' h1)
theorem wc_pick {g0 : Nat} {shs shs0 : List (Nat × List Str × List Ar)} {k : Nat} {ds : List Dt} {p : Pot} (hg : P.fn[g]? = some ⟨2, 2, false, shs, pickC g0, false⟩) (hsh : P.shf g0 2 [] = some [.a 0, .a 1]) (hg0 : P.fn[g0]? = some ⟨2, 3, false, shs0, drawC, false⟩) (hk : k < m.length) (hs : 0 < ds.length ∧ ds.length < 1073741824) (h : ∀ (x : Dt) (p' : Pot), x ∈ ds → K (.p x) (m.set k (potD p'))) : Wc (Cf P (N + 2) g [.cel k, .lst ds] (m.set k (potD p))) K X := by
  with_unfolding_all
    obtain ⟨x, p', h1, h2⟩ := q_pick (N := N) hg hsh hg0 ds p hk hs
    exact wc_ok h2 (h x p' h1)
end
theorem small_2 {i j : Int} (h : -4611686018427387904 ≤ i ∧ i < 4611686018427387904) (h2 : -4611686018427387904 ≤ j ∧ j < 4611686018427387904) : (smallI i && smallI j) = true := by
  rw [small_i h, small_i h2]
  rfl
theorem sz_lt {n : Nat} (h : n < 16777216) : n < sizeLine := h
theorem sz_le {n : Nat} (h : n ≤ 16777216) : n ≤ sizeLine := h
end PyI
namespace PyI
open PySem PySem.Spec PyProof.Rows L2
/-! ### one step, by the form of the code -/
section
variable (P : Pg) (cf ci : Nat → List Dt → List Dt → Rc)
abbrev NextE (e : Tm) (r : Rg) (m : List Dt) (K : Dt → Rg → List Dt → Prop) (X : Nat → List Str → List Dt → Rg → List Dt → Prop) : Prop := match e with
  | .cst d => K d r m
  | .glo _ d => K d r m
  | .bin op a b => We (evE P cf ci a ⟨r, m⟩) (fun x r1 m1 => We (evE P cf ci b ⟨r1, m1⟩) (fun y r2 m2 => We (bin1 P cf op x y ⟨r2, m2⟩) K X) X) X
  | .neg a => We (evE P cf ci a ⟨r, m⟩) (fun x r1 m1 => ∃ k, x = .int k ∧ K (.int (-k)) r1 m1) X
  | .cmp cp a b => We (evE P cf ci a ⟨r, m⟩) (fun x r1 m1 => We (evE P cf ci b ⟨r1, m1⟩) (fun y r2 m2 => We (cmp1 P cf cp x y ⟨r2, m2⟩) K X) X) X
  | .chn o1 o2 a b c => We (evE P cf ci a ⟨r, m⟩) (fun x r1 m1 => We (evE P cf ci b ⟨r1, m1⟩) (fun y r2 m2 => We (evE P cf ci c ⟨r2, m2⟩) (fun z r3 m3 => ∃ j k, cmpD o1 x y = some j ∧ cmpD o2 y z = some k ∧ (⟨r3, m3⟩ : Sto) = ⟨r2, m2⟩ ∧ K (.bl (j && k)) r2 m2) NoX) X) X
  | .and2 a b => We (evE P cf ci a ⟨r, m⟩) (fun x r1 m1 => ∃ p, x = .bl p ∧ We (cond p (evE P cf ci b ⟨r1, m1⟩) (.ok (.bl false) ⟨r1, m1⟩)) K X) X
  | .or2 a b => We (evE P cf ci a ⟨r, m⟩) (fun x r1 m1 => ∃ p, x = .bl p ∧ We (cond p (.ok (.bl true) ⟨r1, m1⟩) (evE P cf ci b ⟨r1, m1⟩)) K X) X
  | .ife c a b => We (evE P cf ci c ⟨r, m⟩) (fun x r1 m1 => ∃ p, x = .bl p ∧ We (cond p (evE P cf ci a ⟨r1, m1⟩) (evE P cf ci b ⟨r1, m1⟩)) K X) X
  | .not1 a => We (evE P cf ci a ⟨r, m⟩) (fun x r1 m1 => ∃ p, x = .bl p ∧ K (.bl (!p)) r1 m1) X
  | .tup es => We (evEs P cf ci es ⟨r, m⟩) (fun ds r1 m1 => ds.length ≤ sizeLine ∧ K (.tup ds) r1 m1) X
  | .lst es => We (evEs P cf ci es ⟨r, m⟩) (fun ds r1 m1 => ds.length ≤ sizeLine ∧ K (.lst ds) r1 m1) X
  | .ix a b => We (evE P cf ci a ⟨r, m⟩) (fun x r1 m1 => We (evE P cf ci b ⟨r1, m1⟩) (fun y r2 m2 => ∃ d, ixD m2 x y = some d ∧ K d r2 m2) X) X
  | .fld a fl => We (evE P cf ci a ⟨r, m⟩) (fun x r1 m1 => We (fld1 P cf fl x ⟨r1, m1⟩) K X) X
  | .bi bb es => We (evEs P cf ci es ⟨r, m⟩) (fun ds r1 m1 => We (bi1 P cf bb ds ⟨r1, m1⟩) K X) X
  | .isi a ts => We (evE P cf ci a ⟨r, m⟩) (fun x r1 m1 => ∃ k, isTs P x ts = some k ∧ K (.bl k) r1 m1) X
  | .call f ks es => We (evEs P cf ci es ⟨r, m⟩) (fun ds r1 m1 => ∃ sh xs, P.shf f (ds.length - ks.length) ks = some sh ∧ pick ds sh = some xs ∧ Wc (cf f xs m1) (Wk K r1) (Wx X r1)) X
  | .smeth _ _ f ks es => We (evEs P cf ci es ⟨r, m⟩) (fun ds r1 m1 => ∃ sh xs, P.shf f (ds.length - ks.length) ks = some sh ∧ pick ds sh = some xs ∧ Wc (cf f xs m1) (Wk K r1) (Wx X r1)) X
  | .make c0 ks es => We (evEs P cf ci es ⟨r, m⟩) (fun ds r1 m1 => ∃ sh xs, P.shc c0 (ds.length - ks.length) ks = some sh ∧ pick ds sh = some xs ∧ Wc (ci c0 xs m1) (Wk K r1) (Wx X r1)) X
  | .makeS c0 es => We (evEs P cf ci es ⟨r, m⟩) (fun ds0 r1 m1 => ∃ ds sh xs, splD (es.map isSt) ds0 = some ds ∧ P.shc c0 ds.length [] = some sh ∧ pick ds sh = some xs ∧ Wc (ci c0 xs m1) (Wk K r1) (Wx X r1)) X
  | .star a => We (evE P cf ci a ⟨r, m⟩) (fun x r1 m1 => We (starK x ⟨r1, m1⟩) K X) X
  | .meth a mt ks es => We (evE P cf ci a ⟨r, m⟩) (fun x r1 m1 => ∃ c0 ns vs g, x = .ins c0 ns vs ∧ P.meth c0 mt = some g ∧ lookD mt ns vs = none ∧ We (evEs P cf ci es ⟨r1, m1⟩) (fun ds r2 m2 => ∃ sh xs, P.shf g (ds.length + 1 - ks.length) ks = some sh ∧ pick (.ins c0 ns vs :: ds) sh = some xs ∧ Wc (cf g xs m2) (Wk K r2) (Wx X r2)) X) X
  | .icall a ks es => We (evE P cf ci a ⟨r, m⟩) (fun x r1 m1 => ∃ c0 ns vs g, x = .ins c0 ns vs ∧ P.meth c0 "__call__" = some g ∧ We (evEs P cf ci es ⟨r1, m1⟩) (fun ds r2 m2 => ∃ sh xs, P.shf g (ds.length + 1 - ks.length) ks = some sh ∧ pick (.ins c0 ns vs :: ds) sh = some xs ∧ Wc (cf g xs m2) (Wk K r2) (Wx X r2)) X) X
  | .rng1 a => We (evE P cf ci a ⟨r, m⟩) (fun x r1 m1 => ∃ j, x = .int j ∧ smallI j = true ∧ K (.lst (rangeD 0 j)) r1 m1) X
  | .rng2 a b => We (evE P cf ci a ⟨r, m⟩) (fun x r1 m1 => We (evE P cf ci b ⟨r1, m1⟩) (fun y r2 m2 => ∃ i j, x = .int i ∧ y = .int j ∧ (smallI i && smallI j) = true ∧ K (.lst (rangeD i j)) r2 m2) X) X
  | .enm a => We (evE P cf ci a ⟨r, m⟩) (fun x r1 m1 => ∃ ds, enmD x = some ds ∧ K (.lst ds) r1 m1) X
  | .join a b => We (evE P cf ci a ⟨r, m⟩) (fun x r1 m1 => ∃ s, x = .str s ∧ We (evE P cf ci b ⟨r1, m1⟩) (fun y r2 m2 => ∃ ds ts, y = .lst ds ∧ strsD ds = some ts ∧ joinOk s ts = true ∧ K (.str (Txt.join s ts)) r2 m2) X) X
  | .fst es => We (evJ P cf ci es Str.empty ⟨r, m⟩) (fun z r1 m1 => K (.str z) r1 m1) X
  | .fms a => We (evE P cf ci a ⟨r, m⟩) (fun x r1 m1 => We (fms1 x ⟨r1, m1⟩) K X) X
  | .fmr a => We (evE P cf ci a ⟨r, m⟩) (fun x r1 m1 => We (fmr1 x ⟨r1, m1⟩) K X) X
  | .lenB i => ∃ ds, r[i]? = some (some (.o (.lst ds))) ∧ K (.int ds.length) r m
  | .ixB i b => ∃ dz, r[i]? = some (some (.o dz)) ∧ We (evE P cf ci b ⟨r, m⟩) (fun y r1 m1 => ∃ ds k d, r1[i]? = some (some (.o (.lst ds))) ∧ y = .int k ∧ atI ds k = some d ∧ K d r1 m1) X
  | .slcL a b => We (evE P cf ci a ⟨r, m⟩) (fun x r1 m1 => We (evE P cf ci b ⟨r1, m1⟩) (fun y r2 m2 => ∃ i d, y = .int i ∧ slD x (some i) none = some d ∧ K d r2 m2) X) X
  | .slcH a b => We (evE P cf ci a ⟨r, m⟩) (fun x r1 m1 => We (evE P cf ci b ⟨r1, m1⟩) (fun y r2 m2 => ∃ i d, y = .int i ∧ slD x none (some i) = some d ∧ K d r2 m2) X) X
  | .bor a => We (evE P cf ci a ⟨frzB r, m⟩) (fun d r1 m1 => (flatD d = true ∧ m1.length = m.length ∧ m1.all flatC = true) ∧ K d r m1) NoX
  | .rev a => We (evE P cf ci a ⟨r, m⟩) (fun x r1 m1 => ∃ xs, x = .lst xs ∧ K (.lst xs.reverse) r1 m1) X
  | .mk0 c0 => ∃ cd, P.cl[c0]? = some cd ∧ cd.bare = true ∧ K (.ins c0 [] []) r m
  | .comp e own tg it c => We (evE P cf ci it ⟨r, m⟩) (fun x r1 m1 => ∃ xs, itemsD x = some xs ∧ xs.length ≤ sizeLine ∧ own.all (pureAt r1) = true ∧ We (compL (evE P cf ci e) (evE P cf ci c) tg own xs [] ⟨r1, m1⟩) (cpQ K r1 own) NoX) X
  | _ => False
theorem we_next {e : Tm} {r : Rg} {m : List Dt} {K : Dt → Rg → List Dt → Prop} {X : Nat → List Str → List Dt → Rg → List Dt → Prop} (h : NextE P cf ci e r m K X) : We (evE P cf ci e ⟨r, m⟩) K X := by
  cases e with
  | cst d => exact we_cst h
  | glo g d => exact we_glo h
  | bin op a b => exact we_bin h
  | neg a => exact we_neg h
  | cmp cp a b => exact we_cmp h
  | chn o1 o2 a b c => exact we_chn h
  | and2 a b => exact we_and h
  | or2 a b => exact we_or h
  | ife c a b => exact we_ife h
  | not1 a => exact we_not h
  | tup es => exact we_tup h
  | lst es => exact we_lst h
  | ix a b => exact we_ix h
  | fld a fl => exact we_fld h
  | bi bb es => exact we_bi h
  | isi a ts => exact we_isi h
  | call f ks es => exact we_call h
  | smeth _ _ f ks es => exact we_smeth h
  | make c0 ks es => exact we_make h
  | makeS c0 es => exact we_makeS h
  | star a => exact we_star h
  | meth a mt ks es => exact we_meth h
  | icall a ks es => exact we_icall h
  | rng1 a => exact we_rng1 h
  | rng2 a b => exact we_rng2 h
  | enm a => exact we_enm h
  | join a b => exact we_join h
  | fst es => exact we_fst h
  | fms a => exact we_fms h
  | fmr a => exact we_fmr h
  | lenB i => obtain ⟨ds, h1, h2⟩ := h; exact we_lenB h1 h2
  | ixB i b => obtain ⟨dz, h1, h2⟩ := h; exact we_ixB h1 h2
  | slcL a b => exact we_slcL h
  | slcH a b => exact we_slcH h
  | bor a => exact we_bor h
  | rev a => exact we_rev h
  | mk0 c0 => obtain ⟨cd, h1, h2, h3⟩ := h; exact we_mk0 h1 h2 h3
  | comp e own tg it c => exact we_comp h
  | _ => exact h.elim
abbrev NextL (es : List Tm) (r : Rg) (m : List Dt) (K : List Dt → Rg → List Dt → Prop) (X : Nat → List Str → List Dt → Rg → List Dt → Prop) : Prop := match es with
  | [] => K [] r m
  | a :: es => We (evE P cf ci a ⟨r, m⟩) (fun d r1 m1 => We (evEs P cf ci es ⟨r1, m1⟩) (fun ds r2 m2 => K (d :: ds) r2 m2) X) X
theorem we_nextL {es : List Tm} {r : Rg} {m : List Dt} {K : List Dt → Rg → List Dt → Prop} {X : Nat → List Str → List Dt → Rg → List Dt → Prop} (h : NextL P cf ci es r m K X) : We (evEs P cf ci es ⟨r, m⟩) K X := by
  cases es with
  | nil => exact we_nil h
  | cons a es => exact we_cons h
abbrev NextJ (es : List Tm) (acc : Str) (r : Rg) (m : List Dt) (K : Str → Rg → List Dt → Prop) (X : Nat → List Str → List Dt → Rg → List Dt → Prop) : Prop := match es with
  | [] => K acc r m
  | a :: es => We (evE P cf ci a ⟨r, m⟩) (fun x r1 m1 => ∃ y, x = .str y ∧ (acc ++ y).length ≤ sizeLine ∧ We (evJ P cf ci es (acc ++ y) ⟨r1, m1⟩) K X) X
theorem we_nextJ {es : List Tm} {acc : Str} {r : Rg} {m : List Dt} {K : Str → Rg → List Dt → Prop} {X : Nat → List Str → List Dt → Rg → List Dt → Prop} (h : NextJ P cf ci es acc r m K X) : We (evJ P cf ci es acc ⟨r, m⟩) K X := by
  cases es with
  | nil => exact we_jnil h
  | cons a es => exact we_jcons h
abbrev NextF (i : Nat) (e : Tm) (r : Rg) (m : List Dt) (Q : Rt → Prop) : Prop := match e with
  | .call f ks es => We (evEs P cf ci es ⟨r, m⟩) (fun ds r1 m1 => ∃ sh xs, P.shf f (ds.length - ks.length) ks = some sh ∧ pick ds sh = some xs ∧ Wc (cf f xs m1) (Wb Q i r1) (Wx (Xq Q) r1)) (Xq Q)
  | .meth a mt ks es => We (evE P cf ci a ⟨r, m⟩) (fun x r1 m1 => ∃ c0 ns vs g, x = .ins c0 ns vs ∧ P.meth c0 mt = some g ∧ lookD mt ns vs = none ∧ We (evEs P cf ci es ⟨r1, m1⟩) (fun ds r2 m2 => ∃ sh xs, P.shf g (ds.length + 1 - ks.length) ks = some sh ∧ pick (.ins c0 ns vs :: ds) sh = some xs ∧ Wc (cf g xs m2) (Wb Q i r2) (Wx (Xq Q) r2)) (Xq Q)) (Xq Q)
  | .icall a ks es => We (evE P cf ci a ⟨r, m⟩) (fun x r1 m1 => ∃ c0 ns vs g, x = .ins c0 ns vs ∧ P.meth c0 "__call__" = some g ∧ We (evEs P cf ci es ⟨r1, m1⟩) (fun ds r2 m2 => ∃ sh xs, P.shf g (ds.length + 1 - ks.length) ks = some sh ∧ pick (.ins c0 ns vs :: ds) sh = some xs ∧ Wc (cf g xs m2) (Wb Q i r2) (Wx (Xq Q) r2)) (Xq Q)) (Xq Q)
  | _ => False
abbrev NextS (s : Sm) (r : Rg) (m : List Dt) (Q : Rt → Prop) : Prop := match s with
  | .asg tg a => We (evE P cf ci a ⟨r, m⟩) (fun d r1 m1 => ∃ r', tgD tg d r1 = some r' ∧ Q (.nx ⟨r', m1⟩)) (Xq Q)
  | .asgO i a => We (evE P cf ci a ⟨r, m⟩) (fun d r1 m1 => i < r1.length ∧ Q (.nx ⟨r1.set i (some (.o d)), m1⟩)) (Xq Q)
  | .asgF i a => NextF P cf ci i a r m Q
  | .par i j a b => We (evE P cf ci a ⟨r, m⟩) (fun x r1 m1 => We (evE P cf ci b ⟨r1, m1⟩) (fun y r2 m2 => (i < r2.length ∧ j < r2.length) ∧ Q (.nx ⟨(r2.set i (some (.p x))).set j (some (.p y)), m2⟩)) (Xq Q)) (Xq Q)
  | .parO i j a b => We (evE P cf ci a ⟨r, m⟩) (fun x r1 m1 => We (evE P cf ci b ⟨r1, m1⟩) (fun y r2 m2 => (i < r2.length ∧ j < r2.length) ∧ Q (.nx ⟨(r2.set i (some (.p x))).set j (some (.o y)), m2⟩)) (Xq Q)) (Xq Q)
  | .par3 i j l a b c => We (evE P cf ci a ⟨r, m⟩) (fun x r1 m1 => We (evE P cf ci b ⟨r1, m1⟩) (fun y r2 m2 => We (evE P cf ci c ⟨r2, m2⟩) (fun z r3 m3 => (i < r3.length ∧ j < r3.length ∧ l < r3.length) ∧ Q (.nx ⟨((r3.set i (some (.p x))).set j (some (.p y))).set l (some (.p z)), m3⟩)) (Xq Q)) (Xq Q)) (Xq Q)
  | .put b c a => We (evE P cf ci a ⟨r, m⟩) (fun d r1 m1 => We (evE P cf ci b ⟨r1, m1⟩) (fun x r2 m2 => We (evE P cf ci c ⟨r2, m2⟩) (fun y r3 m3 => ∃ m', setC m3 x y d = some m' ∧ Q (.nx ⟨r3, m'⟩)) (Xq Q)) (Xq Q)) (Xq Q)
  | .putB i b a => We (evE P cf ci a ⟨r, m⟩) (fun d r1 m1 => ∃ dz, r1[i]? = some (some (.o dz)) ∧ We (evE P cf ci b ⟨r1, m1⟩) (fun y r2 m2 => ∃ ds k q, r2[i]? = some (some (.o (.lst ds))) ∧ y = .int k ∧ ixN ds.length k = some q ∧ Q (.nx ⟨r2.set i (some (.o (.lst (ds.set q d)))), m2⟩)) (Xq Q)) (Xq Q)
  | .fld fl a => We (evE P cf ci a ⟨r, m⟩) (fun d r1 m1 => ∃ c0 ns vs, r1[(0 : Nat)]? = some (some (Bn.o (Dt.ins c0 ns vs))) ∧ (P.fld c0 fl = true ∧ ns.length < 1000) ∧ Q (.nx ⟨r1.set 0 (some (.o (.ins c0 (putD fl d ns vs).1 (putD fl d ns vs).2))), m1⟩)) (Xq Q)
  | .iff c s1 s2 => We (evE P cf ci c ⟨r, m⟩) (fun x r1 m1 => ∃ p, x = .bl p ∧ Wt (cond p (evSs P cf ci s1 ⟨r1, m1⟩) (evSs P cf ci s2 ⟨r1, m1⟩)) Q) (Xq Q)
  | .ret a => We (evE P cf ci a ⟨r, m⟩) (fun d r1 m1 => Q (.rt (.p d) ⟨r1, m1⟩)) (Xq Q)
  | .retF a => We (evE P cf ci a ⟨r, m⟩) (fun d r1 m1 => Q (.rt (.o d) ⟨r1, m1⟩)) (Xq Q)
  | .retO i => ∃ ds, r[i]? = some (some (.o (.lst ds))) ∧ Q (.rt (.o (.lst ds)) ⟨r, m⟩)
  | .pop i => ∃ ds, r[i]? = some (some (.o (.lst ds))) ∧ 0 < ds.length ∧ Q (.nx ⟨r.set i (some (.o (.lst ds.dropLast))), m⟩)
  | .retN => Q (.rt (.p .non) ⟨r, m⟩)
  | .exp a => We (evE P cf ci a ⟨r, m⟩) (fun d r1 m1 => Q (.nx ⟨r1, m1⟩)) (Xq Q)
  | .pas => Q (.nx ⟨r, m⟩)
  | .brk => Q (.bk ⟨r, m⟩)
  | .cnt => Q (.ct ⟨r, m⟩)
  | .app i a => ∃ dz, r[i]? = some (some (.o (.lst dz))) ∧ We (evE P cf ci a ⟨r, m⟩) (fun d r1 m1 => ∃ ds, r1[i]? = some (some (.o (.lst ds))) ∧ ds.length < sizeLine ∧ Q (.nx ⟨r1.set i (some (.o (.lst (ds ++ [d])))), m1⟩)) (Xq Q)
  | .aug i op a => ∃ x, r[i]? = some (some (.p x)) ∧ We (evE P cf ci a ⟨r, m⟩) (fun y r1 m1 => We (aug1 P cf op x y ⟨r1, m1⟩) (fun z r2 m2 => i < r2.length ∧ Q (.nx ⟨r2.set i (some (.p z)), m2⟩)) (Xq Q)) (Xq Q)
  | .for_ tg it bd => We (evE P cf ci it ⟨r, m⟩) (fun x r1 m1 => ∃ xs, itemsD x = some xs ∧ Wt (forL (evSs P cf ci bd) tg xs ⟨r1, m1⟩) Q) (Xq Q)
  | _ => False
theorem wt_next {s : Sm} {r : Rg} {m : List Dt} {Q : Rt → Prop} (h : NextS P cf ci s r m Q) : Wt (evS P cf ci s ⟨r, m⟩) Q := by
  cases s with
  | asg tg a => exact wt_asg h
  | asgO i a => exact wt_asgO h
  | asgF i a =>
    cases a with
    | call f ks es => exact wt_asgFc h
    | meth a mt ks es => exact wt_asgFm h
    | icall a ks es => exact wt_asgFi h
    | _ => exact h.elim
  | par i j a b => exact wt_par h
  | parO i j a b => exact wt_parO h
  | put b c a => exact wt_put h
  | par3 i j l a b c => exact wt_par3 h
  | putB i b a => exact wt_putB h
  | fld fl a => exact wt_fld h
  | iff c s1 s2 => exact wt_if h
  | ret a => exact wt_ret h
  | retF a => exact wt_retF h
  | retO i => obtain ⟨ds, h1, h2⟩ := h; exact wt_retO h1 h2
  | retN => exact wt_retN h
  | pop i => obtain ⟨ds, h1, h2, h3⟩ := h; exact wt_pop h1 h2 h3
  | exp a => exact wt_exp h
  | pas => exact wt_pas h
  | brk => exact wt_brk h
  | cnt => exact wt_cnt h
  | app i a => obtain ⟨dz, h1, h2⟩ := h; exact wt_app h1 h2
  | aug i op a => obtain ⟨dz, h1, h2⟩ := h; exact wt_aug h1 h2
  | for_ tg it bd => exact wt_for h
  | _ => exact h.elim
abbrev NextB (ss : List Sm) (r : Rg) (m : List Dt) (Q : Rt → Prop) : Prop := match ss with
  | [] => Q (.nx ⟨r, m⟩)
  | s :: ss => Wt (evS P cf ci s ⟨r, m⟩) (sq (evSs P cf ci ss) Q)
theorem wt_nextB {ss : List Sm} {r : Rg} {m : List Dt} {Q : Rt → Prop} (h : NextB P cf ci ss r m Q) : Wt (evSs P cf ci ss ⟨r, m⟩) Q := by
  cases ss with
  | nil => exact wt_nil h
  | cons a es => exact wt_seq h
end
theorem gWe {α : Type} {r : Rs α} {K : α → Rg → List Dt → Prop} {X : Nat → List Str → List Dt → Rg → List Dt → Prop} (h : We r K X) : We r K X := h
theorem gWt {r : Rt} {Q : Rt → Prop} (h : Wt r Q) : Wt r Q := h
theorem gWc {r : Rc} {K : Bn → List Dt → Prop} {X : Nat → List Str → List Dt → List Dt → Prop} (h : Wc r K X) : Wc r K X := h
theorem gEx {α : Type} {p : α → Prop} (h : ∃ x, p x) : ∃ x, p x := h
theorem gAn {p q : Prop} (h : p ∧ q) : p ∧ q := h
/-! slices -/
theorem cutL_lo {α : Type} {xs : List α} {i : Int} (h : 0 ≤ i) : cutL xs (some i) none = xs.drop i.toNat := by
  have e : HT.sIx xs.length 0 (some i) = min i.toNat xs.length := by
    show (if i < 0 then (i + (xs.length : Int)).toNat else min i.toNat xs.length) = _
    rw [if_neg (by omega)]
  have e2 : HT.sIx xs.length xs.length none = xs.length := rfl
  unfold cutL
  rw [e, e2]
  by_cases h1 : i.toNat ≤ xs.length
  · rw [Nat.min_eq_left h1]
    apply List.take_of_length_le
    rw [List.length_drop]
    exact Nat.le_refl _
  · rw [Nat.min_eq_right (by omega), List.drop_of_length_le (Nat.le_refl _), List.drop_of_length_le (by omega)]
    simp
theorem cutL_hi {α : Type} {xs : List α} {i : Int} (h : 0 ≤ i) : cutL xs none (some i) = xs.take i.toNat := by
  have e : HT.sIx xs.length xs.length (some i) = min i.toNat xs.length := by
    show (if i < 0 then (i + (xs.length : Int)).toNat else min i.toNat xs.length) = _
    rw [if_neg (by omega)]
  have e2 : HT.sIx xs.length 0 none = 0 := rfl
  unfold cutL
  rw [e, e2, List.drop_zero, Nat.sub_zero]
  by_cases h1 : i.toNat ≤ xs.length
  · rw [Nat.min_eq_left h1]
  · rw [Nat.min_eq_right (by omega), List.take_of_length_le (Nat.le_refl _), List.take_of_length_le (by omega)]
theorem sl_lo {ds : List Dt} {i : Int} (h : 0 ≤ i) : slD (.lst ds) (some i) none = some (.lst (ds.drop i.toNat)) := by
  show some (Dt.lst (cutL ds (some i) none)) = _
  rw [cutL_lo h]
theorem sl_hi {ds : List Dt} {i : Int} (h : 0 ≤ i) : slD (.lst ds) none (some i) = some (.lst (ds.take i.toNat)) := by
  show some (Dt.lst (cutL ds none (some i))) = _
  rw [cutL_hi h]
theorem wt_for0 {bd : Sto → Rt} {tg : Tg} {r : Rg} {m : List Dt} {Q : Rt → Prop} (h : Q (.nx ⟨r, m⟩)) : Wt (forL bd tg [] ⟨r, m⟩) Q := wt_eq rfl h
mutual
def pureT : Tm → Bool
  | .var _ | .cst _ | .glo _ _ | .lenB _ => true
  | .bin _ a b | .cmp _ a b | .and2 a b | .or2 a b | .ix a b => pureT a && pureT b
  | .chn _ _ a b c => pureT a && pureT b && pureT c
  | .neg a | .not1 a | .isi a _ | .fld a _ | .ixB _ a => pureT a
  | .bi _ es | .tup es | .lst es => pureTs es
  | _ => false
def pureTs : List Tm → Bool
  | [] => true
  | e :: es => pureT e && pureTs es
end
section
variable {P : Pg} {cf ci : Nat → List Dt → List Dt → Rc} {r : Rg} {m : List Dt} {K : Dt → Rg → List Dt → Prop} {X : Nat → List Str → List Dt → Rg → List Dt → Prop} {b : Tm} {p : Bool}
theorem we_andQ (hb : pureT b = true) (h : We (evE P cf ci b ⟨r, m⟩) (fun y r2 m2 => ∃ q, y = .bl q ∧ (⟨r2, m2⟩ : Sto) = ⟨r, m⟩ ∧ K (.bl (p && q)) r m) NoX) : We (cond p (evE P cf ci b ⟨r, m⟩) (.ok (.bl false) ⟨r, m⟩)) K X := we_andP h
theorem we_orQ (hb : pureT b = true) (h : We (evE P cf ci b ⟨r, m⟩) (fun y r2 m2 => ∃ q, y = .bl q ∧ (⟨r2, m2⟩ : Sto) = ⟨r, m⟩ ∧ K (.bl (p || q)) r m) NoX) : We (cond p (.ok (.bl true) ⟨r, m⟩) (evE P cf ci b ⟨r, m⟩)) K X := we_orP h
end
theorem ix_nat {m ds : List Dt} {d : Dt} {i : Nat} (h : ds[i]? = some d) : ixD m (.lst ds) (.int i) = some d := at_ix (by omega) (by simpa using h)
theorem ix_0 {m ds : List Dt} {d : Dt} : ixD m (.lst (d :: ds)) (.int 0) = some d := ix_nat (i := 0) rfl
theorem ix_1 {m ds : List Dt} {c d : Dt} : ixD m (.lst (c :: d :: ds)) (.int 1) = some d := ix_nat (i := 1) rfl
end PyI
namespace K15
open PySem PySem.Spec PyProof.Rows PyI
local macro_rules | `(tactic| walk_at "side") => `(tactic| first | with_reducible rfl | with_reducible assumption | omega | (simp; done) | (simp; omega))
local macro_rules | `(tactic| walk_at "call") => `(tactic| with_reducible assumption)
local macro_rules | `(tactic| walk_at "op") => `(tactic| first | with_reducible assumption | exact rfl)
local macro_rules | `(tactic| walk_at "bi") => `(tactic| first | with_reducible assumption | exact rfl)
local macro_rules | `(tactic| walk_at "cmp") => `(tactic| first
  | with_reducible assumption
  | exact c_pl rfl (by with_reducible assumption)
  | exact c_pl rfl eqDI
  | exact c_pl rfl neDI
  | exact c_pl rfl neDB
  | exact c_pl rfl rfl
  | ((with_reducible apply w_eq); exact rfl; exact rfl; walk_at "call")
  | ((with_reducible apply w_in); exact rfl; walk_at "call"))
local macro_rules | `(tactic| walk_at "cond") => `(tactic| first
  | ((with_reducible apply cond_t); (focus walk_at "side"))
  | ((with_reducible apply cond_f); (focus walk_at "side")))
local macro_rules | `(tactic| walk_at "meth") => `(tactic| ((with_reducible apply w_meth); walk_at "e"; exact rfl; exact rfl; walk_at "es"; exact rfl; exact rfl; exact rfl; walk_at "call"))
local macro_rules | `(tactic| walk_at "fld") => `(tactic| first
  | ((with_reducible apply e_fld); walk_at "e"; exact rfl; exact rfl; exact rfl)
  | ((with_reducible apply w_prop); walk_at "e"; exact rfl; walk_at "call"))
local macro_rules | `(tactic| walk_at "bin") => `(tactic| first
  | ((with_reducible apply e_bin); walk_at "e"; walk_at "e"; walk_at "op")
  | ((with_reducible apply w_binO); walk_at "e"; walk_at "e"; exact rfl; exact rfl; walk_at "call"))
local macro_rules | `(tactic| walk_at "e") => `(tactic| first
  | ((with_reducible apply e_var); exact rfl)
  | with_reducible exact e_cst
  | with_reducible exact e_glo
  | walk_at "bin"
  | ((with_reducible apply e_cmp); walk_at "e"; walk_at "e"; walk_at "cmp")
  | ((with_reducible apply w_call); walk_at "es"; exact rfl; exact rfl; exact rfl; walk_at "call")
  | ((with_reducible apply e_not); walk_at "e")
  | ((with_reducible apply e_ix); walk_at "e"; walk_at "e"; walk_at "op")
  | ((with_reducible apply e_bi); walk_at "es"; walk_at "bi")
  | ((with_reducible apply w_and); walk_at "e"; walk_at "cond"; walk_at "ke")
  | ((with_reducible apply w_or); walk_at "e"; walk_at "cond"; walk_at "ke")
  | ((with_reducible apply e_and); walk_at "e"; walk_at "e")
  | ((with_reducible apply e_or); walk_at "e"; walk_at "e")
  | ((with_reducible apply e_chn); walk_at "e"; walk_at "e"; exact rfl; walk_at "e"; exact rfl)
  | ((with_reducible apply w_ife); walk_at "e"; walk_at "cond"; walk_at "e")
  | ((with_reducible apply e_lst); walk_at "es"; exact Nat.le_of_ble_eq_true rfl)
  | ((with_reducible apply e_tup); walk_at "es"; exact Nat.le_of_ble_eq_true rfl)
  | ((with_reducible apply w_make); walk_at "es"; exact rfl; exact rfl; exact rfl; walk_at "call")
  | walk_at "meth"
  | walk_at "fld"
  | ((with_reducible apply e_neg); walk_at "e")
  | ((with_reducible apply e_isi); walk_at "e"; exact rfl)
  | ((with_reducible apply e_slcL); walk_at "e"; walk_at "e"; walk_at "op")
  | ((with_reducible apply e_slcH); walk_at "e"; walk_at "e"; walk_at "op")
  | ((with_reducible apply e_mk0); exact rfl; exact rfl)
  | with_reducible assumption)
local macro_rules | `(tactic| walk_at "ke") => `(tactic| first | with_reducible rfl | walk_at "e")
local macro_rules | `(tactic| walk_at "es") => `(tactic| first
  | with_reducible exact e_nil
  | ((with_reducible apply e_cons); walk_at "e"; walk_at "es"))
local macro_rules | `(tactic| walk_at "s") => `(tactic| first
  | ((with_reducible apply w_asg); walk_at "e"; exact rfl)
  | ((with_reducible apply w_if); walk_at "e"; walk_at "cond"; walk_at "ss")
  | ((with_reducible apply s_ret); walk_at "e")
  | ((with_reducible apply s_exp); walk_at "e")
  | ((with_reducible apply s_fld); walk_at "e"; exact rfl; exact rfl; exact Nat.le_of_ble_eq_true rfl)
  | ((with_reducible apply w_par); walk_at "e"; walk_at "e"; exact ⟨Nat.le_of_ble_eq_true rfl, Nat.le_of_ble_eq_true rfl⟩)
  | ((with_reducible apply w_aug); exact rfl; walk_at "e"; exact rfl; exact rfl; walk_at "call"; exact Nat.le_of_ble_eq_true rfl)
  | with_reducible assumption)
local macro_rules | `(tactic| walk_at "k") => `(tactic| first | with_reducible exact w_rt | ((with_reducible apply w_nx); walk_at "ss"))
local macro_rules | `(tactic| walk_at "ss") => `(tactic| first
  | with_reducible exact s_nil
  | ((with_reducible apply w_seq); walk_at "s"; walk_at "k"))
local macro_rules | `(tactic| walk_at "run") => `(tactic| (apply q_run (hl := ⟨rfl, Nat.le_of_ble_eq_true rfl⟩) (hc := rfl) (hg := rfl); walk_at "ss"; (first | rfl | skip); (first | rfl | skip)))
local macro_rules | `(tactic| walk_at "end") => `(tactic| (apply q_end (hl := ⟨rfl, Nat.le_of_ble_eq_true rfl⟩) (hc := rfl) (hg := rfl); walk_at "ss"; (first | rfl | skip)))
local macro_rules | `(tactic| walk_at "make") => `(tactic| (apply q_make (hl := ⟨rfl, Nat.le_of_ble_eq_true rfl⟩) (hg := rfl) (hcl := rfl); walk_at "ss"; exact rfl; (first | rfl | skip); (first | rfl | skip)))
local macro_rules | `(tactic| walk_at "op") => `(tactic| exact op_fdivI (by omega))
local macro_rules | `(tactic| walk_at "op") => `(tactic| exact op_modI (by omega))
local macro_rules | `(tactic| walk_at "op") => `(tactic| exact op_mulI (by omega))
local macro_rules | `(tactic| walk_at "op") => `(tactic| exact op_mulL (by omega))
local macro_rules | `(tactic| walk_at "op") => `(tactic| first | with_reducible assumption | exact rfl)
local macro_rules | `(tactic| walk_at "e") => `(tactic| first
  | ((with_reducible apply e_var); exact rfl)
  | ((with_reducible apply v_varO); exact rfl)
  | ((with_reducible apply v_lenB); exact rfl)
  | ((with_reducible apply v_ixB); exact rfl; walk_at "e"; exact rfl; walk_at "op")
  | ((with_reducible apply v_icallO); walk_at "e"; exact rfl; walk_at "es"; exact rfl; exact rfl; exact rfl; walk_at "call")
  | ((with_reducible apply v_starL); walk_at "e")
  | ((with_reducible apply v_bor); walk_at "e"; walk_at "flat")
  | ((with_reducible apply v_fmrS); walk_at "e"; exact Nat.le_of_ble_eq_true rfl)
  | ((with_reducible apply e_fmrI); walk_at "e"; walk_at "side"))
local macro_rules | `(tactic| walk_at "s") => `(tactic| first
  | ((with_reducible apply v_asgO); walk_at "e"; exact Nat.le_of_ble_eq_true rfl)
  | ((with_reducible apply v_asgF_icall); walk_at "e"; exact rfl; walk_at "es"; exact rfl; exact rfl; exact rfl; walk_at "call"; exact Nat.le_of_ble_eq_true rfl)
  | ((with_reducible apply v_asgF_meth); walk_at "e"; exact rfl; exact rfl; walk_at "es"; exact rfl; exact rfl; exact rfl; walk_at "call"; exact Nat.le_of_ble_eq_true rfl)
  | ((with_reducible apply v_asgF_call); walk_at "es"; exact rfl; exact rfl; exact rfl; walk_at "call"; exact Nat.le_of_ble_eq_true rfl)
  | ((with_reducible apply v_parO); walk_at "e"; walk_at "e"; exact ⟨Nat.le_of_ble_eq_true rfl, Nat.le_of_ble_eq_true rfl⟩)
  | ((with_reducible apply v_retO); exact rfl)
  | ((with_reducible apply s_retF); walk_at "e"))
local macro_rules | `(tactic| walk_at "runO") => `(tactic| (apply q_runO (hl := ⟨rfl, Nat.le_of_ble_eq_true rfl⟩) (hc := rfl) (hg := rfl); walk_at "ss"; (first | rfl | skip); (first | rfl | skip)))
abbrev C (n : Nat) := Cf pg n
abbrev D (n : Nat) := Df pg n
theorem le_b {a b : Nat} (h : Nat.ble a b = true) : a ≤ b := Nat.le_of_ble_eq_true h
/-! words and data -/
def wz : Bool → Str
  | true => "zeros"
  | false => "sign"
abbrev flD (w : Str) (e : Dt) : Dt := .ins j_Fill ["own_word", "own_extent"] [.str w, e]
abbrev fD (f : Bool × Int) : Dt := flD (wz f.1) (.int f.2)
abbrev frD : Dt := flD "free" .non
abbrev wkD (fs : List (Bool × Int)) : Dt := .ins j_Work ["own_fills"] [.lst (fs.map fD)]
abbrev tpD (f : Bool × Int) : Dt := .tup [.str (wz f.1), .int f.2]
abbrev rwD (fs : List (Bool × Int)) : Dt := .lst (fs.map tpD)
def okF (f : Bool × Int) : Prop := 3 ≤ f.2 ∧ f.2 ≤ 128
theorem inW {b : Bool} : cmpD .NotIn (.str (wz b)) (.tup [.str "free", .str "zeros", .str "sign"]) = some false := by cases b <;> kernel_rfl
theorem eqFr {b : Bool} : cmpD .Eq (.str (wz b)) (.str "free") = some false := by cases b <;> kernel_rfl
theorem neFr {b : Bool} : cmpD .NotEq (.str (wz b)) (.str "free") = some true := by cases b <;> kernel_rfl
theorem eqZ {b : Bool} : cmpD .Eq (.str (wz b)) (.str "zeros") = some b := by cases b <;> kernel_rfl
theorem eqW {b c : Bool} : cmpD .Eq (.str (wz b)) (.str (wz c)) = some (b == c) := by cases b <;> cases c <;> kernel_rfl
/-! basics -/
theorem r_is_integer {N : Nat} {v : Int} {m : List Dt} : C (N + 1) i_is_integer [.int v] m = .ok (.p (.bl true)) m := by
  walk_at "run"
local macro_rules | `(tactic| walk_at "call") => `(tactic| exact r_is_integer)
theorem r_is_count {N : Nat} {v : Int} {m : List Dt} : C (N + 2) i_is_count [.int v] m = .ok (.p (.bl (decide (0 ≤ v)))) m := by
  walk_at "run"
local macro_rules | `(tactic| walk_at "call") => `(tactic| exact r_is_count)
theorem r_is_count_from {N : Nat} {v a b : Int} {m : List Dt} (h : 0 ≤ v ∧ a ≤ v ∧ v ≤ b) : C (N + 3) i_is_count_from [.int v, .int a, .int b] m = .ok (.p (.bl true)) m := by
  refine q_run (hg := rfl) ⟨rfl, le_b rfl⟩ rfl (s_stop (s_ret (e_and (e_call (e_cons (e_var rfl) e_nil) rfl rfl rfl r_is_count) (e_chn (e_var rfl) (e_var rfl) rfl (e_var rfl) rfl)))) ?_ rfl
  simp
  omega
local macro_rules | `(tactic| walk_at "call") => `(tactic| exact r_is_count_from (by omega))
theorem r_want_width {N : Nat} {v : Int} {m : List Dt} (h : 2 ≤ v ∧ v ≤ 128) : C (N + 4) i_want_width [.int v] m = .ok (.p .non) m := by
  walk_at "end"
/-! fills -/
theorem mk_fill {N : Nat} {b : Bool} {e : Int} {m : List Dt} (h : 3 ≤ e ∧ e ≤ 128) : D (N + 4) j_Fill [.str (wz b), .int e] m = .ok (.p (fD (b, e))) m := by
  have h1 := inW (b := b)
  have h2 := eqFr (b := b)
  have h3 := neFr (b := b)
  walk_at "make"
theorem mk_free {N : Nat} {m : List Dt} : D (N + 4) j_Fill [.str "free", .non] m = .ok (.p frD) m := by
  kernel_rfl
theorem r_word {N : Nat} {w : Str} {e : Dt} {m : List Dt} : C (N + 1) i_Fill_word [flD w e] m = .ok (.p (.str w)) m := by walk_at "run"
theorem r_ext {N : Nat} {w : Str} {e : Dt} {m : List Dt} : C (N + 1) i_Fill_extent [flD w e] m = .ok (.p e) m := by walk_at "run"
local macro_rules | `(tactic| walk_at "call") => `(tactic| exact r_word)
local macro_rules | `(tactic| walk_at "call") => `(tactic| exact r_ext)
theorem r_feq {N : Nat} {f g : Bool × Int} {m : List Dt} : C (N + 1) i_Fill___eq__ [fD f, fD g] m = .ok (.p (.bl ((f.1 == g.1) && decide (f.2 = g.2)))) m := by
  have h1 := eqW (b := f.1) (c := g.1)
  walk_at "run"
/-! texts of fills -/
def fT (f : Bool × Int) : Str := Str.ofString "Fill('" ++ wz f.1 ++ Str.ofString "', " ++ Str.ofString (toString f.2) ++ Str.ofString ")"
theorem fpre {b : Bool} : Str.empty ++ Str.ofString "Fill(" ++ reprText (wz b) ++ Str.ofString ", " = Str.ofString "Fill('" ++ wz b ++ Str.ofString "', " := by cases b <;> kernel_rfl
theorem fT_ok {f : Bool × Int} (h : okF f) : PyData.strOk (fT f) = true ∧ (fT f).length ≤ 20 := by
  have hw : PyData.strOk (wz f.1) = true ∧ (wz f.1).length ≤ 5 := by cases f.1 <;> exact ⟨by kernel_rfl, by decide⟩
  have h3 := int_len3 (i := f.2) (by have := h; unfold okF at this; omega)
  constructor
  · unfold fT
    rw [strOk_app, strOk_app, strOk_app, strOk_app, hw.1, strOk_of, strOk_of, strOk_of, strOk_of]
    rfl
  · unfold fT
    rw [len_app, len_app, len_app, len_app]
    have e1 : (Str.ofString "Fill('").length = 6 := rfl
    have e2 : (Str.ofString "', ").length = 3 := rfl
    have e3 : (Str.ofString ")").length = 1 := rfl
    omega
theorem lenW {b : Bool} : (reprText (wz b)).length ≤ sizeLine := by cases b <;> exact le_b (by kernel_rfl)
theorem r_frepr {N : Nat} {f : Bool × Int} {m : List Dt} (h : okF f) : C (N + 1) i_Fill___repr__ [fD f] m = .ok (.p (.str (fT f))) m := by
  have h1 := eqFr (b := f.1)
  have hl := fT_ok h
  have hf := h
  unfold okF at hf
  have big : 1000 ≤ sizeLine := by decide
  have h0 : (Str.ofString "Fill('" ++ wz f.1 ++ Str.ofString "', ").length ≤ 20 := by
    have := hl.2
    unfold fT at this
    rw [len_app, len_app] at this
    omega
  have h3 := int_len3 (i := f.2) (by omega)
  have hw : (reprText (wz f.1)).length ≤ 20 := by cases f.1 <;> exact le_b (by kernel_rfl)
  refine q_run (hg := rfl) ⟨rfl, le_b rfl⟩ rfl (s_cons (s_iff_f (e_cmp (e_fld (e_var rfl) rfl rfl rfl) e_glo (c_pl rfl h1)) rfl s_nil) (s_stop (s_ret (e_fst
    (j_cons e_cst ?_ (j_cons (v_fmrS (e_fld (e_var rfl) rfl rfl rfl) lenW) ?_ (j_cons e_cst ?_ (j_cons (e_fmrI (e_fld (e_var rfl) rfl rfl rfl) (log_ok (by omega))) ?_ (j_cons e_cst ?_ j_nil))))))))) ?_ rfl
  · exact le_b (by kernel_rfl)
  · rw [len_app]
    have : (Str.empty ++ Str.ofString "Fill(").length = 5 := rfl
    omega
  · rw [fpre]; omega
  · rw [fpre, len_app]; omega
  · rw [fpre]; exact Nat.le_trans hl.2 (by omega)
  · rw [fpre]; rfl
end K15
namespace K15
open PySem PySem.Spec PyProof.Rows PyI
local macro_rules | `(tactic| walk_at "side") => `(tactic| first | with_reducible rfl | with_reducible assumption | omega | (simp; done) | (simp; omega))
local macro_rules | `(tactic| walk_at "call") => `(tactic| with_reducible assumption)
local macro_rules | `(tactic| walk_at "op") => `(tactic| first | with_reducible assumption | exact rfl)
local macro_rules | `(tactic| walk_at "bi") => `(tactic| first | with_reducible assumption | exact rfl)
local macro_rules | `(tactic| walk_at "cmp") => `(tactic| first
  | with_reducible assumption
  | exact c_pl rfl (by with_reducible assumption)
  | exact c_pl rfl eqDI
  | exact c_pl rfl neDI
  | exact c_pl rfl neDB
  | exact c_pl rfl rfl
  | ((with_reducible apply w_eq); exact rfl; exact rfl; walk_at "call")
  | ((with_reducible apply w_in); exact rfl; walk_at "call"))
local macro_rules | `(tactic| walk_at "cond") => `(tactic| first
  | ((with_reducible apply cond_t); (focus walk_at "side"))
  | ((with_reducible apply cond_f); (focus walk_at "side")))
local macro_rules | `(tactic| walk_at "meth") => `(tactic| ((with_reducible apply w_meth); walk_at "e"; exact rfl; exact rfl; walk_at "es"; exact rfl; exact rfl; exact rfl; walk_at "call"))
local macro_rules | `(tactic| walk_at "fld") => `(tactic| first
  | ((with_reducible apply e_fld); walk_at "e"; exact rfl; exact rfl; exact rfl)
  | ((with_reducible apply w_prop); walk_at "e"; exact rfl; walk_at "call"))
local macro_rules | `(tactic| walk_at "bin") => `(tactic| first
  | ((with_reducible apply e_bin); walk_at "e"; walk_at "e"; walk_at "op")
  | ((with_reducible apply w_binO); walk_at "e"; walk_at "e"; exact rfl; exact rfl; walk_at "call"))
local macro_rules | `(tactic| walk_at "e") => `(tactic| first
  | ((with_reducible apply e_var); exact rfl)
  | with_reducible exact e_cst
  | with_reducible exact e_glo
  | walk_at "bin"
  | ((with_reducible apply e_cmp); walk_at "e"; walk_at "e"; walk_at "cmp")
  | ((with_reducible apply w_call); walk_at "es"; exact rfl; exact rfl; exact rfl; walk_at "call")
  | ((with_reducible apply e_not); walk_at "e")
  | ((with_reducible apply e_ix); walk_at "e"; walk_at "e"; walk_at "op")
  | ((with_reducible apply e_bi); walk_at "es"; walk_at "bi")
  | ((with_reducible apply w_and); walk_at "e"; walk_at "cond"; walk_at "ke")
  | ((with_reducible apply w_or); walk_at "e"; walk_at "cond"; walk_at "ke")
  | ((with_reducible apply e_and); walk_at "e"; walk_at "e")
  | ((with_reducible apply e_or); walk_at "e"; walk_at "e")
  | ((with_reducible apply e_chn); walk_at "e"; walk_at "e"; exact rfl; walk_at "e"; exact rfl)
  | ((with_reducible apply w_ife); walk_at "e"; walk_at "cond"; walk_at "e")
  | ((with_reducible apply e_lst); walk_at "es"; exact Nat.le_of_ble_eq_true rfl)
  | ((with_reducible apply e_tup); walk_at "es"; exact Nat.le_of_ble_eq_true rfl)
  | ((with_reducible apply w_make); walk_at "es"; exact rfl; exact rfl; exact rfl; walk_at "call")
  | walk_at "meth"
  | walk_at "fld"
  | ((with_reducible apply e_neg); walk_at "e")
  | ((with_reducible apply e_isi); walk_at "e"; exact rfl)
  | ((with_reducible apply e_slcL); walk_at "e"; walk_at "e"; walk_at "op")
  | ((with_reducible apply e_slcH); walk_at "e"; walk_at "e"; walk_at "op")
  | ((with_reducible apply e_mk0); exact rfl; exact rfl)
  | with_reducible assumption)
local macro_rules | `(tactic| walk_at "ke") => `(tactic| first | with_reducible rfl | walk_at "e")
local macro_rules | `(tactic| walk_at "es") => `(tactic| first
  | with_reducible exact e_nil
  | ((with_reducible apply e_cons); walk_at "e"; walk_at "es"))
local macro_rules | `(tactic| walk_at "s") => `(tactic| first
  | ((with_reducible apply w_asg); walk_at "e"; exact rfl)
  | ((with_reducible apply w_if); walk_at "e"; walk_at "cond"; walk_at "ss")
  | ((with_reducible apply s_ret); walk_at "e")
  | ((with_reducible apply s_exp); walk_at "e")
  | ((with_reducible apply s_fld); walk_at "e"; exact rfl; exact rfl; exact Nat.le_of_ble_eq_true rfl)
  | ((with_reducible apply w_par); walk_at "e"; walk_at "e"; exact ⟨Nat.le_of_ble_eq_true rfl, Nat.le_of_ble_eq_true rfl⟩)
  | ((with_reducible apply w_aug); exact rfl; walk_at "e"; exact rfl; exact rfl; walk_at "call"; exact Nat.le_of_ble_eq_true rfl)
  | with_reducible assumption)
local macro_rules | `(tactic| walk_at "k") => `(tactic| first | with_reducible exact w_rt | ((with_reducible apply w_nx); walk_at "ss"))
local macro_rules | `(tactic| walk_at "ss") => `(tactic| first
  | with_reducible exact s_nil
  | ((with_reducible apply w_seq); walk_at "s"; walk_at "k"))
local macro_rules | `(tactic| walk_at "run") => `(tactic| (apply q_run (hl := ⟨rfl, Nat.le_of_ble_eq_true rfl⟩) (hc := rfl) (hg := rfl); walk_at "ss"; (first | rfl | skip); (first | rfl | skip)))
local macro_rules | `(tactic| walk_at "end") => `(tactic| (apply q_end (hl := ⟨rfl, Nat.le_of_ble_eq_true rfl⟩) (hc := rfl) (hg := rfl); walk_at "ss"; (first | rfl | skip)))
local macro_rules | `(tactic| walk_at "make") => `(tactic| (apply q_make (hl := ⟨rfl, Nat.le_of_ble_eq_true rfl⟩) (hg := rfl) (hcl := rfl); walk_at "ss"; exact rfl; (first | rfl | skip); (first | rfl | skip)))
local macro_rules | `(tactic| walk_at "op") => `(tactic| exact op_fdivI (by omega))
local macro_rules | `(tactic| walk_at "op") => `(tactic| exact op_modI (by omega))
local macro_rules | `(tactic| walk_at "op") => `(tactic| exact op_mulI (by omega))
local macro_rules | `(tactic| walk_at "op") => `(tactic| exact op_mulL (by omega))
local macro_rules | `(tactic| walk_at "op") => `(tactic| first | with_reducible assumption | exact rfl)
local macro_rules | `(tactic| walk_at "e") => `(tactic| first
  | ((with_reducible apply e_var); exact rfl)
  | ((with_reducible apply v_varO); exact rfl)
  | ((with_reducible apply v_lenB); exact rfl)
  | ((with_reducible apply v_ixB); exact rfl; walk_at "e"; exact rfl; walk_at "op")
  | ((with_reducible apply v_icallO); walk_at "e"; exact rfl; walk_at "es"; exact rfl; exact rfl; exact rfl; walk_at "call")
  | ((with_reducible apply v_starL); walk_at "e")
  | ((with_reducible apply v_bor); walk_at "e"; walk_at "flat")
  | ((with_reducible apply v_fmrS); walk_at "e"; exact Nat.le_of_ble_eq_true rfl)
  | ((with_reducible apply e_fmrI); walk_at "e"; walk_at "side"))
local macro_rules | `(tactic| walk_at "s") => `(tactic| first
  | ((with_reducible apply v_asgO); walk_at "e"; exact Nat.le_of_ble_eq_true rfl)
  | ((with_reducible apply v_asgF_icall); walk_at "e"; exact rfl; walk_at "es"; exact rfl; exact rfl; exact rfl; walk_at "call"; exact Nat.le_of_ble_eq_true rfl)
  | ((with_reducible apply v_asgF_meth); walk_at "e"; exact rfl; exact rfl; walk_at "es"; exact rfl; exact rfl; exact rfl; walk_at "call"; exact Nat.le_of_ble_eq_true rfl)
  | ((with_reducible apply v_asgF_call); walk_at "es"; exact rfl; exact rfl; exact rfl; walk_at "call"; exact Nat.le_of_ble_eq_true rfl)
  | ((with_reducible apply v_parO); walk_at "e"; walk_at "e"; exact ⟨Nat.le_of_ble_eq_true rfl, Nat.le_of_ble_eq_true rfl⟩)
  | ((with_reducible apply v_retO); exact rfl)
  | ((with_reducible apply s_retF); walk_at "e"))
local macro_rules | `(tactic| walk_at "runO") => `(tactic| (apply q_runO (hl := ⟨rfl, Nat.le_of_ble_eq_true rfl⟩) (hc := rfl) (hg := rfl); walk_at "ss"; (first | rfl | skip); (first | rfl | skip)))
local macro_rules | `(tactic| walk_at "call") => `(tactic| exact r_is_integer)
local macro_rules | `(tactic| walk_at "call") => `(tactic| exact r_is_count)
local macro_rules | `(tactic| walk_at "call") => `(tactic| exact r_is_count_from (by omega))
local macro_rules | `(tactic| walk_at "call") => `(tactic| exact mk_fill (by omega))
local macro_rules | `(tactic| walk_at "call") => `(tactic| exact mk_free)
local macro_rules | `(tactic| walk_at "call") => `(tactic| exact r_word)
local macro_rules | `(tactic| walk_at "call") => `(tactic| exact r_ext)
local macro_rules | `(tactic| walk_at "call") => `(tactic| with_reducible assumption)
/-! works -/
def okFs (fs : List (Bool × Int)) : Prop := ∀ f ∈ fs, okF f
theorem shcW {n : Nat} : pg.shc j_Work n [] = some [.t 0] := by
  show (if ([] : List Str) = [] ∧ 2 ≤ n + 2 ∧ 2 ≤ 2 then some (starSh 0) else none) = _
  rw [if_pos ⟨rfl, by omega, by omega⟩]
  rfl
theorem mk_work {N : Nat} {fs : List (Bool × Int)} {m : List Dt} (hl : fs.length ≤ 126) : D (N + 2) j_Work [.tup (fs.map fD)] m = .ok (.p (wkD fs)) m := by
  obtain ⟨S', h1, x2, x3, rfl⟩ := s_for_inv (P := pg) (cf := C (N + 1)) (ci := D (N + 1)) (S := ⟨[some (.o (.ins j_Work [] [])), some (.p (.tup (fs.map fD))), none, none], m⟩) (tg := .tp [(.nm 2), (.nm 3)]) (it := .enm (.var 1))
    (b := [.iff (.or2 (.not1 (.isi (.var 3) [.own j_Fill])) (.cmp .Eq (.fld (.var 3) "word") (.glo "FREE" (.str "free")))) [.nev] []])
    (fun S => ∃ x2 x3, S = ⟨[some (.o (.ins j_Work [] [])), some (.p (.tup (fs.map fD))), x2, x3], m⟩) (v_enm (e_var rfl)) rfl ⟨_, _, rfl⟩ (fun y hy S hS => by
      obtain ⟨x2, x3, rfl⟩ := hS
      obtain ⟨i, d, hd, rfl⟩ := mem_enmL hy
      obtain ⟨f, _, rfl⟩ := List.mem_map.mp hd
      have h2 := eqFr (b := f.1)
      have e : evSs pg (C (N + 1)) (D (N + 1)) [.iff (.or2 (.not1 (.isi (.var 3) [.own j_Fill])) (.cmp .Eq (.fld (.var 3) "word") (.glo "FREE" (.str "free")))) [.nev] []] ⟨[some (.o (.ins j_Work [] [])), some (.p (.tup (fs.map fD))), some (.p (.int i)), some (.p (fD f))], m⟩ = .nx ⟨[some (.o (.ins j_Work [] [])), some (.p (.tup (fs.map fD))), some (.p (.int i)), some (.p (fD f))], m⟩ := by
        walk_at "ss"
      exact ⟨_, rfl, _, e, _, _, rfl⟩)
  refine q_make (hl := ⟨rfl, le_b rfl⟩) (hg := rfl) (hcl := rfl) (s_cons h1 (s_cons (s_iff_f (e_cmp (e_bi (e_cons (e_var rfl) e_nil) rfl) e_glo (c_pl rfl rfl)) (decide_eq_false (by simp; omega)) s_nil) (s_cons (s_fld (e_bi (e_cons (e_var rfl) e_nil) rfl) rfl rfl (le_b rfl)) s_nil))) rfl rfl rfl
theorem r_fills {N : Nat} {fs : List (Bool × Int)} {m : List Dt} : C (N + 1) i_Work_fills [wkD fs] m = .ok (.o (.lst (fs.map fD))) m := by
  walk_at "runO"
theorem r_wlen {N : Nat} {fs : List (Bool × Int)} {m : List Dt} : C (N + 1) i_Work___len__ [wkD fs] m = .ok (.p (.int fs.length)) m := by
  refine q_run (hg := rfl) ⟨rfl, le_b rfl⟩ rfl (s_stop (s_ret (e_bi (e_cons (e_fld (e_var rfl) rfl rfl rfl) e_nil) rfl))) (by simp) rfl
theorem two_maps {a b : List (Bool × Int)} : a.map fD ++ (b.map fD ++ []) = (a ++ b).map fD := by simp
theorem e_two {cf ci : Nat → List Dt → List Dt → Rc} {S S1 : Sto} {x y : PyI.Tm} {m : List Dt} {r : List (Option Bn)} {a b : List (Bool × Int)} {m' : List Dt} (hx : evE pg cf ci x S = .ok (.lst (a.map fD)) S1) (hy : evE pg cf ci y S1 = .ok (.lst (b.map fD)) ⟨r, m⟩) (hl : a.length + b.length ≤ 126) (h : ci j_Work [.tup ((a ++ b).map fD)] m = .ok (.p (wkD (a ++ b))) m') : evE pg cf ci (.makeS j_Work [(.star x), (.star y)]) S = .ok (wkD (a ++ b)) ⟨r, m'⟩ := by
  refine v_makeS (ds0 := [.lst (a.map fD), .lst (b.map fD)]) (ds := (a ++ b).map fD) (e_cons (v_starL hx) (e_cons (v_starL hy) e_nil)) ?_ shcW (pick_t ?_) h
  · rw [← two_maps]; rfl
  · rw [List.length_map, List.length_append]; exact Nat.le_trans hl (by decide)
theorem r_add_ww {N : Nat} {a b : List (Bool × Int)} {m : List Dt} (hl : a.length + b.length ≤ 126) : C (N + 3) i_Work___add__ [wkD a, wkD b] m = .ok (.p (wkD (a ++ b))) m :=
  q_run (hg := rfl) ⟨rfl, le_b rfl⟩ rfl (s_stop (s_iff_t (e_isi (e_var rfl) rfl) rfl (s_stop (s_ret (e_two (e_fld (e_var rfl) rfl rfl rfl) (e_fld (e_var rfl) rfl rfl rfl) hl (mk_work (by simpa using hl))))))) rfl rfl
theorem r_add_wf {N : Nat} {a : List (Bool × Int)} {f : Bool × Int} {m : List Dt} (hl : a.length + 1 ≤ 126) : C (N + 3) i_Work___add__ [wkD a, fD f] m = .ok (.p (wkD (a ++ [f]))) m :=
  q_run (hg := rfl) ⟨rfl, le_b rfl⟩ rfl (s_cons (s_iff_f (e_isi (e_var rfl) rfl) rfl s_nil) (s_cons (s_iff_f (e_not (e_isi (e_var rfl) rfl)) rfl s_nil)
    (s_cons (w_asg (e_ife_f (e_cmp (w_prop (e_var rfl) rfl r_word) e_glo (c_pl rfl eqFr)) rfl (e_lst (e_cons (e_var rfl) e_nil) (le_b rfl))) rfl)
    (s_stop (s_ret (e_two (b := [f]) (e_fld (e_var rfl) rfl rfl rfl) (e_var rfl) hl (mk_work (by simpa using hl)))))))) rfl rfl
theorem r_add_free {N : Nat} {a : List (Bool × Int)} {m : List Dt} (hl : a.length ≤ 126) : C (N + 3) i_Work___add__ [wkD a, frD] m = .ok (.p (wkD a)) m :=
  q_run (hg := rfl) ⟨rfl, le_b rfl⟩ rfl (s_cons (s_iff_f (e_isi (e_var rfl) rfl) rfl s_nil) (s_cons (s_iff_f (e_not (e_isi (e_var rfl) rfl)) rfl s_nil)
    (s_cons (w_asg (e_ife_t (e_cmp (w_prop (e_var rfl) rfl r_word) e_glo (c_pl rfl (k := true) (by kernel_rfl))) rfl (e_lst e_nil (le_b rfl))) rfl)
    (s_stop (s_ret (e_two (b := []) (e_fld (e_var rfl) rfl rfl rfl) (e_var rfl) hl (mk_work (by simpa using hl)))))))) (by rw [List.append_nil]) rfl
/-! == of works -/
theorem eq_own {N : Nat} {f g : Bool × Int} {m : List Dt} (hm : m.all flatC = true) : eqOwn pg (C (N + 1)) (fD f) (fD g) m = some (decide (f = g)) := by
  have e : eqOwn pg (C (N + 1)) (fD f) (fD g) m = (match C (N + 1) i_Fill___eq__ [fD f, fD g] m with
    | .ok (.p (.bl r)) m' => if dtsF m' m = true then (if r = true then some true else if sameI (fD f) (fD g) = true then none else some false) else none
    | _ => none) := rfl
  rw [e, r_feq]
  simp only [dtsF_flat hm, if_true]
  obtain ⟨f1, f2⟩ := f
  obtain ⟨g1, g2⟩ := g
  by_cases h : f1 = g1 ∧ f2 = g2
  · obtain ⟨rfl, rfl⟩ := h
    simp
  · have h1 : ((f1 == g1) && decide (f2 = g2)) = false := by
      simp only [Bool.and_eq_false_iff, beq_eq_false_iff_ne, decide_eq_false_iff_not]
      by_cases z : f1 = g1
      · exact .inr fun z2 => h ⟨z, z2⟩
      · exact .inl z
    have h2 : sameI (fD (f1, f2)) (fD (g1, g2)) = false := by
      have hw : decide (wz f1 = wz g1) = (f1 == g1) := by cases f1 <;> cases g1 <;> kernel_rfl
      simp only [sameI, dtsF, dtF, decide_true, Bool.true_and, Bool.and_true, hw]
      exact h1
    simp only [h1, h2, Bool.false_eq_true, if_false]
    simp only [Prod.mk.injEq, h, decide_false]
theorem ls_eq {N : Nat} {m : List Dt} (hm : m.all flatC = true) : ∀ {a b : List (Bool × Int)}, lsEq pg (C (N + 1)) m (a.map fD) (b.map fD) = some (decide (a = b))
  | [], [] => by simp [lsEq]
  | [], _ :: _ => by simp [lsEq]
  | _ :: _, [] => by simp [lsEq]
  | f :: a, g :: b => by
    rw [List.map_cons, List.map_cons, lsEq, eq_own hm]
    by_cases h : f = g
    · subst h
      simp only [decide_true]
      rw [ls_eq hm]
      simp
    · simp [h]
theorem eqD_w {a b : List (Bool × Int)} : eqD (.lst (a.map fD)) (.lst (b.map fD)) = none ∨ (a = [] ∧ b = [] ∧ eqD (.lst (a.map fD)) (.lst (b.map fD)) = some true) := by
  cases a with
  | cons f a => left; simp [eqD, toPy, toPys]
  | nil =>
    cases b with
    | cons g b => left; simp [eqD, toPy, toPys]
    | nil => right; exact ⟨rfl, rfl, by kernel_rfl⟩
theorem lst_eq {N : Nat} {a b : List (Bool × Int)} {m : List Dt} (hm : m.all flatC = true) : lstEq pg (C (N + 1)) (a.map fD) (b.map fD) m = some (decide (a = b)) := by
  unfold lstEq
  rcases eqD_w (a := a) (b := b) with h | ⟨rfl, rfl, h⟩
  · rw [h]
    simp only [List.length_map]
    by_cases hl : a.length = b.length
    · rw [if_pos hl, ls_eq hm]
    · rw [if_neg hl, decide_eq_false fun z => hl (by rw [z])]
  · rw [h]; rfl
theorem r_weq {N : Nat} {a b : List (Bool × Int)} {m : List Dt} (hm : m.all flatC = true) : C (N + 2) i_Work___eq__ [wkD a, wkD b] m = .ok (.p (.bl (decide (a = b)))) m :=
  q_run (hg := rfl) ⟨rfl, le_b rfl⟩ rfl (s_cons (s_iff_f (e_not (e_isi (e_var rfl) rfl)) rfl s_nil) (s_stop (s_ret (e_cmp (e_fld (e_var rfl) rfl rfl rfl) (e_fld (e_var rfl) rfl rfl rfl) (c_lst (lst_eq hm)))))) rfl rfl
theorem r_weq_no {N : Nat} {a : List (Bool × Int)} {y : Dt} {m : List Dt} (hy : isTs pg y [.own j_Work] = some false) : C (N + 1) i_Work___eq__ [wkD a, y] m = .ok (.p (.bl false)) m :=
  q_run (hg := rfl) ⟨rfl, le_b rfl⟩ rfl (s_stop (s_iff_t (e_not (e_isi (e_var rfl) hy)) rfl (s_stop (s_ret e_cst)))) rfl rfl
/-! texts of works -/
def wT (fs : List (Bool × Int)) : Str := Str.ofString "Work(" ++ Txt.join (Str.ofString ", ") (fs.map fT) ++ Str.ofString ")"
theorem fTs_ok {fs : List (Bool × Int)} (h : okFs fs) : ∀ t ∈ fs.map fT, PyData.strOk t = true ∧ t.length ≤ 20 := fun t ht => by
  obtain ⟨f, hf, rfl⟩ := List.mem_map.mp ht
  exact fT_ok (h f hf)
theorem wj_ok {fs : List (Bool × Int)} (h : okFs fs) (hl : fs.length ≤ 126) : PyData.strOk (Txt.join (Str.ofString ", ") (fs.map fT)) = true ∧ (Txt.join (Str.ofString ", ") (fs.map fT)).length ≤ 2772 ∧ joinOk (Str.ofString ", ") (fs.map fT) = true := by
  obtain ⟨h1, h2⟩ := join_ok (s := Str.ofString ", ") (strOk_of _) (fTs_ok h)
  have e2 : (Str.ofString ", ").length = 2 := rfl
  rw [List.length_map, e2] at h2
  refine ⟨h1, by omega, joinOk_of (L := 20) (fun t ht => (fTs_ok h t ht).2) ?_⟩
  rw [List.length_map, e2]
  omega
theorem wT_ok {fs : List (Bool × Int)} (h : okFs fs) (hl : fs.length ≤ 126) : PyData.strOk (wT fs) = true := by
  unfold wT
  rw [strOk_app, strOk_app, (wj_ok h hl).1, strOk_of, strOk_of]
  rfl
theorem r_wrepr {N : Nat} {fs : List (Bool × Int)} {m : List Dt} (h : okFs fs) (hl : fs.length ≤ 126) : C (N + 2) i_Work___repr__ [wkD fs] m = .ok (.p (.str (wT fs))) m := by
  obtain ⟨j1, j2, j3⟩ := wj_ok h hl
  have big : 16777216 = sizeLine := rfl
  have e1 : (Str.ofString "Work(").length = 5 := rfl
  have e3 : (Str.ofString ")").length = 1 := rfl
  refine q_run (hg := rfl) ⟨rfl, le_b rfl⟩ rfl (s_stop (s_ret (e_fst (j_cons e_cst ?_ (j_cons (v_fmsS (v_join (ts := fs.map fT) e_cst (e_compM (l := fs) (g := fD) (v := fun f => .str (fT f)) (e_fld (e_var rfl) rfl rfl rfl) rfl (Nat.le_trans hl (by decide)) rfl (fun f hf => ⟨_, rfl, rfl, e_cst, e_bi (e_cons (e_var rfl) e_nil) (b_repr rfl (r_frepr (h f hf)))⟩)) strsD_map j3) ?_) ?_ (j_cons e_cst ?_ j_nil)))))) ?_ rfl
  · rw [empty_app]; exact le_b (by kernel_rfl)
  · omega
  · rw [empty_app, len_app]; omega
  · rw [empty_app, len_app, len_app]; omega
  · rw [empty_app]; rfl
/-! rows of bits -/
def bitD (d : Dt) : Prop := d = .int 0 ∨ d = .int 1 ∨ d = .non
theorem r_is_bit {N : Nat} {d : Dt} {m : List Dt} (h : bitD d) : C (N + 2) i_is_bit [d] m = .ok (.p (.bl true)) m := by
  rcases h with h | h | h <;> subst h <;> kernel_rfl
theorem r_is_list {N : Nat} {x : Dt} {m : List Dt} (h : isTs pg x [.list, .tuple] = some true) : C (N + 1) i_is_list [x] m = .ok (.p (.bl true)) m :=
  q_run (hg := rfl) ⟨rfl, le_b rfl⟩ rfl (s_stop (s_ret (e_isi (e_var rfl) h))) rfl rfl
theorem r_want_bits {N : Nat} {x : Dt} {bs m : List Dt} (hb : ∀ d ∈ bs, bitD d) (h : isTs pg x [.list, .tuple] = some true) (he : enmD x = some (enmL 0 bs)) : C (N + 3) i_want_bits [x] m = .ok (.p .non) m := by
  obtain ⟨S', h1, x2, x3, rfl⟩ := s_for_inv (P := pg) (cf := C (N + 2)) (ci := D (N + 2)) (S := ⟨[some (.p x), none, none], m⟩) (tg := .tp [(.nm 1), (.nm 2)]) (it := .enm (.var 0))
    (b := [.iff (.not1 (.call i_is_bit [] [(.var 2)])) [.nev] []])
    (fun S => ∃ x2 x3, S = ⟨[some (.p x), x2, x3], m⟩) (v_enmG (e_var rfl) he) rfl ⟨_, _, rfl⟩ (fun y hy S hS => by
      obtain ⟨x2, x3, rfl⟩ := hS
      obtain ⟨i, d, hd, rfl⟩ := mem_enmL hy
      have e : evSs pg (C (N + 2)) (D (N + 2)) [.iff (.not1 (.call i_is_bit [] [(.var 2)])) [.nev] []] ⟨[some (.p x), some (.p (.int i)), some (.p d)], m⟩ = .nx ⟨[some (.p x), some (.p (.int i)), some (.p d)], m⟩ :=
        s_cons (s_iff_f (e_not (w_call (e_cons (e_var rfl) e_nil) rfl rfl rfl (r_is_bit (hb d hd)))) rfl s_nil) s_nil
      exact ⟨_, rfl, _, e, _, _, rfl⟩)
  exact q_end (hg := rfl) ⟨rfl, le_b rfl⟩ rfl (s_cons (s_iff_f (e_not (w_call (e_cons (e_var rfl) e_nil) rfl rfl rfl (r_is_list h))) rfl s_nil) (s_cons h1 s_nil)) rfl
/-- bits from the width on -/
def bh (w e : Int) (v : Dt) (bs : List Dt) : Nat → List Dt
  | 0 => bs
  | n + 1 => if w ≤ (n : Int) ∧ (n : Int) < e then (bh w e v bs n).set n v else bh w e v bs n
def putN (w : Nat) (v : Dt) (bs : List Dt) : Nat → List Dt
  | 0 => bs
  | n + 1 => (putN w v bs n).set (w + n) v
theorem bh_put {w e : Int} {v : Dt} {bs : List Dt} (hw : 0 ≤ w) : ∀ n : Nat, bh w e v bs n = putN w.toNat v bs ((min e n) - w).toNat
  | 0 => by
    have : (min e ((0 : Nat) : Int) - w).toNat = 0 := by omega
    rw [this]
    rfl
  | n + 1 => by
    rw [bh, bh_put hw n]
    by_cases h : w ≤ (n : Int) ∧ (n : Int) < e
    · rw [if_pos h]
      have e1 : (min e ((n + 1 : Nat) : Int) - w).toNat = (min e (n : Int) - w).toNat + 1 := by omega
      have e2 : w.toNat + (min e (n : Int) - w).toNat = n := by omega
      rw [e1, putN, e2]
    · rw [if_neg h]
      congr 1
      omega
theorem putN_len {w : Nat} {v : Dt} {bs : List Dt} : ∀ n : Nat, (putN w v bs n).length = bs.length
  | 0 => rfl
  | n + 1 => by rw [putN, List.length_set, putN_len n]
theorem bh_len {w e : Int} {v : Dt} {bs : List Dt} : ∀ n : Nat, (bh w e v bs n).length = bs.length
  | 0 => rfl
  | n + 1 => by
    rw [bh]
    split
    · rw [List.length_set, bh_len n]
    · exact bh_len n
theorem putN_low {w i : Nat} {v : Dt} {bs : List Dt} (h : i < w) : ∀ n : Nat, (putN w v bs n)[i]? = bs[i]?
  | 0 => rfl
  | n + 1 => by rw [putN, List.getElem?_set_ne (by omega), putN_low h n]
theorem bh_low {w e : Int} {i : Nat} {v : Dt} {bs : List Dt} (h : (i : Int) < w) : ∀ n : Nat, (bh w e v bs n)[i]? = bs[i]?
  | 0 => rfl
  | n + 1 => by
    rw [bh]
    split
    · rw [List.getElem?_set_ne (by omega), bh_low h n]
    · exact bh_low h n
theorem bh_all {w e : Int} {v : Dt} {bs : List Dt} (hv : bitD v) (hb : ∀ d ∈ bs, bitD d) : ∀ n : Nat, ∀ d ∈ bh w e v bs n, bitD d
  | 0 => hb
  | n + 1 => by
    rw [bh]
    split
    · intro d hd
      rcases List.mem_or_eq_of_mem_set hd with z | z
      · exact bh_all hv hb n d z
      · subst z; exact hv
    · exact bh_all hv hb n
def fillV (w : Int) (f : Bool × Int) (bs : List Dt) : Dt := if f.1 = true then .int 0 else (bs[(w - 1).toNat]?).getD .non
def fillL (w : Int) (f : Bool × Int) (bs : List Dt) : List Dt := bh w f.2 (fillV w f bs) bs bs.length
theorem fillL_len {w : Int} {f : Bool × Int} {bs : List Dt} : (fillL w f bs).length = bs.length := bh_len _
theorem fillL_all {w : Int} {f : Bool × Int} {bs : List Dt} (hb : ∀ d ∈ bs, bitD d) : ∀ d ∈ fillL w f bs, bitD d := by
  refine bh_all ?_ hb _
  unfold fillV
  split
  · exact .inl rfl
  · cases e : bs[(w - 1).toNat]? with
    | none => exact .inr (.inr rfl)
    | some d => exact hb d (List.mem_of_getElem? e)
theorem fillL_put {w : Int} {f : Bool × Int} {bs : List Dt} (hw : 0 ≤ w) : fillL w f bs = putN w.toNat (fillV w f bs) bs (min f.2 bs.length - w).toNat := bh_put hw _
theorem r_filled {N : Nat} {bs : List Dt} {w : Int} {f : Bool × Int} {m : List Dt} (hw : 2 ≤ w ∧ w ≤ 128) (hf : okF f) (hl : bs.length ≤ 1000) : C (N + 2) i_filled [.lst bs, .int w, fD f] m = .ok (.o (.lst (fillL w f bs))) m := by
  unfold okF at hf
  have hmin : bi1 pg (C (N + 1)) .min [.int f.2, .int bs.length] ⟨[some (.p (.lst bs)), some (.p (.int w)), some (.p (fD f)), some (.o (.lst bs)), none], m⟩ = .ok (.int (min f.2 bs.length)) ⟨[some (.p (.lst bs)), some (.p (.int w)), some (.p (fD f)), some (.o (.lst bs)), none], m⟩ := by
    simp only [bi1, biD, okD]
    congr 2
    split <;> omega
  obtain ⟨S', h1, x4, rfl⟩ := v_for (P := pg) (cf := C (N + 1)) (ci := D (N + 1)) (S := ⟨[some (.p (.lst bs)), some (.p (.int w)), some (.p (fD f)), some (.o (.lst bs)), none], m⟩) (tg := .nm 4) (it := .rng2 (.var 1) (.bi .min [(.fld (.var 2) "extent"), (.lenB 3)]))
    (bd := [.putB 3 (.var 4) (.ife (.cmp .Eq (.fld (.var 2) "word") (.glo "ZEROS" (.str "zeros"))) (.cst (.int 0)) (.ixB 3 (.bin .Sub (.var 1) (.cst (.int 1)))))])
    (fun n S => ∃ x4, S = ⟨[some (.p (.lst bs)), some (.p (.int w)), some (.p (fD f)), some (.o (.lst (putN w.toNat (fillV w f bs) bs n))), x4], m⟩)
    (e_rng2 (e_var rfl) (e_bi (e_cons (w_prop (e_var rfl) rfl r_ext) (e_cons (v_lenB rfl) e_nil)) hmin) (by rw [small_i (by omega), small_i (by omega)]; rfl)) rfl ⟨_, rfl⟩ (fun n y hy S hS => by
      obtain ⟨x4, rfl⟩ := hS
      obtain ⟨rfl, hn⟩ := rg_at hy
      refine ⟨_, rfl, ?_⟩
      have hz := eqZ (b := f.1)
      have hv : evE pg (C (N + 1)) (D (N + 1)) (.ife (.cmp .Eq (.fld (.var 2) "word") (.glo "ZEROS" (.str "zeros"))) (.cst (.int 0)) (.ixB 3 (.bin .Sub (.var 1) (.cst (.int 1))))) ⟨[some (.p (.lst bs)), some (.p (.int w)), some (.p (fD f)), some (.o (.lst (putN w.toNat (fillV w f bs) bs n))), some (.p (.int (w + n)))], m⟩ = .ok (fillV w f bs) ⟨[some (.p (.lst bs)), some (.p (.int w)), some (.p (fD f)), some (.o (.lst (putN w.toNat (fillV w f bs) bs n))), some (.p (.int (w + n)))], m⟩ := by
        cases hb : f.1 with
        | true =>
          have : fillV w f bs = .int 0 := by unfold fillV; rw [if_pos hb]
          rw [this]
          exact e_ife_t (e_cmp (w_prop (e_var rfl) rfl r_word) e_glo (c_pl rfl hz)) hb e_cst
        | false =>
          refine e_ife_f (e_cmp (w_prop (e_var rfl) rfl r_word) e_glo (c_pl rfl hz)) hb (v_ixB rfl (e_bin (e_var rfl) e_cst rfl) rfl (at_ix (by omega) ?_))
          rw [putN_low (by omega)]
          unfold fillV
          rw [hb, if_neg (by decide)]
          rw [List.getElem?_eq_getElem (show (w - 1).toNat < bs.length by omega)]
          rfl
      refine ⟨_, s_cons (v_putB hv rfl (e_var rfl) rfl (ixN_of (by omega) (by rw [putN_len]; omega))) s_nil, some (.p (.int (w + n))), ?_⟩
      show (⟨[_, _, _, some (.o (.lst ((putN w.toNat (fillV w f bs) bs n).set (w + (n : Int)).toNat (fillV w f bs)))), _], m⟩ : Sto) = _
      rw [show (w + (n : Int)).toNat = w.toNat + n by omega]
      rfl)
  have e : (rangeD w (min f.2 bs.length)).length = (min f.2 bs.length - w).toNat := len_rangeD
  have h0 := neFr (b := f.1)
  refine q_runO (hg := rfl) ⟨rfl, le_b rfl⟩ rfl (s_cons (v_asgO (e_bi (e_cons (e_var rfl) e_nil) rfl) (le_b rfl)) (s_cons (s_iff_t (e_cmp (w_prop (e_var rfl) rfl r_word) e_glo (c_pl rfl h0)) rfl (s_cons h1 s_nil)) (s_stop (v_retO rfl)))) ?_ rfl
  rw [fillL_put (by omega), e]
def fillsL (w : Int) (fs : List (Bool × Int)) (bs : List Dt) : List Dt := fs.foldl (fun b f => fillL w f b) bs
theorem fillsL_app {w : Int} {a b : List (Bool × Int)} {bs : List Dt} : fillsL w (a ++ b) bs = fillsL w b (fillsL w a bs) := List.foldl_append
theorem fillsL_len {w : Int} : ∀ {fs : List (Bool × Int)} {bs : List Dt}, (fillsL w fs bs).length = bs.length
  | [], _ => rfl
  | f :: fs, bs => by
    show (fillsL w fs (fillL w f bs)).length = _
    rw [fillsL_len, fillL_len]
theorem fillsL_all {w : Int} : ∀ {fs : List (Bool × Int)} {bs : List Dt}, (∀ d ∈ bs, bitD d) → ∀ d ∈ fillsL w fs bs, bitD d
  | [], _, h => h
  | f :: fs, bs, h => fillsL_all (fs := fs) (fillL_all h)
theorem take_at {fs : List (Bool × Int)} {n : Nat} {f : Bool × Int} (h : fs[n]? = some f) : fs.take (n + 1) = fs.take n ++ [f] := by
  rw [List.take_add_one, h]
  rfl
theorem r_wcall {N : Nat} {x : Dt} {bs : List Dt} {w : Int} {fs : List (Bool × Int)} {m : List Dt} (hw : 2 ≤ w ∧ w ≤ 128) (hfs : okFs fs) (hl : bs.length ≤ 1000) (hb : ∀ d ∈ bs, bitD d) (h : isTs pg x [.list, .tuple] = some true) (he : enmD x = some (enmL 0 bs)) (hi : biD .list [x] = some (.lst bs)) (hx : bi1 pg (C (N + 4)) .list [x] = fun S => okD (biD .list [x]) S) :
    C (N + 5) i_Work___call__ [wkD fs, x, .int w] m = .ok (.o (.lst (fillsL w fs bs))) m := by
  obtain ⟨S', h1, x4, rfl⟩ := v_for (P := pg) (cf := C (N + 4)) (ci := D (N + 4)) (S := ⟨[some (.p (wkD fs)), some (.p x), some (.p (.int w)), some (.o (.lst bs)), none], m⟩) (tg := .nm 4) (it := .fld (.var 0) "own_fills")
    (bd := [.asgF 3 (.call i_filled [] [(.var 3), (.var 2), (.var 4)])])
    (fun n S => ∃ x4, S = ⟨[some (.p (wkD fs)), some (.p x), some (.p (.int w)), some (.o (.lst (fillsL w (fs.take n) bs))), x4], m⟩)
    (e_fld (e_var rfl) rfl rfl rfl) rfl ⟨_, rfl⟩ (fun n y hy S hS => by
      obtain ⟨x4, rfl⟩ := hS
      rw [List.getElem?_map] at hy
      cases ef : fs[n]? with
      | none => rw [ef] at hy; cases hy
      | some f =>
        rw [ef] at hy
        cases hy
        refine ⟨_, rfl, _, s_cons (v_asgF_call (e_cons (v_varO rfl) (e_cons (e_var rfl) (e_cons (e_var rfl) e_nil))) rfl rfl rfl (r_filled (N := N + 2) hw (hfs f (List.mem_of_getElem? ef)) (by rw [fillsL_len]; exact hl)) (le_b rfl)) s_nil, some (.p (fD f)), ?_⟩
        rw [take_at ef, fillsL_app]
        rfl)
  have e0 : bi1 pg (C (N + 4)) .list [x] ⟨[some (.p (wkD fs)), some (.p x), some (.p (.int w)), none, none], m⟩ = .ok (.lst bs) ⟨[some (.p (wkD fs)), some (.p x), some (.p (.int w)), none, none], m⟩ := by rw [hx]; simp only [hi, okD]
  refine q_runO (hg := rfl) ⟨rfl, le_b rfl⟩ rfl (s_cons (s_exp (w_call (e_cons (e_var rfl) e_nil) rfl rfl rfl (r_want_bits (N := N + 1) hb h he))) (s_cons (s_exp (w_call (e_cons (e_var rfl) e_nil) rfl rfl rfl (r_want_width (N := N) hw))) (s_cons (v_asgO (e_bi (e_cons (e_var rfl) e_nil) e0) (le_b rfl)) (s_cons h1 (s_stop (v_retO rfl)))))) ?_ rfl
  rw [List.length_map, List.take_length]
theorem r_wcallL {N : Nat} {bs : List Dt} {w : Int} {fs : List (Bool × Int)} {m : List Dt} (hw : 2 ≤ w ∧ w ≤ 128) (hfs : okFs fs) (hl : bs.length ≤ 1000) (hb : ∀ d ∈ bs, bitD d) : C (N + 5) i_Work___call__ [wkD fs, .lst bs, .int w] m = .ok (.o (.lst (fillsL w fs bs))) m :=
  r_wcall hw hfs hl hb rfl rfl rfl rfl
theorem r_wcallT {N : Nat} {bs : List Dt} {w : Int} {fs : List (Bool × Int)} {m : List Dt} (hw : 2 ≤ w ∧ w ≤ 128) (hfs : okFs fs) (hl : bs.length ≤ 1000) (hb : ∀ d ∈ bs, bitD d) : C (N + 5) i_Work___call__ [wkD fs, .tup bs, .int w] m = .ok (.o (.lst (fillsL w fs bs))) m :=
  r_wcall hw hfs hl hb rfl rfl rfl rfl
end K15
namespace K15
open PySem PySem.Spec PyProof.Rows PyI
local macro_rules | `(tactic| walk_at "wside") => `(tactic| first | with_reducible rfl | with_reducible assumption | omega | (simp; done) | (simp; omega))
local macro_rules | `(tactic| walk_at "wop") => `(tactic| first | with_reducible assumption | exact rfl | with_reducible exact ix_0 | with_reducible exact ix_1 | exact op_fdivI (by omega) | exact op_modI (by omega) | exact op_mulI (by omega) | exact op_mulL (by omega))
local macro_rules | `(tactic| walk_at "wcmp") => `(tactic| first | with_reducible assumption | exact eqDI | exact neDI | exact neDB | exact rfl)
local macro_rules | `(tactic| walk_at "wbi") => `(tactic| first | with_reducible assumption | exact rfl)
local macro_rules | `(tactic| walk_at "wsl") => `(tactic| first | with_reducible exact sl_lo (by omega) | with_reducible exact sl_hi (by omega))
local macro_rules | `(tactic| walk_at "wflat") => `(tactic| first | with_reducible assumption | exact flat_pot (by with_reducible assumption))
local macro_rules | `(tactic| walk_at "wbiE") => `(tactic| with_reducible assumption)
local macro_rules | `(tactic| walk_at "wcall") => `(tactic| (refine wc_ok (by with_reducible assumption) ?_))
local macro_rules | `(tactic| walk_at "wex") => `(tactic| first
  | (with_reducible refine ⟨_, rfl, ?_⟩)
  | (refine ⟨_, rfl, ?_⟩)
  | (refine ⟨_, _, rfl, by walk_at "wsl", ?_⟩)
  | (refine ⟨_, _, rfl, rfl, ?_⟩)
  | (refine ⟨_, _, _, _, rfl, rfl, rfl, ?_⟩)
  | (refine ⟨_, _, _, _, rfl, rfl, ?_⟩)
  | (refine ⟨_, _, _, rfl, ⟨rfl, Nat.le_of_ble_eq_true rfl⟩, ?_⟩)
  | (refine ⟨_, _, _, rfl, rfl, by with_reducible assumption, ?_⟩)
  | (refine ⟨_, _, _, rfl, rfl, rfl, ?_⟩)
  | (refine ⟨_, rfl, by walk_at "wside", rfl, ?_⟩)
  | (refine ⟨_, rfl, by walk_at "wside", ?_⟩)
  | (refine ⟨_, _, rfl, by walk_at "wop", ?_⟩)
  | (refine ⟨_, by walk_at "wop", ?_⟩)
  | with_reducible exact ⟨_, rfl, rfl⟩)
local macro_rules | `(tactic| walk_at "wE") => `(tactic| first
  | ((with_reducible apply we_var); exact rfl)
  | ((with_reducible apply we_varO); exact rfl)
  | with_reducible apply we_next
  | with_reducible apply we_nextL
  | ((with_reducible apply we_opD); (focus walk_at "wop"))
  | ((with_reducible apply we_cmD); exact rfl; (focus walk_at "wcmp"))
  | ((with_reducible apply we_fl); exact rfl; exact rfl; exact rfl)
  | ((with_reducible apply we_biD); (focus walk_at "wbi"))
  | ((with_reducible apply we_t); (focus walk_at "wside"))
  | ((with_reducible apply we_f); (focus walk_at "wside"))
  | ((with_reducible apply we_pr); exact rfl)
  | with_reducible apply we_ok
  | ((with_reducible apply we_andQ); exact rfl)
  | ((with_reducible apply we_orQ); exact rfl)
  | ((with_reducible apply we_opO); exact rfl; exact rfl)
  | ((with_reducible apply we_cEq); exact rfl; exact rfl)
  | ((with_reducible apply we_cIn); exact rfl)
  | ((with_reducible apply we_cNin); exact rfl)
  | ((with_reducible apply we_biR); exact rfl)
  | ((with_reducible apply we_biL); exact rfl)
  | ((with_reducible apply we_biS); exact rfl)
  | ((with_reducible apply we_cEqB); exact rfl; exact rfl)
  | with_reducible apply we_nextJ
  | with_reducible apply we_stL
  | with_reducible apply we_stT
  | ((with_reducible apply we_fmsS); (focus walk_at "wside"))
  | ((with_reducible apply we_fmsI); (focus exact log_ok (by omega)))
  | ((with_reducible apply we_fmrS); (focus walk_at "wside"))
  | ((with_reducible apply we_fmrI); (focus exact log_ok (by omega)))
  | ((with_reducible apply we_augO); exact rfl; exact rfl)
  | ((with_reducible apply we_biE); (focus walk_at "wbiE")))
local macro_rules | `(tactic| walk_at "wS") => `(tactic| first
  | with_reducible apply wt_nextB
  | with_reducible apply wt_next
  | ((with_reducible apply wt_t); (focus walk_at "wside"))
  | ((with_reducible apply wt_f); (focus walk_at "wside")))
local macro_rules | `(tactic| walk_at "wA") => `(tactic| first
  | with_reducible exact ⟨rfl, rfl⟩
  | (refine And.intro ⟨rfl, rfl, by walk_at "wflat"⟩ ?_)
  | (refine And.intro ⟨Nat.le_of_ble_eq_true rfl, Nat.le_of_ble_eq_true rfl⟩ ?_)
  | (refine And.intro ⟨Nat.le_of_ble_eq_true rfl, Nat.le_of_ble_eq_true rfl, Nat.le_of_ble_eq_true rfl⟩ ?_)
  | (refine And.intro (Nat.le_of_ble_eq_true rfl) ?_)
  | (refine And.intro (small_i (by omega)) ?_)
  | (refine And.intro (sz_le (by first | omega | (simp; omega))) ?_)
  | (refine And.intro (sz_lt (by first | omega | (simp; omega))) ?_)
  | (refine And.intro (small_2 (by omega) (by omega)) ?_)
  | (refine And.intro rfl ?_))
local macro_rules | `(tactic| walk_at "wQ") => `(tactic| first
  | with_reducible apply wk_p
  | ((with_reducible apply sq_nxN); (focus walk_at "wnr"))
  | with_reducible apply sq_rt
  | with_reducible apply fn_rt
  | with_reducible apply fq_nx
  | with_reducible apply fn_nx
  | with_reducible apply wk_o
  | with_reducible apply sq_ct
  | with_reducible apply sq_bk
  | with_reducible apply fq_rt
  | with_reducible apply fq_ct
  | with_reducible apply fq_bk
  | ((with_reducible apply in_nx); exact rfl)
  | with_reducible apply wk_b
  | with_reducible apply wk_n
  | with_reducible apply wk_s
  | ((with_reducible apply wk_l); (focus omega))
  | ((with_reducible apply wb_lst); exact Nat.le_of_ble_eq_true rfl)
  | ((with_reducible apply wb_p); exact Nat.le_of_ble_eq_true rfl))
local macro_rules | `(tactic| walk_at "wnr") => `(tactic| ((try dsimp only [List.map, List.map_cons, List.map_nil, List.replicate_succ, List.replicate_zero, List.cons_append, List.nil_append, List.set_cons_succ, List.set_cons_zero, Nat.reduceSub]); with_reducible exact Nrm.same))
local macro_rules | `(tactic| walk_at "wn") => `(tactic| dsimp only [List.map, List.map_cons, List.map_nil, List.replicate, List.cons_append, List.nil_append, List.set_cons_succ, List.set_cons_zero, Nat.reduceSub])
local macro_rules | `(tactic| walk_at "w1") => `(tactic| first
  | ((with_reducible apply gWe); walk_at "wE")
  | ((with_reducible apply gEx); walk_at "wex")
  | ((with_reducible apply gWt); walk_at "wS")
  | ((with_reducible apply gAn); walk_at "wA")
  | ((with_reducible apply gWc); walk_at "wcall")
  | walk_at "wQ"
  | with_reducible rfl)
local macro_rules | `(tactic| walk_at "w") => `(tactic| repeat (walk_at "w1"))
local macro_rules | `(tactic| walk_at "fn") => `(tactic| (apply wc_fnN (hg := rfl); exact ⟨rfl, Nat.le_of_ble_eq_true rfl⟩; (focus walk_at "wnr"); walk_at "w"))
local macro_rules | `(tactic| walk_at "ini") => `(tactic| (apply wc_iniN (hcl := rfl) (hg := rfl); exact ⟨rfl, Nat.le_of_ble_eq_true rfl⟩; (focus walk_at "wnr"); walk_at "w"))
local macro_rules | `(tactic| walk_at "wcall") => `(tactic| refine wc_ok r_is_integer ?_)
local macro_rules | `(tactic| walk_at "wcall") => `(tactic| refine wc_ok (by with_reducible assumption) ?_)
/-! the law's parts -/
theorem c_draw {N k : Nat} {s : Int} {p : Pot} {m : List Dt} {K : Bn → List Dt → Prop} {X : Nat → List Str → List Dt → List Dt → Prop} (hk : k < m.length) (hs : 0 < s ∧ s < 1073741824) (h : ∀ (d : Int) (p' : Pot), (0 ≤ d ∧ d < s) → K (.p (.int d)) (m.set k (potD p'))) : Wc (C (N + 1) i_l_draw [.cel k, .int s] (m.set k (potD p))) K X := wc_draw rfl hk hs h
theorem c_pick {N k : Nat} {ds : List Dt} {p : Pot} {m : List Dt} {K : Bn → List Dt → Prop} {X : Nat → List Str → List Dt → List Dt → Prop} (hk : k < m.length) (hs : 0 < ds.length ∧ ds.length < 1073741824) (h : ∀ (x : Dt) (p' : Pot), x ∈ ds → K (.p x) (m.set k (potD p'))) : Wc (C (N + 2) i_l_pick [.cel k, .lst ds] (m.set k (potD p))) K X := wc_pick rfl rfl rfl hk hs h
/-! fills that may be free -/
def wO : Option (Bool × Int) → Str
  | none => "free"
  | some f => wz f.1
def eO : Option (Bool × Int) → Dt
  | none => .non
  | some f => .int f.2
abbrev foD (o : Option (Bool × Int)) : Dt := flD (wO o) (eO o)
theorem eqFrO {o : Option (Bool × Int)} : cmpD .Eq (.str (wO o)) (.str (Str.ofString "free")) = some o.isNone := by
  cases o with
  | none => kernel_rfl
  | some f => exact eqFr
theorem neFrO {o : Option (Bool × Int)} : cmpD .NotEq (.str (wO o)) (.str (Str.ofString "free")) = some o.isSome := by
  cases o with
  | none => kernel_rfl
  | some f => exact neFr
theorem eqWO {o : Option (Bool × Int)} {g : Bool × Int} : cmpD .Eq (.str (wO o)) (.str (wO (some g))) = some (match o with | none => false | some f => f.1 == g.1) := by
  cases o with
  | none =>
    show cmpD .Eq (.str (Str.ofString "free")) (.str (wz g.1)) = _
    cases g.1 <;> kernel_rfl
  | some f => exact eqW
def cutF (w room : Int) (f : Bool × Int) : Option (Bool × Int) := if w < (if room < f.2 then room else f.2) then some (f.1, if room < f.2 then room else f.2) else none
theorem r_cut {N : Nat} {f : Bool × Int} {w b : Int} {m : List Dt} (hf : okF f) (hw : 2 ≤ w ∧ w ≤ b ∧ b ≤ 128) : C (N + 5) i_Fill_cut [fD f, .int w, .int b] m = .ok (.p (foD (cutF w b f))) m := by
  apply wc_eq
  unfold okF at hf
  have e1 := eqFr (b := f.1)
  have h1 := r_want_width (N := N) (m := m) (v := w) (by omega)
  have h2 := r_is_count_from (N := N + 1) (m := m) (v := b) (a := w) (b := 128) (by omega)
  by_cases h3 : b < f.2
  · by_cases h4 : w < b
    · walk_at "fn"
      refine wc_ok (mk_fill (b := f.1) (by omega)) ?_
      walk_at "w"
      exact ⟨by simp [cutF, foD, wO, eO, h3, h4], rfl⟩
    · walk_at "fn"
      refine wc_ok mk_free ?_
      walk_at "w"
      exact ⟨by simp [cutF, foD, wO, eO, h3, h4], rfl⟩
  · by_cases h4 : w < f.2
    · walk_at "fn"
      refine wc_ok (mk_fill (b := f.1) (by omega)) ?_
      walk_at "w"
      exact ⟨by simp [cutF, foD, wO, eO, h3, h4], rfl⟩
    · walk_at "fn"
      refine wc_ok mk_free ?_
      walk_at "w"
      exact ⟨by simp [cutF, foD, wO, eO, h3, h4], rfl⟩
/-- what is within the row -/
def okO (w b : Int) : Option (Bool × Int) → Prop
  | none => True
  | some f => w < f.2 ∧ f.2 ≤ b
theorem ok_cut {w b : Int} {f : Bool × Int} : okO w b (cutF w b f) := by
  unfold cutF
  by_cases h3 : b < f.2
  · rw [if_pos h3]
    by_cases h : w < b
    · rw [if_pos h]; exact ⟨h, by show b ≤ b; omega⟩
    · rw [if_neg h]; trivial
  · rw [if_neg h3]
    by_cases h : w < f.2
    · rw [if_pos h]; exact ⟨h, by show f.2 ≤ b; omega⟩
    · rw [if_neg h]; trivial
theorem okFs_o {w b : Int} {o : Option (Bool × Int)} (h : okO w b o) (hw : 2 ≤ w ∧ b ≤ 128) : okFs o.toList := by
  cases o with
  | none => intro f hf; cases hf
  | some g =>
    intro f hf
    rw [Option.toList_some, List.mem_singleton] at hf
    subst hf
    have h : w < f.2 ∧ f.2 ≤ b := h
    unfold okF
    omega
theorem r_work {N : Nat} {o : Option (Bool × Int)} {m : List Dt} : C (N + 4) i_l_work [foD o] m = .ok (.p (wkD o.toList)) m := by
  apply wc_eq
  have e := eqFrO (o := o)
  cases o with
  | none =>
    walk_at "fn"
    refine wc_ok r_word ?_
    walk_at "w"
    refine wc_ok (mk_work (fs := []) (by simp)) ?_
    walk_at "w"
  | some f =>
    walk_at "fn"
    refine wc_ok r_word ?_
    walk_at "w"
    refine wc_ok (mk_work (fs := [f]) (by simp)) ?_
    walk_at "w"
def covB : Option (Bool × Int) → Option (Bool × Int) → Bool
  | _, none => true
  | none, some _ => false
  | some f, some g => (f.1 == g.1) && decide (g.2 ≤ f.2)
theorem r_want_fill {N : Nat} {o : Option (Bool × Int)} {m : List Dt} : C (N + 1) i_want_fill [foD o] m = .ok (.p .non) m := by
  apply wc_eq
  walk_at "fn"
theorem r_covers {N : Nat} {a b : Option (Bool × Int)} {m : List Dt} : C (N + 2) i_Fill_covers [foD a, foD b] m = .ok (.p (.bl (covB a b))) m := by
  apply wc_eq
  have h0 := r_want_fill (N := N) (o := b) (m := m)
  have e1 := eqFrO (o := b)
  cases b with
  | none =>
    walk_at "fn"
    refine wc_ok r_word ?_
    walk_at "w"
  | some g =>
    have e2 := eqWO (o := a) (g := g)
    cases a with
    | none =>
      walk_at "fn"
      refine wc_ok r_word ?_
      walk_at "w"
      refine wc_ok r_word ?_
      walk_at "w"
    | some f =>
      walk_at "fn"
      refine wc_ok r_word ?_
      walk_at "w"
      refine wc_ok r_word ?_
      walk_at "w"
      refine wc_ok r_ext ?_
      walk_at "w"
theorem eqEO {a b : Option (Bool × Int)} : cmpD .Eq (eO a) (eO b) = some (match a, b with | none, none => true | some f, some g => decide (f.2 = g.2) | _, _ => false) := by
  cases a with
  | none =>
    cases b with
    | none => kernel_rfl
    | some g => kernel_rfl
  | some f =>
    cases b with
    | none => kernel_rfl
    | some g => exact eqDI
theorem r_feqO {N : Nat} {a b : Option (Bool × Int)} {m : List Dt} : C (N + 1) i_Fill___eq__ [foD a, foD b] m = .ok (.p (.bl (decide (a = b)))) m := by
  apply wc_eq
  have e0 := eqEO (a := a) (b := b)
  cases b with
  | none =>
    have e1 : cmpD .Eq (.str (wO a)) (.str (wO none)) = _ := eqFrO (o := a)
    cases a with
    | none => walk_at "fn"
    | some f => walk_at "fn"
  | some g =>
    have e1 := eqWO (o := a) (g := g)
    cases a with
    | none => walk_at "fn"
    | some f =>
      walk_at "fn"
      refine ⟨?_, rfl⟩
      obtain ⟨f1, f2⟩ := f
      obtain ⟨g1, g2⟩ := g
      by_cases h1 : f1 = g1 <;> by_cases h2 : f2 = g2 <;> simp [h1, h2]
end K15
namespace K15
open PySem PySem.Spec PyProof.Rows PyI
local macro_rules | `(tactic| walk_at "wside") => `(tactic| first | with_reducible rfl | with_reducible assumption | omega | (simp; done) | (simp; omega))
local macro_rules | `(tactic| walk_at "wop") => `(tactic| first | with_reducible assumption | exact rfl | with_reducible exact ix_0 | with_reducible exact ix_1 | exact op_fdivI (by omega) | exact op_modI (by omega) | exact op_mulI (by omega) | exact op_mulL (by omega))
local macro_rules | `(tactic| walk_at "wcmp") => `(tactic| first | with_reducible assumption | exact eqDI | exact neDI | exact neDB | exact rfl)
local macro_rules | `(tactic| walk_at "wbi") => `(tactic| first | with_reducible assumption | exact rfl)
local macro_rules | `(tactic| walk_at "wsl") => `(tactic| first | with_reducible exact sl_lo (by omega) | with_reducible exact sl_hi (by omega))
local macro_rules | `(tactic| walk_at "wflat") => `(tactic| first | with_reducible assumption | exact flat_pot (by with_reducible assumption))
local macro_rules | `(tactic| walk_at "wbiE") => `(tactic| with_reducible assumption)
local macro_rules | `(tactic| walk_at "wcall") => `(tactic| (refine wc_ok (by with_reducible assumption) ?_))
local macro_rules | `(tactic| walk_at "wex") => `(tactic| first
  | (with_reducible refine ⟨_, rfl, ?_⟩)
  | (refine ⟨_, rfl, ?_⟩)
  | (refine ⟨_, _, rfl, by walk_at "wsl", ?_⟩)
  | (refine ⟨_, _, rfl, rfl, ?_⟩)
  | (refine ⟨_, _, _, _, rfl, rfl, rfl, ?_⟩)
  | (refine ⟨_, _, _, _, rfl, rfl, ?_⟩)
  | (refine ⟨_, _, _, rfl, ⟨rfl, Nat.le_of_ble_eq_true rfl⟩, ?_⟩)
  | (refine ⟨_, _, _, rfl, rfl, by with_reducible assumption, ?_⟩)
  | (refine ⟨_, _, _, rfl, rfl, rfl, ?_⟩)
  | (refine ⟨_, rfl, by walk_at "wside", rfl, ?_⟩)
  | (refine ⟨_, rfl, by walk_at "wside", ?_⟩)
  | (refine ⟨_, _, rfl, by walk_at "wop", ?_⟩)
  | (refine ⟨_, by walk_at "wop", ?_⟩)
  | with_reducible exact ⟨_, rfl, rfl⟩)
local macro_rules | `(tactic| walk_at "wE") => `(tactic| first
  | ((with_reducible apply we_var); exact rfl)
  | ((with_reducible apply we_varO); exact rfl)
  | with_reducible apply we_next
  | with_reducible apply we_nextL
  | ((with_reducible apply we_opD); (focus walk_at "wop"))
  | ((with_reducible apply we_cmD); exact rfl; (focus walk_at "wcmp"))
  | ((with_reducible apply we_fl); exact rfl; exact rfl; exact rfl)
  | ((with_reducible apply we_biD); (focus walk_at "wbi"))
  | ((with_reducible apply we_t); (focus walk_at "wside"))
  | ((with_reducible apply we_f); (focus walk_at "wside"))
  | ((with_reducible apply we_pr); exact rfl)
  | with_reducible apply we_ok
  | ((with_reducible apply we_andQ); exact rfl)
  | ((with_reducible apply we_orQ); exact rfl)
  | ((with_reducible apply we_opO); exact rfl; exact rfl)
  | ((with_reducible apply we_cEq); exact rfl; exact rfl)
  | ((with_reducible apply we_cIn); exact rfl)
  | ((with_reducible apply we_cNin); exact rfl)
  | ((with_reducible apply we_biR); exact rfl)
  | ((with_reducible apply we_biL); exact rfl)
  | ((with_reducible apply we_biS); exact rfl)
  | ((with_reducible apply we_cEqB); exact rfl; exact rfl)
  | with_reducible apply we_nextJ
  | with_reducible apply we_stL
  | with_reducible apply we_stT
  | ((with_reducible apply we_fmsS); (focus walk_at "wside"))
  | ((with_reducible apply we_fmsI); (focus exact log_ok (by omega)))
  | ((with_reducible apply we_fmrS); (focus walk_at "wside"))
  | ((with_reducible apply we_fmrI); (focus exact log_ok (by omega)))
  | ((with_reducible apply we_augO); exact rfl; exact rfl)
  | ((with_reducible apply we_biE); (focus walk_at "wbiE")))
local macro_rules | `(tactic| walk_at "wS") => `(tactic| first
  | with_reducible apply wt_nextB
  | with_reducible apply wt_next
  | ((with_reducible apply wt_t); (focus walk_at "wside"))
  | ((with_reducible apply wt_f); (focus walk_at "wside")))
local macro_rules | `(tactic| walk_at "wA") => `(tactic| first
  | with_reducible exact ⟨rfl, rfl⟩
  | (refine And.intro ⟨rfl, rfl, by walk_at "wflat"⟩ ?_)
  | (refine And.intro ⟨Nat.le_of_ble_eq_true rfl, Nat.le_of_ble_eq_true rfl⟩ ?_)
  | (refine And.intro ⟨Nat.le_of_ble_eq_true rfl, Nat.le_of_ble_eq_true rfl, Nat.le_of_ble_eq_true rfl⟩ ?_)
  | (refine And.intro (Nat.le_of_ble_eq_true rfl) ?_)
  | (refine And.intro (small_i (by omega)) ?_)
  | (refine And.intro (sz_le (by first | omega | (simp; omega))) ?_)
  | (refine And.intro (sz_lt (by first | omega | (simp; omega))) ?_)
  | (refine And.intro (small_2 (by omega) (by omega)) ?_)
  | (refine And.intro rfl ?_))
local macro_rules | `(tactic| walk_at "wQ") => `(tactic| first
  | with_reducible apply wk_p
  | ((with_reducible apply sq_nxN); (focus walk_at "wnr"))
  | with_reducible apply sq_rt
  | with_reducible apply fn_rt
  | with_reducible apply fq_nx
  | with_reducible apply fn_nx
  | with_reducible apply wk_o
  | with_reducible apply sq_ct
  | with_reducible apply sq_bk
  | with_reducible apply fq_rt
  | with_reducible apply fq_ct
  | with_reducible apply fq_bk
  | ((with_reducible apply in_nx); exact rfl)
  | with_reducible apply wk_b
  | with_reducible apply wk_n
  | with_reducible apply wk_s
  | ((with_reducible apply wk_l); (focus omega))
  | ((with_reducible apply wb_lst); exact Nat.le_of_ble_eq_true rfl)
  | ((with_reducible apply wb_p); exact Nat.le_of_ble_eq_true rfl))
local macro_rules | `(tactic| walk_at "wnr") => `(tactic| ((try dsimp only [List.map, List.map_cons, List.map_nil, List.replicate_succ, List.replicate_zero, List.cons_append, List.nil_append, List.set_cons_succ, List.set_cons_zero, Nat.reduceSub]); with_reducible exact Nrm.same))
local macro_rules | `(tactic| walk_at "wn") => `(tactic| dsimp only [List.map, List.map_cons, List.map_nil, List.replicate, List.cons_append, List.nil_append, List.set_cons_succ, List.set_cons_zero, Nat.reduceSub])
local macro_rules | `(tactic| walk_at "w1") => `(tactic| first
  | ((with_reducible apply gWe); walk_at "wE")
  | ((with_reducible apply gEx); walk_at "wex")
  | ((with_reducible apply gWt); walk_at "wS")
  | ((with_reducible apply gAn); walk_at "wA")
  | ((with_reducible apply gWc); walk_at "wcall")
  | walk_at "wQ"
  | with_reducible rfl)
local macro_rules | `(tactic| walk_at "w") => `(tactic| repeat (walk_at "w1"))
local macro_rules | `(tactic| walk_at "fn") => `(tactic| (apply wc_fnN (hg := rfl); exact ⟨rfl, Nat.le_of_ble_eq_true rfl⟩; (focus walk_at "wnr"); walk_at "w"))
local macro_rules | `(tactic| walk_at "ini") => `(tactic| (apply wc_iniN (hcl := rfl) (hg := rfl); exact ⟨rfl, Nat.le_of_ble_eq_true rfl⟩; (focus walk_at "wnr"); walk_at "w"))
local macro_rules | `(tactic| walk_at "wcall") => `(tactic| refine wc_ok r_is_integer ?_)
local macro_rules | `(tactic| walk_at "wcall") => `(tactic| refine wc_ok (by with_reducible assumption) ?_)
local macro_rules | `(tactic| walk_at "wcall") => `(tactic| refine wc_ok r_word ?_)
local macro_rules | `(tactic| walk_at "wcall") => `(tactic| refine wc_ok r_ext ?_)
/-! what fills set -/
theorem cut_same {w : Int} {f : Bool × Int} {bs : List Dt} (hw : 0 ≤ w) : fillsL w (cutF w bs.length f).toList bs = fillL w f bs := by
  unfold cutF
  by_cases h : w < (if (bs.length : Int) < f.2 then (bs.length : Int) else f.2)
  · rw [if_pos h]
    show fillL w (f.1, _) bs = _
    rw [fillL_put hw, fillL_put hw]
    show putN _ (fillV w f bs) bs _ = _
    congr 2
    show min (if (bs.length : Int) < f.2 then (bs.length : Int) else f.2) _ - w = _
    split <;> omega
  · rw [if_neg h]
    show bs = _
    rw [fillL_put hw]
    have e : (min f.2 (bs.length : Int) - w).toNat = 0 := by
      split at h <;> omega
    rw [e]
    rfl
theorem r_setS {N : Nat} {m bs : List Dt} {w : Int} {f : Bool × Int} (hw : 2 ≤ w ∧ w ≤ 1000) (hl : bs.length ≤ 1000) : C (N + 2) i_l_set [foD (some f), .lst bs, .int w] m = .ok (.p (.lst (fillL w f bs))) m := by
  apply wc_eq
  walk_at "fn"
  refine wt_forL (fun j r m' => ∃ x4, r = [some (.p (foD (some f))), some (.p (.lst bs)), some (.p (.int w)), some (.o (.lst (bh w f.2 (fillV w f bs) bs j))), x4] ∧ m' = m) ⟨_, rfl, rfl⟩ ?_ ?_
  · rintro j y hy2 _ _ ⟨x6, rfl, rfl⟩
    obtain ⟨rfl, hj⟩ := rg_at hy2
    rw [show (0 : Int) + (j : Int) = j by omega]
    refine ⟨_, rfl, ?_⟩
    have hz : cmpD .Eq (.str (wO (some f))) (.str (Str.ofString "zeros")) = some f.1 := eqZ (b := f.1)
    have hn := neFrO (o := some f)
    by_cases h : w ≤ (j : Int) ∧ (j : Int) < f.2
    · have e1 : bh w f.2 (fillV w f bs) bs (j + 1) = (bh w f.2 (fillV w f bs) bs j).set j (fillV w f bs) := by rw [bh, if_pos h]
      have e2 : L2.ixN (bh w f.2 (fillV w f bs) bs j).length j = some j := by rw [ixN_of (by omega) (by rw [bh_len]; omega)]; simp
      rw [e1]
      cases hb : f.1 with
      | true =>
        have : fillV w f bs = .int 0 := by unfold fillV; rw [if_pos hb]
        rw [hb] at hz
        rw [this] at e2 ⊢
        walk_at "w"
      | false =>
        have e3 : ∀ m, ixD m (.lst bs) (.int (w - 1)) = some (fillV w f bs) := fun m => by
          refine at_ix (by omega) ?_
          unfold fillV
          rw [hb, if_neg (by decide), List.getElem?_eq_getElem (show (w - 1).toNat < bs.length by omega)]
          rfl
        have e3 := fun m => e3 m
        rw [hb] at hz
        walk_at "w"
        refine ⟨_, e3 _, ?_⟩
        walk_at "w"
    · have e1 : bh w f.2 (fillV w f bs) bs (j + 1) = bh w f.2 (fillV w f bs) bs j := by rw [bh, if_neg h]
      rw [e1]
      walk_at "w"
  · rintro _ _ ⟨x6, rfl, rfl⟩
    rw [len_rangeD]
    walk_at "w"
theorem r_setN {N : Nat} {m bs : List Dt} {w : Int} (hl : bs.length ≤ 1000) : C (N + 2) i_l_set [foD none, .lst bs, .int w] m = .ok (.p (.lst bs)) m := by
  apply wc_eq
  walk_at "fn"
  refine wt_forL (fun j r m' => ∃ x4, r = [some (.p (foD none)), some (.p (.lst bs)), some (.p (.int w)), some (.o (.lst bs)), x4] ∧ m' = m) ⟨_, rfl, rfl⟩ ?_ ?_
  · rintro j y hy2 _ _ ⟨x6, rfl, rfl⟩
    refine ⟨_, rfl, ?_⟩
    have hn := neFrO (o := none)
    walk_at "w"
  · rintro _ _ ⟨x6, rfl, rfl⟩
    walk_at "w"
theorem r_setO {N : Nat} {m bs : List Dt} {w : Int} {o : Option (Bool × Int)} (hw : 2 ≤ w ∧ w ≤ 1000) (hl : bs.length ≤ 1000) : C (N + 2) i_l_set [foD o, .lst bs, .int w] m = .ok (.p (.lst (fillsL w o.toList bs))) m := by
  cases o with
  | none => exact r_setN hl
  | some f => exact r_setS hw hl
/-! rows that show -/
def row0 (w room : Int) : List Dt := List.replicate (w - 1).toNat (.int 0) ++ [.int 1] ++ List.replicate (room - w).toNat .non
theorem rep_one {d : Dt} {n : Int} (h : 0 ≤ n ∧ n ≤ 1000) : opD .Mult (.lst [d]) (.int n) = some (.lst (List.replicate n.toNat d)) := by
  simp only [opD]
  rw [if_pos ⟨by omega, by omega, sz_le (by simp; omega)⟩]
  congr 2
  generalize n.toNat = k
  induction k with
  | zero => rfl
  | succ k ih => rw [List.replicate_succ, List.flatten_cons, ih, List.replicate_succ]; rfl
theorem cat_l {a b : List Dt} (h : a.length + b.length ≤ 100000) : opD .Add (.lst a) (.lst b) = some (.lst (a ++ b)) := by
  simp only [opD]
  rw [if_pos (sz_le (by omega))]
theorem row0_len {w room : Int} (h : 1 ≤ w ∧ w ≤ room) : ((row0 w room).length : Int) = room := by
  unfold row0
  simp
  omega
theorem row0_bits {w room : Int} : ∀ d ∈ row0 w room, bitD d := by
  intro d hd
  unfold row0 at hd
  rcases List.mem_append.mp hd with h | h
  · rcases List.mem_append.mp h with h | h
    · exact .inl (List.eq_of_mem_replicate h)
    · exact .inr (.inl (List.mem_singleton.mp h))
  · exact .inr (.inr (List.eq_of_mem_replicate h))
theorem rp_bit {d : Dt} (h : bitD d) : Rp d 4 0 := by
  rcases h with h | h | h <;> subst h
  · exact (Rp.int (by omega)).mono (by omega) (by omega)
  · exact (Rp.int (by omega)).mono (by omega) (by omega)
  · exact Rp.non
theorem rp_bits {bs : List Dt} (h : ∀ d ∈ bs, bitD d) (hl : bs.length ≤ 1000) : Rp (.lst bs) 6002 1 := (Rp.lst fun d hd => rp_bit (h d hd)).mono (by omega) (by omega)
theorem biD_rp {d : Dt} {L D : Nat} (h : Rp d L D) (hL : L ≤ sizeLine) (hD : D ≤ 20) : biD .repr [d] = some (.str (rpT d)) := by
  obtain ⟨x, e, a, b, c, f⟩ := h.ex
  unfold biD rpT
  simp only [e, a, decide_eq_true (Nat.le_trans f hL), decide_eq_true (Nat.le_trans b hD), Bool.and_self, if_true]
theorem rpB {bs : List Dt} (h : ∀ d ∈ bs, bitD d) (hl : bs.length ≤ 1000) : biD .repr [.lst bs] = some (.str (rpT (.lst bs))) := biD_rp (rp_bits h hl) (by decide) (by decide)
theorem r_shows {N : Nat} {m : List Dt} {w room : Int} {fs : List (Bool × Int)} (hw : 2 ≤ w ∧ w ≤ room ∧ room ≤ 128) (hf : okFs fs) : C (N + 6) i_l_shows [wkD fs, .int room, .int w] m = .ok (.p (.str (rpT (.lst (fillsL w fs (row0 w room)))))) m := by
  apply wc_eq
  have hl := row0_len (w := w) (room := room) (by omega)
  have o1 : opD .Mult (.lst [.int 0]) (.int (w - 1)) = some _ := rep_one (by omega)
  have o2 : opD .Mult (.lst [.non]) (.int (room - w)) = some _ := rep_one (by omega)
  have o3 : opD .Add (.lst (List.replicate (w - 1).toNat (.int 0))) (.lst [.int 1]) = some _ := cat_l (by simp; omega)
  have o4 : opD .Add (.lst (List.replicate (w - 1).toNat (.int 0) ++ [.int 1])) (.lst (List.replicate (room - w).toNat .non)) = some (.lst (row0 w room)) := cat_l (by simp; omega)
  have e := rpB (fillsL_all (w := w) (fs := fs) (row0_bits (w := w) (room := room))) (by rw [fillsL_len]; omega)
  walk_at "fn"
  refine wc_ok (r_wcallL (by omega) hf (by omega) row0_bits) ?_
  walk_at "w"
end K15
namespace K15
open PySem PySem.Spec PyProof.Rows PyI
local macro_rules | `(tactic| walk_at "wside") => `(tactic| first | with_reducible rfl | with_reducible assumption | omega | (simp; done) | (simp; omega))
local macro_rules | `(tactic| walk_at "wop") => `(tactic| first | with_reducible assumption | exact rfl | with_reducible exact ix_0 | with_reducible exact ix_1 | exact op_fdivI (by omega) | exact op_modI (by omega) | exact op_mulI (by omega) | exact op_mulL (by omega))
local macro_rules | `(tactic| walk_at "wcmp") => `(tactic| first | with_reducible assumption | exact eqDI | exact neDI | exact neDB | exact rfl)
local macro_rules | `(tactic| walk_at "wbi") => `(tactic| first | with_reducible assumption | exact rfl)
local macro_rules | `(tactic| walk_at "wsl") => `(tactic| first | with_reducible exact sl_lo (by omega) | with_reducible exact sl_hi (by omega))
local macro_rules | `(tactic| walk_at "wflat") => `(tactic| first | with_reducible assumption | exact flat_pot (by with_reducible assumption))
local macro_rules | `(tactic| walk_at "wbiE") => `(tactic| with_reducible assumption)
local macro_rules | `(tactic| walk_at "wcall") => `(tactic| (refine wc_ok (by with_reducible assumption) ?_))
local macro_rules | `(tactic| walk_at "wex") => `(tactic| first
  | (with_reducible refine ⟨_, rfl, ?_⟩)
  | (refine ⟨_, rfl, ?_⟩)
  | (refine ⟨_, _, rfl, by walk_at "wsl", ?_⟩)
  | (refine ⟨_, _, rfl, rfl, ?_⟩)
  | (refine ⟨_, _, _, _, rfl, rfl, rfl, ?_⟩)
  | (refine ⟨_, _, _, _, rfl, rfl, ?_⟩)
  | (refine ⟨_, _, _, rfl, ⟨rfl, Nat.le_of_ble_eq_true rfl⟩, ?_⟩)
  | (refine ⟨_, _, _, rfl, rfl, by with_reducible assumption, ?_⟩)
  | (refine ⟨_, _, _, rfl, rfl, rfl, ?_⟩)
  | (refine ⟨_, rfl, by walk_at "wside", rfl, ?_⟩)
  | (refine ⟨_, rfl, by walk_at "wside", ?_⟩)
  | (refine ⟨_, _, rfl, by walk_at "wop", ?_⟩)
  | (refine ⟨_, by walk_at "wop", ?_⟩)
  | with_reducible exact ⟨_, rfl, rfl⟩)
local macro_rules | `(tactic| walk_at "wE") => `(tactic| first
  | ((with_reducible apply we_var); exact rfl)
  | ((with_reducible apply we_varO); exact rfl)
  | with_reducible apply we_next
  | with_reducible apply we_nextL
  | ((with_reducible apply we_opD); (focus walk_at "wop"))
  | ((with_reducible apply we_cmD); exact rfl; (focus walk_at "wcmp"))
  | ((with_reducible apply we_fl); exact rfl; exact rfl; exact rfl)
  | ((with_reducible apply we_biD); (focus walk_at "wbi"))
  | ((with_reducible apply we_t); (focus walk_at "wside"))
  | ((with_reducible apply we_f); (focus walk_at "wside"))
  | ((with_reducible apply we_pr); exact rfl)
  | with_reducible apply we_ok
  | ((with_reducible apply we_andQ); exact rfl)
  | ((with_reducible apply we_orQ); exact rfl)
  | ((with_reducible apply we_opO); exact rfl; exact rfl)
  | ((with_reducible apply we_cEq); exact rfl; exact rfl)
  | ((with_reducible apply we_cIn); exact rfl)
  | ((with_reducible apply we_cNin); exact rfl)
  | ((with_reducible apply we_biR); exact rfl)
  | ((with_reducible apply we_biL); exact rfl)
  | ((with_reducible apply we_biS); exact rfl)
  | ((with_reducible apply we_cEqB); exact rfl; exact rfl)
  | with_reducible apply we_nextJ
  | with_reducible apply we_stL
  | with_reducible apply we_stT
  | ((with_reducible apply we_fmsS); (focus walk_at "wside"))
  | ((with_reducible apply we_fmsI); (focus exact log_ok (by omega)))
  | ((with_reducible apply we_fmrS); (focus walk_at "wside"))
  | ((with_reducible apply we_fmrI); (focus exact log_ok (by omega)))
  | ((with_reducible apply we_augO); exact rfl; exact rfl)
  | ((with_reducible apply we_biE); (focus walk_at "wbiE")))
local macro_rules | `(tactic| walk_at "wS") => `(tactic| first
  | with_reducible apply wt_nextB
  | with_reducible apply wt_next
  | ((with_reducible apply wt_t); (focus walk_at "wside"))
  | ((with_reducible apply wt_f); (focus walk_at "wside")))
local macro_rules | `(tactic| walk_at "wA") => `(tactic| first
  | with_reducible exact ⟨rfl, rfl⟩
  | (refine And.intro ⟨rfl, rfl, by walk_at "wflat"⟩ ?_)
  | (refine And.intro ⟨Nat.le_of_ble_eq_true rfl, Nat.le_of_ble_eq_true rfl⟩ ?_)
  | (refine And.intro ⟨Nat.le_of_ble_eq_true rfl, Nat.le_of_ble_eq_true rfl, Nat.le_of_ble_eq_true rfl⟩ ?_)
  | (refine And.intro (Nat.le_of_ble_eq_true rfl) ?_)
  | (refine And.intro (small_i (by omega)) ?_)
  | (refine And.intro (sz_le (by first | omega | (simp; omega))) ?_)
  | (refine And.intro (sz_lt (by first | omega | (simp; omega))) ?_)
  | (refine And.intro (small_2 (by omega) (by omega)) ?_)
  | (refine And.intro rfl ?_))
local macro_rules | `(tactic| walk_at "wQ") => `(tactic| first
  | with_reducible apply wk_p
  | ((with_reducible apply sq_nxN); (focus walk_at "wnr"))
  | with_reducible apply sq_rt
  | with_reducible apply fn_rt
  | with_reducible apply fq_nx
  | with_reducible apply fn_nx
  | with_reducible apply wk_o
  | with_reducible apply sq_ct
  | with_reducible apply sq_bk
  | with_reducible apply fq_rt
  | with_reducible apply fq_ct
  | with_reducible apply fq_bk
  | ((with_reducible apply in_nx); exact rfl)
  | with_reducible apply wk_b
  | with_reducible apply wk_n
  | with_reducible apply wk_s
  | ((with_reducible apply wk_l); (focus omega))
  | ((with_reducible apply wb_lst); exact Nat.le_of_ble_eq_true rfl)
  | ((with_reducible apply wb_p); exact Nat.le_of_ble_eq_true rfl))
local macro_rules | `(tactic| walk_at "wnr") => `(tactic| ((try dsimp only [List.map, List.map_cons, List.map_nil, List.replicate_succ, List.replicate_zero, List.cons_append, List.nil_append, List.set_cons_succ, List.set_cons_zero, Nat.reduceSub]); with_reducible exact Nrm.same))
local macro_rules | `(tactic| walk_at "wn") => `(tactic| dsimp only [List.map, List.map_cons, List.map_nil, List.replicate, List.cons_append, List.nil_append, List.set_cons_succ, List.set_cons_zero, Nat.reduceSub])
local macro_rules | `(tactic| walk_at "w1") => `(tactic| first
  | ((with_reducible apply gWe); walk_at "wE")
  | ((with_reducible apply gEx); walk_at "wex")
  | ((with_reducible apply gWt); walk_at "wS")
  | ((with_reducible apply gAn); walk_at "wA")
  | ((with_reducible apply gWc); walk_at "wcall")
  | walk_at "wQ"
  | with_reducible rfl)
local macro_rules | `(tactic| walk_at "w") => `(tactic| repeat (walk_at "w1"))
local macro_rules | `(tactic| walk_at "fn") => `(tactic| (apply wc_fnN (hg := rfl); exact ⟨rfl, Nat.le_of_ble_eq_true rfl⟩; (focus walk_at "wnr"); walk_at "w"))
local macro_rules | `(tactic| walk_at "ini") => `(tactic| (apply wc_iniN (hcl := rfl) (hg := rfl); exact ⟨rfl, Nat.le_of_ble_eq_true rfl⟩; (focus walk_at "wnr"); walk_at "w"))
local macro_rules | `(tactic| walk_at "wcall") => `(tactic| refine wc_ok r_is_integer ?_)
local macro_rules | `(tactic| walk_at "wcall") => `(tactic| refine wc_ok (by with_reducible assumption) ?_)
local macro_rules | `(tactic| walk_at "wcall") => `(tactic| refine wc_ok r_word ?_)
local macro_rules | `(tactic| walk_at "wcall") => `(tactic| refine wc_ok r_ext ?_)
/-! rows and their texts -/
theorem toPys_bits : ∀ {a : List Dt}, (∀ d ∈ a, bitD d) → ∃ xs, toPys a = some xs ∧ xs.map PyData.shown = a.map rpT
  | [], _ => ⟨[], rfl, rfl⟩
  | d :: a, h => by
    obtain ⟨xs, e, q⟩ := toPys_bits (a := a) fun d hd => h d (List.mem_cons_of_mem _ hd)
    obtain ⟨x, e2, _⟩ := (rp_bit (h d (by simp))).ex
    refine ⟨x :: xs, by simp only [toPys, e, e2], ?_⟩
    rw [List.map_cons, List.map_cons, q]
    congr 1
    unfold rpT
    rw [e2]
theorem rp_lst {a : List Dt} (h : ∀ d ∈ a, bitD d) : rpT (.lst a) = listText (a.map rpT) := by
  obtain ⟨xs, e, q⟩ := toPys_bits h
  rw [rpT, toPy, e]
  show PyData.shown (.list xs) = _
  rw [PyData.shown, shownAll_map, q]
def sepL (k : Nat) : List Nat := (Str.ofString (if k > 0 then ", " else "")).cps.toList
def pcs : Nat → List Str → List Nat
  | _, [] => []
  | k, t :: ts => sepL k ++ (t.cps.toList ++ pcs (k + 1) ts)
theorem tf_pcs : ∀ (ts : List Str) (k : Nat) (acc : Str), (textFrom k acc ts).cps.toList = acc.cps.toList ++ pcs k ts
  | [], k, acc => by simp [textFrom, pcs]
  | t :: ts, k, acc => by
    rw [textFrom, tf_pcs ts]
    show (acc.cps ++ (Str.ofString (if k > 0 then ", " else "")).cps ++ t.cps).toList ++ _ = _
    simp [pcs, sepL]
theorem bit_txt {d : Dt} (h : bitD d) : (d = .int 0 ∧ (rpT d).cps.toList = [48]) ∨ (d = .int 1 ∧ (rpT d).cps.toList = [49]) ∨ (d = .non ∧ (rpT d).cps.toList = [78, 111, 110, 101]) := by
  rcases h with h | h | h <;> subst h
  · exact .inl ⟨rfl, by kernel_rfl⟩
  · exact .inr (.inl ⟨rfl, by kernel_rfl⟩)
  · exact .inr (.inr ⟨rfl, by kernel_rfl⟩)
theorem pcs_inj : ∀ {a b : List Dt} {k : Nat}, (∀ d ∈ a, bitD d) → (∀ d ∈ b, bitD d) → a.length = b.length → pcs k (a.map rpT) = pcs k (b.map rpT) → a = b
  | [], [], _, _, _, _, _ => rfl
  | [], _ :: _, _, _, _, h, _ => by simp at h
  | _ :: _, [], _, _, _, h, _ => by simp at h
  | x :: a, y :: b, k, ha, hb, hl, h => by
    rw [List.map_cons, List.map_cons, pcs, pcs] at h
    have h := List.append_cancel_left h
    have go : x = y → x :: a = y :: b := fun e => by
      subst e
      have h := List.append_cancel_left h
      rw [pcs_inj (fun d hd => ha d (by simp [hd])) (fun d hd => hb d (by simp [hd])) (by simpa using hl) h]
    rcases bit_txt (ha x (by simp)) with ⟨e1, t1⟩ | ⟨e1, t1⟩ | ⟨e1, t1⟩ <;> rcases bit_txt (hb y (by simp)) with ⟨e2, t2⟩ | ⟨e2, t2⟩ | ⟨e2, t2⟩ <;> first
      | exact go (e1.trans e2.symm)
      | (rw [t1, t2] at h; simp at h)
theorem rp_inj {a b : List Dt} (ha : ∀ d ∈ a, bitD d) (hb : ∀ d ∈ b, bitD d) (hl : a.length = b.length) (h : rpT (.lst a) = rpT (.lst b)) : a = b := by
  rw [rp_lst ha, rp_lst hb] at h
  have h2 : (listText (a.map rpT)).cps.toList = (listText (b.map rpT)).cps.toList := by rw [h]
  have e : ∀ ts : List Str, (listText ts).cps.toList = (Str.ofString "[").cps.toList ++ pcs 0 ts ++ (Str.ofString "]").cps.toList := fun ts => by
    show (((textFrom 0 "[" ts).cps ++ (Str.ofString "]").cps).toList) = _
    rw [Array.toList_append, tf_pcs]
  rw [e, e] at h2
  exact pcs_inj ha hb hl (List.append_cancel_left (List.append_cancel_right h2))
theorem eq_rpT {a : List Dt} (ha : ∀ d ∈ a, bitD d) (h1 : a.length ≤ 1000) : cmpD .Eq (.str (rpT (.lst a))) (.str (rpT (.lst a))) = some true := eq_str (rp_ok (rp_bits ha h1))
theorem eq_rpF {a b : List Dt} (ha : ∀ d ∈ a, bitD d) (hb : ∀ d ∈ b, bitD d) (hl : a.length = b.length) (h1 : a.length ≤ 1000) (h : a ≠ b) : cmpD .Eq (.str (rpT (.lst a))) (.str (rpT (.lst b))) = some false := by
  rw [cmpEq_of (pl_str (rp_ok (rp_bits ha h1))) (pl_str (rp_ok (rp_bits hb (by omega)))) (by decide) (by decide), PyData.eqv]
  congr 1
  rw [beq_eq_false_iff_ne]
  exact fun z => h (rp_inj ha hb hl z)
/-! item by item -/
theorem putN_at {w i : Nat} {v : Dt} {bs : List Dt} : ∀ n : Nat, w + n ≤ bs.length → (putN w v bs n)[i]? = if w ≤ i ∧ i < w + n then some v else bs[i]?
  | 0, _ => by rw [if_neg (by omega)]; rfl
  | n + 1, h => by
    rw [putN]
    by_cases e : w + n = i
    · subst e
      rw [List.getElem?_set_self (by rw [putN_len]; omega), if_pos (by omega)]
    · rw [List.getElem?_set_ne e, putN_at n (by omega)]
      by_cases h1 : w ≤ i ∧ i < w + n
      · rw [if_pos h1, if_pos (by omega)]
      · rw [if_neg h1, if_neg (by omega)]
theorem fill_at {w : Int} {f : Bool × Int} {bs : List Dt} {i : Nat} (hw : 0 ≤ w) : (fillL w f bs)[i]? = if (w ≤ i ∧ (i : Int) < f.2 ∧ i < bs.length) then some (fillV w f bs) else bs[i]? := by
  rw [fillL_put hw]
  by_cases h0 : w ≤ min f.2 bs.length
  · rw [putN_at _ (by omega)]
    by_cases h : w ≤ i ∧ (i : Int) < f.2 ∧ i < bs.length
    · rw [if_pos h, if_pos (by omega)]
    · rw [if_neg h, if_neg (by omega)]
  · have e : (min f.2 (bs.length : Int) - w).toNat = 0 := by omega
    rw [e, if_neg (by omega)]
    rfl
theorem fillV_same {w : Int} {f g : Bool × Int} {bs : List Dt} (hw : 1 ≤ w) : fillV w g (fillL w f bs) = fillV w g bs := by
  have e : (fillL w f bs)[(w - 1).toNat]? = bs[(w - 1).toNat]? := by rw [fill_at (by omega), if_neg (by omega)]
  unfold fillV
  rw [e]
theorem fillV_word {w : Int} {f g : Bool × Int} {bs : List Dt} (h : f.1 = g.1) : fillV w f bs = fillV w g bs := by
  unfold fillV
  rw [h]
/-- a covered fill is hidden -/
theorem hid {w : Int} {a b : Option (Bool × Int)} {bs : List Dt} (hw : 1 ≤ w) (h : covB a b = true) : fillsL w b.toList (fillsL w a.toList bs) = fillsL w a.toList bs ∧ fillsL w a.toList (fillsL w b.toList bs) = fillsL w a.toList bs := by
  cases b with
  | none => exact ⟨rfl, rfl⟩
  | some g =>
    cases a with
    | none => cases h
    | some f =>
      simp only [covB, Bool.and_eq_true, beq_iff_eq, decide_eq_true_eq] at h
      obtain ⟨h1, h2⟩ := h
      show fillL w g (fillL w f bs) = fillL w f bs ∧ fillL w f (fillL w g bs) = fillL w f bs
      constructor
      · apply List.ext_getElem?
        intro i
        rw [fill_at (by omega), fillL_len, fillV_same hw, fill_at (by omega)]
        by_cases q : w ≤ i ∧ (i : Int) < g.2 ∧ i < bs.length
        · rw [if_pos q, if_pos (by omega), fillV_word h1]
        · rw [if_neg q]
      · apply List.ext_getElem?
        intro i
        rw [fill_at (by omega), fillL_len, fillV_same hw, fill_at (by omega), fill_at (by omega)]
        by_cases q : w ≤ i ∧ (i : Int) < f.2 ∧ i < bs.length
        · rw [if_pos q, if_pos q]
        · rw [if_neg q, if_neg (by omega), if_neg q]
/-! the showing row -/
def valF (f : Bool × Int) : Dt := if f.1 = true then .int 0 else .int 1
theorem row0_top {w room : Int} (h : 1 ≤ w ∧ w ≤ room) : (row0 w room)[(w - 1).toNat]? = some (.int 1) := by
  unfold row0
  rw [List.getElem?_append_left (by simp), List.getElem?_append_right (by simp)]
  simp
theorem row0_hi {w room : Int} {i : Nat} (h : 1 ≤ w) (h1 : w ≤ i) (h2 : (i : Int) < room) : (row0 w room)[i]? = some .non := by
  unfold row0
  rw [List.getElem?_append_right (by simp; omega), List.getElem?_replicate, if_pos (by simp; omega)]
theorem fillV_row {w room : Int} {f : Bool × Int} (h : 1 ≤ w ∧ w ≤ room) : fillV w f (row0 w room) = valF f := by
  unfold fillV valF
  rw [row0_top h]
  rfl
theorem val_non {f : Bool × Int} : valF f ≠ .non := by
  unfold valF
  split <;> exact fun z => by cases z
theorem val_ne {f g : Bool × Int} (h : f.1 ≠ g.1) : valF f ≠ valF g := by
  unfold valF
  cases e1 : f.1 <;> cases e2 : g.1 <;> simp_all
theorem row_in {w room : Int} {f : Bool × Int} {i : Nat} (h : 1 ≤ w ∧ w ≤ room) (hf : w < f.2 ∧ f.2 ≤ room) (h1 : w ≤ i) (h2 : (i : Int) < f.2) : (fillL w f (row0 w room))[i]? = some (valF f) := by
  have hl := row0_len h
  rw [fill_at (by omega), if_pos (by omega), fillV_row h]
theorem row_out {w room : Int} {f : Bool × Int} {i : Nat} (h : 1 ≤ w ∧ w ≤ room) (h1 : w ≤ i) (h2 : f.2 ≤ i) (h3 : (i : Int) < room) : (fillL w f (row0 w room))[i]? = some .non := by
  rw [fill_at (by omega), if_neg (by omega), row0_hi (by omega) h1 h3]
theorem shows_ne {w room : Int} {a b : Option (Bool × Int)} (h : 1 ≤ w ∧ w ≤ room) (ha : okO w room a) (hb : okO w room b) (hc : covB a b = false) : fillsL w b.toList (fillsL w a.toList (row0 w room)) ≠ fillsL w a.toList (row0 w room) := by
  have hl := row0_len h
  cases b with
  | none => cases a <;> cases hc
  | some g =>
    have hb : w < g.2 ∧ g.2 ≤ room := hb
    intro z
    cases a with
    | none =>
      have z : fillL w g (row0 w room) = row0 w room := z
      have q := row_in (i := w.toNat) h hb (by omega) (by omega)
      rw [z, row0_hi (by omega) (by omega) (by omega)] at q
      exact val_non (Option.some.inj q).symm
    | some f =>
      have ha : w < f.2 ∧ f.2 ≤ room := ha
      have z : fillL w g (fillL w f (row0 w room)) = fillL w f (row0 w room) := z
      by_cases e : f.1 = g.1
      · have e2 : f.2 < g.2 := by
          simp only [covB, e, beq_self_eq_true, Bool.true_and, decide_eq_false_iff_not] at hc
          omega
        have q : (fillL w g (fillL w f (row0 w room)))[f.2.toNat]? = some (valF g) := by
          rw [fill_at (by omega), fillL_len, if_pos (by omega), fillV_same (by omega), fillV_row h]
        rw [z, row_out h (by omega) (by omega) (by omega)] at q
        exact val_non (Option.some.inj q).symm
      · have q : (fillL w g (fillL w f (row0 w room)))[w.toNat]? = some (valF g) := by
          rw [fill_at (by omega), fillL_len, if_pos (by omega), fillV_same (by omega), fillV_row h]
        rw [z, row_in h ha (by omega) (by omega)] at q
        exact val_ne e (Option.some.inj q)
theorem shows_eq {w room : Int} {a b : Option (Bool × Int)} (h : 1 ≤ w ∧ w ≤ room) (ha : okO w room a) (hb : okO w room b) (z : fillsL w a.toList (row0 w room) = fillsL w b.toList (row0 w room)) : a = b := by
  have key : ∀ f g : Bool × Int, w < f.2 ∧ f.2 ≤ room → w < g.2 ∧ g.2 ≤ room → fillL w f (row0 w room) = fillL w g (row0 w room) → f = g := by
    intro f g hf hg z
    by_cases e : f.1 = g.1
    · by_cases e2 : f.2 = g.2
      · exact Prod.ext e e2
      · exfalso
        rcases Int.lt_or_lt_of_ne e2 with y | y
        · have q := row_in (i := f.2.toNat) h hg (by omega) (by omega)
          rw [← z, row_out h (by omega) (by omega) (by omega)] at q
          exact val_non (Option.some.inj q).symm
        · have q := row_in (i := g.2.toNat) h hf (by omega) (by omega)
          rw [z, row_out h (by omega) (by omega) (by omega)] at q
          exact val_non (Option.some.inj q).symm
    · exfalso
      have q := row_in (i := w.toNat) h hf (by omega) (by omega)
      rw [z, row_in h hg (by omega) (by omega)] at q
      exact val_ne e (Option.some.inj q).symm
  cases a with
  | none =>
    cases b with
    | none => rfl
    | some g =>
      exfalso
      have hb : w < g.2 ∧ g.2 ≤ room := hb
      have z : row0 w room = fillL w g (row0 w room) := z
      have q := row_in (i := w.toNat) h hb (by omega) (by omega)
      rw [← z, row0_hi (by omega) (by omega) (by omega)] at q
      exact val_non (Option.some.inj q).symm
  | some f =>
    have ha : w < f.2 ∧ f.2 ≤ room := ha
    cases b with
    | none =>
      exfalso
      have z : fillL w f (row0 w room) = row0 w room := z
      have q := row_in (i := w.toNat) h ha (by omega) (by omega)
      rw [z, row0_hi (by omega) (by omega) (by omega)] at q
      exact val_non (Option.some.inj q).symm
    | some g => rw [key f g ha hb z]
end K15
namespace K15
open PySem PySem.Spec PyProof.Rows PyI
local macro_rules | `(tactic| walk_at "wside") => `(tactic| first | with_reducible rfl | with_reducible assumption | omega | (simp; done) | (simp; omega))
local macro_rules | `(tactic| walk_at "wop") => `(tactic| first | with_reducible assumption | exact rfl | with_reducible exact ix_0 | with_reducible exact ix_1 | exact op_fdivI (by omega) | exact op_modI (by omega) | exact op_mulI (by omega) | exact op_mulL (by omega))
local macro_rules | `(tactic| walk_at "wcmp") => `(tactic| first | with_reducible assumption | exact eqDI | exact neDI | exact neDB | exact rfl)
local macro_rules | `(tactic| walk_at "wbi") => `(tactic| first | with_reducible assumption | exact rfl)
local macro_rules | `(tactic| walk_at "wsl") => `(tactic| first | with_reducible exact sl_lo (by omega) | with_reducible exact sl_hi (by omega))
local macro_rules | `(tactic| walk_at "wflat") => `(tactic| first | with_reducible assumption | exact flat_pot (by with_reducible assumption))
local macro_rules | `(tactic| walk_at "wbiE") => `(tactic| with_reducible assumption)
local macro_rules | `(tactic| walk_at "wcall") => `(tactic| (refine wc_ok (by with_reducible assumption) ?_))
local macro_rules | `(tactic| walk_at "wex") => `(tactic| first
  | (with_reducible refine ⟨_, rfl, ?_⟩)
  | (refine ⟨_, rfl, ?_⟩)
  | (refine ⟨_, _, rfl, by walk_at "wsl", ?_⟩)
  | (refine ⟨_, _, rfl, rfl, ?_⟩)
  | (refine ⟨_, _, _, _, rfl, rfl, rfl, ?_⟩)
  | (refine ⟨_, _, _, _, rfl, rfl, ?_⟩)
  | (refine ⟨_, _, _, rfl, ⟨rfl, Nat.le_of_ble_eq_true rfl⟩, ?_⟩)
  | (refine ⟨_, _, _, rfl, rfl, by with_reducible assumption, ?_⟩)
  | (refine ⟨_, _, _, rfl, rfl, rfl, ?_⟩)
  | (refine ⟨_, rfl, by walk_at "wside", rfl, ?_⟩)
  | (refine ⟨_, rfl, by walk_at "wside", ?_⟩)
  | (refine ⟨_, _, rfl, by walk_at "wop", ?_⟩)
  | (refine ⟨_, by walk_at "wop", ?_⟩)
  | with_reducible exact ⟨_, rfl, rfl⟩)
local macro_rules | `(tactic| walk_at "wE") => `(tactic| first
  | ((with_reducible apply we_var); exact rfl)
  | ((with_reducible apply we_varO); exact rfl)
  | with_reducible apply we_next
  | with_reducible apply we_nextL
  | ((with_reducible apply we_opD); (focus walk_at "wop"))
  | ((with_reducible apply we_cmD); exact rfl; (focus walk_at "wcmp"))
  | ((with_reducible apply we_fl); exact rfl; exact rfl; exact rfl)
  | ((with_reducible apply we_biD); (focus walk_at "wbi"))
  | ((with_reducible apply we_t); (focus walk_at "wside"))
  | ((with_reducible apply we_f); (focus walk_at "wside"))
  | ((with_reducible apply we_pr); exact rfl)
  | with_reducible apply we_ok
  | ((with_reducible apply we_andQ); exact rfl)
  | ((with_reducible apply we_orQ); exact rfl)
  | ((with_reducible apply we_opO); exact rfl; exact rfl)
  | ((with_reducible apply we_cEq); exact rfl; exact rfl)
  | ((with_reducible apply we_cIn); exact rfl)
  | ((with_reducible apply we_cNin); exact rfl)
  | ((with_reducible apply we_biR); exact rfl)
  | ((with_reducible apply we_biL); exact rfl)
  | ((with_reducible apply we_biS); exact rfl)
  | ((with_reducible apply we_cEqB); exact rfl; exact rfl)
  | with_reducible apply we_nextJ
  | with_reducible apply we_stL
  | with_reducible apply we_stT
  | ((with_reducible apply we_fmsS); (focus walk_at "wside"))
  | ((with_reducible apply we_fmsI); (focus exact log_ok (by omega)))
  | ((with_reducible apply we_fmrS); (focus walk_at "wside"))
  | ((with_reducible apply we_fmrI); (focus exact log_ok (by omega)))
  | ((with_reducible apply we_augO); exact rfl; exact rfl)
  | ((with_reducible apply we_biE); (focus walk_at "wbiE")))
local macro_rules | `(tactic| walk_at "wS") => `(tactic| first
  | with_reducible apply wt_nextB
  | with_reducible apply wt_next
  | ((with_reducible apply wt_t); (focus walk_at "wside"))
  | ((with_reducible apply wt_f); (focus walk_at "wside")))
local macro_rules | `(tactic| walk_at "wA") => `(tactic| first
  | with_reducible exact ⟨rfl, rfl⟩
  | (refine And.intro ⟨rfl, rfl, by walk_at "wflat"⟩ ?_)
  | (refine And.intro ⟨Nat.le_of_ble_eq_true rfl, Nat.le_of_ble_eq_true rfl⟩ ?_)
  | (refine And.intro ⟨Nat.le_of_ble_eq_true rfl, Nat.le_of_ble_eq_true rfl, Nat.le_of_ble_eq_true rfl⟩ ?_)
  | (refine And.intro (Nat.le_of_ble_eq_true rfl) ?_)
  | (refine And.intro (small_i (by omega)) ?_)
  | (refine And.intro (sz_le (by first | omega | (simp; omega))) ?_)
  | (refine And.intro (sz_lt (by first | omega | (simp; omega))) ?_)
  | (refine And.intro (small_2 (by omega) (by omega)) ?_)
  | (refine And.intro rfl ?_))
local macro_rules | `(tactic| walk_at "wQ") => `(tactic| first
  | with_reducible apply wk_p
  | ((with_reducible apply sq_nxN); (focus walk_at "wnr"))
  | with_reducible apply sq_rt
  | with_reducible apply fn_rt
  | with_reducible apply fq_nx
  | with_reducible apply fn_nx
  | with_reducible apply wk_o
  | with_reducible apply sq_ct
  | with_reducible apply sq_bk
  | with_reducible apply fq_rt
  | with_reducible apply fq_ct
  | with_reducible apply fq_bk
  | ((with_reducible apply in_nx); exact rfl)
  | with_reducible apply wk_b
  | with_reducible apply wk_n
  | with_reducible apply wk_s
  | ((with_reducible apply wk_l); (focus omega))
  | ((with_reducible apply wb_lst); exact Nat.le_of_ble_eq_true rfl)
  | ((with_reducible apply wb_p); exact Nat.le_of_ble_eq_true rfl))
local macro_rules | `(tactic| walk_at "wnr") => `(tactic| ((try dsimp only [List.map, List.map_cons, List.map_nil, List.replicate_succ, List.replicate_zero, List.cons_append, List.nil_append, List.set_cons_succ, List.set_cons_zero, Nat.reduceSub]); with_reducible exact Nrm.same))
local macro_rules | `(tactic| walk_at "wn") => `(tactic| dsimp only [List.map, List.map_cons, List.map_nil, List.replicate, List.cons_append, List.nil_append, List.set_cons_succ, List.set_cons_zero, Nat.reduceSub])
local macro_rules | `(tactic| walk_at "w1") => `(tactic| first
  | ((with_reducible apply gWe); walk_at "wE")
  | ((with_reducible apply gEx); walk_at "wex")
  | ((with_reducible apply gWt); walk_at "wS")
  | ((with_reducible apply gAn); walk_at "wA")
  | ((with_reducible apply gWc); walk_at "wcall")
  | walk_at "wQ"
  | with_reducible rfl)
local macro_rules | `(tactic| walk_at "w") => `(tactic| repeat (walk_at "w1"))
local macro_rules | `(tactic| walk_at "fn") => `(tactic| (apply wc_fnN (hg := rfl); exact ⟨rfl, Nat.le_of_ble_eq_true rfl⟩; (focus walk_at "wnr"); walk_at "w"))
local macro_rules | `(tactic| walk_at "ini") => `(tactic| (apply wc_iniN (hcl := rfl) (hg := rfl); exact ⟨rfl, Nat.le_of_ble_eq_true rfl⟩; (focus walk_at "wnr"); walk_at "w"))
local macro_rules | `(tactic| walk_at "wcall") => `(tactic| refine wc_ok r_is_integer ?_)
local macro_rules | `(tactic| walk_at "wcall") => `(tactic| refine wc_ok (by with_reducible assumption) ?_)
local macro_rules | `(tactic| walk_at "wcall") => `(tactic| refine wc_ok r_word ?_)
local macro_rules | `(tactic| walk_at "wcall") => `(tactic| refine wc_ok r_ext ?_)
theorem we_compG {P : Pg} {cf ci : Nat → List Dt → List Dt → Rc} {r : Rg} {m : List Dt} {K : Dt → Rg → List Dt → Prop} {X : Nat → List Str → List Dt → Rg → List Dt → Prop} {e c : PyI.Tm} {own : List Nat} {tg : Tg} {xs : List Dt} {g : Dt → Dt}
    (hb : ∀ y ∈ xs, ∃ rx, tgD tg y (wipeB r own) = some rx ∧ wipeB rx own = wipeB r own ∧ evE P cf ci c ⟨rx, m⟩ = .ok (.bl true) ⟨rx, m⟩ ∧ We (evE P cf ci e ⟨rx, m⟩) (fun d r3 m3 => d = g y ∧ r3 = rx ∧ m3 = m) NoX)
    (he : K (.lst (xs.map g)) r m) : We (compL (evE P cf ci e) (evE P cf ci c) tg own xs [] ⟨r, m⟩) (cpQ K r own) X := by
  have := we_compM (P := P) (cf := cf) (ci := ci) (X := X) (l := xs) (v := fun y => y) (g := g) hb he
  rwa [List.map_id'] at this
theorem wt_for1 {P : Pg} {cf ci : Nat → List Dt → List Dt → Rc} {bd : List Sm} {tg : Tg} {x : Dt} {r r' : Rg} {m : List Dt} {Q : Rt → Prop} (ht : tgD tg x r = some r') (h : Wt (evSs P cf ci bd ⟨r', m⟩) (forQ (fun r m => Q (.nx ⟨r, m⟩)) Q)) : Wt (forL (evSs P cf ci bd) tg [x] ⟨r, m⟩) Q := by
  refine wt_forL (xs := [x]) (fun n ra ma => if n = 0 then ra = r ∧ ma = m else Q (.nx ⟨ra, ma⟩)) (by simp) ?_ ?_
  · intro n y hy ra ma hI
    cases n with
    | zero =>
      cases hy
      obtain ⟨rfl, rfl⟩ := (by simpa using hI : ra = r ∧ ma = m)
      exact ⟨r', ht, h⟩
    | succ n => simp at hy
  · intro ra ma hI
    simpa using hI
theorem r_plain_fills {N : Nat} {o : Option (Bool × Int)} {m : List Dt} (hm : m.all flatC = true) : C (N + 2) i_plain_fills [.lst (o.toList.map fD)] m = .ok (.p (.lst (o.toList.map fD))) m := by
  apply wc_eq
  have e0 : cmpD .Eq (.lst []) (.lst []) = some true := by kernel_rfl
  have e1 : cmpD .NotEq (.lst []) (.lst []) = some false := by kernel_rfl
  cases o with
  | none =>
    walk_at "fn"
    refine wt_for0 ?_
    walk_at "w"
  | some f =>
    walk_at "fn"
    refine wt_for1 rfl ?_
    walk_at "w"
theorem r_plain {N : Nat} {o : Option (Bool × Int)} {m : List Dt} (hm : m.all flatC = true) : C (N + 4) i_Work_plain [wkD o.toList] m = .ok (.p (wkD o.toList)) m := by
  apply wc_eq
  have h := r_plain_fills (N := N + 1) (o := o) hm
  cases o with
  | none =>
    walk_at "fn"
    refine wc_ok (mk_work (fs := []) (by simp)) ?_
    walk_at "w"
  | some f =>
    walk_at "fn"
    refine wc_ok (mk_work (fs := [f]) (by simp)) ?_
    walk_at "w"
theorem r_like {N : Nat} {a b : Option (Bool × Int)} {m : List Dt} (hm : m.all flatC = true) : C (N + 5) i_Work_is_like [wkD a.toList, wkD b.toList] m = .ok (.p (.bl (decide (a = b)))) m := by
  apply wc_eq
  have h1 := r_plain (N := N) (o := a) hm
  have h2 := r_plain (N := N) (o := b) hm
  walk_at "fn"
  refine wc_ok (r_weq hm) ?_
  walk_at "w"
  refine ⟨?_, rfl⟩
  cases a <;> cases b <;> simp
/-! one fill -/
theorem r_add_wo {N : Nat} {o : Option (Bool × Int)} {m : List Dt} : C (N + 3) i_Work___add__ [wkD [], foD o] m = .ok (.p (wkD o.toList)) m := by
  cases o with
  | none => exact r_add_free (by simp)
  | some f => exact r_add_wf (a := []) (by simp)
theorem slc3 {l : List Dt} {a b c : Dt} : slD (.lst (l ++ [a, b, c])) (some (-3)) none = some (.lst [a, b, c]) := by
  show some (Dt.lst (cutL (l ++ [a, b, c]) (some (-3)) none)) = _
  have e : HT.sIx (l ++ [a, b, c]).length 0 (some (-3)) = l.length := by
    show (if (-3 : Int) < 0 then ((-3 : Int) + ((l ++ [a, b, c]).length : Int)).toNat else min (-3 : Int).toNat (l ++ [a, b, c]).length) = _
    rw [if_pos (by decide)]
    simp
    omega
  have e2 : HT.sIx (l ++ [a, b, c]).length (l ++ [a, b, c]).length none = (l ++ [a, b, c]).length := rfl
  unfold cutL
  rw [e, e2]
  simp
local macro_rules | `(tactic| walk_at "wsl") => `(tactic| exact slc3)
theorem fill_longer {w : Int} {f : Bool × Int} {bs ys : List Dt} (hw : 1 ≤ w ∧ w ≤ bs.length) (h : f.2 ≤ bs.length) : fillL w f (bs ++ ys) = fillL w f bs ++ ys := by
  apply List.ext_getElem?
  intro i
  have hv : fillV w f (bs ++ ys) = fillV w f bs := by
    unfold fillV
    rw [List.getElem?_append_left (by omega)]
  rw [fill_at (by omega), hv]
  by_cases hi : i < bs.length
  · rw [List.getElem?_append_left (l₁ := fillL w f bs) (by rw [fillL_len]; exact hi), fill_at (bs := bs) (by omega), List.getElem?_append_left hi]
    by_cases q : w ≤ i ∧ (i : Int) < f.2 ∧ i < bs.length
    · rw [if_pos q, if_pos (by simp; omega)]
    · rw [if_neg q, if_neg (by omega)]
  · rw [if_neg (by omega), List.getElem?_append_right (l₁ := bs) (by omega), List.getElem?_append_right (l₁ := fillL w f bs) (by rw [fillL_len]; omega), fillL_len]
theorem r_alone {N : Nat} {f : Bool × Int} {bs m : List Dt} {w : Int} (hm : m.all flatC = true) (hf : okF f) (hw : 2 ≤ w ∧ w ≤ bs.length) (hl : bs.length ≤ 128) (hb : ∀ d ∈ bs, bitD d) : C (N + 7) i_l_alone_right [fD f, .lst bs, .int w] m = .ok (.p (.bl true)) m := by
  apply wc_eq
  have hcut := r_cut (N := N + 1) (f := f) (w := w) (b := bs.length) (m := m) hf (by omega)
  have hok := ok_cut (w := w) (b := bs.length) (f := f)
  have hfs := okFs_o hok (by omega)
  have hsame := cut_same (w := w) (f := f) (bs := bs) (by omega)
  generalize cutF w bs.length f = o at hcut hok hfs hsame
  have s1 : C (N + 6) i_l_set [fD f, .lst bs, .int w] m = .ok (.p (.lst (fillL w f bs))) m := r_setO (N := N + 4) (m := m) (bs := bs) (w := w) (o := some f) (by omega) (by omega)
  have s2 := r_setO (N := N + 4) (m := m) (bs := bs) (w := w) (o := o) (by omega) (by omega)
  rw [hsame] at s2
  have w1 : C (N + 6) i_l_work [fD f] m = .ok (.p (wkD [f])) m := r_work (N := N + 2) (o := some f) (m := m)
  have w2 := r_work (N := N + 2) (o := o) (m := m)
  have a1 := r_add_wo (N := N + 3) (o := o) (m := m)
  have c1 : C (N + 6) i_Work___call__ [wkD [f], .lst bs, .int w] m = .ok (.o (.lst (fillL w f bs))) m := r_wcallL (N := N + 1) (bs := bs) (w := w) (fs := [f]) (m := m) (by omega) (fun g hg => by rw [List.mem_singleton] at hg; subst hg; exact hf) (by omega) hb
  have c2 := r_wcallL (N := N + 1) (bs := bs) (w := w) (fs := o.toList) (m := m) (by omega) hfs (by omega) hb
  rw [hsame] at c2
  have hlf : (fillL w f bs).length = bs.length := fillL_len
  have hbf := fillL_all (w := w) (f := f) hb
  have e1 := rpB hbf (by omega)
  have e2 : opD .Mult (.lst [.str (rpT (.lst (fillL w f bs)))]) (.int 3) = some (.lst [.str (rpT (.lst (fillL w f bs))), .str (rpT (.lst (fillL w f bs))), .str (rpT (.lst (fillL w f bs)))]) := rep_one (by omega)
  have st := rp_ok (rp_bits hbf (by omega))
  have e3 : cmpD .NotEq (.lst [.str (rpT (.lst (fillL w f bs))), .str (rpT (.lst (fillL w f bs))), .str (rpT (.lst (fillL w f bs)))]) (.lst [.str (rpT (.lst (fillL w f bs))), .str (rpT (.lst (fillL w f bs))), .str (rpT (.lst (fillL w f bs)))]) = some false := by
    have p : Pl (.lst [.str (rpT (.lst (fillL w f bs))), .str (rpT (.lst (fillL w f bs))), .str (rpT (.lst (fillL w f bs)))]) (.list [.str (rpT (.lst (fillL w f bs))), .str (rpT (.lst (fillL w f bs))), .str (rpT (.lst (fillL w f bs)))]) 1 := Pl.lst (Pls.cons (pl_str st) (Pls.cons (pl_str st) (Pls.cons (pl_str st) Pls.nil)))
    rw [cmpNe_of p p (by decide) (by decide)]
    simp [PyData.eqv, PyData.eqvAll]
  have e4 := ne_str st
  have e5 : opD .Mult (.lst [.non]) (.int 3) = some (.lst [.non, .non, .non]) := rep_one (by omega)
  have e6 : opD .Add (.lst bs) (.lst [.non, .non, .non]) = some (.lst (bs ++ [.non, .non, .non])) := cat_l (by simp; omega)
  have e7 := eqFrO (o := o)
  have mk0 := mk_work (N := N + 4) (fs := []) (m := m) (by simp)
  walk_at "fn"
  refine wc_ok mk0 ?_
  walk_at "w"
  refine we_compG (g := fun _ => .str (rpT (.lst (fillL w f bs)))) ?_ ?_
  · intro y hy
    obtain rfl : y = .lst (fillL w f bs) := by
      simp only [List.mem_cons, List.not_mem_nil, or_false, or_self] at hy
      exact hy
    refine ⟨_, rfl, rfl, e_cst, ?_⟩
    walk_at "w"
  walk_at "w"
  refine we_cmD rfl e3 ?_
  walk_at "w"
  cases o with
  | none => walk_at "w"
  | some g =>
    have hok : w < g.2 ∧ g.2 ≤ bs.length := hok
    have c3 : C (N + 6) i_Work___call__ [wkD [g], .lst (bs ++ [.non, .non, .non]), .int w] m = .ok (.o (.lst (fillL w g bs ++ [.non, .non, .non]))) m := by
      rw [← fill_longer (by omega) hok.2]
      refine r_wcallL (N := N + 1) (fs := [g]) (by omega) hfs (by simp; omega) ?_
      intro d hd
      rcases List.mem_append.mp hd with h | h
      · exact hb d h
      · simp at h; exact .inr (.inr h)
    have w3 : C (N + 6) i_l_work [foD (some g)] m = .ok (.p (wkD [g])) m := w2
    have e8 : biD .repr [.lst [.non, .non, .non]] = some (.str (Str.ofString "[None, None, None]")) := by kernel_rfl
    have e9 : cmpD .Eq (.str (Str.ofString "[None, None, None]")) (.str (Str.ofString "[None, None, None]")) = some true := by kernel_rfl
    walk_at "w"
end K15
namespace K15
open PySem PySem.Spec PyProof.Rows PyI
local macro_rules | `(tactic| walk_at "wside") => `(tactic| first | with_reducible rfl | with_reducible assumption | omega | (simp; done) | (simp; omega))
local macro_rules | `(tactic| walk_at "wop") => `(tactic| first | with_reducible assumption | exact rfl | with_reducible exact ix_0 | with_reducible exact ix_1 | exact op_fdivI (by omega) | exact op_modI (by omega) | exact op_mulI (by omega) | exact op_mulL (by omega))
local macro_rules | `(tactic| walk_at "wcmp") => `(tactic| first | with_reducible assumption | exact eqDI | exact neDI | exact neDB | exact rfl)
local macro_rules | `(tactic| walk_at "wbi") => `(tactic| first | with_reducible assumption | exact rfl)
local macro_rules | `(tactic| walk_at "wsl") => `(tactic| first | with_reducible exact sl_lo (by omega) | with_reducible exact sl_hi (by omega))
local macro_rules | `(tactic| walk_at "wflat") => `(tactic| first | with_reducible assumption | exact flat_pot (by with_reducible assumption))
local macro_rules | `(tactic| walk_at "wbiE") => `(tactic| with_reducible assumption)
local macro_rules | `(tactic| walk_at "wcall") => `(tactic| (refine wc_ok (by with_reducible assumption) ?_))
local macro_rules | `(tactic| walk_at "wex") => `(tactic| first
  | (with_reducible refine ⟨_, rfl, ?_⟩)
  | (refine ⟨_, rfl, ?_⟩)
  | (refine ⟨_, _, rfl, by walk_at "wsl", ?_⟩)
  | (refine ⟨_, _, rfl, rfl, ?_⟩)
  | (refine ⟨_, _, _, _, rfl, rfl, rfl, ?_⟩)
  | (refine ⟨_, _, _, _, rfl, rfl, ?_⟩)
  | (refine ⟨_, _, _, rfl, ⟨rfl, Nat.le_of_ble_eq_true rfl⟩, ?_⟩)
  | (refine ⟨_, _, _, rfl, rfl, by with_reducible assumption, ?_⟩)
  | (refine ⟨_, _, _, rfl, rfl, rfl, ?_⟩)
  | (refine ⟨_, rfl, by walk_at "wside", rfl, ?_⟩)
  | (refine ⟨_, rfl, by walk_at "wside", ?_⟩)
  | (refine ⟨_, _, rfl, by walk_at "wop", ?_⟩)
  | (refine ⟨_, by walk_at "wop", ?_⟩)
  | with_reducible exact ⟨_, rfl, rfl⟩)
local macro_rules | `(tactic| walk_at "wE") => `(tactic| first
  | ((with_reducible apply we_var); exact rfl)
  | ((with_reducible apply we_varO); exact rfl)
  | with_reducible apply we_next
  | with_reducible apply we_nextL
  | ((with_reducible apply we_opD); (focus walk_at "wop"))
  | ((with_reducible apply we_cmD); exact rfl; (focus walk_at "wcmp"))
  | ((with_reducible apply we_fl); exact rfl; exact rfl; exact rfl)
  | ((with_reducible apply we_biD); (focus walk_at "wbi"))
  | ((with_reducible apply we_t); (focus walk_at "wside"))
  | ((with_reducible apply we_f); (focus walk_at "wside"))
  | ((with_reducible apply we_pr); exact rfl)
  | with_reducible apply we_ok
  | ((with_reducible apply we_andQ); exact rfl)
  | ((with_reducible apply we_orQ); exact rfl)
  | ((with_reducible apply we_opO); exact rfl; exact rfl)
  | ((with_reducible apply we_cEq); exact rfl; exact rfl)
  | ((with_reducible apply we_cIn); exact rfl)
  | ((with_reducible apply we_cNin); exact rfl)
  | ((with_reducible apply we_biR); exact rfl)
  | ((with_reducible apply we_biL); exact rfl)
  | ((with_reducible apply we_biS); exact rfl)
  | ((with_reducible apply we_cEqB); exact rfl; exact rfl)
  | with_reducible apply we_nextJ
  | with_reducible apply we_stL
  | with_reducible apply we_stT
  | ((with_reducible apply we_fmsS); (focus walk_at "wside"))
  | ((with_reducible apply we_fmsI); (focus exact log_ok (by omega)))
  | ((with_reducible apply we_fmrS); (focus walk_at "wside"))
  | ((with_reducible apply we_fmrI); (focus exact log_ok (by omega)))
  | ((with_reducible apply we_augO); exact rfl; exact rfl)
  | ((with_reducible apply we_biE); (focus walk_at "wbiE")))
local macro_rules | `(tactic| walk_at "wS") => `(tactic| first
  | with_reducible apply wt_nextB
  | with_reducible apply wt_next
  | ((with_reducible apply wt_t); (focus walk_at "wside"))
  | ((with_reducible apply wt_f); (focus walk_at "wside")))
local macro_rules | `(tactic| walk_at "wA") => `(tactic| first
  | with_reducible exact ⟨rfl, rfl⟩
  | (refine And.intro ⟨rfl, rfl, by walk_at "wflat"⟩ ?_)
  | (refine And.intro ⟨Nat.le_of_ble_eq_true rfl, Nat.le_of_ble_eq_true rfl⟩ ?_)
  | (refine And.intro ⟨Nat.le_of_ble_eq_true rfl, Nat.le_of_ble_eq_true rfl, Nat.le_of_ble_eq_true rfl⟩ ?_)
  | (refine And.intro (Nat.le_of_ble_eq_true rfl) ?_)
  | (refine And.intro (small_i (by omega)) ?_)
  | (refine And.intro (sz_le (by first | omega | (simp; omega))) ?_)
  | (refine And.intro (sz_lt (by first | omega | (simp; omega))) ?_)
  | (refine And.intro (small_2 (by omega) (by omega)) ?_)
  | (refine And.intro rfl ?_))
local macro_rules | `(tactic| walk_at "wQ") => `(tactic| first
  | with_reducible apply wk_p
  | ((with_reducible apply sq_nxN); (focus walk_at "wnr"))
  | with_reducible apply sq_rt
  | with_reducible apply fn_rt
  | with_reducible apply fq_nx
  | with_reducible apply fn_nx
  | with_reducible apply wk_o
  | with_reducible apply sq_ct
  | with_reducible apply sq_bk
  | with_reducible apply fq_rt
  | with_reducible apply fq_ct
  | with_reducible apply fq_bk
  | ((with_reducible apply in_nx); exact rfl)
  | with_reducible apply wk_b
  | with_reducible apply wk_n
  | with_reducible apply wk_s
  | ((with_reducible apply wk_l); (focus omega))
  | ((with_reducible apply wb_lst); exact Nat.le_of_ble_eq_true rfl)
  | ((with_reducible apply wb_p); exact Nat.le_of_ble_eq_true rfl))
local macro_rules | `(tactic| walk_at "wnr") => `(tactic| ((try dsimp only [List.map, List.map_cons, List.map_nil, List.replicate_succ, List.replicate_zero, List.cons_append, List.nil_append, List.set_cons_succ, List.set_cons_zero, Nat.reduceSub]); with_reducible exact Nrm.same))
local macro_rules | `(tactic| walk_at "wn") => `(tactic| dsimp only [List.map, List.map_cons, List.map_nil, List.replicate, List.cons_append, List.nil_append, List.set_cons_succ, List.set_cons_zero, Nat.reduceSub])
local macro_rules | `(tactic| walk_at "w1") => `(tactic| first
  | ((with_reducible apply gWe); walk_at "wE")
  | ((with_reducible apply gEx); walk_at "wex")
  | ((with_reducible apply gWt); walk_at "wS")
  | ((with_reducible apply gAn); walk_at "wA")
  | ((with_reducible apply gWc); walk_at "wcall")
  | walk_at "wQ"
  | with_reducible rfl)
local macro_rules | `(tactic| walk_at "w") => `(tactic| repeat (walk_at "w1"))
local macro_rules | `(tactic| walk_at "fn") => `(tactic| (apply wc_fnN (hg := rfl); exact ⟨rfl, Nat.le_of_ble_eq_true rfl⟩; (focus walk_at "wnr"); walk_at "w"))
local macro_rules | `(tactic| walk_at "ini") => `(tactic| (apply wc_iniN (hcl := rfl) (hg := rfl); exact ⟨rfl, Nat.le_of_ble_eq_true rfl⟩; (focus walk_at "wnr"); walk_at "w"))
local macro_rules | `(tactic| walk_at "wcall") => `(tactic| refine wc_ok r_is_integer ?_)
local macro_rules | `(tactic| walk_at "wcall") => `(tactic| refine wc_ok (by with_reducible assumption) ?_)
local macro_rules | `(tactic| walk_at "wcall") => `(tactic| refine wc_ok r_word ?_)
local macro_rules | `(tactic| walk_at "wcall") => `(tactic| refine wc_ok r_ext ?_)
theorem lst2_ne {x y : Str} (hx : PyData.strOk x = true) (hy : PyData.strOk y = true) : cmpD .NotEq (.lst [.str x, .str y]) (.lst [.str x, .str y]) = some false := by
  have p : Pl (.lst [.str x, .str y]) (.list [.str x, .str y]) 1 := Pl.lst (Pls.cons (pl_str hx) (Pls.cons (pl_str hy) Pls.nil))
  rw [cmpNe_of p p (by decide) (by decide)]
  simp [PyData.eqv, PyData.eqvAll]
def blT (b : Bool) : Str := if b = true then "True" else "False"
theorem rp_bl {b : Bool} : biD .repr [.bl b] = some (.str (blT b)) := by cases b <;> kernel_rfl
theorem ne_bl {b : Bool} : cmpD .NotEq (.str (blT b)) (.str (blT b)) = some false := by cases b <;> kernel_rfl
theorem eq_bl {b : Bool} : cmpD .Eq (.str (blT b)) (.str (blT b)) = some true := by cases b <;> kernel_rfl
theorem r_pair {N : Nat} {f g : Bool × Int} {bs m : List Dt} {w : Int} (hm : m.all flatC = true) (hf : okF f) (hg : okF g) (hw : 2 ≤ w ∧ w ≤ bs.length) (hl : bs.length ≤ 128) (hb : ∀ d ∈ bs, bitD d) : C (N + 7) i_l_pair_right [fD f, fD g, .lst bs, .int w] m = .ok (.p (.bl true)) m := by
  apply wc_eq
  have t1 := r_cut (N := N + 1) (f := f) (w := w) (b := bs.length) (m := m) hf (by omega)
  have t2 := r_cut (N := N + 1) (f := g) (w := w) (b := bs.length) (m := m) hg (by omega)
  have ok1 := ok_cut (w := w) (b := bs.length) (f := f)
  have ok2 := ok_cut (w := w) (b := bs.length) (f := g)
  generalize cutF w bs.length f = a at t1 ok1
  generalize cutF w bs.length g = b at t2 ok2
  have f1 := okFs_o ok1 (by omega)
  have f2 := okFs_o ok2 (by omega)
  have l1 : a.toList.length ≤ 1 := by cases a <;> simp
  have l2 : b.toList.length ≤ 1 := by cases b <;> simp
  have fab : okFs (a.toList ++ b.toList) := fun f hf => by
    rcases List.mem_append.mp hf with h | h
    · exact f1 f h
    · exact f2 f h
  have fba : okFs (b.toList ++ a.toList) := fun f hf => by
    rcases List.mem_append.mp hf with h | h
    · exact f2 f h
    · exact f1 f h
  have w1 := r_work (N := N + 2) (o := a) (m := m)
  have w2 := r_work (N := N + 2) (o := b) (m := m)
  have p1 := r_add_ww (N := N + 3) (a := a.toList) (b := b.toList) (m := m) (by omega)
  have p2 := r_add_ww (N := N + 3) (a := b.toList) (b := a.toList) (m := m) (by omega)
  have len : ∀ fs, (fillsL w fs bs).length ≤ 1000 := fun fs => by rw [fillsL_len]; omega
  have all : ∀ fs, ∀ d ∈ fillsL w fs bs, bitD d := fun fs => fillsL_all hb
  have c1 := r_wcallL (N := N + 1) (bs := bs) (w := w) (m := m) (by omega) f1 (by omega) hb
  have c2 := r_wcallL (N := N + 1) (bs := bs) (w := w) (m := m) (by omega) f2 (by omega) hb
  have c3 := r_wcallL (N := N + 1) (bs := bs) (w := w) (m := m) (by omega) fab (by omega) hb
  have c4 := r_wcallL (N := N + 1) (bs := bs) (w := w) (m := m) (by omega) fba (by omega) hb
  have c5 := r_wcallL (N := N + 1) (bs := fillsL w a.toList bs) (w := w) (m := m) (by omega) f2 (len _) (all _)
  have c6 := r_wcallL (N := N + 1) (bs := fillsL w b.toList bs) (w := w) (m := m) (by omega) f1 (len _) (all _)
  rw [← fillsL_app] at c5 c6
  have e1 := rpB (all a.toList) (len _)
  have e2 := rpB (all (a.toList ++ b.toList)) (len _)
  have e3 := rpB (all (b.toList ++ a.toList)) (len _)
  have k1 := rp_ok (rp_bits (all a.toList) (len _))
  have k2 := rp_ok (rp_bits (all (a.toList ++ b.toList)) (len _))
  have k3 := rp_ok (rp_bits (all (b.toList ++ a.toList)) (len _))
  have n2 := ne_str k2
  have n3 := ne_str k3
  have q0 : 2 ≤ w ∧ w ≤ (bs.length : Int) ∧ (bs.length : Int) ≤ 128 := by omega
  have s1 := r_shows (N := N) (m := m) q0 f1
  have s2 := r_shows (N := N) (m := m) q0 f2
  have s3 := r_shows (N := N) (m := m) q0 fab
  have s4 := r_shows (N := N) (m := m) q0 fba
  have hc := r_covers (N := N + 4) (a := a) (b := b) (m := m)
  have hq := r_feqO (N := N + 5) (a := a) (b := b) (m := m)
  have hk := r_like (N := N + 1) (a := a) (b := b) hm
  have rw0 := row0_len (w := w) (room := bs.length) (by omega)
  have rlen : ∀ fs, (fillsL w fs (row0 w bs.length)).length = bs.length := fun fs => by rw [fillsL_len]; omega
  have rall : ∀ fs, ∀ d ∈ fillsL w fs (row0 w bs.length), bitD d := fun fs => fillsL_all row0_bits
  have r1 := rp_bl (b := covB a b)
  have r2 := ne_bl (b := covB a b)
  have r3 := rp_bl (b := decide (a = b))
  have r4 := eq_bl (b := decide (a = b))
  have y1 : cmpD .Eq (.str (rpT (.lst (fillsL w a.toList (row0 w bs.length))))) (.str (rpT (.lst (fillsL w (a.toList ++ b.toList) (row0 w bs.length))))) = some (covB a b) := by
    cases h : covB a b with
    | true =>
      rw [fillsL_app, (hid (by omega) h).1]
      exact eq_rpT (rall _) (by rw [rlen]; omega)
    | false =>
      refine eq_rpF (rall _) (rall _) (by rw [rlen, rlen]) (by rw [rlen]; omega) ?_
      rw [fillsL_app]
      exact fun z => shows_ne (by omega) ok1 ok2 h z.symm
  have y2 : covB a b = true → cmpD .Eq (.str (rpT (.lst (fillsL w a.toList (row0 w bs.length))))) (.str (rpT (.lst (fillsL w (b.toList ++ a.toList) (row0 w bs.length))))) = some true := fun h => by
    rw [fillsL_app, (hid (by omega) h).2]
    exact eq_rpT (rall _) (by rw [rlen]; omega)
  have y3 : cmpD .Eq (.str (rpT (.lst (fillsL w a.toList (row0 w bs.length))))) (.str (rpT (.lst (fillsL w b.toList (row0 w bs.length))))) = some (decide (a = b)) := by
    by_cases h : a = b
    · subst h
      rw [decide_eq_true rfl]
      exact eq_rpT (rall _) (by rw [rlen]; omega)
    · rw [decide_eq_false h]
      exact eq_rpF (rall _) (rall _) (by rw [rlen, rlen]) (by rw [rlen]; omega) fun z => h (shows_eq (by omega) ok1 ok2 z)
  cases h : covB a b with
  | true =>
    have y2 := y2 h
    have z1 : fillsL w (a.toList ++ b.toList) bs = fillsL w a.toList bs := by rw [fillsL_app, (hid (by omega) h).1]
    have z2 : fillsL w (b.toList ++ a.toList) bs = fillsL w a.toList bs := by rw [fillsL_app, (hid (by omega) h).2]
    rw [h] at hc r1 r2 y1
    rw [z1] at c3 c5 e2 n2
    rw [z2] at c4 c6 e3 n3
    have o1 : opD .Mult (.lst [.str (rpT (.lst (fillsL w a.toList bs)))]) (.int 2) = some (.lst [.str (rpT (.lst (fillsL w a.toList bs))), .str (rpT (.lst (fillsL w a.toList bs)))]) := rep_one (by omega)
    have o2 := lst2_ne k1 k1
    walk_at "fn"
  | false =>
    rw [h] at hc r1 r2 y1
    walk_at "fn"
/-! places -/
abbrev regD (g : Str) (n : Int) : Dt := .ins j_Register ["own_group", "own_number"] [.str g, .int n]
abbrev sloD (o n : Int) : Dt := .ins j_Slots ["own_offset", "own_many"] [.int o, .int n]
abbrev nxtD (a n : Int) : Dt := .ins j_Next ["own_align", "own_many"] [.int a, .int n]
theorem mk_reg {N : Nat} {g : Str} {n : Int} {m : List Dt} (hg : g = "whole" ∨ g = "float") (hn : 0 ≤ n ∧ n ≤ 7) : D (N + 5) j_Register [.str g, .int n] m = .ok (.p (regD g n)) m := by
  apply wc_eq
  have h1 : C (N + 4) i_is_group [.str g] m = .ok (.p (.bl true)) m := by
    apply wc_eq
    have e : cmpD .In (.str g) (.tup [.str "whole", .str "float"]) = some true := by rcases hg with h | h <;> subst h <;> kernel_rfl
    walk_at "fn"
  have h2 := r_is_count_from (N := N + 1) (v := n) (a := 0) (b := 7) (m := m) (by omega)
  walk_at "ini"
theorem mk_slo {N : Nat} {o n : Int} {m : List Dt} (ho : 0 ≤ o) (hn : 1 ≤ n ∧ n ≤ 16) : D (N + 5) j_Slots [.int o, .int n] m = .ok (.p (sloD o n)) m := by
  apply wc_eq
  have h1 := r_is_count (N := N + 2) (v := o) (m := m)
  rw [decide_eq_true ho] at h1
  have h2 := r_is_count_from (N := N + 1) (v := n) (a := 1) (b := 16) (m := m) (by omega)
  walk_at "ini"
theorem mk_nxt {N : Nat} {a n : Int} {m : List Dt} (ha : a = 1 ∨ a = 4 ∨ a = 16) (hn : 1 ≤ n ∧ n ≤ 16) : D (N + 5) j_Next [.int a, .int n] m = .ok (.p (nxtD a n)) m := by
  apply wc_eq
  have h1 : C (N + 4) i_is_alignment [.int a] m = .ok (.p (.bl true)) m := by
    rcases ha with h | h | h <;> subst h <;> kernel_rfl
  have h2 := r_is_count_from (N := N + 1) (v := n) (a := 1) (b := 16) (m := m) (by omega)
  walk_at "ini"
end K15
namespace K15
open PySem PySem.Spec PyProof.Rows PyI
local macro_rules | `(tactic| walk_at "wside") => `(tactic| first | with_reducible rfl | with_reducible assumption | omega | (simp; done) | (simp; omega))
local macro_rules | `(tactic| walk_at "wop") => `(tactic| first | with_reducible assumption | exact rfl | with_reducible exact ix_0 | with_reducible exact ix_1 | exact op_fdivI (by omega) | exact op_modI (by omega) | exact op_mulI (by omega) | exact op_mulL (by omega))
local macro_rules | `(tactic| walk_at "wcmp") => `(tactic| first | with_reducible assumption | exact eqDI | exact neDI | exact neDB | exact rfl)
local macro_rules | `(tactic| walk_at "wbi") => `(tactic| first | with_reducible assumption | exact rfl)
local macro_rules | `(tactic| walk_at "wsl") => `(tactic| first | with_reducible exact sl_lo (by omega) | with_reducible exact sl_hi (by omega))
local macro_rules | `(tactic| walk_at "wflat") => `(tactic| first | with_reducible assumption | exact flat_pot (by with_reducible assumption))
local macro_rules | `(tactic| walk_at "wbiE") => `(tactic| with_reducible assumption)
local macro_rules | `(tactic| walk_at "wcall") => `(tactic| (refine wc_ok (by with_reducible assumption) ?_))
local macro_rules | `(tactic| walk_at "wex") => `(tactic| first
  | (with_reducible refine ⟨_, rfl, ?_⟩)
  | (refine ⟨_, rfl, ?_⟩)
  | (refine ⟨_, _, rfl, by walk_at "wsl", ?_⟩)
  | (refine ⟨_, _, rfl, rfl, ?_⟩)
  | (refine ⟨_, _, _, _, rfl, rfl, rfl, ?_⟩)
  | (refine ⟨_, _, _, _, rfl, rfl, ?_⟩)
  | (refine ⟨_, _, _, rfl, ⟨rfl, Nat.le_of_ble_eq_true rfl⟩, ?_⟩)
  | (refine ⟨_, _, _, rfl, rfl, by with_reducible assumption, ?_⟩)
  | (refine ⟨_, _, _, rfl, rfl, rfl, ?_⟩)
  | (refine ⟨_, rfl, by walk_at "wside", rfl, ?_⟩)
  | (refine ⟨_, rfl, by walk_at "wside", ?_⟩)
  | (refine ⟨_, _, rfl, by walk_at "wop", ?_⟩)
  | (refine ⟨_, by walk_at "wop", ?_⟩)
  | with_reducible exact ⟨_, rfl, rfl⟩)
local macro_rules | `(tactic| walk_at "wE") => `(tactic| first
  | ((with_reducible apply we_var); exact rfl)
  | ((with_reducible apply we_varO); exact rfl)
  | with_reducible apply we_next
  | with_reducible apply we_nextL
  | ((with_reducible apply we_opD); (focus walk_at "wop"))
  | ((with_reducible apply we_cmD); exact rfl; (focus walk_at "wcmp"))
  | ((with_reducible apply we_fl); exact rfl; exact rfl; exact rfl)
  | ((with_reducible apply we_biD); (focus walk_at "wbi"))
  | ((with_reducible apply we_t); (focus walk_at "wside"))
  | ((with_reducible apply we_f); (focus walk_at "wside"))
  | ((with_reducible apply we_pr); exact rfl)
  | with_reducible apply we_ok
  | ((with_reducible apply we_andQ); exact rfl)
  | ((with_reducible apply we_orQ); exact rfl)
  | ((with_reducible apply we_opO); exact rfl; exact rfl)
  | ((with_reducible apply we_cEq); exact rfl; exact rfl)
  | ((with_reducible apply we_cIn); exact rfl)
  | ((with_reducible apply we_cNin); exact rfl)
  | ((with_reducible apply we_biR); exact rfl)
  | ((with_reducible apply we_biL); exact rfl)
  | ((with_reducible apply we_biS); exact rfl)
  | ((with_reducible apply we_cEqB); exact rfl; exact rfl)
  | with_reducible apply we_nextJ
  | with_reducible apply we_stL
  | with_reducible apply we_stT
  | ((with_reducible apply we_fmsS); (focus walk_at "wside"))
  | ((with_reducible apply we_fmsI); (focus exact log_ok (by omega)))
  | ((with_reducible apply we_fmrS); (focus walk_at "wside"))
  | ((with_reducible apply we_fmrI); (focus exact log_ok (by omega)))
  | ((with_reducible apply we_augO); exact rfl; exact rfl)
  | ((with_reducible apply we_biE); (focus walk_at "wbiE")))
local macro_rules | `(tactic| walk_at "wS") => `(tactic| first
  | with_reducible apply wt_nextB
  | with_reducible apply wt_next
  | ((with_reducible apply wt_t); (focus walk_at "wside"))
  | ((with_reducible apply wt_f); (focus walk_at "wside")))
local macro_rules | `(tactic| walk_at "wA") => `(tactic| first
  | with_reducible exact ⟨rfl, rfl⟩
  | (refine And.intro ⟨rfl, rfl, by walk_at "wflat"⟩ ?_)
  | (refine And.intro ⟨Nat.le_of_ble_eq_true rfl, Nat.le_of_ble_eq_true rfl⟩ ?_)
  | (refine And.intro ⟨Nat.le_of_ble_eq_true rfl, Nat.le_of_ble_eq_true rfl, Nat.le_of_ble_eq_true rfl⟩ ?_)
  | (refine And.intro (Nat.le_of_ble_eq_true rfl) ?_)
  | (refine And.intro (small_i (by omega)) ?_)
  | (refine And.intro (sz_le (by first | omega | (simp; omega))) ?_)
  | (refine And.intro (sz_lt (by first | omega | (simp; omega))) ?_)
  | (refine And.intro (small_2 (by omega) (by omega)) ?_)
  | (refine And.intro rfl ?_))
local macro_rules | `(tactic| walk_at "wQ") => `(tactic| first
  | with_reducible apply wk_p
  | ((with_reducible apply sq_nxN); (focus walk_at "wnr"))
  | with_reducible apply sq_rt
  | with_reducible apply fn_rt
  | with_reducible apply fq_nx
  | with_reducible apply fn_nx
  | with_reducible apply wk_o
  | with_reducible apply sq_ct
  | with_reducible apply sq_bk
  | with_reducible apply fq_rt
  | with_reducible apply fq_ct
  | with_reducible apply fq_bk
  | ((with_reducible apply in_nx); exact rfl)
  | with_reducible apply wk_b
  | with_reducible apply wk_n
  | with_reducible apply wk_s
  | ((with_reducible apply wk_l); (focus omega))
  | ((with_reducible apply wb_lst); exact Nat.le_of_ble_eq_true rfl)
  | ((with_reducible apply wb_p); exact Nat.le_of_ble_eq_true rfl))
local macro_rules | `(tactic| walk_at "wnr") => `(tactic| ((try dsimp only [List.map, List.map_cons, List.map_nil, List.replicate_succ, List.replicate_zero, List.cons_append, List.nil_append, List.set_cons_succ, List.set_cons_zero, Nat.reduceSub]); with_reducible exact Nrm.same))
local macro_rules | `(tactic| walk_at "wn") => `(tactic| dsimp only [List.map, List.map_cons, List.map_nil, List.replicate, List.cons_append, List.nil_append, List.set_cons_succ, List.set_cons_zero, Nat.reduceSub])
local macro_rules | `(tactic| walk_at "w1") => `(tactic| first
  | ((with_reducible apply gWe); walk_at "wE")
  | ((with_reducible apply gEx); walk_at "wex")
  | ((with_reducible apply gWt); walk_at "wS")
  | ((with_reducible apply gAn); walk_at "wA")
  | ((with_reducible apply gWc); walk_at "wcall")
  | walk_at "wQ"
  | with_reducible rfl)
local macro_rules | `(tactic| walk_at "w") => `(tactic| repeat (walk_at "w1"))
local macro_rules | `(tactic| walk_at "fn") => `(tactic| (apply wc_fnN (hg := rfl); exact ⟨rfl, Nat.le_of_ble_eq_true rfl⟩; (focus walk_at "wnr"); walk_at "w"))
local macro_rules | `(tactic| walk_at "ini") => `(tactic| (apply wc_iniN (hcl := rfl) (hg := rfl); exact ⟨rfl, Nat.le_of_ble_eq_true rfl⟩; (focus walk_at "wnr"); walk_at "w"))
local macro_rules | `(tactic| walk_at "wcall") => `(tactic| refine wc_ok r_is_integer ?_)
local macro_rules | `(tactic| walk_at "wcall") => `(tactic| refine wc_ok (by with_reducible assumption) ?_)
local macro_rules | `(tactic| walk_at "wcall") => `(tactic| refine wc_ok r_word ?_)
local macro_rules | `(tactic| walk_at "wcall") => `(tactic| refine wc_ok r_ext ?_)
def placeOk (x : Dt) : Prop := (∃ (g : Str) (n : Int), x = regD g n) ∨ (∃ a n : Int, (1 ≤ n ∧ n ≤ 16) ∧ x = nxtD a n) ∨ ∃ o n : Int, (1 ≤ n ∧ n ≤ 16) ∧ x = sloD o n
local macro_rules | `(tactic| walk_at "wcall") => `(tactic| (with_reducible refine c_draw (by with_reducible assumption) (by omega) ?_; intro _ _ _))
theorem r_place {N k : Nat} {m : List Dt} {p : Pot} (hk : k < m.length) : Wc (C (N + 6) i_l_place [.cel k] (m.set k (potD p))) (fun b m' => ∃ x q, b = .p x ∧ m' = m.set k (potD q) ∧ placeOk x) NoC := by
  walk_at "fn"
  rename_i d q hd
  by_cases h0 : d = 0
  · walk_at "w"
    refine c_pick hk (by simp) ?_
    intro x p2 hx
    obtain ⟨g, hg, rfl⟩ : ∃ g : Str, (g = "whole" ∨ g = "float") ∧ x = .str g := by
      simp only [List.mem_cons, List.not_mem_nil, or_false] at hx
      rcases hx with h | h
      · exact ⟨_, .inl rfl, h⟩
      · exact ⟨_, .inr rfl, h⟩
    walk_at "w"
    refine wc_ok (mk_reg hg (by omega)) ?_
    walk_at "w"
    exact .inl ⟨_, _, rfl⟩
  · walk_at "w"
    refine c_pick hk (by simp) ?_
    intro x p2 hx
    obtain ⟨v, hv, rfl⟩ : ∃ v : Int, (1 ≤ v ∧ v ≤ 16) ∧ x = .int v := by
      simp only [List.mem_cons, List.not_mem_nil, or_false] at hx
      rcases hx with h | h | h | h | h | h <;> exact ⟨_, by omega, h⟩
    by_cases h1 : d = 1
    · walk_at "w"
      refine c_pick hk (by simp) ?_
      intro x p3 hx
      obtain ⟨a, ha, rfl⟩ : ∃ v : Int, (v = 1 ∨ v = 4 ∨ v = 16) ∧ x = .int v := by
        simp only [List.mem_cons, List.not_mem_nil, or_false] at hx
        rcases hx with h | h | h <;> exact ⟨_, by omega, h⟩
      walk_at "w"
      refine wc_ok (mk_nxt ha hv) ?_
      walk_at "w"
      exact .inr (.inl ⟨_, _, hv, rfl⟩)
    · walk_at "w"
      refine wc_ok (mk_slo (by omega) hv) ?_
      walk_at "w"
      exact .inr (.inr ⟨_, _, hv, rfl⟩)
theorem r_fill {N k : Nat} {m : List Dt} {p : Pot} {v : Int} (hk : k < m.length) : Wc (C (N + 5) i_l_fill [.cel k, .int v] (m.set k (potD p))) (fun b m' => ∃ f q, b = .p (fD f) ∧ m' = m.set k (potD q) ∧ okF f) NoC := by
  walk_at "fn"
  refine c_pick hk (by simp) ?_
  intro x p3 hx
  obtain ⟨b, rfl⟩ : ∃ b : Bool, x = .str (wz b) := by
    simp only [List.mem_cons, List.not_mem_nil, or_false] at hx
    rcases hx with h | h
    · exact ⟨true, h⟩
    · exact ⟨false, h⟩
  walk_at "w"
  refine c_pick hk (by simp) ?_
  intro x p4 hx
  obtain ⟨u, rfl⟩ : ∃ v : Int, x = .int v := by
    simp only [List.mem_cons, List.not_mem_nil, or_false] at hx
    rcases hx with h | h | h | h <;> exact ⟨_, h⟩
  obtain ⟨w, hw, ew⟩ : ∃ w : Int, (3 ≤ w ∧ w ≤ 128) ∧ biD .max [.int 3, .int (if u < 128 then u else 128)] = some (.int w) := ⟨_, by split <;> split <;> omega, rfl⟩
  walk_at "w"
  refine wc_ok (mk_fill hw) ?_
  walk_at "w"
  exact hw
def right_body : List Sm := match b_l_right with
  | .for_ _ _ b :: _ => b
  | _ => []
theorem turn_rest {N k : Nat} {m : List Dt} {p : Pot} {x : Dt} {y1 y4 y5 y6 y7 y8 : Option Bn} {room : Int} {Q : Rt → Prop} (hk : k < m.length) (hm : m.all flatC = true) (hr : 8 ≤ room ∧ room ≤ 128)
    (hQ : ∀ y4 y5 y6 y7 y8 q, Q (.nx ⟨[some (.p (.cel k)), y1, some (.p x), some (.p (.int room)), y4, y5, y6, y7, y8, none], m.set k (potD q)⟩)) :
    Wt (evSs pg (C (N + 8)) (D (N + 8)) (right_body.drop 3) ⟨[some (.p (.cel k)), y1, some (.p x), some (.p (.int room)), y4, y5, y6, y7, y8, none], m.set k (potD p)⟩) Q := by
  dsimp only [right_body, b_l_right, List.drop]
  walk_at "w"
  refine c_pick hk (by simp) ?_
  intro x1 p1 hx
  obtain ⟨v, hv, rfl⟩ : ∃ v : Int, 2 ≤ v ∧ x1 = .int v := by
    simp only [List.mem_cons, List.not_mem_nil, or_false] at hx
    rcases hx with h | h | h | h | h <;> exact ⟨_, by omega, h⟩
  obtain ⟨w, hw, ew⟩ : ∃ w : Int, (2 ≤ w ∧ w ≤ room) ∧ biD .max [.int 2, .int (if v < room then v else room)] = some (.int w) := ⟨_, by split <;> split <;> omega, rfl⟩
  walk_at "w"
  refine c_pick hk (by simp) ?_
  intro x2 p2 hx2
  obtain ⟨near, rfl⟩ : ∃ v : Int, x2 = .int v := by
    simp only [List.mem_cons, List.not_mem_nil, or_false] at hx2
    rcases hx2 with h | h | h <;> exact ⟨_, h⟩
  walk_at "w"
  refine Wc.use (r_fill hk) ?_
  rintro _ _ ⟨f, q1, rfl, rfl, hf⟩
  walk_at "w"
  refine Wc.use (r_fill hk) ?_
  rintro _ _ ⟨g, q2, rfl, rfl, hg⟩
  walk_at "w"
  rw [len_rangeD]
  walk_at "w"
  refine we_compI (fun n acc m' => acc.length = n ∧ (∀ d ∈ acc, bitD d) ∧ ∃ q, m' = m.set k (potD q)) ⟨rfl, (fun _ h => by cases h), _, rfl⟩ ?_ ?_
  · rintro n y hy acc _ ⟨h1, h2, q, rfl⟩
    refine ⟨_, rfl, we_eq e_cst (.inr ⟨rfl, ?_⟩)⟩
    walk_at "w"
    refine c_pick hk (by simp) ?_
    intro x p4 hx
    walk_at "w"
    refine ⟨by simp [h1], ?_, _, rfl⟩
    intro d hd
    rcases List.mem_append.mp hd with h | h
    · exact h2 d h
    · rw [List.mem_singleton] at h
      subst h
      simp only [List.mem_cons, List.not_mem_nil, or_false] at hx
      exact hx
  · rintro bs _ ⟨h1, h2, q, rfl⟩
    rw [len_rangeD] at h1
    have a1 := r_alone (N := N + 1) (f := f) (flat_pot (k := k) (p := q) hm) hf (w := w) (bs := bs) (by omega) (by omega) h2
    have a2 := r_alone (N := N + 1) (f := g) (flat_pot (k := k) (p := q) hm) hg (w := w) (bs := bs) (by omega) (by omega) h2
    have a3 := r_pair (N := N + 1) (f := f) (g := g) (flat_pot (k := k) (p := q) hm) hf hg (w := w) (bs := bs) (by omega) (by omega) h2
    walk_at "w"
    exact hQ _ _ _ _ _ _
theorem r_rbits {N : Nat} {g : Str} {n : Int} {m : List Dt} : C (N + 1) i_Register_bits [regD g n] m = .ok (.p (.int 64)) m := by
  apply wc_eq
  walk_at "fn"
theorem r_nbits {N : Nat} {a n : Int} {m : List Dt} : C (N + 1) i_Next_bits [nxtD a n] m = .ok (.p (.int (8 * n))) m := by
  apply wc_eq
  walk_at "fn"
theorem r_nmany {N : Nat} {a n : Int} {m : List Dt} : C (N + 1) i_Next_many [nxtD a n] m = .ok (.p (.int n)) m := by
  apply wc_eq
  walk_at "fn"
theorem r_sbits {N : Nat} {a n : Int} {m : List Dt} : C (N + 1) i_Slots_bits [sloD a n] m = .ok (.p (.int (8 * n))) m := by
  apply wc_eq
  walk_at "fn"
theorem r_smany {N : Nat} {a n : Int} {m : List Dt} : C (N + 1) i_Slots_many [sloD a n] m = .ok (.p (.int n)) m := by
  apply wc_eq
  walk_at "fn"
local macro_rules | `(tactic| walk_at "wcall") => `(tactic| refine wc_ok r_rbits ?_)
local macro_rules | `(tactic| walk_at "wcall") => `(tactic| refine wc_ok r_nbits ?_)
local macro_rules | `(tactic| walk_at "wcall") => `(tactic| refine wc_ok r_nmany ?_)
local macro_rules | `(tactic| walk_at "wcall") => `(tactic| refine wc_ok r_sbits ?_)
local macro_rules | `(tactic| walk_at "wcall") => `(tactic| refine wc_ok r_smany ?_)
local macro_rules | `(tactic| walk_at "wS") => `(tactic| (refine turn_rest (by with_reducible assumption) (by with_reducible assumption) (by omega) ?_; intro _ _ _ _ _ _))
theorem r_right {N k : Nat} {m : List Dt} {p : Pot} (hk : k < m.length) (hm : m.all flatC = true) : Wc (C (N + 9) i_l_right [.cel k] (m.set k (potD p))) (fun b m' => ∃ q, b = .p (.bl true) ∧ m' = m.set k (potD q)) NoC := by
  walk_at "fn"
  refine wt_forL (fun n r m' => ∃ y1 y2 y3 y4 y5 y6 y7 y8 q, r = [some (.p (.cel k)), y1, y2, y3, y4, y5, y6, y7, y8, none] ∧ m' = m.set k (potD q)) ⟨_, _, _, _, _, _, _, _, _, rfl, rfl⟩ ?_ ?_
  · rintro n y hy _ _ ⟨y1, y2, y3, y4, y5, y6, y7, y8, q, rfl, rfl⟩
    refine ⟨_, rfl, ?_⟩
    walk_at "w"
    refine Wc.use (r_place hk) ?_
    rintro _ _ ⟨x, q, rfl, rfl, hx⟩
    rcases hx with ⟨g, n, rfl⟩ | ⟨a, n, hn, rfl⟩ | ⟨o, n, hn, rfl⟩
    · walk_at "w"
      exact ⟨_, _, _, _, _, _, _, _, _, rfl, rfl⟩
    · walk_at "w"
      exact ⟨_, _, _, _, _, _, _, _, _, rfl, rfl⟩
    · walk_at "w"
      exact ⟨_, _, _, _, _, _, _, _, _, rfl, rfl⟩
  · rintro _ _ ⟨y1, y2, y3, y4, y5, y6, y7, y8, q, rfl, rfl⟩
    walk_at "w"
theorem all_rep {n : Nat} : biD .all [.lst (List.replicate n (.bl true))] = some (.bl true) := by
  have e : boolsD (List.replicate n (Dt.bl true)) = some (List.replicate n true) := by
    induction n with
    | zero => rfl
    | succ n ih => rw [List.replicate_succ, boolsD, ih]; rfl
  simp only [biD, e, Option.map_some]
  congr 2
  rw [List.all_eq_true]
  intro x hx
  rw [List.eq_of_mem_replicate hx]
  rfl
theorem r_pot {N k : Nat} {ns : List Int} {m : List Dt} (hk : k < 1000) : C (N + 1) i_l_pot [.scr ns, .int k] m = .ok (.p (.cel m.length)) (m ++ [potD (potOf ns k)]) := by
  show Cf pg (N + 1) i_l_pot [.scr ns, .int k] m = _
  rw [Cf_succ]
  exact pot_run (P := pg) (cf := Cf pg N) (ci := Df pg N) (g := i_l_pot) (shs := [(2, [], [.a 0, .a 1])]) rfl hk
theorem r_law {N : Nat} {ns : List Int} : ∃ m, C (N + 11) i_law [.scr ns] [] = .ok (.p (.bl true)) m := by
  have h : Wc (C (N + 11) i_law [.scr ns] []) (fun b m => b = .p (.bl true)) NoC := by
    have e1 : biD .max [.int 1, .int (if (4 : Int) < (ns.length : Int) then 4 else (ns.length : Int))] = some (.int ((max 1 (min ns.length 4) : Nat) : Int)) := by
      simp only [biD]
      congr 2
      split <;> split <;> omega
    walk_at "fn"
    rw [len_rangeD]
    walk_at "w"
    refine we_compI (fun n acc m' => acc = List.replicate n (.bl true) ∧ m'.all flatC = true) ⟨rfl, rfl⟩ ?_ ?_
    · rintro n y hy acc m ⟨rfl, hm⟩
      obtain ⟨rfl, hn⟩ := rg_at hy
      rw [show (0 : Int) + (n : Int) = n by omega]
      refine ⟨_, rfl, we_eq e_cst (.inr ⟨rfl, ?_⟩)⟩
      walk_at "w"
      refine wc_ok (r_pot (by omega)) ?_
      have hf : (m ++ [potD (potOf ns n)]).all flatC = true := by
        rw [List.all_append, hm]
        rfl
      walk_at "w"
      rw [new_cell]
      refine Wc.use (r_right cell_lt hf) ?_
      rintro _ _ ⟨q, rfl, rfl⟩
      walk_at "w"
      exact ⟨by rw [List.replicate_succ'], flat_pot hf⟩
    · rintro acc m ⟨rfl, hm⟩
      have e := all_rep (n := (rangeD 0 ((max 1 (min ns.length 4) : Nat) : Int)).length)
      walk_at "w"
  obtain ⟨b, m, h1, h2⟩ := wc_out h
  subst h2
  exact ⟨m, h1⟩
end K15
open PySem PySem.W PySem.Calls PyProof.Rows PyI
theorem PySem.Challenge.cw_unlikecalls_k15_whole_fills_done_as_work_holds : PySem.Challenge.rw_unlikecalls_k15_whole_fills_done_as_work.Holds := by
  w_on; o_law
  refine HandSHeadRun.head_any (r := K15.R) (q := PySem.W.view K15.R.prog [K15.lawIx]) (H := hookL K15.asL (tabB K15.tb)) (ob := obL K15.asL (tabB K15.tb)) (M := 8000) (loose := K15.loose) (d := HandSHeadRun.topDef K15.R.prog K15.lawIx) (kwd := []) obL_eq
    (by kernel_rfl) (fun s => by kernel_rfl) K15.run (by kernel_rfl) (by kernel_rfl) (by kernel_rfl) (by rfl) (by first | assumption | decide +kernel) (by decide +kernel) ⟨rfl, rfl, rfl, rfl, rfl, by decide +kernel⟩ ?hw ?hc
  case hw => w_witness2
  case hc =>
    refine walk_run (T := K15.tb) (fuel := 11) (n := 63) (g := K15.i_law) rfl (by decide) (by kernel_rfl) ⟨by decide, by decide, by decide⟩ (by kernel_rfl) (by kernel_rfl) (by kernel_rfl) (fun ns _ => ?_)
    obtain ⟨m, h⟩ := K15.r_law (N := 0) (ns := ns)
    have h : Cf K15.pg 11 K15.i_law [.scr ns] [] = .ok (.p (.bl true)) m := h
    rw [Cf_eq] at h
    exact ⟨m, h⟩
