import PyProof.Rows.All
import Wide.All
import OpenK.AllK
import Wide.FinOn
import HandS.ForMost
import HandS.Flow
import HandS.FStr
import HandS.IsInst
import HandS.Deep
import HandS.StrMore
import HandS.TryOnly
import HandS.ExcOwn
import HandS.WordsExc
import HandS.Conv
import HandS.SetKeys
import PyProof.ReprRoads
import PyProof.ReprReads
import HandS.Walk
import PySem.Challenge.RW_everwalk_k61_worlds_told
set_option Elab.async false
set_option linter.all false
set_option maxRecDepth 100000
set_option maxHeartbeats 2000000
/-! DL: a data layer over the hand layer. State: an environment of data by slots, and the objects that are owned (may change). -/
namespace DL
open PySem L2

inductive Dt where
  | non | bl (b : Bool) | int (i : Int) | str (x : Str) | val (v : V)
  | lst (xs : List Dt) | tup (xs : List Dt)
  | dic (kvs : List (Key × Dt)) | dit (kvs : List (List Key × Dt))
  | ins (C : Addr) (fs : List (Str × Dt))
abbrev ptr (a : Addr) : Dt := .val (.ref a)

-- value v is the data d in the frozen heap G
mutual
inductive Rp (K : PySem.W.Frag) (G : Hp) : V → Dt → Prop
  | non : Rp K G .non .non
  | bl (b : Bool) : Rp K G (.bl b) (.bl b)
  | int (i : Int) : Rp K G (.int i) (.int i)
  | str (x : Str) : Rp K G (.str x) (.str x)
  | val (v : V) : Rp K G v (.val v)
  | lst {a : Addr} {vs : List V} {ds : List Dt} : SqL K G a vs → Rps K G vs ds → Rp K G (.ref a) (.lst ds)
  | tup {a : Addr} {vs : List V} {ds : List Dt} : SqT K G a vs → Rps K G vs ds → Rp K G (.ref a) (.tup ds)
  | dic {a : Addr} {kvs : List (Key × V)} {kds : List (Key × Dt)} : Rd G a (.dK kvs) → RpK K G kvs kds → Rp K G (.ref a) (.dic kds)
  | dit {a : Addr} {kvs : List (List Key × V)} {kds : List (List Key × Dt)} : Rd G a (.dT kvs) → RpT K G kvs kds → Rp K G (.ref a) (.dit kds)
  | ins {a C dx : Addr} {fs : List (Str × V)} {fds : List (Str × Dt)} : G a = some (.ins C dx fs) → RpF K G fs fds → Rp K G (.ref a) (.ins C fds)
inductive Rps (K : PySem.W.Frag) (G : Hp) : List V → List Dt → Prop
  | nil : Rps K G [] []
  | cons {v : V} {d : Dt} {vs : List V} {ds : List Dt} : Rp K G v d → Rps K G vs ds → Rps K G (v :: vs) (d :: ds)
inductive RpK (K : PySem.W.Frag) (G : Hp) : List (Key × V) → List (Key × Dt) → Prop
  | nil : RpK K G [] []
  | cons {k : Key} {v : V} {d : Dt} {vs : List (Key × V)} {ds : List (Key × Dt)} : Rp K G v d → RpK K G vs ds → RpK K G ((k, v) :: vs) ((k, d) :: ds)
inductive RpT (K : PySem.W.Frag) (G : Hp) : List (List Key × V) → List (List Key × Dt) → Prop
  | nil : RpT K G [] []
  | cons {k : List Key} {v : V} {d : Dt} {vs : List (List Key × V)} {ds : List (List Key × Dt)} : Rp K G v d → RpT K G vs ds → RpT K G ((k, v) :: vs) ((k, d) :: ds)
inductive RpF (K : PySem.W.Frag) (G : Hp) : List (Str × V) → List (Str × Dt) → Prop
  | nil : RpF K G [] []
  | cons {k : Str} {v : V} {d : Dt} {vs : List (Str × V)} {ds : List (Str × Dt)} : Rp K G v d → RpF K G vs ds → RpF K G ((k, v) :: vs) ((k, d) :: ds)
end

theorem Same.tq {K : PySem.W.Frag} {H H' : Hp} {a : Addr} {xs : List V} (e : Same H H') (h : SqT K H a xs) : SqT K H' a xs := by
  rcases h with (h | ⟨o, h⟩) | h
  · exact .inl (.inl (e _ _ h))
  · exact .inl (.inr ⟨o, e _ _ h⟩)
  · exact .inr h

theorem Same.rdq {H H' : Hp} {a : Addr} {u : HO} (e : Same H H') (h : Rd H a u) : Rd H' a u := h.elim (fun h => .inl (e _ _ h)) fun ⟨o, h⟩ => .inr ⟨o, e _ _ h⟩
section
variable {K : PySem.W.Frag} {G G' : Hp}
theorem Rp.mono (e : Same G G') {v : V} {d : Dt} (h : Rp K G v d) : Rp K G' v d :=
  Rp.rec (motive_1 := fun v d _ => Rp K G' v d) (motive_2 := fun v d _ => Rps K G' v d) (motive_3 := fun v d _ => RpK K G' v d)
    (motive_4 := fun v d _ => RpT K G' v d) (motive_5 := fun v d _ => RpF K G' v d)
    .non .bl .int .str .val (fun h _ r => .lst (e.seq h) r) (fun h _ r => .tup (Same.tq e h) r) (fun h _ r => .dic (Same.rdq e h) r) (fun h _ r => .dit (Same.rdq e h) r)
    (fun h _ r => .ins (e _ _ h) r) .nil (fun _ _ a b => .cons a b) .nil (fun _ _ a b => .cons a b) .nil (fun _ _ a b => .cons a b) .nil (fun _ _ a b => .cons a b) h
theorem Rps.mono (e : Same G G') : ∀ {vs : List V} {ds : List Dt}, Rps K G vs ds → Rps K G' vs ds
  | _, _, .nil => .nil
  | _, _, .cons h r => .cons (h.mono e) (r.mono e)
theorem RpK.mono (e : Same G G') : ∀ {vs : List (Key × V)} {ds : List (Key × Dt)}, RpK K G vs ds → RpK K G' vs ds
  | _, _, .nil => .nil
  | _, _, .cons h r => .cons (h.mono e) (r.mono e)
theorem RpT.mono (e : Same G G') : ∀ {vs : List (List Key × V)} {ds : List (List Key × Dt)}, RpT K G vs ds → RpT K G' vs ds
  | _, _, .nil => .nil
  | _, _, .cons h r => .cons (h.mono e) (r.mono e)
theorem RpF.mono (e : Same G G') : ∀ {vs : List (Str × V)} {ds : List (Str × Dt)}, RpF K G vs ds → RpF K G' vs ds
  | _, _, .nil => .nil
  | _, _, .cons h r => .cons (h.mono e) (r.mono e)
theorem Rps.len : ∀ {vs : List V} {ds : List Dt}, Rps K G vs ds → vs.length = ds.length
  | _, _, .nil => rfl
  | _, _, .cons _ r => by rw [List.length_cons, List.length_cons, r.len]
theorem Rps.get : ∀ {vs : List V} {ds : List Dt} {i : Nat} {v : V}, Rps K G vs ds → vs[i]? = some v → ∃ d, ds[i]? = some d ∧ Rp K G v d
  | _, _, _, _, .nil, h => by simp at h
  | _, _, 0, _, .cons a r, h => by simp at h; subst h; exact ⟨_, rfl, a⟩
  | _, _, i + 1, _, .cons a r, h => by
    obtain ⟨d, e, q⟩ := r.get (i := i) (by simpa using h)
    exact ⟨d, by simpa using e, q⟩
theorem Rps.getD : ∀ {vs : List V} {ds : List Dt} {i : Nat} {d : Dt}, Rps K G vs ds → ds[i]? = some d → ∃ v, vs[i]? = some v ∧ Rp K G v d
  | _, _, _, _, .nil, h => by simp at h
  | _, _, 0, _, .cons a r, h => by simp at h; subst h; exact ⟨_, rfl, a⟩
  | _, _, i + 1, _, .cons a r, h => by
    obtain ⟨v, e, q⟩ := r.getD (i := i) (by simpa using h)
    exact ⟨v, by simpa using e, q⟩
theorem Rps.app : ∀ {vs ws : List V} {ds es : List Dt}, Rps K G vs ds → Rps K G ws es → Rps K G (vs ++ ws) (ds ++ es)
  | _, _, _, _, .nil, s => s
  | _, _, _, _, .cons a r, s => .cons a (r.app s)
theorem Rps.set {v : V} {d : Dt} (h : Rp K G v d) : ∀ {vs : List V} {ds : List Dt} (i : Nat), Rps K G vs ds → Rps K G (vs.set i v) (ds.set i d)
  | _, _, _, .nil => .nil
  | _, _, 0, .cons _ r => .cons h r
  | _, _, i + 1, .cons a r => .cons a (Rps.set h i r)
theorem Rps.take : ∀ {vs : List V} {ds : List Dt} (n : Nat), Rps K G vs ds → Rps K G (vs.take n) (ds.take n)
  | _, _, 0, _ => .nil
  | _, _, _ + 1, .nil => .nil
  | _, _, n + 1, .cons a r => .cons a (r.take n)
theorem Rps.drop : ∀ {vs : List V} {ds : List Dt} (n : Nat), Rps K G vs ds → Rps K G (vs.drop n) (ds.drop n)
  | _, _, 0, r => r
  | _, _, _ + 1, .nil => .nil
  | _, _, n + 1, .cons _ r => Rps.drop n r
theorem Rps.reverse : ∀ {vs : List V} {ds : List Dt}, Rps K G vs ds → Rps K G vs.reverse ds.reverse
  | _, _, .nil => .nil
  | _, _, .cons a r => by
    rw [List.reverse_cons, List.reverse_cons]
    exact r.reverse.app (.cons a .nil)
theorem rps_ints : ∀ {vs : List V} {ns : List Int}, Rps K G vs (ns.map Dt.int) → vs = ns.map V.int
  | _, [], .nil => rfl
  | _, n :: ns, .cons a r => by
    cases a
    rw [rps_ints r]
    rfl
theorem rps_strs : ∀ {vs : List V} {ns : List Str}, Rps K G vs (ns.map Dt.str) → vs = ns.map V.str
  | _, [], .nil => rfl
  | _, n :: ns, .cons a r => by
    cases a
    rw [rps_strs r]
    rfl
theorem rps_bls : ∀ {vs : List V} {ns : List Bool}, Rps K G vs (ns.map Dt.bl) → vs = ns.map V.bl
  | _, [], .nil => rfl
  | _, n :: ns, .cons a r => by
    cases a
    rw [rps_bls r]
    rfl
theorem rps_of_ints : ∀ (ns : List Int), Rps K G (ns.map V.int) (ns.map Dt.int)
  | [] => .nil
  | n :: ns => .cons (.int n) (rps_of_ints ns)
theorem rps_of_strs : ∀ (ns : List Str), Rps K G (ns.map V.str) (ns.map Dt.str)
  | [] => .nil
  | n :: ns => .cons (.str n) (rps_of_strs ns)
theorem RpK.val : ∀ {kvs : List (Key × V)} {kds : List (Key × Dt)} (k : Key), RpK K G kvs kds →
    (valV kvs k = none ∧ (kds.find? fun kv => decide (kv.1 = k)) = none) ∨ ∃ v d, valV kvs k = some v ∧ (kds.find? fun kv => decide (kv.1 = k)).map (·.2) = some d ∧ Rp K G v d
  | _, _, _, .nil => .inl ⟨rfl, rfl⟩
  | _, _, k, .cons (k := k') (v := v) (d := d) (vs := vs) (ds := ds) a r => by
    by_cases e : k' = k
    · exact .inr ⟨v, d, valV_pos e, by simp [List.find?_cons, e], a⟩
    · rcases r.val k with ⟨h1, h2⟩ | ⟨v', d', h1, h2, h3⟩
      · exact .inl ⟨by rw [valV_neg e]; exact h1, by simp [List.find?_cons, e]; simpa using h2⟩
      · exact .inr ⟨v', d', by rw [valV_neg e]; exact h1, by simp only [List.find?_cons, e, decide_false]; exact h2, h3⟩
end

/-! ### owned objects -/
inductive OD where
  | lst (ds : List Dt) | dic (kvs : List (Key × Dt)) | dit (kvs : List (List Key × Dt)) | ins (C : Addr) (fs : List (Str × Dt))
def OD.dt : OD → Dt
  | .lst ds => .lst ds
  | .dic ds => .dic ds
  | .dit ds => .dit ds
  | .ins C fs => .ins C fs
inductive RpO (K : PySem.W.Frag) (G : Hp) : HO → OD → Prop
  | lst {vs : List V} {ds : List Dt} : Rps K G vs ds → RpO K G (.lst vs) (.lst ds)
  | dic {vs : List (Key × V)} {ds : List (Key × Dt)} : RpK K G vs ds → RpO K G (.dK vs) (.dic ds)
  | dit {vs : List (List Key × V)} {ds : List (List Key × Dt)} : RpT K G vs ds → RpO K G (.dT vs) (.dit ds)
  | ins {C dx : Addr} {vs : List (Str × V)} {ds : List (Str × Dt)} : RpF K G vs ds → RpO K G (.ins C dx vs) (.ins C ds)
theorem RpO.mono {K : PySem.W.Frag} {G G' : Hp} (e : Same G G') {o : HO} {d : OD} (h : RpO K G o d) : RpO K G' o d := by
  cases h with
  | lst h => exact .lst (h.mono e)
  | dic h => exact .dic (h.mono e)
  | dit h => exact .dit (h.mono e)
  | ins h => exact .ins (h.mono e)
abbrev OL := List (Addr × OD)
abbrev OL.dom (O : OL) : List Addr := O.map Prod.fst

/-- dicts alone may be locked (walked) -/
def Lk (o : HO) : Prop := (∃ kvs, o = .dK kvs) ∨ ∃ kvs, o = .dT kvs
abbrev Sub (G H : Hp) : Prop := Same G H
theorem Sub.some {G H : Hp} (h : Sub G H) {a : Addr} (e : G a ≠ none) : H a ≠ none := by
  cases q : G a with
  | none => exact absurd q e
  | some o => rw [h a o q]; exact fun w => nomatch w
theorem Sub.l {K : PySem.W.Frag} {G H : Hp} (h : Sub G H) {a : Addr} {xs : List V} (r : SqL K G a xs) : SqL K H a xs := h.seq r
theorem Sub.t {K : PySem.W.Frag} {G H : Hp} (h : Sub G H) {a : Addr} {xs : List V} (r : SqT K G a xs) : SqT K H a xs := Same.tq h r

/-- m: the dicts that are locked -/
structure At (K : PySem.W.Frag) (m : List Addr) (G : Hp) (O : OL) (H : Hp) : Prop where
  sub : Sub G H
  own : ∀ p od, (p, od) ∈ O → G p = none ∧ ∃ o, H p = some o ∧ RpO K G o od
  nd : O.dom.Nodup
  lk : ∀ a o u, G a = some (.frz o u) → Lk u → a ∈ m
structure Next (K : PySem.W.Frag) (m : List Addr) (G : Hp) (O : OL) (H : Hp) (G' : Hp) (O' : OL) (H' : Hp) : Prop where
  same : Same G G'
  at' : At K m G' O' H'
  keep : ∀ a u, H a = some u → a ∉ O.dom → H' a = some u
  gnew : ∀ a, G' a ≠ none → G a ≠ none ∨ H a = none ∨ a ∈ O.dom
  onew : ∀ a ∈ O'.dom, a ∈ O.dom ∨ H a = none
theorem Next.refl {K : PySem.W.Frag} {m : List Addr} {G H : Hp} {O : OL} (a : At K m G O H) : Next K m G O H G O H :=
  ⟨Same.refl G, a, fun _ _ h _ => h, fun _ h => .inl h, fun _ h => .inl h⟩
theorem Next.trans {K : PySem.W.Frag} {m : List Addr} {G0 H0 G1 H1 G2 H2 : Hp} {O0 O1 O2 : OL} (a : Next K m G0 O0 H0 G1 O1 H1) (b : Next K m G1 O1 H1 G2 O2 H2) : Next K m G0 O0 H0 G2 O2 H2 := by
  have none0 : ∀ c, H1 c = none → H0 c = none ∨ c ∈ O0.dom := fun c h => by
    by_cases hc : c ∈ O0.dom
    · exact .inr hc
    · cases q : H0 c with
      | none => exact .inl rfl
      | some u =>
        rw [a.keep c u q hc] at h
        cases h
  refine ⟨a.same.trans b.same, b.at', fun c u h hc => b.keep c u (a.keep c u h hc) fun z => ?_, fun c h => ?_, fun c h => ?_⟩
  · rcases a.onew c z with z | z
    · exact hc z
    · rw [h] at z; cases z
  · rcases b.gnew c h with z | z | z
    · exact a.gnew c z
    · exact .inr (none0 c z)
    · exact .inr ((a.onew c z).symm)
  · rcases b.onew c h with z | z
    · exact a.onew c z
    · exact (none0 c z).symm

abbrev Env := List (Option Dt)
structure EnvR (K : PySem.W.Frag) (G : Hp) (σ : St) (env : Env) : Prop where
  len : σ.length = env.length
  get : ∀ (i : Nat) (d : Dt), env[i]? = some (some d) → ∃ v, σ[i]? = some (some v) ∧ Rp K G v d
theorem EnvR.mono {K : PySem.W.Frag} {G G' : Hp} {σ : St} {env : Env} (e : Same G G') (h : EnvR K G σ env) : EnvR K G' σ env :=
  ⟨h.len, fun i d q => let ⟨v, a, b⟩ := h.get i d q; ⟨v, a, b.mono e⟩⟩
theorem EnvR.set {K : PySem.W.Frag} {G : Hp} {σ : St} {env : Env} {v : V} {d : Dt} (h : EnvR K G σ env) (i : Nat) (r : Rp K G v d) : EnvR K G (σ.set i (some v)) (env.set i (some d)) := by
  refine ⟨by rw [List.length_set, List.length_set, h.len], fun j d' q => ?_⟩
  by_cases e : i = j
  · subst e
    have hi : i < env.length := by
      have := (List.getElem?_eq_some_iff.mp q).1
      rwa [List.length_set] at this
    rw [List.getElem?_set_self hi] at q
    cases q
    exact ⟨v, List.getElem?_set_self (by rw [h.len]; exact hi), r⟩
  · rw [List.getElem?_set_ne e] at q ⊢
    exact h.get j d' q
/-- less may be known of the slots -/
def EnvLe (e' e : Env) : Prop := e'.length = e.length ∧ ∀ (i : Nat) (d : Dt), e'[i]? = some (some d) → e[i]? = some (some d)
theorem EnvR.le {K : PySem.W.Frag} {G : Hp} {σ : St} {e e' : Env} (h : EnvR K G σ e) (l : EnvLe e' e) : EnvR K G σ e' := ⟨h.len.trans l.1.symm, fun i d q => h.get i d (l.2 i d q)⟩
def wipeE (env : Env) : List Nat → Env
  | [] => env
  | v :: vs => (wipeE env vs).set v none
theorem EnvR.wipe {K : PySem.W.Frag} {G : Hp} {σ : St} {env : Env} (h : EnvR K G σ env) : ∀ vs, EnvR K G (wipe σ vs) (wipeE env vs)
  | [] => h
  | v :: vs => by
    have ih := h.wipe vs
    refine ⟨by unfold L2.wipe wipeE; rw [List.length_set, List.length_set, ih.len], fun j d q => ?_⟩
    unfold wipeE at q
    unfold L2.wipe
    by_cases e : v = j
    · subst e
      have hi : v < (wipeE env vs).length := by
        have := (List.getElem?_eq_some_iff.mp q).1
        rwa [List.length_set] at this
      rw [List.getElem?_set_self hi] at q
      cases q
    · rw [List.getElem?_set_ne e] at q ⊢
      exact ih.get j d q

/-! ### judgements -/
/-- an expression: from the slots' data and the owned objects to its data and these -/
def XE (K : PySem.W.Frag) (m : List Addr) (E : XK) (te : TE) (env : Env) (O : OL) (Φ : Dt → OL → Prop) (Ψ : Addr → OL → Prop) : Prop :=
  ∀ σ G H (Q : VK), EnvR K G σ env → At K m G O H → (∀ v d G' O' H', Next K m G O H G' O' H' → Rp K G' v d → Φ d O' → Q v H') →
    (∀ C G' O' H', Next K m G O H G' O' H' → Ψ C O' → E (.ref C) none H') → te σ H Q
def XT (K : PySem.W.Frag) (m : List Addr) (E : XK) (t : TT) (env : Env) (O : OL) (Φ : Bool → OL → Prop) (Ψ : Addr → OL → Prop) : Prop :=
  ∀ σ G H (Q : Bool → Hp → Prop), EnvR K G σ env → At K m G O H → (∀ b G' O' H', Next K m G O H G' O' H' → Φ b O' → Q b H') →
    (∀ C G' O' H', Next K m G O H G' O' H' → Ψ C O' → E (.ref C) none H') → t σ H Q
def XA (K : PySem.W.Frag) (m : List Addr) (E : XK) (ta : TA) (env : Env) (O : OL) (Φ : List Dt → OL → Prop) (Ψ : Addr → OL → Prop) : Prop :=
  ∀ σ G H (Q : List V → Hp → Prop), EnvR K G σ env → At K m G O H → (∀ vs ds G' O' H', Next K m G O H G' O' H' → Rps K G' vs ds → Φ ds O' → Q vs H') →
    (∀ C G' O' H', Next K m G O H G' O' H' → Ψ C O' → E (.ref C) none H') → ta σ H Q
/-- pure ones -/
def EvE (K : PySem.W.Frag) (m : List Addr) (te : TE) (env : Env) (O : OL) (d : Dt) : Prop :=
  ∀ σ G H (Q : VK), EnvR K G σ env → At K m G O H → (∀ v G' H', Next K m G O H G' O H' → Rp K G' v d → Q v H') → te σ H Q
def EvT (K : PySem.W.Frag) (m : List Addr) (t : TT) (env : Env) (O : OL) (b : Bool) : Prop :=
  ∀ σ G H (Q : Bool → Hp → Prop), EnvR K G σ env → At K m G O H → (∀ G' H', Next K m G O H G' O H' → Q b H') → t σ H Q
def EvA (K : PySem.W.Frag) (m : List Addr) (ta : TA) (env : Env) (O : OL) (ds : List Dt) : Prop :=
  ∀ σ G H (Q : List V → Hp → Prop), EnvR K G σ env → At K m G O H → (∀ vs G' H', Next K m G O H G' O H' → Rps K G' vs ds → Q vs H') → ta σ H Q

structure EndsD where
  nx : Env → OL → Prop
  rt : Dt → OL → Prop
  bk : Env → OL → Prop := fun _ _ => False
  ct : Env → OL → Prop := fun _ _ => False
  xs : Addr → OL → Prop := fun _ _ => False
structure Sim (K : PySem.W.Frag) (m : List Addr) (E : XK) (G : Hp) (O : OL) (H : Hp) (D : EndsD) (D' : Ends) : Prop where
  nx : ∀ G' O' H' σ env, Next K m G O H G' O' H' → EnvR K G' σ env → D.nx env O' → D'.nx σ H'
  rt : ∀ G' O' H' v d, Next K m G O H G' O' H' → Rp K G' v d → D.rt d O' → D'.rt v H'
  bk : ∀ G' O' H' σ env, Next K m G O H G' O' H' → EnvR K G' σ env → D.bk env O' → D'.bk σ H'
  ct : ∀ G' O' H' σ env, Next K m G O H G' O' H' → EnvR K G' σ env → D.ct env O' → D'.ct σ H'
  xs : ∀ G' O' H' C, Next K m G O H G' O' H' → D.xs C O' → E (.ref C) none H'
def SE (K : PySem.W.Frag) (m : List Addr) (E : XK) (t : TS) (env : Env) (O : OL) (D : EndsD) : Prop :=
  ∀ σ G H (D' : Ends), EnvR K G σ env → At K m G O H → Sim K m E G O H D D' → t D' σ H
theorem Sim.next {K : PySem.W.Frag} {m : List Addr} {E : XK} {G H G1 H1 : Hp} {O O1 : OL} {D : EndsD} {D' : Ends} (s : Sim K m E G O H D D') (n : Next K m G O H G1 O1 H1) : Sim K m E G1 O1 H1 D D' :=
  ⟨fun _ _ _ _ _ m => s.nx _ _ _ _ _ (n.trans m), fun _ _ _ _ _ m => s.rt _ _ _ _ _ (n.trans m), fun _ _ _ _ _ m => s.bk _ _ _ _ _ (n.trans m), fun _ _ _ _ _ m => s.ct _ _ _ _ _ (n.trans m), fun _ _ _ _ m => s.xs _ _ _ _ (n.trans m)⟩
end DL

namespace DL
open PySem L2
section
variable {K : PySem.W.Frag} {m : List Addr} {E : XK} {env : Env} {O : OL} {G H : Hp}
/-! ### how the state goes on -/
theorem same_upd {G : Hp} {p : Addr} {o : HO} (h : G p = none) : Same G (upd G p o) := fun b u e => by
  rw [upd_ne (ne_of_none e h)]
  exact e
theorem At.fresh (a : At K m G O H) {p : Addr} (h : H p = none) : G p = none ∧ p ∉ O.dom := by
  refine ⟨?_, fun z => ?_⟩
  · cases q : G p with
    | none => rfl
    | some o => exact absurd h (a.sub.some (by rw [q]; exact fun w => nomatch w))
  · obtain ⟨⟨q, od⟩, hm, e⟩ := List.mem_map.mp z
    obtain ⟨_, o, ho, _⟩ := a.own q od hm
    have e' : q = p := e
    rw [e', h] at ho
    cases ho
theorem At.lkU (a : At K m G O H) {p : Addr} {o : HO} (hn : ∀ ob u, o ≠ .frz ob u) : ∀ b ob u, upd G p o b = some (.frz ob u) → Lk u → b ∈ m := fun b ob u e l => by
  by_cases hb : b = p
  · subst hb; rw [upd_same] at e; exact (hn ob u (Option.some.inj e)).elim
  · rw [upd_ne hb] at e; exact a.lk b ob u e l
theorem RpO.nofrz {o : HO} {od : OD} (r : RpO K G o od) : ∀ ob u, o ≠ .frz ob u := fun ob u e => by subst e; cases r
theorem Next.frozen (a : At K m G O H) {p : Addr} (h : H p = none) (o : HO) (hn : ∀ ob u, o ≠ .frz ob u := by intro _ _ h; cases h) : Next K m G O H (upd G p o) O (upd H p o) := by
  obtain ⟨hg, ho⟩ := a.fresh h
  refine ⟨same_upd hg, ⟨fun b u e => ?_, fun q od hm => ?_, a.nd, a.lkU hn⟩, fun b u e _ => ?_, fun b e => ?_, fun b e => .inl e⟩
  · by_cases hb : b = p
    · subst hb; rw [upd_same] at e ⊢; exact e
    · rw [upd_ne hb] at e ⊢; exact a.sub b u e
  · have hq : q ≠ p := fun z => ho (by rw [← z]; exact List.mem_map.mpr ⟨_, hm, rfl⟩)
    obtain ⟨h1, u, h2, h3⟩ := a.own q od hm
    exact ⟨by rw [upd_ne hq]; exact h1, u, by rw [upd_ne hq]; exact h2, h3.mono (same_upd hg)⟩
  · rw [upd_ne (ne_of_none e h)]; exact e
  · by_cases hb : b = p
    · subst hb; exact .inr (.inl h)
    · rw [upd_ne hb] at e; exact .inl e
theorem Next.own (a : At K m G O H) {p : Addr} (h : H p = none) {o : HO} {od : OD} (r : RpO K G o od) : Next K m G O H G ((p, od) :: O) (upd H p o) := by
  obtain ⟨hg, ho⟩ := a.fresh h
  refine ⟨Same.refl G, ⟨fun b u e => ?_, fun q od' hm => ?_, List.nodup_cons.mpr ⟨ho, a.nd⟩, a.lk⟩, fun b u e _ => ?_, fun b e => .inl e, fun b e => ?_⟩
  · have hb : b ≠ p := ne_of_none e hg
    rw [upd_ne hb]; exact a.sub b u e
  · rcases List.mem_cons.mp hm with z | hm
    · cases z; exact ⟨hg, o, upd_same, r⟩
    · have hq : q ≠ p := fun z => ho (by rw [← z]; exact List.mem_map.mpr ⟨_, hm, rfl⟩)
      obtain ⟨h1, u, h2, h3⟩ := a.own q od' hm
      exact ⟨h1, u, by rw [upd_ne hq]; exact h2, h3⟩
  · rw [upd_ne (ne_of_none e h)]; exact e
  · rcases List.mem_cons.mp e with z | z
    · have z' : b = p := z
      subst z'; exact .inr h
    · exact .inl z
theorem dom_set {O : OL} {k : Nat} {p : Addr} {od od' : OD} (h : O[k]? = some (p, od)) : (List.set O k (p, od')).map Prod.fst = O.dom := by
  rw [List.map_set]
  refine List.ext_getElem? fun i => ?_
  by_cases e : k = i
  · subst e
    rw [List.getElem?_set_self (by rw [List.length_map]; exact (List.getElem?_eq_some_iff.mp h).1), List.getElem?_map, h]
    rfl
  · rw [List.getElem?_set_ne e]
theorem dom_ix {O : OL} (nd : O.dom.Nodup) {i j : Nat} {p : Addr} {x y : OD} (h : O[i]? = some (p, x)) (h' : O[j]? = some (p, y)) : i = j := by
  have h1 : O.dom[i]? = some p := by rw [List.getElem?_map, h]; rfl
  have h2 : O.dom[j]? = some p := by rw [List.getElem?_map, h']; rfl
  obtain ⟨l1, e1⟩ := List.getElem?_eq_some_iff.mp h1
  obtain ⟨l2, e2⟩ := List.getElem?_eq_some_iff.mp h2
  exact (List.getElem_inj nd).mp (e1.trans e2.symm)
theorem Next.write (a : At K m G O H) {k : Nat} {p : Addr} {od od' : OD} (h : O[k]? = some (p, od)) {o' : HO} (r : RpO K G o' od') : Next K m G O H G (O.set k (p, od')) (upd H p o') := by
  have hm : (p, od) ∈ O := List.mem_of_getElem? h
  have hpd : p ∈ O.dom := List.mem_map.mpr ⟨_, hm, rfl⟩
  obtain ⟨hg, o, ho, _⟩ := a.own p od hm
  refine ⟨Same.refl G, ⟨fun b u e => ?_, fun q od2 hm2 => ?_, by show ((List.set O k (p, od')).map Prod.fst).Nodup; rw [dom_set h]; exact a.nd, a.lk⟩, fun b u e hb => ?_, fun b e => .inl e, fun b e => ?_⟩
  · rw [upd_ne (ne_of_none e hg)]; exact a.sub b u e
  · obtain ⟨i, hi⟩ := List.mem_iff_getElem?.mp hm2
    by_cases e : k = i
    · subst e
      rw [List.getElem?_set_self (List.getElem?_eq_some_iff.mp h).1] at hi
      cases hi
      exact ⟨hg, o', upd_same, r⟩
    · rw [List.getElem?_set_ne e] at hi
      have hq : q ≠ p := fun z => by
        subst z
        exact e (dom_ix a.nd h hi)
      obtain ⟨h1, u, h2, h3⟩ := a.own q od2 (List.mem_of_getElem? hi)
      exact ⟨h1, u, by rw [upd_ne hq]; exact h2, h3⟩
  · rw [upd_ne (fun z => hb (by rw [z]; exact hpd))]; exact e
  · have e' : b ∈ (List.set O k (p, od')).map Prod.fst := e
    rw [dom_set h] at e'
    exact .inl e'
theorem Rp.of_own {p : Addr} {o : HO} {od : OD} (r : RpO K G o od) (h : G p = some o) : Rp K G (.ref p) od.dt := by
  cases r with
  | lst r => exact .lst (.inl (.inl h)) r
  | dic r => exact .dic (.inl h) r
  | dit r => exact .dit (.inl h) r
  | ins r => exact .ins h r
theorem Next.freeze (a : At K m G O H) {k : Nat} {p : Addr} {od : OD} (h : O[k]? = some (p, od)) : ∃ o, H p = some o ∧ RpO K G o od ∧ Next K m G O H (upd G p o) (O.eraseIdx k) H := by
  have hm : (p, od) ∈ O := List.mem_of_getElem? h
  obtain ⟨hg, o, ho, r⟩ := a.own p od hm
  refine ⟨o, ho, r, same_upd hg, ⟨fun b u e => ?_, fun q od2 hm2 => ?_, ?_, a.lkU r.nofrz⟩, fun b u e _ => e, fun b e => ?_, fun b e => ?_⟩
  · by_cases hb : b = p
    · subst hb; rw [upd_same] at e; cases e; exact ho
    · rw [upd_ne hb] at e; exact a.sub b u e
  · obtain ⟨i, hi⟩ := List.mem_iff_getElem?.mp hm2
    rw [List.getElem?_eraseIdx] at hi
    have : ∃ j, j ≠ k ∧ O[j]? = some (q, od2) := by
      by_cases z : i < k
      · rw [if_pos z] at hi; exact ⟨i, by omega, hi⟩
      · rw [if_neg z] at hi; exact ⟨i + 1, by omega, hi⟩
    obtain ⟨j, hj, hq⟩ := this
    have hne : q ≠ p := fun z => by
      subst z
      exact hj (dom_ix a.nd hq h)
    obtain ⟨h1, u, h2, h3⟩ := a.own q od2 (List.mem_of_getElem? hq)
    exact ⟨by rw [upd_ne hne]; exact h1, u, h2, h3.mono (same_upd hg)⟩
  · show ((List.eraseIdx O k).map Prod.fst).Nodup
    exact List.Sublist.nodup ((List.eraseIdx_sublist O k).map _) a.nd
  · by_cases hb : b = p
    · subst hb; exact .inr (.inr (List.mem_map.mpr ⟨_, hm, rfl⟩))
    · rw [upd_ne hb] at e; exact .inl e
  · exact .inl ((List.Sublist.map _ (List.eraseIdx_sublist O k)).subset e)

/-! ### pure expressions -/
variable {te ta tb tc td : TE} {t u : TT} {a b c d e : Dt} {r : R2}
theorem EvE.xe {Φ : Dt → OL → Prop} {Ψ : Addr → OL → Prop} (h : EvE K m te env O d) (q : Φ d O) : XE K m E te env O Φ Ψ := fun σ G H Q e a k _ => h σ G H Q e a fun v G' H' n r => k v d G' O H' n r q
theorem EvT.xt {x : Bool} {Φ : Bool → OL → Prop} {Ψ : Addr → OL → Prop} (h : EvT K m t env O x) (q : Φ x O) : XT K m E t env O Φ Ψ := fun σ G H Q e a k _ => h σ G H Q e a fun G' H' n => k x G' O H' n q
theorem EvA.xa {ta : TA} {ds : List Dt} {Φ : List Dt → OL → Prop} {Ψ : Addr → OL → Prop} (h : EvA K m ta env O ds) (q : Φ ds O) : XA K m E ta env O Φ Ψ := fun σ G H Q e a k _ => h σ G H Q e a fun v G' H' n r => k v ds G' O H' n r q
theorem EvE.is (h : EvE K m te env O a) (e : a = b) : EvE K m te env O b := e ▸ h
theorem EvT.is {x y : Bool} (h : EvT K m t env O x) (e : x = y) : EvT K m t env O y := e ▸ h
theorem ev_var {i : Nat} (h : env[i]? = some (some d)) : EvE K m (tVar i) env O d := fun σ G H Q e a k => let ⟨v, h1, h2⟩ := e.get i d h; ⟨v, h1, k v G H (Next.refl a) h2⟩
theorem ev_int {i : Int} : EvE K m (tC (.int i)) env O (.int i) := fun σ G H Q e a k => k _ G H (Next.refl a) (.int i)
theorem ev_str {i : Str} : EvE K m (tC (.str i)) env O (.str i) := fun σ G H Q e a k => k _ G H (Next.refl a) (.str i)
theorem ev_bl {i : Bool} : EvE K m (tC (.bl i)) env O (.bl i) := fun σ G H Q e a k => k _ G H (Next.refl a) (.bl i)
theorem ev_non : EvE K m (tC .non) env O .non := fun σ G H Q e a k => k _ G H (Next.refl a) .non
theorem ev_val {v : V} : EvE K m (tC v) env O (.val v) := fun σ G H Q e a k => k _ G H (Next.refl a) (.val v)
/-- a constant of the module: a written tuple, list -/
theorem ev_con {v : V} (h : ∀ G, Rp K G v d) : EvE K m (tC v) env O d := fun σ G H Q e a k => k _ G H (Next.refl a) (h G)

def OpV (K : PySem.W.Frag) (m : List Addr) (r : R2) (a b : Dt) (O : OL) (c : Dt) : Prop :=
  ∀ G H v1 v2 (Q : VK), At K m G O H → Rp K G v1 a → Rp K G v2 b → (∀ v G' H', Next K m G O H G' O H' → Rp K G' v c → Q v H') → r v1 v2 H Q
theorem ev_op (ha : EvE K m ta env O a) (hb : EvE K m tb env O b) (hr : OpV K m r a b O c) : EvE K m (tOp r ta tb) env O c := fun σ G H Q e at' q =>
  ha σ G H _ e at' fun v1 G1 H1 n1 r1 => hb σ G1 H1 _ (e.mono n1.same) n1.at' fun v2 G2 H2 n2 r2 => hr G2 H2 v1 v2 Q n2.at' (r1.mono n2.same) r2 fun v G3 H3 n3 r3 => q v G3 H3 ((n1.trans n2).trans n3) r3
theorem OpV.of0 (h : ∀ G H v1 v2 (Q : VK), At K m G O H → Rp K G v1 a → Rp K G v2 b → (∀ v, Rp K G v c → Q v H) → r v1 v2 H Q) : OpV K m r a b O c :=
  fun G H v1 v2 Q at' r1 r2 q => h G H v1 v2 Q at' r1 r2 fun v rv => q v G H (Next.refl at') rv
theorem OpV.inl {r' : R2} (h : OpV K m r a b O c) : OpV K m (fun x y H Q => r x y H Q ∨ r' x y H Q) a b O c := fun G H v1 v2 Q at' r1 r2 q => .inl (h G H v1 v2 Q at' r1 r2 q)
theorem OpV.inr {r' : R2} (h : OpV K m r' a b O c) : OpV K m (fun x y H Q => r x y H Q ∨ r' x y H Q) a b O c := fun G H v1 v2 Q at' r1 r2 q => .inr (h G H v1 v2 Q at' r1 r2 q)
theorem OpV.is {c' : Dt} (h : OpV K m r a b O c) (e : c = c') : OpV K m r a b O c' := e ▸ h
theorem opv_I0 {f : Int → Int → Int} {i j : Int} : OpV K m (rI0 fun i j => .int (f i j)) (.int i) (.int j) O (.int (f i j)) := .of0 fun G H v1 v2 Q at' r1 r2 q => by
  cases r1; cases r2; exact ⟨i, j, rfl, rfl, q _ (.int _)⟩
theorem opv_I0b {f : Int → Int → Bool} {i j : Int} : OpV K m (rI0 fun i j => .bl (f i j)) (.int i) (.int j) O (.bl (f i j)) := .of0 fun G H v1 v2 Q at' r1 r2 q => by
  cases r1; cases r2; exact ⟨i, j, rfl, rfl, q _ (.bl _)⟩
theorem opv_I {C : Int → Int → Prop} {f : Int → Int → Int} {i j : Int} (hc : C i j) : OpV K m (rI C fun i j => .int (f i j)) (.int i) (.int j) O (.int (f i j)) := .of0 fun G H v1 v2 Q at' r1 r2 q => by
  cases r1; cases r2; exact ⟨i, j, rfl, rfl, hc, q _ (.int _)⟩
theorem opv_addS {x y : Str} (h : x.length + y.length ≤ sizeLine) : OpV K m (fun x y H Q => ∃ i j, x = .str i ∧ y = .str j ∧ i.length + j.length ≤ sizeLine ∧ Q (.str (i ++ j)) H) (.str x) (.str y) O (.str (x ++ y)) := .of0 fun G H v1 v2 Q at' r1 r2 q => by
  cases r1; cases r2; exact ⟨x, y, rfl, rfl, h, q _ (.str _)⟩

/-! ### lists that may be read: frozen or owned -/
def AsL (O : OL) (d : Dt) (ds : List Dt) : Prop := d = .lst ds ∨ ∃ (p : Addr) (k : Nat), d = ptr p ∧ O[k]? = some (p, .lst ds)
theorem AsL.fr {ds : List Dt} : AsL O (.lst ds) ds := .inl rfl
theorem AsL.own {p : Addr} {ds : List Dt} (k : Nat) (h : O[k]? = some (p, .lst ds)) : AsL O (ptr p) ds := .inr ⟨p, k, rfl, h⟩
theorem AsL.get {v : V} {ds : List Dt} (h : AsL O d ds) (at' : At K m G O H) (r : Rp K G v d) : ∃ a vs, v = .ref a ∧ SqL K H a vs ∧ Rps K G vs ds := by
  rcases h with rfl | ⟨p, k, rfl, h⟩
  · cases r with
    | lst s q => exact ⟨_, _, rfl, at'.sub.l s, q⟩
  · cases r
    obtain ⟨_, o, ho, q⟩ := at'.own p _ (List.mem_of_getElem? h)
    cases q with
    | lst q => exact ⟨p, _, rfl, .inl (.inl ho), q⟩
theorem tup_get {v : V} {ds : List Dt} (at' : At K m G O H) (r : Rp K G v (.tup ds)) : ∃ a vs, v = .ref a ∧ SqT K H a vs ∧ Rps K G vs ds := by
  cases r with
  | tup s q => exact ⟨_, _, rfl, at'.sub.t s, q⟩
/-- a list or tuple -/
def AsS (O : OL) (d : Dt) (ds : List Dt) : Prop := AsL O d ds ∨ d = .tup ds
theorem AsS.get {v : V} {ds : List Dt} (h : AsS O d ds) (at' : At K m G O H) (r : Rp K G v d) : ∃ a vs, v = .ref a ∧ (SqL K H a vs ∨ SqT K H a vs) ∧ Rps K G vs ds := by
  rcases h with h | rfl
  · obtain ⟨a, vs, h1, h2, h3⟩ := h.get at' r
    exact ⟨a, vs, h1, .inl h2, h3⟩
  · obtain ⟨a, vs, h1, h2, h3⟩ := tup_get at' r
    exact ⟨a, vs, h1, .inr h2, h3⟩
theorem AsS.fr {ds : List Dt} : AsS O (.lst ds) ds := .inl .fr
theorem AsS.tu {ds : List Dt} : AsS O (.tup ds) ds := .inr rfl
theorem AsS.own {p : Addr} {ds : List Dt} (k : Nat) (h : O[k]? = some (p, .lst ds)) : AsS O (ptr p) ds := .inl (.own k h)
theorem atI_rps {vs : List V} {ds : List Dt} (r : Rps K G vs ds) {i : Int} (h : atI ds i = some d) : ∃ v, atI vs i = some v ∧ Rp K G v d := by
  unfold atI at h ⊢
  rw [r.len]
  cases q : ixN ds.length i with
  | none => rw [q] at h; cases h
  | some j =>
    rw [q] at h
    exact r.getD h
theorem opv_ixS {ds : List Dt} {i : Int} (h : AsS O a ds) (hi : atI ds i = some d) : OpV K m (rIx K) a (.int i) O d := .of0 fun G H v1 v2 Q at' r1 r2 q => by
  cases r2
  rcases h with h | rfl
  · obtain ⟨p, vs, rfl, s, rs⟩ := h.get at' r1
    obtain ⟨v, hv, rv⟩ := atI_rps rs hi
    exact .inl ⟨p, vs, i, v, rfl, rfl, s, hv, q v rv⟩
  · obtain ⟨p, vs, rfl, s, rs⟩ := tup_get at' r1
    obtain ⟨v, hv, rv⟩ := atI_rps rs hi
    exact .inr (.inl ⟨p, vs, i, v, rfl, rfl, s, hv, q v rv⟩)
theorem opv_ixStr {x : Str} {i : Int} {ch : Nat} (hx : x.length ≤ sizeLine) (hi : atI x.cps.toList i = some ch) : OpV K m (rIx K) (.str x) (.int i) O (.str ⟨#[ch]⟩) := .of0 fun G H v1 v2 Q at' r1 r2 q => by
  cases r1; cases r2; exact .inr (.inr ⟨x, i, ch, rfl, rfl, hx, hi, q _ (.str _)⟩)

/-! ### argument lists, displays -/
theorem ea_nil : EvA K m tNil env O [] := fun σ G H Q e a k => k [] G H (Next.refl a) .nil
theorem ea_cons {tr : TA} {ds : List Dt} (h : EvE K m ta env O a) (hr : EvA K m tr env O ds) : EvA K m (tCons ta tr) env O (a :: ds) := fun σ G H Q e at' q =>
  h σ G H _ e at' fun v1 G1 H1 n1 r1 => hr σ G1 H1 _ (e.mono n1.same) n1.at' fun vs G2 H2 n2 r2 => q (v1 :: vs) G2 H2 (n1.trans n2) (.cons (r1.mono n2.same) r2)
theorem xa_nil {Φ : List Dt → OL → Prop} {Ψ : Addr → OL → Prop} (h : Φ [] O) : XA K m E tNil env O Φ Ψ := ea_nil.xa h
theorem xa_cons {tr : TA} {Φ : List Dt → OL → Prop} {Ψ : Addr → OL → Prop} (h : XE K m E ta env O (fun d O1 => XA K m E tr env O1 (fun ds O2 => Φ (d :: ds) O2) Ψ) Ψ) : XA K m E (tCons ta tr) env O Φ Ψ := fun σ G H Q e at' q x =>
  h σ G H _ e at' (fun v1 d G1 O1 H1 n1 r1 f => f σ G1 H1 _ (e.mono n1.same) n1.at' (fun vs ds G2 O2 H2 n2 r2 f2 => q (v1 :: vs) (d :: ds) G2 O2 H2 (n1.trans n2) (.cons (r1.mono n2.same) r2) f2) fun C G2 O2 H2 n2 => x C G2 O2 H2 (n1.trans n2)) x
theorem ev_tup {ta : TA} {ds : List Dt} (h : EvA K m ta env O ds) (hl : ds.length ≤ sizeLine) : EvE K m (tTup ta) env O (.tup ds) := fun σ G H Q e at' q =>
  h σ G H _ e at' fun vs G1 H1 n1 r1 => ⟨by rw [r1.len]; exact hl, fun p hp => by
    have n2 := Next.frozen n1.at' hp (.tup vs)
    exact q _ _ _ (n1.trans n2) (.tup (.inl (.inl upd_same)) (r1.mono n2.same))⟩
theorem ev_lst {ta : TA} {ds : List Dt} (h : EvA K m ta env O ds) (hl : ds.length ≤ sizeLine) : EvE K m (tLst ta) env O (.lst ds) := fun σ G H Q e at' q =>
  h σ G H _ e at' fun vs G1 H1 n1 r1 => ⟨by rw [r1.len]; exact hl, fun p hp => by
    have n2 := Next.frozen n1.at' hp (.lst vs)
    exact q _ _ _ (n1.trans n2) (.lst (.inl (.inl upd_same)) (r1.mono n2.same))⟩
/-- a new list that is one's own -/
theorem xe_lst {ta : TA} {Φ : Dt → OL → Prop} {Ψ : Addr → OL → Prop} (h : XA K m E ta env O (fun ds O1 => ds.length ≤ sizeLine ∧ ∀ p, p ∉ O1.dom → Φ (ptr p) ((p, .lst ds) :: O1)) Ψ) : XE K m E (tLst ta) env O Φ Ψ := fun σ G H Q e at' q x =>
  h σ G H _ e at' (fun vs ds G1 O1 H1 n1 r1 f => ⟨by rw [r1.len]; exact f.1, fun p hp => by
    have n2 := Next.own n1.at' hp (.lst r1)
    exact q _ _ _ _ _ (n1.trans n2) (.val _) (f.2 p (n1.at'.fresh hp).2)⟩) x
theorem xe_tup {ta : TA} {Φ : Dt → OL → Prop} {Ψ : Addr → OL → Prop} (h : XA K m E ta env O (fun ds O1 => ds.length ≤ sizeLine ∧ Φ (.tup ds) O1) Ψ) : XE K m E (tTup ta) env O Φ Ψ := fun σ G H Q e at' q x =>
  h σ G H _ e at' (fun vs ds G1 O1 H1 n1 r1 f => ⟨by rw [r1.len]; exact f.1, fun p hp => by
    have n2 := Next.frozen n1.at' hp (.tup vs)
    exact q _ _ _ _ _ (n1.trans n2) (.tup (.inl (.inl upd_same)) (r1.mono n2.same)) f.2⟩) x
theorem xe_dnew {Φ : Dt → OL → Prop} {Ψ : Addr → OL → Prop} (h : ∀ p, p ∉ O.dom → Φ (ptr p) ((p, .dic []) :: O)) : XE K m E tDNewK env O Φ Ψ := fun σ G H Q e at' q x p hp =>
  q _ _ _ _ _ (Next.own at' hp (.dic .nil)) (.val _) (h p (at'.fresh hp).2)
theorem xe_dnewT {Φ : Dt → OL → Prop} {Ψ : Addr → OL → Prop} (h : ∀ p, p ∉ O.dom → Φ (ptr p) ((p, .dit []) :: O)) : XE K m E tDNewT env O Φ Ψ := fun σ G H Q e at' q x p hp =>
  q _ _ _ _ _ (Next.own at' hp (.dit .nil)) (.val _) (h p (at'.fresh hp).2)
/-- what is owned is given up -/
theorem XE.frz {Φ : Dt → OL → Prop} {Ψ : Addr → OL → Prop} (h : XE K m E te env O (fun d O' => ∃ k p od, d = ptr p ∧ O'[k]? = some (p, od) ∧ Φ od.dt (O'.eraseIdx k)) Ψ) : XE K m E te env O Φ Ψ := fun σ G H Q e at' q x =>
  h σ G H Q e at' (fun v d G1 O1 H1 n1 r1 ⟨k, p, od, e1, e2, f⟩ => by
    subst e1
    cases r1
    obtain ⟨o, ho, ro, n2⟩ := Next.freeze n1.at' e2
    exact q _ _ _ _ _ (n1.trans n2) (Rp.of_own (ro.mono n2.same) upd_same) f) x
theorem XE.imp {Φ Φ' : Dt → OL → Prop} {Ψ : Addr → OL → Prop} (h : XE K m E te env O Φ Ψ) (i : ∀ d O', Φ d O' → Φ' d O') : XE K m E te env O Φ' Ψ := fun σ G H Q e at' q x => h σ G H Q e at' (fun v d G' O' H' n r f => q v d G' O' H' n r (i d O' f)) x
theorem XA.imp {ta : TA} {Φ Φ' : List Dt → OL → Prop} {Ψ : Addr → OL → Prop} (h : XA K m E ta env O Φ Ψ) (i : ∀ d O', Φ d O' → Φ' d O') : XA K m E ta env O Φ' Ψ := fun σ G H Q e at' q x => h σ G H Q e at' (fun v d G' O' H' n r f => q v d G' O' H' n r (i d O' f)) x

/-! ### tests -/
theorem et_B {x : Bool} (h : EvE K m te env O (.bl x)) : EvT K m (tB te) env O x := fun σ G H Q e at' q => h σ G H _ e at' fun v G1 H1 n1 r1 => by cases r1; exact ⟨x, rfl, q G1 H1 n1⟩
theorem et_test {x : Bool} (h : EvE K m te env O (.bl x)) : EvT K m (tTest te) env O x := fun σ G H Q e at' q => h σ G H _ e at' fun v G1 H1 n1 r1 => by cases r1; exact ⟨x, rfl, q G1 H1 n1⟩
theorem et_and {x y : Bool} (h1 : EvT K m t env O x) (h2 : x = true → EvT K m u env O y) : EvT K m (tAnd t u) env O (x && y) := fun σ G H Q e at' q => h1 σ G H _ e at' fun G1 H1 n1 => by
  cases x with
  | true =>
    show u σ H1 Q
    exact h2 rfl σ G1 H1 Q (e.mono n1.same) n1.at' fun G2 H2 n2 => q G2 H2 (n1.trans n2)
  | false => exact q G1 H1 n1
theorem et_or {x y : Bool} (h1 : EvT K m t env O x) (h2 : x = false → EvT K m u env O y) : EvT K m (tOr t u) env O (x || y) := fun σ G H Q e at' q => h1 σ G H _ e at' fun G1 H1 n1 => by
  cases x with
  | true => exact q G1 H1 n1
  | false =>
    show u σ H1 Q
    exact h2 rfl σ G1 H1 Q (e.mono n1.same) n1.at' fun G2 H2 n2 => q G2 H2 (n1.trans n2)
theorem et_not {x : Bool} (h1 : EvT K m t env O x) : EvT K m (tNot t) env O (!x) := fun σ G H Q e at' q => h1 σ G H _ e at' fun G1 H1 n1 => q G1 H1 n1
theorem et_yes : EvT K m tYes env O true := fun σ G H Q e at' q => q G H (Next.refl at')
theorem ev_andV {x y : Bool} (h1 : EvE K m ta env O (.bl x)) (h2 : x = true → EvE K m tb env O (.bl y)) : EvE K m (tAndV ta tb) env O (.bl (x && y)) := fun σ G H Q e at' q => h1 σ G H _ e at' fun v G1 H1 n1 r1 => by
  cases r1
  refine ⟨x, rfl, ?_⟩
  cases x with
  | true =>
    show tb σ H1 Q
    exact h2 rfl σ G1 H1 Q (e.mono n1.same) n1.at' fun v G2 H2 n2 => q v G2 H2 (n1.trans n2)
  | false => exact q _ G1 H1 n1 (.bl _)
theorem ev_orV {x y : Bool} (h1 : EvE K m ta env O (.bl x)) (h2 : x = false → EvE K m tb env O (.bl y)) : EvE K m (tOrV ta tb) env O (.bl (x || y)) := fun σ G H Q e at' q => h1 σ G H _ e at' fun v G1 H1 n1 r1 => by
  cases r1
  refine ⟨x, rfl, ?_⟩
  cases x with
  | true => exact q _ G1 H1 n1 (.bl _)
  | false =>
    show tb σ H1 Q
    exact h2 rfl σ G1 H1 Q (e.mono n1.same) n1.at' fun v G2 H2 n2 => q v G2 H2 (n1.trans n2)
theorem ev_notV {x : Bool} (h1 : EvE K m ta env O (.bl x)) : EvE K m (tNotV ta) env O (.bl (!x)) := fun σ G H Q e at' q => h1 σ G H _ e at' fun v G1 H1 n1 r1 => by
  cases r1; exact ⟨x, rfl, q _ G1 H1 n1 (.bl _)⟩
theorem ev_if {x : Bool} (h : EvT K m t env O x) (h1 : x = true → EvE K m ta env O a) (h2 : x = false → EvE K m tb env O a) : EvE K m (tIf t ta tb) env O a := fun σ G H Q e at' q => h σ G H _ e at' fun G1 H1 n1 => by
  cases x with
  | true =>
    show ta σ H1 Q
    exact h1 rfl σ G1 H1 Q (e.mono n1.same) n1.at' fun v G2 H2 n2 => q v G2 H2 (n1.trans n2)
  | false =>
    show tb σ H1 Q
    exact h2 rfl σ G1 H1 Q (e.mono n1.same) n1.at' fun v G2 H2 n2 => q v G2 H2 (n1.trans n2)
theorem ev_isN : EvE K m te env O .non → EvE K m (tIsN te) env O (.bl true) := fun h σ G H Q e at' q => h σ G H _ e at' fun v G1 H1 n1 r1 => by cases r1; exact q _ G1 H1 n1 (.bl _)
def notNone : Dt → Bool
  | .non => false | .val .non => false | _ => true
theorem notNone_v {v : V} (r : Rp K G v d) (h : notNone d = true) : v ≠ .non := by
  rintro rfl
  cases r <;> exact absurd h (by decide)
theorem ev_isN0 (h : EvE K m te env O d) (hn : notNone d = true) : EvE K m (tIsN te) env O (.bl false) := fun σ G H Q e at' q => h σ G H _ e at' fun v G1 H1 n1 r1 => by
  rw [decide_eq_false (notNone_v r1 hn)]; exact q _ G1 H1 n1 (.bl _)
theorem ev_notN : EvE K m te env O .non → EvE K m (tNotN te) env O (.bl false) := fun h σ G H Q e at' q => h σ G H _ e at' fun v G1 H1 n1 r1 => by cases r1; exact q _ G1 H1 n1 (.bl _)
theorem ev_notN0 (h : EvE K m te env O d) (hn : notNone d = true) : EvE K m (tNotN te) env O (.bl true) := fun σ G H Q e at' q => h σ G H _ e at' fun v G1 H1 n1 r1 => by
  rw [decide_eq_false (notNone_v r1 hn)]; exact q _ G1 H1 n1 (.bl _)

/-! ### calls of built-ins -/
def CaV (K : PySem.W.Frag) (m : List Addr) (r : List V → Hp → VK → Prop) (ds : List Dt) (O : OL) (c : Dt) : Prop :=
  ∀ G H vs (Q : VK), At K m G O H → Rps K G vs ds → (∀ v G' H', Next K m G O H G' O H' → Rp K G' v c → Q v H') → r vs H Q
theorem ev_cb {r : List V → Hp → VK → Prop} {ta : TA} {ds : List Dt} (h : EvA K m ta env O ds) (hr : CaV K m r ds O c) : EvE K m (tCB r ta) env O c := fun σ G H Q e at' q =>
  h σ G H _ e at' fun vs G1 H1 n1 r1 => hr G1 H1 vs Q n1.at' r1 fun v G2 H2 n2 r2 => q v G2 H2 (n1.trans n2) r2
theorem CaV.of0 {r : List V → Hp → VK → Prop} {ds : List Dt} (h : ∀ G H vs (Q : VK), At K m G O H → Rps K G vs ds → (∀ v, Rp K G v c → Q v H) → r vs H Q) : CaV K m r ds O c :=
  fun G H vs Q at' r1 q => h G H vs Q at' r1 fun v rv => q v G H (Next.refl at') rv
theorem CaV.inl {r r' : List V → Hp → VK → Prop} {ds : List Dt} (h : CaV K m r ds O c) : CaV K m (fun x H Q => r x H Q ∨ r' x H Q) ds O c := fun G H v1 Q at' r1 q => .inl (h G H v1 Q at' r1 q)
theorem CaV.inr {r r' : List V → Hp → VK → Prop} {ds : List Dt} (h : CaV K m r' ds O c) : CaV K m (fun x H Q => r x H Q ∨ r' x H Q) ds O c := fun G H v1 Q at' r1 q => .inr (h G H v1 Q at' r1 q)
theorem Rps.one {vs : List V} (h : Rps K G vs [d]) : ∃ v, vs = [v] ∧ Rp K G v d := by
  cases h with
  | cons r q => cases q; exact ⟨_, rfl, r⟩
theorem Rps.two {vs : List V} (h : Rps K G vs [d, e]) : ∃ v w, vs = [v, w] ∧ Rp K G v d ∧ Rp K G w e := by
  cases h with
  | cons r q =>
    obtain ⟨w, rfl, s⟩ := q.one
    exact ⟨_, w, rfl, r, s⟩
theorem ca_lenS {ds : List Dt} (h : AsS O d ds) : CaV K m (fun xs H Q => ∃ x n, xs = [x] ∧ LenV K x H n ∧ Q (.int n) H) [d] O (.int ds.length) := .of0 fun G H vs Q at' rs q => by
  obtain ⟨v, rfl, r⟩ := rs.one
  obtain ⟨p, xs, rfl, s, r2⟩ := h.get at' r
  refine ⟨_, ds.length, rfl, ?_, q _ (.int _)⟩
  rcases s with s | s
  · exact .inl ⟨xs, s, r2.len.symm⟩
  · exact .inr ⟨xs, s, r2.len.symm⟩
theorem ca_lenT {x : Str} (h : x.length ≤ sizeLine) : CaV K m (fun xs H Q => ∃ x n, xs = [x] ∧ LenV K x H n ∧ Q (.int n) H) [.str x] O (.int x.length) := .of0 fun G H vs Q at' rs q => by
  obtain ⟨v, rfl, r⟩ := rs.one
  cases r
  exact ⟨_, x.length, rfl, ⟨h, rfl⟩, q _ (.int _)⟩
theorem ca_list {ds : List Dt} (h : AsS O d ds) : CaV K m (fun xs H Q => ∃ p ys, xs = [.ref p] ∧ (SqL K H p ys ∨ SqT K H p ys) ∧ ∀ l, H l = none → Q (.ref l) (upd H l (.lst ys))) [d] O (.lst ds) := fun G H vs Q at' rs q => by
  obtain ⟨v, rfl, r⟩ := rs.one
  obtain ⟨p, xs, rfl, s, r2⟩ := h.get at' r
  refine ⟨p, xs, rfl, s, fun l hl => ?_⟩
  have n := Next.frozen at' hl (.lst xs)
  exact q _ _ _ n (.lst (.inl (.inl upd_same)) (r2.mono n.same))
theorem ca_tupL {ds : List Dt} (h : AsL O d ds) : CaV K m (fun xs H Q => ∃ p ys, xs = [.ref p] ∧ ((SqL K H p ys ∧ ∀ l, H l = none → Q (.ref l) (upd H l (.tup ys))) ∨ (SqT K H p ys ∧ Q (.ref p) H))) [d] O (.tup ds) := fun G H vs Q at' rs q => by
  obtain ⟨v, rfl, r⟩ := rs.one
  obtain ⟨p, xs, rfl, s, r2⟩ := h.get at' r
  refine ⟨p, xs, rfl, .inl ⟨s, fun l hl => ?_⟩⟩
  have n := Next.frozen at' hl (.tup xs)
  exact q _ _ _ n (.tup (.inl (.inl upd_same)) (r2.mono n.same))
theorem ca_tupT {ds : List Dt} : CaV K m (fun xs H Q => ∃ p ys, xs = [.ref p] ∧ ((SqL K H p ys ∧ ∀ l, H l = none → Q (.ref l) (upd H l (.tup ys))) ∨ (SqT K H p ys ∧ Q (.ref p) H))) [.tup ds] O (.tup ds) := .of0 fun G H vs Q at' rs q => by
  obtain ⟨v, rfl, r⟩ := rs.one
  obtain ⟨p, xs, rfl, s, r2⟩ := tup_get at' r
  exact ⟨p, xs, rfl, .inr ⟨s, q _ r⟩⟩
theorem ca_min2 {i j : Int} : CaV K m (fun xs H Q => ∃ i j, xs = [.int i, .int j] ∧ Q (.int (if j < i then j else i)) H) [.int i, .int j] O (.int (if j < i then j else i)) := .of0 fun G H vs Q at' rs q => by
  obtain ⟨v, w, rfl, r, s⟩ := rs.two
  cases r; cases s; exact ⟨i, j, rfl, q _ (.int _)⟩
theorem ca_max2 {i j : Int} : CaV K m (fun xs H Q => ∃ i j, xs = [.int i, .int j] ∧ Q (.int (if j > i then j else i)) H) [.int i, .int j] O (.int (if j > i then j else i)) := .of0 fun G H vs Q at' rs q => by
  obtain ⟨v, w, rfl, r, s⟩ := rs.two
  cases r; cases s; exact ⟨i, j, rfl, q _ (.int _)⟩
theorem ca_all {bs : List Bool} (h : AsL O d (bs.map Dt.bl)) : CaV K m (rAll K) [d] O (.bl (bs.all id)) := .of0 fun G H vs Q at' rs q => by
  obtain ⟨v, rfl, r⟩ := rs.one
  obtain ⟨p, xs, rfl, s, r2⟩ := h.get at' r
  rw [rps_bls r2] at s
  exact ⟨p, bs, rfl, s, q _ (.bl _)⟩
/-- texts by their signs -/
def leS (a b : Str) : Bool := !decide (b.cps.toList < a.cps.toList)
def srtS (xs : List Str) : List Str := xs.mergeSort leS
theorem str_ext {a b : Str} (h : a.cps.toList = b.cps.toList) : a = b := by
  obtain ⟨x⟩ := a
  obtain ⟨y⟩ := b
  have : x = y := Array.toList_inj.mp h
  rw [this]
theorem leS_trans (a b c : Str) (h : leS a b = true) (h' : leS b c = true) : leS a c = true := by
  unfold leS at *
  simp only [Bool.not_eq_true', decide_eq_false_iff_not] at *
  intro z
  rcases Std.lt_trichotomy b.cps.toList a.cps.toList with q | q | q
  · exact h q
  · rw [q] at h'; exact h' z
  · exact h' (List.lt_trans z q)
theorem leS_total (a b : Str) : (leS a b || leS b a) = true := by
  unfold leS
  rw [Bool.or_eq_true]
  simp only [Bool.not_eq_true', decide_eq_false_iff_not]
  by_cases z : b.cps.toList < a.cps.toList
  · exact .inr fun w => List.lt_irrefl _ (List.lt_trans z w)
  · exact .inl z
theorem leS_anti {a b : Str} (h : leS a b = true) (h' : leS b a = true) : a = b := by
  unfold leS at *
  simp only [Bool.not_eq_true', decide_eq_false_iff_not] at *
  refine str_ext ?_
  rcases Std.lt_trichotomy a.cps.toList b.cps.toList with q | q | q
  · exact (h' q).elim
  · exact q
  · exact (h q).elim
theorem rising_pw : ∀ (p : Str) (l : List Str), PyProof.Rows.risingS p l = true → (p :: l).Pairwise (fun a b => leS a b = true)
  | p, [], _ => List.pairwise_singleton _ _
  | p, x :: r, h => by
    have h' : (!PySem.Spec.ltCps x.cps.toList p.cps.toList && PyProof.Rows.risingS x r) = true := h
    rw [Bool.and_eq_true, PyProof.Rows.ltCps_eq] at h'
    have ih := rising_pw x r h'.2
    refine List.pairwise_cons.mpr ⟨fun y hy => ?_, ih⟩
    rcases List.mem_cons.mp hy with rfl | hy
    · exact h'.1
    · exact leS_trans _ _ _ h'.1 ((List.pairwise_cons.mp ih).1 y hy)
theorem sorted_pw (l : List Str) (h : PyProof.Rows.sortedS l = true) : l.Pairwise (fun a b => leS a b = true) := by
  cases l with
  | nil => exact .nil
  | cons x r => exact rising_pw x r h
theorem srtS_uniq {xs ys : List Str} (hp : ys.Perm xs) (hs : PyProof.Rows.sortedS ys = true) : ys = srtS xs :=
  List.Perm.eq_of_pairwise (fun _ _ _ _ => leS_anti) (sorted_pw ys hs) (List.pairwise_mergeSort leS_trans leS_total xs) (hp.trans (List.mergeSort_perm xs leS).symm)
theorem srtS_perm (xs : List Str) : (srtS xs).Perm xs := List.mergeSort_perm xs leS
theorem srtS_pw (xs : List Str) : (srtS xs).Pairwise (fun a b => leS a b = true) := List.pairwise_mergeSort leS_trans leS_total xs
theorem ca_sortedS {xs : List Str} (h : AsL O d (xs.map Dt.str)) (hl : xs.length < 64) : CaV K m (rSortedS K) [d] O (.lst ((srtS xs).map Dt.str)) := fun G H vs Q at' rs q => by
  obtain ⟨v, rfl, r⟩ := rs.one
  obtain ⟨p, vs, rfl, s, r2⟩ := h.get at' r
  rw [rps_strs r2] at s
  refine ⟨p, xs, rfl, s, hl, fun ys l hp hs hl' => ?_⟩
  have n := Next.frozen at' hl' (.lst (ys.map V.str))
  refine q _ _ _ n (.lst (.inl (.inl upd_same)) ?_)
  rw [← srtS_uniq hp hs]
  exact rps_of_strs ys
end
end DL

namespace DL
open PySem L2
section
variable {K : PySem.W.Frag} {m : List Addr} {E : XK} {env : Env} {O : OL} {G H : Hp} {te ta tb : TE} {t u : TS} {c : TT} {D : EndsD} {d : Dt} {g : TG}
/-! ### statements -/
theorem se_seq (h : SE K m E t env O { D with nx := fun e' O' => SE K m E u e' O' D }) : SE K m E (tSeq t u) env O D := fun σ G H D' e a s =>
  h σ G H _ e a ⟨fun G' O' H' σ' e' n r q => q σ' G' H' D' r n.at' (s.next n), s.rt, s.bk, s.ct, s.xs⟩
theorem se_next (h : D.nx env O) : SE K m E tNext env O D := fun σ G H D' e a s => s.nx G O H σ env (Next.refl a) e h
theorem se_break (h : D.bk env O) : SE K m E tBreak env O D := fun σ G H D' e a s => s.bk G O H σ env (Next.refl a) e h
theorem se_cont (h : D.ct env O) : SE K m E tCont env O D := fun σ G H D' e a s => s.ct G O H σ env (Next.refl a) e h
theorem se_asg {i : Nat} (h : XE K m E te env O (fun d O' => D.nx (env.set i (some d)) O') D.xs) : SE K m E (tAsg te (gName i)) env O D := fun σ G H D' e a s =>
  h σ G H _ e a (fun v d G' O' H' n r q => s.nx G' O' H' _ _ n ((e.mono n.same).set i r) q) fun C G' O' H' n q => s.xs G' O' H' C n q
theorem se_drop (h : XE K m E te env O (fun _ O' => D.nx env O') D.xs) : SE K m E (tDrop te) env O D := fun σ G H D' e a s =>
  h σ G H _ e a (fun v d G' O' H' n r q => s.nx G' O' H' _ _ n (e.mono n.same) q) fun C G' O' H' n q => s.xs G' O' H' C n q
theorem se_ret (h : XE K m E te env O D.rt D.xs) : SE K m E (tRet te) env O D := fun σ G H D' e a s =>
  h σ G H _ e a (fun v d G' O' H' n r q => s.rt G' O' H' v d n r q) fun C G' O' H' n q => s.xs G' O' H' C n q
theorem se_retN (h : D.rt .non O) : SE K m E tRetN env O D := fun σ G H D' e a s => s.rt G O H .non .non (Next.refl a) .non h
theorem se_if (h : XT K m E c env O (fun b O' => (b = true → SE K m E t env O' D) ∧ (b = false → SE K m E u env O' D)) D.xs) : SE K m E (tIfS c t u) env O D := fun σ G H D' e a s =>
  h σ G H _ e a (fun b G' O' H' n q => by
    cases b with
    | true => exact q.1 rfl σ G' H' D' (e.mono n.same) n.at' (s.next n)
    | false => exact q.2 rfl σ G' H' D' (e.mono n.same) n.at' (s.next n)) fun C G' O' H' n q => s.xs G' O' H' C n q
theorem se_ifE {b : Bool} (hc : EvT K m c env O b) (h1 : b = true → SE K m E t env O D) (h2 : b = false → SE K m E u env O D) : SE K m E (tIfS c t u) env O D := se_if (hc.xt ⟨h1, h2⟩)
theorem se_ifT (hc : EvT K m c env O true) (h1 : SE K m E t env O D) : SE K m E (tIfS c t u) env O D := se_ifE hc (fun _ => h1) (fun h => nomatch h)
theorem se_ifF (hc : EvT K m c env O false) (h1 : SE K m E u env O D) : SE K m E (tIfS c t u) env O D := se_ifE hc (fun h => nomatch h) (fun _ => h1)
/-- less is known of the slots -/
theorem SE.le {env' : Env} (h : SE K m E t env' O D) (l : EnvLe env' env) : SE K m E t env O D := fun σ G H D' e a s => h σ G H D' (e.le l) a s
theorem SE.imp {D1 : EndsD} (h : SE K m E t env O D1) (nx : ∀ e o, D1.nx e o → D.nx e o) (rt : ∀ e o, D1.rt e o → D.rt e o) (bk : ∀ e o, D1.bk e o → D.bk e o) (ct : ∀ e o, D1.ct e o → D.ct e o) (xs : ∀ e o, D1.xs e o → D.xs e o) :
    SE K m E t env O D := fun σ G H D' e a s => h σ G H D' e a
  ⟨fun G' O' H' σ' e' n r q => s.nx G' O' H' σ' e' n r (nx _ _ q), fun G' O' H' v d n r q => s.rt G' O' H' v d n r (rt _ _ q), fun G' O' H' σ' e' n r q => s.bk G' O' H' σ' e' n r (bk _ _ q),
    fun G' O' H' σ' e' n r q => s.ct G' O' H' σ' e' n r (ct _ _ q), fun G' O' H' C n q => s.xs G' O' H' C n (xs _ _ q)⟩
/-- an owned object is given up: what was a pointer in a slot is data from then on -/
theorem SE.frz {k : Nat} {p : Addr} {od : OD} {env' : Env} (hk : O[k]? = some (p, od)) (he : ∀ (i : Nat) (d : Dt), env'[i]? = some (some d) → env[i]? = some (some d) ∨ (env[i]? = some (some (ptr p)) ∧ d = od.dt)) (hl : env'.length = env.length)
    (h : SE K m E t env' (O.eraseIdx k) D) : SE K m E t env O D := fun σ G H D' e a s => by
  obtain ⟨o, ho, ro, n⟩ := Next.freeze a hk
  refine h σ _ H D' ⟨e.len.trans hl.symm, fun i d q => ?_⟩ n.at' (s.next n)
  rcases he i d q with z | ⟨z, rfl⟩
  · obtain ⟨v, h1, h2⟩ := e.get i d z
    exact ⟨v, h1, h2.mono n.same⟩
  · obtain ⟨v, h1, h2⟩ := e.get i _ z
    cases h2
    exact ⟨_, h1, Rp.of_own (ro.mono n.same) upd_same⟩

/-! ### loops -/
/-- what a target does with an item -/
def XG (K : PySem.W.Frag) (m : List Addr) (E : XK) (g : TG) (d : Dt) (env : Env) (O : OL) (Φ : Env → OL → Prop) : Prop :=
  ∀ σ G H v (Q : St → Hp → Prop), EnvR K G σ env → At K m G O H → Rp K G v d → (∀ σ' env' G' O' H', Next K m G O H G' O' H' → EnvR K G' σ' env' → Φ env' O' → Q σ' H') → g v σ H Q
theorem xg_name {i : Nat} {Φ : Env → OL → Prop} (h : Φ (env.set i (some d)) O) : XG K m E (gName i) d env O Φ := fun σ G H v Q e a r q => q _ _ G O H (Next.refl a) (e.set i r) h
def XGs (K : PySem.W.Frag) (m : List Addr) (E : XK) (g : TGs) (ds : List Dt) (env : Env) (O : OL) (Φ : Env → OL → Prop) : Prop :=
  ∀ σ G H vs (Q : St → Hp → Prop), EnvR K G σ env → At K m G O H → Rps K G vs ds → (∀ σ' env' G' O' H', Next K m G O H G' O' H' → EnvR K G' σ' env' → Φ env' O' → Q σ' H') → g vs σ H Q
theorem xgs_nil {Φ : Env → OL → Prop} (h : Φ env O) : XGs K m E gNil [] env O Φ := fun σ G H vs Q e a r q => by
  cases r; exact ⟨rfl, q σ env G O H (Next.refl a) e h⟩
theorem xgs_name {i : Nat} {gs : TGs} {ds : List Dt} {Φ : Env → OL → Prop} (h : XGs K m E gs ds (env.set i (some d)) O Φ) : XGs K m E (gCons (gName i) gs) (d :: ds) env O Φ := fun σ G H vs Q e a r q => by
  cases r with
  | cons r1 r2 => exact ⟨_, _, rfl, h _ G H _ Q (e.set i r1) a r2 q⟩
theorem xg_tup {n : Nat} {gs : TGs} {ds : List Dt} {Φ : Env → OL → Prop} (hn : ds.length = n) (h : XGs K m E gs ds env O Φ) : XG K m E (gTup K n gs) (.tup ds) env O Φ := fun σ G H v Q e a r q => by
  obtain ⟨p, vs, rfl, s, rs⟩ := tup_get a r
  exact ⟨p, vs, rfl, s, by rw [rs.len]; exact hn, h σ G H vs Q e a rs q⟩
theorem se_asgG (h : XE K m E te env O (fun d O' => XG K m E g d env O' D.nx) D.xs) : SE K m E (tAsg te g) env O D := fun σ G H D' e a s =>
  h σ G H _ e a (fun v d G' O' H' n r q => q σ G' H' v D'.nx (e.mono n.same) n.at' r fun σ' env' G2 O2 H2 n2 r2 f => s.nx G2 O2 H2 _ _ (n.trans n2) r2 f) fun C G' O' H' n q => s.xs G' O' H' C n q

theorem Sim.mid {D1 : EndsD} {D' : Ends} {N : St → Hp → Prop} (s : Sim K m E G O H D D') (hn : ∀ G' O' H' σ env, Next K m G O H G' O' H' → EnvR K G' σ env → D1.nx env O' → N σ H')
    (hc : ∀ G' O' H' σ env, Next K m G O H G' O' H' → EnvR K G' σ env → D1.ct env O' → N σ H') (hb : D1.bk = D.nx) (hr : D1.rt = D.rt) (hx : D1.xs = D.xs) : Sim K m E G O H D1 { D' with nx := N, ct := N, bk := D'.nx } :=
  ⟨hn, fun G' O' H' v d n r q => s.rt G' O' H' v d n r (hr ▸ q), fun G' O' H' σ env n r q => s.nx G' O' H' σ env n r (hb ▸ q), hc, fun G' O' H' C n q => s.xs G' O' H' C n (hx ▸ q)⟩
/-- for over a list that stands still -/
theorem se_forL {tl : TE} (Inv : Nat → Env → OL → Prop) (h : XE K m E tl env O (fun d O' => ∃ xs, d = .lst xs ∧ Inv 0 env O' ∧
      (∀ i x e o, xs[i]? = some x → Inv i e o → XG K m E g x e o fun e' o' => SE K m E t e' o' { D with nx := Inv (i + 1), ct := Inv (i + 1), bk := D.nx }) ∧ (∀ e o, Inv xs.length e o → D.nx e o)) D.xs) :
    SE K m E (tFor (iList K tl) g t) env O D := fun σ G H D' e a s => by
  refine h σ G H _ e a (fun v d G1 O1 H1 n1 r1 ⟨xs, hx, h0, hs, hd⟩ => ?_) fun C G' O' H' n q => s.xs G' O' H' C n q
  subst hx
  cases r1 with
  | @lst p vs _ sq rs =>
  refine ⟨p, rfl, ⟨vs, n1.at'.sub.l sq⟩, for_list (K := K) (a := p) (xs := vs) (fun i σ' H' => ∃ G' O' env', Next K m G O H G' O' H' ∧ EnvR K G' σ' env' ∧ Inv i env' O' ∧ SqL K G' p vs ∧ Rps K G' vs xs)
    ⟨G1, O1, env, n1, e.mono n1.same, h0, sq, rs⟩ (fun i σ' H' _ ⟨_, _, _, n, _, _, z, _⟩ => n.at'.sub.l z) (fun i y σ' H' hy ⟨G', O', env', n, r, iv, sq', rss⟩ => ?_) fun σ' H' ⟨G', O', env', n, r, iv, sq', rss⟩ => ?_⟩
  · obtain ⟨x, hx', rx⟩ := rss.get hy
    refine hs i x env' O' hx' iv σ' G' H' y _ r n.at' rx fun σ2 env2 G2 O2 H2 n2 r2 f => ?_
    have key : ∀ G3 O3 H3 σ3 env3, Next K m G2 O2 H2 G3 O3 H3 → EnvR K G3 σ3 env3 → Inv (i + 1) env3 O3 → ∃ G' O' env', Next K m G O H G' O' H3 ∧ EnvR K G' σ3 env' ∧ Inv (i + 1) env' O' ∧ SqL K G' p vs ∧ Rps K G' vs xs :=
      fun G3 O3 H3 σ3 env3 n3 r3 q3 => ⟨G3, O3, env3, (n.trans n2).trans n3, r3, q3, (n2.same.trans n3.same).seq sq', rss.mono (n2.same.trans n3.same)⟩
    exact f σ2 G2 H2 _ r2 n2.at' (((s.next n).next n2).mid key key rfl rfl rfl)
  · have el := rss.len
    rw [el] at iv
    exact s.nx G' O' H' σ' env' n r (hd env' O' iv)
/-- for over a tuple -/
theorem se_forT {tl : TE} (Inv : Nat → Env → OL → Prop) (h : XE K m E tl env O (fun d O' => ∃ xs, d = .tup xs ∧ Inv 0 env O' ∧
      (∀ i x e o, xs[i]? = some x → Inv i e o → XG K m E g x e o fun e' o' => SE K m E t e' o' { D with nx := Inv (i + 1), ct := Inv (i + 1), bk := D.nx }) ∧ (∀ e o, Inv xs.length e o → D.nx e o)) D.xs) :
    SE K m E (tFor (iTup K tl) g t) env O D := fun σ G H D' e a s => by
  refine h σ G H _ e a (fun v d G1 O1 H1 n1 r1 ⟨xs, hx, h0, hs, hd⟩ => ?_) fun C G' O' H' n q => s.xs G' O' H' C n q
  subst hx
  cases r1 with
  | @tup p vs _ sq rs =>
  refine ⟨p, rfl, ⟨vs, n1.at'.sub.t sq⟩, for_tup (K := K) (a := p) (xs := vs) (fun i σ' H' => ∃ G' O' env', Next K m G O H G' O' H' ∧ EnvR K G' σ' env' ∧ Inv i env' O' ∧ SqT K G' p vs ∧ Rps K G' vs xs)
    ⟨G1, O1, env, n1, e.mono n1.same, h0, sq, rs⟩ (fun i σ' H' _ ⟨_, _, _, n, _, _, z, _⟩ => n.at'.sub.t z) (fun i y σ' H' hy ⟨G', O', env', n, r, iv, sq', rss⟩ => ?_) fun σ' H' ⟨G', O', env', n, r, iv, sq', rss⟩ => ?_⟩
  · obtain ⟨x, hx', rx⟩ := rss.get hy
    refine hs i x env' O' hx' iv σ' G' H' y _ r n.at' rx fun σ2 env2 G2 O2 H2 n2 r2 f => ?_
    have key : ∀ G3 O3 H3 σ3 env3, Next K m G2 O2 H2 G3 O3 H3 → EnvR K G3 σ3 env3 → Inv (i + 1) env3 O3 → ∃ G' O' env', Next K m G O H G' O' H3 ∧ EnvR K G' σ3 env' ∧ Inv (i + 1) env' O' ∧ SqT K G' p vs ∧ Rps K G' vs xs :=
      fun G3 O3 H3 σ3 env3 n3 r3 q3 => ⟨G3, O3, env3, (n.trans n2).trans n3, r3, q3, Same.tq (n2.same.trans n3.same) sq', rss.mono (n2.same.trans n3.same)⟩
    exact f σ2 G2 H2 _ r2 n2.at' (((s.next n).next n2).mid key key rfl rfl rfl)
  · have el := rss.len
    rw [el] at iv
    exact s.nx G' O' H' σ' env' n r (hd env' O' iv)
theorem forR_core {lo : Int} {n : Nat} {j : Nat} {G1 H1 : Hp} {O1 : OL} {σ : St} {env1 : Env} {D' : Ends} (Inv : Nat → Env → OL → Prop) (s : Sim K m E G O H D D') (n1 : Next K m G O H G1 O1 H1) (e : EnvR K G1 σ env1) (h0 : Inv 0 env1 O1)
    (hs : ∀ (i : Nat) e o, i < n → Inv i e o → SE K m E t (e.set j (some (.int (lo + i)))) o { D with nx := Inv (i + 1), ct := Inv (i + 1), bk := D.nx }) (hd : ∀ e o, Inv n e o → D.nx e o) :
    ∃ W : Nat → Nat → St → Hp → Prop, (∃ m, W 0 m σ H1) ∧ ∀ i m σ H, W i m σ H →
      ((Itr lo n).stop i H ∧ D'.nx σ H) ∨ ((Itr lo n).go i H ∧ ∃ N : St → Hp → Prop, (∀ σ' H', N σ' H' → ∃ m', m' < m ∧ W (i + 1) m' σ' H') ∧ ∀ x H', (Itr lo n).yld i H x H' → gName j x σ H' fun σ2 H2 => t { D' with nx := N, ct := N, bk := D'.nx } σ2 H2) := by
  refine for_range (lo := lo) (n := n) (fun i σ' H' => ∃ G' O' env', Next K m G O H G' O' H' ∧ EnvR K G' σ' env' ∧ Inv i env' O') ⟨G1, O1, env1, n1, e, h0⟩ (fun i σ' H' hi ⟨G', O', env', n', r, iv⟩ => ?_) fun σ' H' ⟨G', O', env', n', r, iv⟩ => s.nx G' O' H' σ' env' n' r (hd env' O' iv)
  have key : ∀ G3 O3 H3 σ3 env3, Next K m G' O' H' G3 O3 H3 → EnvR K G3 σ3 env3 → Inv (i + 1) env3 O3 → ∃ G' O' env', Next K m G O H G' O' H3 ∧ EnvR K G' σ3 env' ∧ Inv (i + 1) env' O' :=
    fun G3 O3 H3 σ3 env3 n3 r3 q3 => ⟨G3, O3, env3, n'.trans n3, r3, q3⟩
  exact hs i env' O' hi iv _ G' H' _ (r.set j (.int _)) n'.at' ((s.next n').mid key key rfl rfl rfl)
theorem se_forR1 {ta : TA} {j : Nat} (Inv : Nat → Env → OL → Prop) (h : XA K m E ta env O (fun ds O' => ∃ n : Int, ds = [.int n] ∧ -(2 ^ 62) ≤ n ∧ n < 2 ^ 62 ∧ Inv 0 env O' ∧
      (∀ (i : Nat) e o, i < n.toNat → Inv i e o → SE K m E t (e.set j (some (.int i))) o { D with nx := Inv (i + 1), ct := Inv (i + 1), bk := D.nx }) ∧ (∀ e o, Inv n.toNat e o → D.nx e o)) D.xs) :
    SE K m E (tFor (iRng1 ta) (gName j) t) env O D := fun σ G H D' e a s => by
  refine h σ G H _ e a (fun vs ds G1 O1 H1 n1 r1 ⟨n, hx, b1, b2, h0, hs, hd⟩ => ?_) fun C G' O' H' n q => s.xs G' O' H' C n q
  subst hx
  obtain ⟨v, rfl, rv⟩ := r1.one
  cases rv
  exact ⟨n, rfl, b1, b2, forR_core (D := D) Inv s n1 (e.mono n1.same) h0 (fun i e o hi iv => by
    have z : (0 : Int) + (i : Int) = i := Int.zero_add _
    rw [z]; exact hs i e o hi iv) hd⟩
theorem se_forR2 {ta : TA} {j : Nat} (Inv : Nat → Env → OL → Prop) (h : XA K m E ta env O (fun ds O' => ∃ lo n : Int, ds = [.int lo, .int n] ∧ (-(2 ^ 62) ≤ lo ∧ lo < 2 ^ 62 ∧ -(2 ^ 62) ≤ n ∧ n < 2 ^ 62) ∧ Inv 0 env O' ∧
      (∀ (i : Nat) e o, i < (n - lo).toNat → Inv i e o → SE K m E t (e.set j (some (.int (lo + i)))) o { D with nx := Inv (i + 1), ct := Inv (i + 1), bk := D.nx }) ∧ (∀ e o, Inv (n - lo).toNat e o → D.nx e o)) D.xs) :
    SE K m E (tFor (iRng2 ta) (gName j) t) env O D := fun σ G H D' e a s => by
  refine h σ G H _ e a (fun vs ds G1 O1 H1 n1 r1 ⟨lo, n, hx, bb, h0, hs, hd⟩ => ?_) fun C G' O' H' n q => s.xs G' O' H' C n q
  subst hx
  obtain ⟨v, w, rfl, rv, rw'⟩ := r1.two
  cases rv; cases rw'
  exact ⟨lo, n, rfl, bb, forR_core (D := D) Inv s n1 (e.mono n1.same) h0 hs hd⟩
/-- while, by a word and a measure -/
theorem se_while {c : TT} (Inv : Nat → Env → OL → Prop) (m0 : Nat) (h0 : Inv m0 env O)
    (hs : ∀ μ e o, Inv μ e o → XT K m E c e o (fun b o' => (b = true → SE K m E t e o' { D with nx := fun e2 o2 => ∃ m', m' < μ ∧ Inv m' e2 o2, ct := fun e2 o2 => ∃ m', m' < μ ∧ Inv m' e2 o2, bk := D.nx }) ∧ (b = false → D.nx e o')) D.xs) :
    SE K m E (tWhile c t) env O D := fun σ G H D' e a s => by
  refine ⟨fun μ σ' H' => ∃ G' O' env', Next K m G O H G' O' H' ∧ EnvR K G' σ' env' ∧ Inv μ env' O', ⟨m0, G, O, env, Next.refl a, e, h0⟩, fun μ σ' H' ⟨G', O', env', n, r, iv⟩ => ?_⟩
  refine hs μ env' O' iv σ' G' H' _ r n.at' (fun b G2 O2 H2 n2 q => ?_) fun C G2 O2 H2 n2 q => s.xs G2 O2 H2 C (n.trans n2) q
  cases b with
  | true =>
    have key : ∀ G3 O3 H3 σ3 env3, Next K m G2 O2 H2 G3 O3 H3 → EnvR K G3 σ3 env3 → (∃ m', m' < μ ∧ Inv m' env3 O3) → ∃ m', m' < μ ∧ ∃ G' O' env', Next K m G O H G' O' H3 ∧ EnvR K G' σ3 env' ∧ Inv m' env' O' :=
      fun G3 O3 H3 σ3 env3 n3 r3 ⟨m', hm, q3⟩ => ⟨m', hm, G3, O3, env3, (n.trans n2).trans n3, r3, q3⟩
    show ∃ N : St → Hp → Prop, _ ∧ _
    exact ⟨fun σ3 H3 => ∃ m', m' < μ ∧ ∃ G' O' env', Next K m G O H G' O' H3 ∧ EnvR K G' σ3 env' ∧ Inv m' env' O', fun _ _ q => q, q.1 rfl σ' G2 H2 _ (r.mono n2.same) n2.at' (((s.next n).next n2).mid key key rfl rfl rfl)⟩
  | false => exact s.nx G2 O2 H2 σ' env' (n.trans n2) (r.mono n2.same) (q.2 rfl)

/-! ### stores -/
/-- xs.append(e) -/
theorem se_append {to : TE} {p : Addr} {k : Nat} {ds : List Dt} (ho : EvE K m to env O (ptr p)) (hk : O[k]? = some (p, .lst ds)) (h : XE K m E te env O (fun d O' => ∃ k' ds', O'[k']? = some (p, .lst ds') ∧ ds'.length < sizeLine ∧ D.nx env (O'.set k' (p, .lst (ds' ++ [d])))) D.xs) :
    SE K m E (tDrop (tBM K "list" rAppend to (tCons te tNil))) env O D := fun σ G H D' e a s => by
  refine ho σ G H _ e a fun v G1 H1 n1 r1 => ?_
  cases r1
  obtain ⟨_, o, ho1, ro⟩ := n1.at'.own p _ (List.mem_of_getElem? hk)
  cases ro
  refine ⟨.inl ⟨rfl, _, .inl (.inl ho1)⟩, h σ G1 H1 _ (e.mono n1.same) n1.at' (fun w d G2 O2 H2 n2 r2 ⟨k', ds', e1, e2, q⟩ => ?_) fun C G2 O2 H2 n2 q => s.xs G2 O2 H2 C (n1.trans n2) q⟩
  obtain ⟨_, o2, ho2, ro2⟩ := n2.at'.own p _ (List.mem_of_getElem? e1)
  cases ro2 with
  | @lst vs _ rs =>
  have n3 := Next.write n2.at' e1 (.lst (rs.app (.cons r2 .nil)))
  exact ⟨p, vs, w, rfl, rfl, ho2, by rw [rs.len]; exact e2, s.nx _ _ _ _ _ ((n1.trans n2).trans n3) (e.mono ((n1.trans n2).trans n3).same) q⟩
end

/-! ### promises and their calls -/
/-- a promise: from the arguments' data and what is owned of them to the wishes of the answer and of an error's class -/
def spO (K : PySem.W.Frag) (pre : List Addr → List Dt → OL → (Dt → OL → Prop) → (Addr → OL → Prop) → Prop) : Sp := fun vs H Q E =>
  ∃ m G O ds Φ Ψ, At K m G O H ∧ Rps K G vs ds ∧ pre m ds O Φ Ψ ∧ (∀ v d G' O' H', Next K m G O H G' O' H' → Rp K G' v d → Φ d O' → Q v H') ∧ (∀ C G' O' H', Next K m G O H G' O' H' → Ψ C O' → E (.ref C) none H')
/-- the answer is data, of nothing owned -/
abbrev preV (R : List Dt → Dt → Prop) : List Addr → List Dt → OL → (Dt → OL → Prop) → (Addr → OL → Prop) → Prop := fun _ ds O Φ _ => ∃ d, R ds d ∧ O = [] ∧ Φ d []
abbrev spV (K : PySem.W.Frag) (R : List Dt → Dt → Prop) : Sp := spO K (preV R)
/-- a new list -/
abbrev preL (R : List Dt → List Dt → Prop) : List Addr → List Dt → OL → (Dt → OL → Prop) → (Addr → OL → Prop) → Prop := fun _ ds O Φ _ => ∃ rs, R ds rs ∧ O = [] ∧ ∀ p, Φ (ptr p) [(p, .lst rs)]
abbrev spL (K : PySem.W.Frag) (R : List Dt → List Dt → Prop) : Sp := spO K (preL R)
section
variable {K : PySem.W.Frag} {m : List Addr} {E : XK} {env : Env} {O : OL} {G H : Hp} {te : TE} {ta : TA} {d : Dt}
theorem dom_app {A B : OL} {a : Addr} : a ∈ OL.dom (A ++ B) ↔ a ∈ A.dom ∨ a ∈ B.dom := by
  show a ∈ (A ++ B).map Prod.fst ↔ _
  rw [List.map_append, List.mem_append]
theorem At.part {A B : OL} (a : At K m G (A ++ B) H) : At K m G A H := ⟨a.sub, fun p od h => a.own p od (List.mem_append_left _ h), by
  have h := a.nd
  show (A.map Prod.fst).Nodup
  have h' : ((A ++ B).map Prod.fst).Nodup := h
  rw [List.map_append] at h'
  exact (List.nodup_append.mp h').1, a.lk⟩
/-- what a callee doesn't own stands -/
theorem Next.frame {A A' B : OL} {G' H' : Hp} (a : At K m G (A ++ B) H) (n : Next K m G A H G' A' H') : Next K m G (A ++ B) H G' (A' ++ B) H' := by
  have nd : ((A ++ B).map Prod.fst).Nodup := a.nd
  rw [List.map_append] at nd
  obtain ⟨_, ndB, dis⟩ := List.nodup_append.mp nd
  have hB : ∀ p od, (p, od) ∈ B → p ∉ A.dom ∧ H p ≠ none ∧ G p = none := fun p od h => by
    obtain ⟨h1, o, h2, _⟩ := a.own p od (List.mem_append_right _ h)
    exact ⟨fun z => dis p z p (List.mem_map.mpr ⟨_, h, rfl⟩) rfl, (by rw [h2]; exact fun w => nomatch w), h1⟩
  refine ⟨n.same, ⟨n.at'.sub, fun p od h => ?_, ?_, n.at'.lk⟩, fun b u e hb => n.keep b u e fun z => hb (dom_app.mpr (.inl z)), fun b e => ?_, fun b e => ?_⟩
  · rcases List.mem_append.mp h with h | h
    · exact n.at'.own p od h
    · obtain ⟨h1, h2, h3⟩ := hB p od h
      obtain ⟨_, o, ho, ro⟩ := a.own p od (List.mem_append_right _ h)
      refine ⟨?_, o, n.keep p o ho h1, ro.mono n.same⟩
      cases q : G' p with
      | none => rfl
      | some u =>
        rcases n.gnew p (by rw [q]; exact fun w => nomatch w) with z | z | z
        · exact absurd h3 z
        · exact absurd z h2
        · exact absurd z h1
  · show ((A' ++ B).map Prod.fst).Nodup
    rw [List.map_append]
    refine List.nodup_append.mpr ⟨n.at'.nd, ndB, fun x hx y hy => ?_⟩
    rintro rfl
    obtain ⟨⟨q, od⟩, hm, e⟩ := List.mem_map.mp hy
    have e' : q = x := e
    subst e'
    obtain ⟨h1, h2, _⟩ := hB q od hm
    rcases n.onew q hx with z | z
    · exact h1 z
    · exact h2 z
  · rcases n.gnew b e with z | z | z
    · exact .inl z
    · exact .inr (.inl z)
    · exact .inr (.inr (dom_app.mpr (.inl z)))
  · rcases dom_app.mp e with z | z
    · rcases n.onew b z with w | w
      · exact .inl (dom_app.mpr (.inl w))
      · exact .inr w
    · exact .inl (dom_app.mpr (.inr z))
theorem sp_call {pre : List Addr → List Dt → OL → (Dt → OL → Prop) → (Addr → OL → Prop) → Prop} {A B : OL} {ds : List Dt} {vs : List V} {Q : VK} {E' : XK} (a : At K m G (A ++ B) H) (r : Rps K G vs ds) {Φ : Dt → OL → Prop} {Ψ : Addr → OL → Prop}
    (hp : pre m ds A (fun d o => Φ d (o ++ B)) (fun c o => Ψ c (o ++ B))) (q : ∀ v d G' O' H', Next K m G (A ++ B) H G' O' H' → Rp K G' v d → Φ d O' → Q v H') (x : ∀ C G' O' H', Next K m G (A ++ B) H G' O' H' → Ψ C O' → E' (.ref C) none H') :
    spO K pre vs H Q E' := ⟨m, G, A, ds, _, _, a.part, r, hp, fun v d G' O' H' n rv f => q v d G' _ H' (n.frame a) rv f, fun C G' O' H' n f => x C G' _ H' (n.frame a) f⟩
/-- a call that gives data of data, of nothing owned -/
theorem ev_call {R : List Dt → Dt → Prop} {ds : List Dt} {E' : XK} (h : EvA K m ta env O ds) (hr : R ds d) : EvE K m (tCall (spV K R) [] E' ta) env O d := fun σ G H Q e a q =>
  h σ G H _ e a fun vs G1 H1 n1 r1 => by
    show spO K (preV R) (vs ++ []) H1 Q E'
    rw [List.append_nil]
    refine sp_call (A := []) (B := O) (Φ := fun d' o' => d' = d ∧ o' = O) (Ψ := fun _ _ => False) n1.at' r1 ⟨d, hr, rfl, rfl, rfl⟩ (fun v d' G' O' H' n rv f => ?_) fun _ _ _ _ _ f => f.elim
    obtain ⟨rfl, rfl⟩ := f
    exact q v G' H' (n1.trans n) rv
/-- .. a new list, given up -/
theorem ev_callL {R : List Dt → List Dt → Prop} {ds rs : List Dt} {E' : XK} (h : EvA K m ta env O ds) (hr : R ds rs) : EvE K m (tCall (spL K R) [] E' ta) env O (.lst rs) := fun σ G H Q e a q =>
  h σ G H _ e a fun vs G1 H1 n1 r1 => by
    show spO K (preL R) (vs ++ []) H1 Q E'
    rw [List.append_nil]
    refine sp_call (A := []) (B := O) (Φ := fun d' o' => ∃ p, d' = ptr p ∧ o' = (p, .lst rs) :: O) (Ψ := fun _ _ => False) n1.at' r1 ⟨rs, hr, rfl, fun p => ⟨p, rfl, rfl⟩⟩ (fun v d' G' O' H' n rv f => ?_) fun _ _ _ _ _ f => f.elim
    obtain ⟨p, rfl, rfl⟩ := f
    cases rv
    obtain ⟨o, ho, ro, n2⟩ := Next.freeze n.at' (k := 0) rfl
    exact q _ _ _ ((n1.trans n).trans n2) (Rp.of_own (ro.mono n2.same) upd_same)
/-- .. a new list of one's own -/
theorem xe_callL {R : List Dt → List Dt → Prop} {ds rs : List Dt} {E' : XK} {Φ : Dt → OL → Prop} {Ψ : Addr → OL → Prop} (h : EvA K m ta env O ds) (hr : R ds rs) (k : ∀ p, Φ (ptr p) ((p, .lst rs) :: O)) : XE K m E (tCall (spL K R) [] E' ta) env O Φ Ψ := fun σ G H Q e a q _ =>
  h σ G H _ e a fun vs G1 H1 n1 r1 => by
    show spO K (preL R) (vs ++ []) H1 Q E'
    rw [List.append_nil]
    refine sp_call (A := []) (B := O) (Φ := fun d' o' => ∃ p, d' = ptr p ∧ o' = (p, .lst rs) :: O) (Ψ := fun _ _ => False) n1.at' r1 ⟨rs, hr, rfl, fun p => ⟨p, rfl, rfl⟩⟩ (fun v d' G' O' H' n rv f => ?_) fun _ _ _ _ _ f => f.elim
    obtain ⟨p, rfl, rfl⟩ := f
    exact q _ _ _ _ _ (n1.trans n) rv (k p)
/-- the body keeps the promise -/
def startE (N : List Str) (ds : List Dt) : Env := ds.map some ++ List.replicate (N.length - ds.length) none
theorem start_r {N : List Str} {vs : List V} {ds : List Dt} (r : Rps K G vs ds) : EnvR K G (L2.start N vs) (startE N ds) := by
  refine ⟨?_, fun i d h => ?_⟩
  · unfold L2.start startE
    simp [r.len]
  · unfold startE at h
    unfold L2.start
    by_cases hi : i < ds.length
    · rw [List.getElem?_append_left (by simpa using hi)] at h
      rw [List.getElem?_append_left (by rw [List.length_map, r.len]; exact hi)]
      rw [List.getElem?_map] at h ⊢
      cases q : ds[i]? with
      | none => rw [q] at h; cases h
      | some x =>
        rw [q] at h
        cases h
        obtain ⟨v, hv, rv⟩ := r.getD q
        exact ⟨v, by rw [hv]; rfl, rv⟩
    · rw [List.getElem?_append_right (by simpa using hi), List.getElem?_replicate] at h
      split at h <;> cases h
theorem body_ok {pre : List Addr → List Dt → OL → (Dt → OL → Prop) → (Addr → OL → Prop) → Prop} {t : TS} {N : List Str} {vs : List V} {Q : VK} (hsp : spO K pre vs H Q E)
    (h : ∀ m ds O Φ Ψ, pre m ds O Φ Ψ → SE K m E t (startE N ds) O { nx := fun _ O' => Φ .non O', rt := Φ, xs := Ψ }) : t { nx := fun _ H' => Q .non H', rt := Q } (L2.start N vs) H := by
  obtain ⟨m, G, O, ds, Φ, Ψ, a, r, hp, q, x⟩ := hsp
  exact h m ds O Φ Ψ hp (L2.start N vs) G H _ (start_r r) a ⟨fun G' O' H' σ env n _ f => q .non .non G' O' H' n .non f, fun G' O' H' v d n rv f => q v d G' O' H' n rv f, fun _ _ _ _ _ _ _ f => f.elim, fun _ _ _ _ _ _ _ f => f.elim, fun G' O' H' C n f => x C G' O' H' n f⟩
theorem sp_len {pre : List Addr → List Dt → OL → (Dt → OL → Prop) → (Addr → OL → Prop) → Prop} {n : Nat} (h : ∀ m ds O Φ Ψ, pre m ds O Φ Ψ → ds.length = n) (vs : List V) (H : Hp) (Q : VK) (E : XK) (hsp : spO K pre vs H Q E) : vs.length = n := by
  obtain ⟨m, G, O, ds, Φ, Ψ, a, r, hp, _⟩ := hsp
  rw [r.len]; exact h m ds O Φ Ψ hp
end
end DL

/-! DL4: the hand layer's rules by short names, with what they say of data. -/
namespace DL
open PySem L2
def r2or (r r' : R2) : R2 := fun x y H Q => r x y H Q ∨ r' x y H Q
def rcor (r r' : List V → Hp → VK → Prop) : List V → Hp → VK → Prop := fun x H Q => r x H Q ∨ r' x H Q
theorem OpR.or {X : Cx} {f : Value → Value → Sem Value} {r r' : R2} (h : OpR X f r) (h' : OpR X f r') : OpR X f (r2or r r') := fun pins s σ H x y v u Q I rx ry q =>
  q.elim (fun q => h pins s σ H x y v u Q I rx ry q) fun q => h' pins s σ H x y v u Q I rx ry q
theorem CallR.or {X : Cx} {f : Value} {r r' : List V → Hp → VK → Prop} (h : CallR X f r) (h' : CallR X f r') : CallR X f (rcor r r') := fun pins s σ H xs us Q I r q =>
  q.elim (fun q => h pins s σ H xs us Q I r q) fun q => h' pins s σ H xs us Q I r q
/-! + - * // % -/
def rAddI : R2 := rI0 fun i j => .int (i + j)
def rAddS : R2 := fun x y H Q => ∃ i j, x = .str i ∧ y = .str j ∧ i.length + j.length ≤ sizeLine ∧ Q (.str (i ++ j)) H
def rCatL (K : PySem.W.Frag) : R2 := fun x y H Q => ∃ l b xs zs, x = .ref l ∧ y = .ref b ∧ SqL K H l xs ∧ SqL K H b zs ∧ xs.length + zs.length ≤ sizeLine ∧ ∀ p, H p = none → Q (.ref p) (upd H p (.lst (xs ++ zs)))
theorem op_catL {X : Cx} : OpR X (binaryOp .Add) (rCatL X.K) := by
  intro pins s σ H x y v u Q I rx ry h
  obtain ⟨l, b, xs, zs, rfl, rfl, hH, hB, hz, q⟩ := h
  cases rx
  cases ry
  obtain ⟨its, r, ⟨⟨cls, dd, data, sl⟩, n, ho, hc, hd, hdat⟩, _⟩ := I.list hH
  obtain ⟨its2, r2, ⟨⟨cls2, dd2, data2, sl2⟩, n2, ho2, hc2, hd2, hdat2⟩, _⟩ := I.list hB
  simp only at hc hdat hc2 hdat2
  subst hc hdat hc2 hdat2
  have l1 := r.length
  have l2 := r2.length
  refine PySem.concat_meets ⟨_, ho, rfl⟩ ⟨_, ho2, rfl⟩ PySem.noFill_list_add PySem.seq_list_add PySem.F.slot_list_add PySem.F.entry_list_add (PySem.F.args_list_add_2 _ _) (PyProof.Rows.list_addW l b its.toArray its2.toArray n n2 dd dd2 sl sl2 (by rw [List.size_toArray, List.size_toArray]; omega)) ⟨ho, ho2, ?_⟩
  have ea : its.toArray ++ its2.toArray = (its ++ its2).toArray := by simp
  rw [ea]
  exact ⟨.ref _, _, I.lnew (t' := s.toks) (r.append r2) (by rw [List.length_append]; omega), rfl, q _ I.fresh⟩
def rAddU (K : PySem.W.Frag) : R2 := r2or rAddI (r2or rAddS (rCatL K))
theorem op_addU {X : Cx} : OpR X (binaryOp .Add) (rAddU X.K) := OpR.or op_add (OpR.or op_add_str op_catL)
def rSubI : R2 := rI0 fun i j => .int (i - j)
theorem op_subD {X : Cx} : OpR X (binaryOp .Sub) rSubI := op_sub
def rMulI : R2 := rI CMul fun i j => .int (i * j)
def repS (x : Str) (n : Nat) : Str := ⟨(List.replicate n x.cps.toList).flatten.toArray⟩
def rRepS : R2 := fun x y H Q => ∃ z i, x = .str z ∧ y = .int i ∧ -(2 ^ 63) ≤ i ∧ i < 2 ^ 63 ∧ z.length * i.toNat ≤ 1000000 ∧ Q (.str (repS z i.toNat)) H
theorem fold_rep (a : Array Nat) : ∀ (n : Nat) (acc : Array Nat), ((List.replicate n a).foldl (· ++ ·) acc).toList = acc.toList ++ (List.replicate n a.toList).flatten
  | 0, acc => by simp
  | n + 1, acc => by
    rw [List.replicate_succ, List.foldl_cons, fold_rep a n (acc ++ a), List.replicate_succ, List.flatten_cons, Array.toList_append, List.append_assoc]
theorem repS_len (x : Str) (n : Nat) : (repS x n).length = x.length * n := by
  show (List.replicate n x.cps.toList).flatten.toArray.size = x.cps.size * n
  rw [List.size_toArray, List.length_flatten, List.map_replicate, List.sum_replicate_nat, Array.length_toList, Nat.mul_comm]
theorem op_repS {X : Cx} : OpR X (binaryOp .Mult) rRepS := by
  intro pins s σ H x y v u Q I rx ry h
  obtain ⟨z, i, rfl, rfl, h1, h2, h3, q⟩ := h
  obtain ⟨t, rfl⟩ := rx
  obtain ⟨t', rfl⟩ := ry
  have hr : (decide (i < -(2 ^ 63 : Int)) || decide (i ≥ 2 ^ 63)) = false := by
    rw [decide_eq_false (by omega), decide_eq_false (by omega)]; rfl
  have hlen : ¬ i < 1 → (z.length : Int) * i ≤ 1000000 := fun hi => by
    have e : (i.toNat : Int) = i := Int.toNat_of_nonneg (by omega)
    have h4 : ((z.length * i.toNat : Nat) : Int) ≤ 1000000 := Int.ofNat_le.mpr h3
    rw [Int.natCast_mul, e] at h4
    exact h4
  refine PySem.P.mul_str hr (fun hi hj => ?_) (fun hi hj => ?_) ?_
  · have h5 := hlen hi
    intro hgt
    have h6 : (2 ^ 63 - 1) / i < (z.length : Int) := hgt
    have h7 : (2 ^ 63 - 1 : Int) < (z.length : Int) * i := (Int.ediv_lt_iff_lt_mul (by omega)).mp h6
    omega
  · unfold Builtin.Str.tooLong
    rw [decide_eq_false]
    rw [sizeLine_eq]
    omega
  · split
    · rename_i hi
      have e : i.toNat = 0 := by omega
      rw [e] at q
      exact ⟨by decide, .str _, H, I.tok _, ⟨_, rfl⟩, q⟩
    · split
      · rename_i hi hj
        have hz : z = repS z i.toNat := by
          refine str_ext ?_
          show z.cps.toList = (List.replicate i.toNat z.cps.toList).flatten.toArray.toList
          rw [Bool.or_eq_true, beq_iff_eq, beq_iff_eq] at hj
          rcases hj with hj | hj
          · rw [hj]; simp
          · have : z.cps.toList = [] := List.eq_nil_of_length_eq_zero (by rw [Array.length_toList]; exact hj)
            rw [this]; simp
        rw [← hz] at q
        exact ⟨.str _, H, I, ⟨_, rfl⟩, q⟩
      · have e : (⟨(List.replicate i.toNat z.cps).foldl (· ++ ·) #[]⟩ : Str) = repS z i.toNat := str_ext (by
          show ((List.replicate i.toNat z.cps).foldl (· ++ ·) #[]).toList = (List.replicate i.toNat z.cps.toList).flatten.toArray.toList
          rw [fold_rep]; simp)
        rw [e]
        refine ⟨?_, .str _, H, I.tok _, ⟨_, rfl⟩, q⟩
        rw [repS_len, sizeLine_eq]
        omega
def rMulU : R2 := r2or rMulI rRepS
theorem op_mulU {X : Cx} : OpR X (binaryOp .Mult) rMulU := OpR.or op_mul op_repS
def rDivI : R2 := rI CDiv fun i j => .int (i / j)
theorem op_divD {X : Cx} : OpR X (binaryOp .FloorDiv) rDivI := op_fdiv
def rModI : R2 := rI (fun _ j => 0 < j) fun i j => .int (i % j)
theorem op_modD {X : Cx} : OpR X (binaryOp .Mod) rModI := op_mod
/-! comparisons -/
def rLtU : R2 := r2or (rI0 fun i j => .bl (decide (i < j))) (fun x y H Q => ∃ i j, x = .str i ∧ y = .str j ∧ Q (.bl (decide (i.cps.toList < j.cps.toList))) H)
theorem op_ltU {X : Cx} : OpR X (compareOp .Lt) rLtU := OpR.or op_lt op_lt_str
def rLeU : R2 := r2or (rI0 fun i j => .bl (decide (i ≤ j))) (fun x y H Q => ∃ i j, x = .str i ∧ y = .str j ∧ Q (.bl (!decide (j.cps.toList < i.cps.toList))) H)
theorem op_leU {X : Cx} : OpR X (compareOp .LtE) rLeU := OpR.or op_le op_le_str
def rGtI : R2 := rI0 fun i j => .bl (decide (j < i))
theorem op_gtD {X : Cx} : OpR X (compareOp .Gt) rGtI := op_gt
def rGeI : R2 := rI0 fun i j => .bl (decide (j ≤ i))
theorem op_geD {X : Cx} : OpR X (compareOp .GtE) rGeI := op_ge
def rInSign : R2 := fun x y H Q => ∃ (c : Nat) (z : Str), x = .str ⟨#[c]⟩ ∧ y = .str z ∧ Q (.bl (decide (c ∈ z.cps.toList))) H
theorem op_inSign {X : Cx} : OpR X (compareOp .In) rInSign := op_in_sign
def rNotInSign : R2 := fun x y H Q => ∃ (c : Nat) (z : Str), x = .str ⟨#[c]⟩ ∧ y = .str z ∧ Q (.bl (!decide (c ∈ z.cps.toList))) H
theorem op_notInSign {X : Cx} : OpR X (compareOp .NotIn) rNotInSign := op_notIn_sign
def rInSub : R2 := fun x y H Q => ∃ i j, x = .str i ∧ y = .str j ∧ Q (.bl (!(Builtin.Str.occurrences j i 0 j.length 1).isEmpty)) H
theorem op_inSub {X : Cx} : OpR X (compareOp .In) rInSub := op_in_str
def rEqU (K : PySem.W.Frag) : R2 := r2or rEq (rEqD K)
theorem op_eqU {X : Cx} (hu : X.A.units + 64 < cLine) : OpR X (compareOp .Eq) (rEqU X.K) := OpR.or op_eq (op_eqD hu)
def rNeU (K : PySem.W.Frag) : R2 := r2or rNe (rNeD K)
theorem op_neU {X : Cx} (hu : X.A.units + 64 < cLine) : OpR X (compareOp .NotEq) (rNeU X.K) := OpR.or op_ne (op_neD hu)
/-! calls -/
def rLen (K : PySem.W.Frag) : List V → Hp → VK → Prop := fun xs H Q => ∃ x n, xs = [x] ∧ LenV K x H n ∧ Q (.int n) H
theorem cb_len {X : Cx} : CallR X (.builtin "len") (rLen X.K) := call_len
def rLenD : List V → Hp → VK → Prop := fun xs H Q => ∃ a kvs, xs = [V.ref a] ∧ H a = some (.dK kvs) ∧ Q (.int kvs.length) H
theorem cb_lenD {X : Cx} : CallR X (.builtin "len") rLenD := call_lenD
def rList (K : PySem.W.Frag) : List V → Hp → VK → Prop := fun xs H Q => ∃ p ys, xs = [.ref p] ∧ (SqL K H p ys ∨ SqT K H p ys) ∧ ∀ l, H l = none → Q (.ref l) (upd H l (.lst ys))
theorem cb_list {X : Cx} : CallR X (.type "list") (rList X.K) := call_list_of
def rTuple (K : PySem.W.Frag) : List V → Hp → VK → Prop := fun xs H Q => ∃ p ys, xs = [.ref p] ∧ ((SqL K H p ys ∧ ∀ l, H l = none → Q (.ref l) (upd H l (.tup ys))) ∨ (SqT K H p ys ∧ Q (.ref p) H))
theorem cb_tuple {X : Cx} : CallR X (.type "tuple") (rTuple X.K) := call_tuple_of
def rMin2 : List V → Hp → VK → Prop := fun xs H Q => ∃ i j, xs = [.int i, .int j] ∧ Q (.int (if j < i then j else i)) H
theorem cb_min2 {X : Cx} (hc : X.calm = true) : CallR X (.builtin "min") rMin2 := call_min2 hc
def rMax2 : List V → Hp → VK → Prop := fun xs H Q => ∃ i j, xs = [.int i, .int j] ∧ Q (.int (if j > i then j else i)) H
theorem cb_max2 {X : Cx} (hc : X.calm = true) : CallR X (.builtin "max") rMax2 := call_max2 hc
theorem cb_isi {X : Cx} : CallR X (.builtin "isinstance") (rIsi X.K) := call_isi
def rDictP (K : PySem.W.Frag) : List V → Hp → VK → Prop := fun xs H Q => ∃ (a : Addr) (ps : List Addr) (kvs : List (Key × V)), xs = [.ref a] ∧ SqL K H a (ps.map V.ref) ∧ Paired (fun p kv => SqT K H p [kV kv.1, kv.2]) ps kvs ∧
  ∀ p, H p = none → Q (.ref p) (upd H p (.dK (mergeK [] kvs)))
theorem cb_dictP {X : Cx} (hc : X.calm = true) : CallR X (.type "dict") (rDictP X.K) := call_dictP hc
/-! methods of texts -/
def rSplit : V → List V → Hp → VK → Prop := fun x xs H Q => ∃ a b, x = .str a ∧ xs = [.str b] ∧ (b.length == 0) = false ∧ a.length + 2 ≤ sizeLine ∧ rNewStrs (Txt.split a b) H Q
theorem mt_splitD {X : Cx} : MtR X "str.split" rSplit := mt_split
def rJoin (K : PySem.W.Frag) : V → List V → Hp → VK → Prop := fun x xs H Q => ∃ a p, ∃ ys : List Str, x = .str a ∧ xs = [.ref p] ∧ (SqL K H p (ys.map V.str) ∨ SqT K H p (ys.map V.str)) ∧
  (ys.map (·.length)).sum + ys.length * a.length ≤ 16777216 ∧ Q (.str (Txt.join a ys)) H
theorem mt_joinD {X : Cx} : MtR X "str.join" (rJoin X.K) := mt_join
def rEnds : V → List V → Hp → VK → Prop := fun x xs H Q => ∃ a b, x = .str a ∧ xs = [.str b] ∧ Q (.bl (Txt.endswith a b)) H
theorem mt_endsD {X : Cx} : MtR X "str.endswith" rEnds := mt_endswith
def rStripC : V → List V → Hp → VK → Prop := fun x xs H Q => ∃ a b, x = .str a ∧ xs = [.str b] ∧ a.length ≤ sizeLine ∧ Q (.str (Txt.stripChars a b)) H
theorem mt_stripD {X : Cx} : MtR X "str.strip" rStripC := mt_stripChars
def tFStr (ts : List TE) : TE := fun σ H Q => tJs ts Str.empty σ H fun out H1 => Q (.str out) H1
def tTru (K : PySem.W.Frag) (t : TE) : TT := fun σ H Q => t σ H fun x H' => ∃ k, TruV K x H' k ∧ Q k H'
def tRaiseO (E : XK) (cls : Value) : TS := fun _ _ H => E cls none H
theorem rel_str (x : Str) (t : Tok) : RelV (.str x) (.str x t) := ⟨t, rfl⟩
theorem rel_int (x : Int) (t : Tok) : RelV (.int x) (.int x t) := ⟨t, rfl⟩
def tipAddU : TIp := fun x y H Q => ipI (fun i j => i + j) x y H Q ∨ ∃ i j, x = .str i ∧ y = .str j ∧ i.length + j.length ≤ sizeLine ∧ Q (.str (i ++ j)) H
theorem ip_addU {X : Cx} : PIp X .Add tipAddU := fun pins s σ H x y v u Q I rx ry h =>
  h.elim (fun h => ip_add pins s σ H x y v u Q I rx ry h) fun h => iop_add_str pins s σ H x y v u Q I rx ry h
end DL

/-! DL5: what the named rules say of data. -/
namespace DL
open PySem L2
section
variable {K : PySem.W.Frag} {m : List Addr} {E : XK} {env : Env} {O : OL} {G H : Hp} {te ta tb tc td : TE} {t u : TT} {a b c d e : Dt} {r r' : R2}
theorem opv_addI {i j : Int} : OpV K m (rAddU K) (.int i) (.int j) O (.int (i + j)) := OpV.inl (opv_I0 (f := fun i j => i + j))
theorem opv_addT {x y : Str} (h : x.length + y.length ≤ sizeLine) : OpV K m (rAddU K) (.str x) (.str y) O (.str (x ++ y)) := OpV.inr (OpV.inl (.of0 fun G H v1 v2 Q at' r1 r2 q => by
  cases r1; cases r2; exact ⟨x, y, rfl, rfl, h, q _ (.str _)⟩))
theorem opv_addL {xs ys : List Dt} (ha : AsL O a xs) (hb : AsL O b ys) (h : xs.length + ys.length ≤ sizeLine) : OpV K m (rAddU K) a b O (.lst (xs ++ ys)) := OpV.inr (OpV.inr fun G H v1 v2 Q at' r1 r2 q => by
  obtain ⟨p, vs, rfl, s1, q1⟩ := ha.get at' r1
  obtain ⟨p2, ws, rfl, s2, q2⟩ := hb.get at' r2
  refine ⟨p, p2, vs, ws, rfl, rfl, s1, s2, by rw [q1.len, q2.len]; exact h, fun l hl => ?_⟩
  have n := Next.frozen at' hl (.lst (vs ++ ws))
  exact q _ _ _ n (.lst (.inl (.inl upd_same)) ((q1.app q2).mono n.same)))
theorem opv_subI {i j : Int} : OpV K m rSubI (.int i) (.int j) O (.int (i - j)) := opv_I0 (f := fun i j => i - j)
theorem opv_mulI {i j : Int} (h : CMul i j) : OpV K m rMulU (.int i) (.int j) O (.int (i * j)) := OpV.inl (opv_I (f := fun i j => i * j) h)
theorem opv_mulS {x : Str} {j : Int} (h0 : 0 ≤ j) (h : x.length * j.toNat ≤ 1000000) (h2 : j < 2 ^ 63) : OpV K m rMulU (.str x) (.int j) O (.str (repS x j.toNat)) := OpV.inr (.of0 fun G H v1 v2 Q at' r1 r2 q => by
  cases r1; cases r2; exact ⟨x, j, rfl, rfl, by omega, h2, h, q _ (.str _)⟩)
theorem opv_divI {i j : Int} (h : 0 < j) (h2 : j < 1073741824) : OpV K m rDivI (.int i) (.int j) O (.int (i / j)) := opv_I (f := fun i j => i / j) ⟨h, h2⟩
theorem opv_modI {i j : Int} (h : 0 < j) : OpV K m rModI (.int i) (.int j) O (.int (i % j)) := opv_I (f := fun i j => i % j) h
theorem opv_ltI {i j : Int} : OpV K m rLtU (.int i) (.int j) O (.bl (decide (i < j))) := OpV.inl (opv_I0b (f := fun i j => decide (i < j)))
theorem opv_leI {i j : Int} : OpV K m rLeU (.int i) (.int j) O (.bl (decide (i ≤ j))) := OpV.inl (opv_I0b (f := fun i j => decide (i ≤ j)))
theorem opv_gtI {i j : Int} : OpV K m rGtI (.int i) (.int j) O (.bl (decide (j < i))) := opv_I0b (f := fun i j => decide (j < i))
theorem opv_geI {i j : Int} : OpV K m rGeI (.int i) (.int j) O (.bl (decide (j ≤ i))) := opv_I0b (f := fun i j => decide (j ≤ i))
theorem opv_leS {x y : Str} : OpV K m rLeU (.str x) (.str y) O (.bl (leS x y)) := OpV.inr (.of0 fun G H v1 v2 Q at' r1 r2 q => by
  cases r1; cases r2; exact ⟨x, y, rfl, rfl, q _ (.bl _)⟩)
theorem opv_inSign {ch : Nat} {z : Str} : OpV K m rInSign (.str ⟨#[ch]⟩) (.str z) O (.bl (decide (ch ∈ z.cps.toList))) := .of0 fun G H v1 v2 Q at' r1 r2 q => by
  cases r1; cases r2; exact ⟨ch, z, rfl, rfl, q _ (.bl _)⟩
theorem opv_notInSign {ch : Nat} {z : Str} : OpV K m rNotInSign (.str ⟨#[ch]⟩) (.str z) O (.bl (!decide (ch ∈ z.cps.toList))) := .of0 fun G H v1 v2 Q at' r1 r2 q => by
  cases r1; cases r2; exact ⟨ch, z, rfl, rfl, q _ (.bl _)⟩
theorem opv_inSub {x z : Str} : OpV K m rInSub (.str x) (.str z) O (.bl (!(Builtin.Str.occurrences z x 0 z.length 1).isEmpty)) := .of0 fun G H v1 v2 Q at' r1 r2 q => by
  cases r1; cases r2; exact ⟨x, z, rfl, rfl, q _ (.bl _)⟩
/-! x in a list of texts -/
theorem in_strs (x : Str) : ∀ xs : List Str, inV (.str x) (xs.map V.str) = decide (x ∈ xs)
  | [] => rfl
  | y :: ys => by
    have ih := in_strs x ys
    unfold inV at ih ⊢
    rw [List.map_cons, List.any_cons, ih]
    show ((y == x) || _) = _
    by_cases h : y = x
    · subst h; simp
    · have h' : x ≠ y := fun z => h z.symm
      simp [h, h']
theorem flat_strs (xs : List Str) : (xs.map V.str).all flatV = true := by
  rw [List.all_eq_true]
  intro v hv
  obtain ⟨x, _, rfl⟩ := List.mem_map.mp hv
  rfl
theorem opv_inS {x : Str} {xs : List Str} (h : AsS O b (xs.map Dt.str)) : OpV K m (rIn K false) (.str x) b O (.bl (decide (x ∈ xs))) := .of0 fun G H v1 v2 Q at' r1 r2 q => by
  obtain ⟨p, vs, rfl, s, rs⟩ := h.get at' r2
  cases r1
  have e := rps_strs rs
  subst e
  refine ⟨p, _, rfl, s, rfl, flat_strs xs, ?_⟩
  rw [in_strs]
  exact q _ (.bl _)
theorem opv_notInS {x : Str} {xs : List Str} (h : AsS O b (xs.map Dt.str)) : OpV K m (rIn K true) (.str x) b O (.bl (!decide (x ∈ xs))) := .of0 fun G H v1 v2 Q at' r1 r2 q => by
  obtain ⟨p, vs, rfl, s, rs⟩ := h.get at' r2
  cases r1
  have e := rps_strs rs
  subst e
  refine ⟨p, _, rfl, s, rfl, flat_strs xs, ?_⟩
  rw [in_strs]
  exact q _ (.bl _)
/-! == of data -/
mutual
def toPy : Dt → PyData
  | .non => .none | .bl b => .bool b | .int i => .int i | .str x => .str x
  | .lst xs => .list (toPys xs) | .tup xs => .tuple (toPys xs)
  | _ => .none
def toPys : List Dt → List PyData
  | [] => []
  | x :: xs => toPy x :: toPys xs
end
mutual
def isPy : Dt → Bool
  | .non => true | .bl _ => true | .int _ => true | .str _ => true
  | .lst xs => isPys xs | .tup xs => isPys xs
  | _ => false
def isPys : List Dt → Bool
  | [] => true
  | x :: xs => isPy x && isPys xs
end
theorem dp_of (h : Sub G H) {v : V} {d : Dt} (r : Rp K G v d) : isPy d = true → Dp K H v (toPy d) :=
  Rp.rec (motive_1 := fun v d _ => isPy d = true → Dp K H v (toPy d)) (motive_2 := fun v d _ => isPys d = true → DpAll K H v (toPys d)) (motive_3 := fun _ _ _ => True)
    (motive_4 := fun _ _ _ => True) (motive_5 := fun _ _ _ => True)
    (fun _ => .non) (fun b _ => .bl b) (fun i _ => .int i) (fun x _ => .str x) (fun _ h => by unfold isPy at h; cases h)
    (fun s _ ih hp => by unfold toPy; unfold isPy at hp; exact .lst (h.l s) (ih hp)) (fun s _ ih hp => by unfold toPy; unfold isPy at hp; exact .tup (h.t s) (ih hp))
    (fun _ _ _ h => by unfold isPy at h; cases h) (fun _ _ _ h => by unfold isPy at h; cases h) (fun _ _ _ h => by unfold isPy at h; cases h)
    (fun _ => by unfold toPys; exact .nil) (fun _ _ ih1 ih2 hp => by
      unfold isPys at hp
      rw [Bool.and_eq_true] at hp
      unfold toPys
      exact .cons (ih1 hp.1) (ih2 hp.2))
    trivial (fun _ _ _ _ => trivial) trivial (fun _ _ _ _ => trivial) trivial (fun _ _ _ _ => trivial) r
theorem opv_eq (h1 : isPy a = true) (h2 : isPy b = true) (s1 : SeqAt.shaped (toPy a) = true) (s2 : SeqAt.shaped (toPy b) = true) {k : Bool} (hk : PyData.eqv (toPy a) (toPy b) = k) : OpV K m (rEqD K) a b O (.bl k) := .of0 fun G H v1 v2 Q at' r1 r2 q =>
  ⟨_, _, dp_of at'.sub r1 h1, dp_of at'.sub r2 h2, s1, s2, by rw [hk]; exact q _ (.bl _)⟩
theorem opv_ne (h1 : isPy a = true) (h2 : isPy b = true) (s1 : SeqAt.shaped (toPy a) = true) (s2 : SeqAt.shaped (toPy b) = true) {k : Bool} (hk : PyData.eqv (toPy a) (toPy b) = k) : OpV K m (rNeD K) a b O (.bl (!k)) := .of0 fun G H v1 v2 Q at' r1 r2 q =>
  ⟨_, _, dp_of at'.sub r1 h1, dp_of at'.sub r2 h2, s1, s2, by rw [hk]; exact q _ (.bl _)⟩
theorem eqv_int (i j : Int) : PyData.eqv (.int i) (.int j) = decide (i = j) := by
  show (i == j) = _
  by_cases h : i = j
  · subst h; simp
  · simp [h]
theorem eqv_str (i j : Str) : PyData.eqv (.str i) (.str j) = decide (i = j) := by
  show (i == j) = _
  by_cases h : i = j
  · subst h; simp
  · simp [h]
theorem opv_eqI {i j : Int} : OpV K m (rEqU K) (.int i) (.int j) O (.bl (decide (i = j))) := OpV.inl (.of0 fun G H v1 v2 Q at' r1 r2 q => by
  cases r1; cases r2
  refine ⟨rfl, ?_⟩
  have : decide (V.int i = V.int j) = decide (i = j) := by simp
  rw [this]; exact q _ (.bl _))
theorem opv_neI {i j : Int} : OpV K m (rNeU K) (.int i) (.int j) O (.bl (!decide (i = j))) := OpV.inl (.of0 fun G H v1 v2 Q at' r1 r2 q => by
  cases r1; cases r2
  refine ⟨rfl, ?_⟩
  have : decide (V.int i = V.int j) = decide (i = j) := by simp
  rw [this]; exact q _ (.bl _))
theorem opv_eqS {i j : Str} : OpV K m (rEqU K) (.str i) (.str j) O (.bl (decide (i = j))) := OpV.inl (.of0 fun G H v1 v2 Q at' r1 r2 q => by
  cases r1; cases r2
  refine ⟨rfl, ?_⟩
  have : decide (V.str i = V.str j) = decide (i = j) := by simp
  rw [this]; exact q _ (.bl _))
theorem opv_neS {i j : Str} : OpV K m (rNeU K) (.str i) (.str j) O (.bl (!decide (i = j))) := OpV.inl (.of0 fun G H v1 v2 Q at' r1 r2 q => by
  cases r1; cases r2
  refine ⟨rfl, ?_⟩
  have : decide (V.str i = V.str j) = decide (i = j) := by simp
  rw [this]; exact q _ (.bl _))
theorem opv_eqD (h1 : isPy a = true) (h2 : isPy b = true) (s1 : SeqAt.shaped (toPy a) = true) (s2 : SeqAt.shaped (toPy b) = true) {k : Bool} (hk : PyData.eqv (toPy a) (toPy b) = k) : OpV K m (rEqU K) a b O (.bl k) := OpV.inr (opv_eq h1 h2 s1 s2 hk)
theorem opv_neD (h1 : isPy a = true) (h2 : isPy b = true) (s1 : SeqAt.shaped (toPy a) = true) (s2 : SeqAt.shaped (toPy b) = true) {k : Bool} (hk : PyData.eqv (toPy a) (toPy b) = k) : OpV K m (rNeU K) a b O (.bl (!k)) := OpV.inr (opv_ne h1 h2 s1 s2 hk)
/-! lists of texts -/
theorem toPys_strs : ∀ xs : List Str, toPys (xs.map Dt.str) = xs.map PyData.str
  | [] => by rw [List.map_nil, List.map_nil]; unfold toPys; rfl
  | x :: xs => by rw [List.map_cons, List.map_cons]; unfold toPys; rw [toPys_strs xs]; unfold toPy; rfl
theorem isPys_strs : ∀ xs : List Str, isPys (xs.map Dt.str) = true
  | [] => by rw [List.map_nil]; unfold isPys; rfl
  | x :: xs => by rw [List.map_cons]; unfold isPys; rw [isPys_strs xs]; unfold isPy; rfl
theorem eqvAll_strs : ∀ xs ys : List Str, PyData.eqvAll (xs.map PyData.str) (ys.map PyData.str) = decide (xs = ys)
  | [], [] => by simp [PyData.eqvAll]
  | [], y :: ys => by simp [PyData.eqvAll]
  | x :: xs, [] => by simp [PyData.eqvAll]
  | x :: xs, y :: ys => by
    rw [List.map_cons, List.map_cons]
    unfold PyData.eqvAll
    rw [eqvAll_strs xs ys, eqv_str]
    by_cases h : x = y <;> by_cases h2 : xs = ys <;> simp [h, h2]
/-! chains, slices -/
theorem ev_chain {x y : Bool} (ha : EvE K m ta env O a) (hb : EvE K m tb env O b) (h1 : OpV K m r a b O (.bl x)) (hc : x = true → EvE K m tc env O c) (h2 : x = true → OpV K m r' b c O (.bl y)) : EvE K m (tChain r r' ta tb tc) env O (.bl (x && y)) := fun σ G H Q e at' q =>
  ha σ G H _ e at' fun v1 G1 H1 n1 r1 => hb σ G1 H1 _ (e.mono n1.same) n1.at' fun v2 G2 H2 n2 r2 => h1 G2 H2 v1 v2 _ n2.at' (r1.mono n2.same) r2 fun v3 G3 H3 n3 r3 => by
    cases r3
    refine ⟨x, rfl, ?_⟩
    cases x with
    | true =>
      show tc σ H3 _
      exact hc rfl σ G3 H3 _ (e.mono ((n1.trans n2).trans n3).same) n3.at' fun v4 G4 H4 n4 r4 => h2 rfl G4 H4 v2 v4 _ n4.at' (r2.mono (n3.trans n4).same) r4 fun v5 G5 H5 n5 r5 => q v5 G5 H5 ((((n1.trans n2).trans n3).trans n4).trans n5) r5
    | false => exact q _ G3 H3 ((n1.trans n2).trans n3) (.bl _)
def EvO (K : PySem.W.Frag) (m : List Addr) (to : TO) (env : Env) (O : OL) (o : Option Int) : Prop :=
  ∀ σ G H (Q : Option Int → Hp → Prop), EnvR K G σ env → At K m G O H → (∀ G' H', Next K m G O H G' O H' → Q o H') → to σ H Q
theorem eo_none : EvO K m tNoPart env O none := fun σ G H Q e at' q => q G H (Next.refl at')
theorem eo_some {i : Int} (h : EvE K m te env O (.int i)) : EvO K m (tPart te) env O (some i) := fun σ G H Q e at' q => h σ G H _ e at' fun v G1 H1 n1 r1 => by cases r1; exact ⟨i, rfl, q G1 H1 n1⟩
def cutD (xs : List Dt) (lo hi : Option Int) : List Dt := (xs.drop (HT.sIx xs.length 0 lo)).take (HT.sIx xs.length xs.length hi - HT.sIx xs.length 0 lo)
theorem cut_rps {vs : List V} {ds : List Dt} (r : Rps K G vs ds) (lo hi : Option Int) : Rps K G (cutV vs lo hi) (cutD ds lo hi) := by
  unfold cutV cutD
  rw [r.len]
  exact (r.drop _).take _
theorem ev_slL {tl th : TO} {xs : List Dt} {lo hi : Option Int} (h : EvE K m te env O a) (hl : EvO K m tl env O lo) (hh : EvO K m th env O hi) (ha : AsL O a xs) : EvE K m (tSl (rSlL K) te tl th) env O (.lst (cutD xs lo hi)) := fun σ G H Q e at' q =>
  h σ G H _ e at' fun v G1 H1 n1 r1 => hl σ G1 H1 _ (e.mono n1.same) n1.at' fun G2 H2 n2 => hh σ G2 H2 _ (e.mono (n1.trans n2).same) n2.at' fun G3 H3 n3 => by
    have n := (n1.trans n2).trans n3
    obtain ⟨p, vs, rfl, s, rs⟩ := ha.get n3.at' (r1.mono (n2.trans n3).same)
    refine ⟨p, vs, rfl, s, fun l hl => ?_⟩
    have n4 := Next.frozen n3.at' hl (.lst (cutV vs lo hi))
    exact q _ _ _ (n.trans n4) (.lst (.inl (.inl upd_same)) ((cut_rps rs lo hi).mono n4.same))
theorem ev_slS {tl th : TO} {x : Str} {lo hi : Option Int} (h : EvE K m te env O (.str x)) (hl : EvO K m tl env O lo) (hh : EvO K m th env O hi) (hx : x.length ≤ sizeLine) : EvE K m (tSl rSlS te tl th) env O (.str (cutS x lo hi)) := fun σ G H Q e at' q =>
  h σ G H _ e at' fun v G1 H1 n1 r1 => hl σ G1 H1 _ (e.mono n1.same) n1.at' fun G2 H2 n2 => hh σ G2 H2 _ (e.mono (n1.trans n2).same) n2.at' fun G3 H3 n3 => by
    cases r1
    exact ⟨x, rfl, hx, q _ G3 H3 ((n1.trans n2).trans n3) (.str _)⟩
theorem ev_un {i : Int} (h : EvE K m te env O (.int i)) : EvE K m (tUn (rU fun i => .int (-i)) te) env O (.int (-i)) := fun σ G H Q e at' q => h σ G H _ e at' fun v G1 H1 n1 r1 => by
  cases r1; exact ⟨i, rfl, q _ G1 H1 n1 (.int _)⟩
/-! f-strings -/
theorem ev_fmtS {x : Str} (h : EvE K m te env O (.str x)) (hx : x.length ≤ sizeLine) : EvE K m (tFmt te) env O (.str x) := fun σ G H Q e at' q => h σ G H _ e at' fun v G1 H1 n1 r1 => by
  cases r1; exact .inl ⟨x, rfl, hx, q _ G1 H1 n1 (.str _)⟩
theorem ev_fmtI {i : Int} (h : EvE K m te env O (.int i)) (hx : i.natAbs.log2 < 1920) : EvE K m (tFmt te) env O (.str (toString i)) := fun σ G H Q e at' q => h σ G H _ e at' fun v G1 H1 n1 r1 => by
  cases r1; exact .inr ⟨i, rfl, hx, q _ G1 H1 n1 (.str _)⟩
def EvJ (K : PySem.W.Frag) (m : List Addr) (ts : List TE) (acc : Str) (env : Env) (O : OL) (out : Str) : Prop :=
  ∀ σ G H (Q : Str → Hp → Prop), EnvR K G σ env → At K m G O H → (∀ G' H', Next K m G O H G' O H' → Q out H') → tJs ts acc σ H Q
theorem ej_nil {acc : Str} : EvJ K m [] acc env O acc := fun σ G H Q e at' q => q G H (Next.refl at')
theorem ej_cons {ts : List TE} {acc x out : Str} (h : EvE K m te env O (.str x)) (hx : (acc ++ x).length ≤ sizeLine) (r : EvJ K m ts (acc ++ x) env O out) : EvJ K m (te :: ts) acc env O out := fun σ G H Q e at' q => h σ G H _ e at' fun v G1 H1 n1 r1 => by
  cases r1; exact ⟨x, rfl, hx, r σ G1 H1 Q (e.mono n1.same) n1.at' fun G2 H2 n2 => q G2 H2 (n1.trans n2)⟩
theorem ev_fstr {ts : List TE} {out : Str} (h : EvJ K m ts Str.empty env O out) : EvE K m (tFStr ts) env O (.str out) := fun σ G H Q e at' q => h σ G H _ e at' fun G1 H1 n1 => q _ G1 H1 n1 (.str _)
/-! methods of built-in types -/
def MeV (K : PySem.W.Frag) (m : List Addr) (T : String) (r : V → List V → Hp → VK → Prop) (o : Dt) (ds : List Dt) (O : OL) (c : Dt) : Prop :=
  ∀ G H v vs (Q : VK), At K m G O H → Rp K G v o → Rps K G vs ds → (∀ v G' H', Next K m G O H G' O H' → Rp K G' v c → Q v H') → r v vs H Q
theorem ev_bmS {r : V → List V → Hp → VK → Prop} {ta : TA} {x : Str} {ds : List Dt} (ho : EvE K m te env O (.str x)) (h : EvA K m ta env O ds) (hr : MeV K m "str" r (.str x) ds O c) : EvE K m (tBM K "str" r te ta) env O c := fun σ G H Q e at' q =>
  ho σ G H _ e at' fun v G1 H1 n1 r1 => by
    cases r1
    exact ⟨rfl, h σ G1 H1 _ (e.mono n1.same) n1.at' fun vs G2 H2 n2 r2 => hr G2 H2 _ vs Q n2.at' (.str _) r2 fun v G3 H3 n3 r3 => q v G3 H3 ((n1.trans n2).trans n3) r3⟩
theorem ev_bm0S {r : V → List V → Hp → VK → Prop} {x : Str} (ho : EvE K m te env O (.str x)) (hr : MeV K m "str" r (.str x) [] O c) : EvE K m (tBM0 K "str" r te) env O c := fun σ G H Q e at' q =>
  ho σ G H _ e at' fun v G1 H1 n1 r1 => by
    cases r1
    exact ⟨rfl, hr G1 H1 _ [] Q n1.at' (.str _) .nil fun v G3 H3 n3 r3 => q v G3 H3 (n1.trans n3) r3⟩
theorem me_split {x y : Str} (hy : (y.length == 0) = false) (hx : x.length + 2 ≤ sizeLine) : MeV K m "str" rSplit (.str x) [.str y] O (.lst ((Txt.split x y).map Dt.str)) := fun G H v vs Q at' r rs q => by
  cases r
  obtain ⟨w, rfl, r2⟩ := rs.one
  cases r2
  refine ⟨x, y, rfl, rfl, hy, hx, fun p hp => ?_⟩
  have n := Next.frozen at' hp (.lst ((Txt.split x y).map V.str))
  exact q _ _ _ n (.lst (.inl (.inl upd_same)) (rps_of_strs _))
theorem me_join {x : Str} {ys : List Str} (h : AsS O d (ys.map Dt.str)) (hl : (ys.map (·.length)).sum + ys.length * x.length ≤ 16777216) : MeV K m "str" (rJoin K) (.str x) [d] O (.str (Txt.join x ys)) := fun G H v vs Q at' r rs q => by
  cases r
  obtain ⟨w, rfl, r2⟩ := rs.one
  obtain ⟨p, vs, rfl, s, r3⟩ := h.get at' r2
  rw [rps_strs r3] at s
  exact ⟨x, p, ys, rfl, rfl, s, hl, q _ G H (Next.refl at') (.str _)⟩
theorem me_ends {x y : Str} : MeV K m "str" rEnds (.str x) [.str y] O (.bl (Txt.endswith x y)) := fun G H v vs Q at' r rs q => by
  cases r
  obtain ⟨w, rfl, r2⟩ := rs.one
  cases r2
  exact ⟨x, y, rfl, rfl, q _ G H (Next.refl at') (.bl _)⟩
theorem me_strip {x y : Str} (hx : x.length ≤ sizeLine) : MeV K m "str" rStripC (.str x) [.str y] O (.str (Txt.stripChars x y)) := fun G H v vs Q at' r rs q => by
  cases r
  obtain ⟨w, rfl, r2⟩ := rs.one
  cases r2
  exact ⟨x, y, rfl, rfl, hx, q _ G H (Next.refl at') (.str _)⟩
/-! instances -/
def AsI (O : OL) (d : Dt) (C : Addr) (fs : List (Str × Dt)) : Prop := d = .ins C fs ∨ ∃ (p : Addr) (k : Nat), d = ptr p ∧ O[k]? = some (p, .ins C fs)
theorem AsI.get {v : V} {C : Addr} {fs : List (Str × Dt)} (h : AsI O d C fs) (at' : At K m G O H) (r : Rp K G v d) : ∃ p dx vs, v = .ref p ∧ H p = some (.ins C dx vs) ∧ RpF K G vs fs := by
  rcases h with rfl | ⟨p, k, rfl, h⟩
  · cases r with
    | ins s q => exact ⟨_, _, _, rfl, at'.sub _ _ s, q⟩
  · cases r
    obtain ⟨_, o, ho, q⟩ := at'.own p _ (List.mem_of_getElem? h)
    cases q with
    | ins q => exact ⟨p, _, _, rfl, ho, q⟩
theorem RpF.look {f : Str} : ∀ {vs : List (Str × V)} {fs : List (Str × Dt)}, RpF K G vs fs → (vs.lookup f = none ∧ fs.lookup f = none) ∨ ∃ v d, vs.lookup f = some v ∧ fs.lookup f = some d ∧ Rp K G v d
  | _, _, .nil => .inl ⟨rfl, rfl⟩
  | _, _, .cons (k := k) (v := v) (d := d) a r => by
    by_cases e : f = k
    · subst e; exact .inr ⟨v, d, by simp [List.lookup], by simp [List.lookup], a⟩
    · have e' : (f == k) = false := by simpa using e
      rcases r.look (f := f) with ⟨h1, h2⟩ | ⟨v', d', h1, h2, h3⟩
      · exact .inl ⟨by simp only [List.lookup, e']; exact h1, by simp only [List.lookup, e']; exact h2⟩
      · exact .inr ⟨v', d', by simp only [List.lookup, e']; exact h1, by simp only [List.lookup, e']; exact h2, h3⟩
theorem ev_fld {C : Addr} {fs : List (Str × Dt)} {f : Str} (h : EvE K m te env O a) (hi : AsI O a C fs) (cl : Cls K C) (na : NoAttr K C f) (hf : fs.lookup f = some d) : EvE K m (tFld K te f) env O d := fun σ G H Q e at' q =>
  h σ G H _ e at' fun v G1 H1 n1 r1 => by
    obtain ⟨p, dx, vs, rfl, hp, rf⟩ := hi.get n1.at' r1
    rcases rf.look (f := f) with ⟨_, z⟩ | ⟨w, d', h1, h2, h3⟩
    · rw [z] at hf; cases hf
    · rw [h2] at hf; cases hf
      exact ⟨p, C, dx, vs, w, rfl, hp, cl, na, h1, q w G1 H1 n1 h3⟩
def putD (f : Str) (d : Dt) : List (Str × Dt) → List (Str × Dt)
  | [] => [(f, d)]
  | (k, v) :: r => if k = f then (k, d) :: r else (k, v) :: putD f d r
theorem RpF.put {f : Str} {v : V} {d : Dt} (h : Rp K G v d) : ∀ {vs : List (Str × V)} {fs : List (Str × Dt)}, RpF K G vs fs → RpF K G (putF f v vs) (putD f d fs)
  | _, _, .nil => .cons h .nil
  | _, _, .cons (k := k) a r => by
    unfold putF putD
    by_cases e : k = f
    · rw [if_pos e, if_pos e]; exact .cons h r
    · rw [if_neg e, if_neg e]; exact .cons a (r.put h)
theorem RpF.len : ∀ {vs : List (Str × V)} {fs : List (Str × Dt)}, RpF K G vs fs → vs.length = fs.length
  | _, _, .nil => rfl
  | _, _, .cons _ r => by rw [List.length_cons, List.length_cons, r.len]
theorem se_fld {D : EndsD} {C p : Addr} {f : Str} (hv : XE K m E tb env O (fun d O1 => ∃ k fs, O1[k]? = some (p, .ins C fs) ∧ EvE K m ta env O1 (ptr p) ∧ Cls K C ∧ NoAttr K C f ∧ fs.length < 1000 ∧ D.nx env (O1.set k (p, .ins C (putD f d fs)))) D.xs) :
    SE K m E (sFld K ta tb f) env O D := fun σ G H D' e a s => by
  refine hv σ G H _ e a (fun v d G1 O1 H1 n1 r1 ⟨k, fs, hk, ho, cl, na, hl, q⟩ => ?_) fun C G' O' H' n q => s.xs G' O' H' C n q
  refine ho σ G1 H1 _ (e.mono n1.same) n1.at' fun w G2 H2 n2 r2 => ?_
  cases r2
  obtain ⟨_, o, ho2, ro⟩ := n2.at'.own p _ (List.mem_of_getElem? hk)
  cases ro with
  | @ins _ dx vs _ rf =>
  have n3 := Next.write n2.at' hk (od' := .ins C (putD f d fs)) (o' := .ins C dx (putF f v vs)) (.ins (rf.put (r1.mono n2.same)))
  exact ⟨p, C, dx, vs, rfl, ho2, cl, na, by rw [rf.len]; exact hl, s.nx _ _ _ _ _ ((n1.trans n2).trans n3) (e.mono ((n1.trans n2).trans n3).same) q⟩
/-- o.m(..), giving data of data -/
theorem ev_meth {R : List Dt → Dt → Prop} {ds : List Dt} {E' : XK} {C : Addr} {mn : Str} {ta : TA} {fs : List (Str × Dt)} (ho : EvE K m te env O a) (hi : AsI O a C fs) (hm : fs.lookup mn = none) (h : EvA K m ta env O ds) (hr : R (a :: ds) d) :
    EvE K m (tMeth C mn (spV K R) [] E' te ta) env O d := fun σ G H Q e at' q => ho σ G H _ e at' fun v G1 H1 n1 r1 => by
  obtain ⟨p, dx, vs, rfl, hp, rf⟩ := hi.get n1.at' r1
  rcases rf.look (f := mn) with ⟨z, _⟩ | ⟨w, d', h1, h2, h3⟩
  · refine ⟨p, dx, vs, rfl, hp, z, h σ G1 H1 _ (e.mono n1.same) n1.at' fun ws G2 H2 n2 r2 => ?_⟩
    show spO K (preV R) (.ref p :: (ws ++ [])) H2 Q E'
    rw [List.append_nil]
    refine sp_call (A := []) (B := O) (Φ := fun d' o' => d' = d ∧ o' = O) (Ψ := fun _ _ => False) n2.at' (.cons (r1.mono n2.same) r2) ⟨d, hr, rfl, rfl, rfl⟩ (fun v d' G' O' H' n rv f => ?_) fun _ _ _ _ _ f => f.elim
    obtain ⟨rfl, rfl⟩ := f
    exact q v G' H' ((n1.trans n2).trans n) rv
  · rw [h2] at hm; cases hm
theorem ev_methL {R : List Dt → List Dt → Prop} {ds rs : List Dt} {E' : XK} {C : Addr} {mn : Str} {ta : TA} {fs : List (Str × Dt)} (ho : EvE K m te env O a) (hi : AsI O a C fs) (hm : fs.lookup mn = none) (h : EvA K m ta env O ds) (hr : R (a :: ds) rs) :
    EvE K m (tMeth C mn (spL K R) [] E' te ta) env O (.lst rs) := fun σ G H Q e at' q => ho σ G H _ e at' fun v G1 H1 n1 r1 => by
  obtain ⟨p, dx, vs, rfl, hp, rf⟩ := hi.get n1.at' r1
  rcases rf.look (f := mn) with ⟨z, _⟩ | ⟨w, d', h1, h2, h3⟩
  · refine ⟨p, dx, vs, rfl, hp, z, h σ G1 H1 _ (e.mono n1.same) n1.at' fun ws G2 H2 n2 r2 => ?_⟩
    show spO K (preL R) (.ref p :: (ws ++ [])) H2 Q E'
    rw [List.append_nil]
    refine sp_call (A := []) (B := O) (Φ := fun d' o' => ∃ p, d' = ptr p ∧ o' = (p, .lst rs) :: O) (Ψ := fun _ _ => False) n2.at' (.cons (r1.mono n2.same) r2) ⟨rs, hr, rfl, fun p => ⟨p, rfl, rfl⟩⟩ (fun v d' G' O' H' n rv f => ?_) fun _ _ _ _ _ f => f.elim
    obtain ⟨l, rfl, rfl⟩ := f
    cases rv
    obtain ⟨o, ho, ro, n3⟩ := Next.freeze n.at' (k := 0) rfl
    exact q _ _ _ (((n1.trans n2).trans n).trans n3) (Rp.of_own (ro.mono n3.same) upd_same)
  · rw [h2] at hm; cases hm
/-- f(..) with any promise: what is handed over is split off, then joined -/
theorem xe_call {pre : List Addr → List Dt → OL → (Dt → OL → Prop) → (Addr → OL → Prop) → Prop} {ta : TA} {Φ : Dt → OL → Prop} {Ψ : Addr → OL → Prop}
    (h : XA K m E ta env O (fun ds O1 => ∃ A B, O1 = A ++ B ∧ pre m ds A (fun d o => Φ d (o ++ B)) (fun c o => Ψ c (o ++ B))) Ψ) : XE K m E (tCall (spO K pre) [] E ta) env O Φ Ψ := fun σ G H Q e at' q x =>
  h σ G H _ e at' (fun vs ds G1 O1 H1 n1 r1 ⟨A, B, eq, hp⟩ => by
    subst eq
    show spO K pre (vs ++ []) H1 Q E
    rw [List.append_nil]
    exact sp_call n1.at' r1 hp (fun v d G' O' H' n rv f => q v d G' O' H' (n1.trans n) rv f) fun C G' O' H' n f => x C G' O' H' (n1.trans n) f) x
/-- C(..): the new instance, then __init__ -/
theorem xe_make {pre : List Addr → List Dt → OL → (Dt → OL → Prop) → (Addr → OL → Prop) → Prop} {ta : TA} {C : Addr} {Φ : Dt → OL → Prop} {Ψ : Addr → OL → Prop}
    (h : XA K m E ta env O (fun ds O1 => ∃ A B, O1 = A ++ B ∧ ∀ x, x ∉ O1.dom → pre m (ptr x :: ds) ((x, .ins C []) :: A) (fun d o => d = .non ∧ Φ (ptr x) (o ++ B)) (fun c o => Ψ c (o ++ B))) Ψ) : XE K m E (tMake C (spO K pre) [] E ta) env O Φ Ψ := fun σ G H Q e at' q x =>
  h σ G H _ e at' (fun vs ds G1 O1 H1 n1 r1 ⟨A, B, eq, hp⟩ z dx hz hdx hne => by
    subst eq
    show spO K pre (.ref z :: (vs ++ [])) _ _ E
    rw [List.append_nil]
    obtain ⟨hg, ho⟩ := n1.at'.fresh hz
    obtain ⟨hg2, ho2⟩ := n1.at'.fresh hdx
    -- the own dict first: tracked by nobody
    have n2 : Next K m G1 (A ++ B) H1 G1 (A ++ B) (upd H1 dx (.own z)) := ⟨Same.refl G1, ⟨fun b u e => by
        have : b ≠ dx := ne_of_none e hg2
        rw [upd_ne this]; exact n1.at'.sub b u e, fun p od hm => by
        obtain ⟨h1, o, h2, h3⟩ := n1.at'.own p od hm
        exact ⟨h1, o, by rw [upd_ne (ne_of_none h2 hdx)]; exact h2, h3⟩, n1.at'.nd, n1.at'.lk⟩, fun b u e _ => by rw [upd_ne (ne_of_none e hdx)]; exact e, fun b e => .inl e, fun b e => .inl e⟩
    have hz2 : (upd H1 dx (.own z)) z = none := by rw [upd_ne (Ne.symm hne)]; exact hz
    have n3 := Next.own n2.at' hz2 (o := .ins C dx []) (od := .ins C []) (.ins .nil)
    refine sp_call (A := (z, .ins C []) :: A) (B := B) n3.at' (.cons (.val _) (r1.mono (n2.trans n3).same)) (Φ := fun d o => d = .non ∧ Φ (ptr z) o) (Ψ := Ψ) (hp z ho) (fun v d G' O' H' n rv f => ?_) fun C G' O' H' n f => x C G' O' H' (((n1.trans n2).trans n3).trans n) f
    obtain ⟨rfl, f⟩ := f
    cases rv
    exact ⟨rfl, q (.ref z) (ptr z) G' O' H' (((n1.trans n2).trans n3).trans n) (.val _) f⟩) x
end
end DL

/-! DL6: dicts, locks, comprehensions, isinstance. -/
namespace DL
open PySem L2
section
variable {K : PySem.W.Frag} {m : List Addr} {E : XK} {env : Env} {O : OL} {G H : Hp} {te ta tb tc td ty : TE} {t u : TS} {tt : TT} {a b c d e : Dt} {g : TG} {D : EndsD}
/-! keys -/
def kD : Key → Dt
  | .inl i => .int i
  | .inr x => .str x
theorem kD_v {k : Key} {v : V} (r : Rp K G v (kD k)) : v = kV k := by
  cases k with
  | inl i => cases r; rfl
  | inr x => cases r; rfl
theorem kD_rp (k : Key) : Rp K G (kV k) (kD k) := by
  cases k with
  | inl i => exact .int i
  | inr x => exact .str x
def lookD (kds : List (Key × Dt)) (k : Key) : Option Dt := (kds.find? fun kv => decide (kv.1 = k)).map (·.2)
def putE (kds : List (Key × Dt)) (k : Key) (v : Dt) : List (Key × Dt) :=
  if (kds.any fun kv => decide (kv.1 = k)) = true then kds.map (fun kv => if kv.1 = k then (kv.1, v) else kv) else kds ++ [(k, v)]
theorem RpK.app : ∀ {vs ws : List (Key × V)} {ds es : List (Key × Dt)}, RpK K G vs ds → RpK K G ws es → RpK K G (vs ++ ws) (ds ++ es)
  | _, _, _, _, .nil, s => s
  | _, _, _, _, .cons a r, s => .cons a (r.app s)
theorem RpK.len : ∀ {vs : List (Key × V)} {ds : List (Key × Dt)}, RpK K G vs ds → vs.length = ds.length
  | _, _, .nil => rfl
  | _, _, .cons _ r => by rw [List.length_cons, List.length_cons, r.len]
theorem RpK.any {k : Key} : ∀ {vs : List (Key × V)} {ds : List (Key × Dt)}, RpK K G vs ds → (vs.any fun kv => decide (kv.1 = k)) = (ds.any fun kv => decide (kv.1 = k))
  | _, _, .nil => rfl
  | _, _, .cons _ r => by rw [List.any_cons, List.any_cons, r.any]
theorem RpK.mapPut {k : Key} {v : V} {d : Dt} (h : Rp K G v d) : ∀ {vs : List (Key × V)} {ds : List (Key × Dt)}, RpK K G vs ds → RpK K G (vs.map fun kv => if kv.1 = k then (kv.1, v) else kv) (ds.map fun kv => if kv.1 = k then (kv.1, d) else kv)
  | _, _, .nil => .nil
  | _, _, .cons (k := k') a r => by
    rw [List.map_cons, List.map_cons]
    by_cases e : k' = k
    · rw [if_pos (show (k', _).1 = k from e), if_pos (show (k', _).1 = k from e)]; exact .cons h (r.mapPut h)
    · rw [if_neg (show ¬ (k', _).1 = k from e), if_neg (show ¬ (k', _).1 = k from e)]; exact .cons a (r.mapPut h)
theorem RpK.put {k : Key} {v : V} {d : Dt} (h : Rp K G v d) {vs : List (Key × V)} {ds : List (Key × Dt)} (r : RpK K G vs ds) : RpK K G (putK vs k v) (putE ds k d) := by
  unfold putK putE
  rw [r.any]
  split
  · exact r.mapPut h
  · exact r.app (.cons h .nil)
theorem RpK.get : ∀ {vs : List (Key × V)} {ds : List (Key × Dt)} {i : Nat} {k : Key} {v : V}, RpK K G vs ds → vs[i]? = some (k, v) → ∃ d, ds[i]? = some (k, d) ∧ Rp K G v d
  | _, _, _, _, _, .nil, h => by simp at h
  | _, _, 0, _, _, .cons a r, h => by simp at h; obtain ⟨rfl, rfl⟩ := h; exact ⟨_, rfl, a⟩
  | _, _, i + 1, _, _, .cons a r, h => by
    obtain ⟨d, e, q⟩ := r.get (i := i) (by simpa using h)
    exact ⟨d, by simpa using e, q⟩
/-- a dict that may be read -/
def AsD (O : OL) (d : Dt) (kds : List (Key × Dt)) : Prop := d = .dic kds ∨ ∃ (p : Addr) (k : Nat), d = ptr p ∧ O[k]? = some (p, .dic kds)
theorem AsD.fr {kds : List (Key × Dt)} : AsD O (.dic kds) kds := .inl rfl
theorem AsD.own {p : Addr} {kds : List (Key × Dt)} (k : Nat) (h : O[k]? = some (p, .dic kds)) : AsD O (ptr p) kds := .inr ⟨p, k, rfl, h⟩
theorem AsD.get {v : V} {kds : List (Key × Dt)} (h : AsD O d kds) (at' : At K m G O H) (r : Rp K G v d) : ∃ p kvs, v = .ref p ∧ Rd H p (.dK kvs) ∧ RpK K G kvs kds := by
  rcases h with rfl | ⟨p, k, rfl, h⟩
  · cases r with
    | dic s q => exact ⟨_, _, rfl, Same.rdq at'.sub s, q⟩
  · cases r
    obtain ⟨_, o, ho, q⟩ := at'.own p _ (List.mem_of_getElem? h)
    cases q with
    | dic q => exact ⟨p, _, rfl, .inl ho, q⟩
theorem AsD.exact {v : V} {kds : List (Key × Dt)} (h : AsD O d kds) (at' : At K [] G O H) (r : Rp K G v d) : ∃ p kvs, v = .ref p ∧ H p = some (.dK kvs) ∧ RpK K G kvs kds := by
  rcases h with rfl | ⟨p, k, rfl, h⟩
  · cases r with
    | @dic p kvs _ s q =>
      rcases s with s | ⟨o, s⟩
      · exact ⟨p, kvs, rfl, at'.sub _ _ s, q⟩
      · exact absurd (at'.lk _ _ _ s (.inl ⟨_, rfl⟩)) (by simp)
  · cases r
    obtain ⟨_, o, ho, q⟩ := at'.own p _ (List.mem_of_getElem? h)
    cases q with
    | dic q => exact ⟨p, _, rfl, ho, q⟩
theorem ev_dget {kds : List (Key × Dt)} {k : Key} (h1 : EvE K m td env O a) (h2 : EvE K m ty env O (kD k)) (hd : AsD O a kds) (hk : lookD kds k = some d) : EvE K m (tDGet td ty) env O d := fun σ G H Q e at' q =>
  h1 σ G H _ e at' fun v G1 H1 n1 r1 => h2 σ G1 H1 _ (e.mono n1.same) n1.at' fun w G2 H2 n2 r2 => by
    obtain ⟨p, kvs, rfl, s, rk⟩ := hd.get n2.at' (r1.mono n2.same)
    have := kD_v r2; subst this
    rcases rk.val k with ⟨_, z⟩ | ⟨v', d', h3, h4, h5⟩
    · unfold lookD at hk; rw [z] at hk; cases hk
    · have : d' = d := Option.some.inj (h4.symm.trans hk)
      subst this
      exact ⟨p, v', rfl, .inl ⟨kvs, k, s, rfl, h3.symm⟩, q v' G2 H2 (n1.trans n2) h5⟩
theorem ev_din {kds : List (Key × Dt)} {k : Key} (h2 : EvE K m ty env O (kD k)) (h1 : EvE K m td env O a) (hd : AsD O a kds) : EvE K m (tDIn ty td) env O (.bl (lookD kds k).isSome) := fun σ G H Q e at' q =>
  h2 σ G H _ e at' fun w G1 H1 n1 r1 => h1 σ G1 H1 _ (e.mono n1.same) n1.at' fun v G2 H2 n2 r2 => by
    obtain ⟨p, kvs, rfl, s, rk⟩ := hd.get n2.at' r2
    have := kD_v r1; subst this
    refine ⟨p, _, rfl, .inl ⟨kvs, k, s, rfl, rfl⟩, ?_⟩
    rcases rk.val k with ⟨z1, z⟩ | ⟨v', d', h3, h4, h5⟩
    · rw [z1]; unfold lookD at q; rw [z] at q; exact q _ G2 H2 (n1.trans n2) (.bl _)
    · rw [h3]; unfold lookD at q; rw [h4] at q; exact q _ G2 H2 (n1.trans n2) (.bl _)
theorem ev_dnotin {kds : List (Key × Dt)} {k : Key} (h2 : EvE K m ty env O (kD k)) (h1 : EvE K m td env O a) (hd : AsD O a kds) : EvE K m (tDNotIn ty td) env O (.bl (!(lookD kds k).isSome)) := fun σ G H Q e at' q =>
  h2 σ G H _ e at' fun w G1 H1 n1 r1 => h1 σ G1 H1 _ (e.mono n1.same) n1.at' fun v G2 H2 n2 r2 => by
    obtain ⟨p, kvs, rfl, s, rk⟩ := hd.get n2.at' r2
    have := kD_v r1; subst this
    refine ⟨p, _, rfl, .inl ⟨kvs, k, s, rfl, rfl⟩, ?_⟩
    rcases rk.val k with ⟨z1, z⟩ | ⟨v', d', h3, h4, h5⟩
    · rw [z1]; unfold lookD at q; rw [z] at q; exact q _ G2 H2 (n1.trans n2) (.bl _)
    · rw [h3]; unfold lookD at q; rw [h4] at q; exact q _ G2 H2 (n1.trans n2) (.bl _)
/-- d[k] = v -/
theorem se_dput {p : Addr} {k : Key} (hv : XE K m E te env O (fun x O1 => ∃ i kds, O1[i]? = some (p, .dic kds) ∧ EvE K m td env O1 (ptr p) ∧ EvE K m ty env O1 (kD k) ∧ kds.length < sizeLine ∧ D.nx env (O1.set i (p, .dic (putE kds k x)))) D.xs) :
    SE K m E (sDPut td ty te) env O D := fun σ G H D' e a s => by
  refine hv σ G H _ e a (fun v x G1 O1 H1 n1 r1 ⟨i, kds, hi, h1, h2, hl, q⟩ => ?_) fun C G' O' H' n q => s.xs G' O' H' C n q
  refine h1 σ G1 H1 _ (e.mono n1.same) n1.at' fun w G2 H2 n2 r2 => ?_
  cases r2
  refine h2 σ G2 H2 _ (e.mono (n1.trans n2).same) n2.at' fun w G3 H3 n3 r3 => ?_
  have := kD_v r3; subst this
  obtain ⟨_, o, ho, ro⟩ := n3.at'.own p _ (List.mem_of_getElem? hi)
  cases ro with
  | @dic kvs _ rk =>
  have n4 := Next.write n3.at' hi (od' := .dic (putE kds k x)) (o' := .dK (putK kvs k v)) (.dic (rk.put (r1.mono (n2.trans n3).same)))
  have n := ((n1.trans n2).trans n3).trans n4
  exact ⟨p, _, rfl, .inl ⟨kvs, k, ho, rfl, by rw [rk.len]; exact hl, rfl⟩, s.nx _ _ _ _ _ n (e.mono n.same) q⟩
theorem ca_lenD {kds : List (Key × Dt)} (h : AsD O d kds) : CaV K [] rLenD [d] O (.int kds.length) := .of0 fun G H vs Q at' rs q => by
  obtain ⟨v, rfl, r⟩ := rs.one
  obtain ⟨p, kvs, rfl, s, rk⟩ := h.exact at' r
  exact ⟨p, kvs, rfl, s, by rw [rk.len]; exact q _ (.int _)⟩
theorem rps_keys : ∀ {kvs : List (Key × V)} {kds : List (Key × Dt)}, RpK K G kvs kds → ∀ G' : Hp, Rps K G' (kvs.map fun kv => kV kv.1) (kds.map fun kv => kD kv.1)
  | _, _, .nil, _ => .nil
  | _, _, .cons _ r, G' => .cons (kD_rp _) (rps_keys r G')
theorem ca_listD {kds : List (Key × Dt)} (h : AsD O d kds) : CaV K [] rListD [d] O (.lst (kds.map fun kv => kD kv.1)) := fun G H vs Q at' rs q => by
  obtain ⟨v, rfl, r⟩ := rs.one
  obtain ⟨p, kvs, rfl, s, rk⟩ := h.exact at' r
  refine ⟨p, kvs, rfl, s, fun l hl => ?_⟩
  have n := Next.frozen at' hl (.lst (kvs.map fun kv => kV kv.1))
  exact q _ _ _ n (.lst (.inl (.inl upd_same)) (rps_keys rk _))

/-! locks -/
theorem Rd.lock {G : Hp} {p a : Addr} {u w : HO} {od : Obj} (hu : G p = some u) (h : Rd G a w) : Rd (upd G p (.frz od u)) a w ∨ (∃ o x, u = .frz o x) := by
  by_cases e : a = p
  · subst e
    rcases h with h | ⟨o, h⟩
    · rw [hu] at h; cases h; exact .inl (.inr ⟨od, upd_same⟩)
    · rw [hu] at h; cases h; exact .inr ⟨o, w, rfl⟩
  · exact .inl (h.elim (fun h => .inl (by rw [upd_ne e]; exact h)) fun ⟨o, h⟩ => .inr ⟨o, by rw [upd_ne e]; exact h⟩)
theorem Rd.unlock {G : Hp} {p a : Addr} {u w : HO} {od : Obj} (hu : G p = some (.frz od u)) (nf : ∀ o x, u ≠ .frz o x) (h : Rd G a w) (hw : ∀ o x, w ≠ .frz o x) : Rd (upd G p u) a w := by
  by_cases e : a = p
  · subst e
    rcases h with h | ⟨o, h⟩
    · rw [hu] at h; cases h; exact (hw _ _ rfl).elim
    · rw [hu] at h; cases h; exact .inl upd_same
  · exact h.elim (fun h => .inl (by rw [upd_ne e]; exact h)) fun ⟨o, h⟩ => .inr ⟨o, by rw [upd_ne e]; exact h⟩
theorem rp_by {G1 G2 : Hp} (hr : ∀ a w, (∀ o x, w ≠ .frz o x) → Rd G1 a w → Rd G2 a w) (hi : ∀ a C dx fs, G1 a = some (.ins C dx fs) → G2 a = some (.ins C dx fs)) {v : V} {d : Dt} (h : Rp K G1 v d) : Rp K G2 v d := by
  have hl : ∀ a vs, SqL K G1 a vs → SqL K G2 a vs := fun a vs h => h.elim (fun h => .inl (hr _ _ (fun _ _ z => nomatch z) h)) .inr
  have ht : ∀ a vs, SqT K G1 a vs → SqT K G2 a vs := fun a vs h => h.elim (fun h => .inl (hr _ _ (fun _ _ z => nomatch z) h)) .inr
  have hk : ∀ a kvs, Rd G1 a (.dK kvs) → Rd G2 a (.dK kvs) := fun a kvs h => hr _ _ (fun _ _ z => nomatch z) h
  have hk2 : ∀ a kvs, Rd G1 a (.dT kvs) → Rd G2 a (.dT kvs) := fun a kvs h => hr _ _ (fun _ _ z => nomatch z) h
  exact Rp.rec (motive_1 := fun v d _ => Rp K G2 v d) (motive_2 := fun v d _ => Rps K G2 v d) (motive_3 := fun v d _ => RpK K G2 v d)
    (motive_4 := fun v d _ => RpT K G2 v d) (motive_5 := fun v d _ => RpF K G2 v d)
    .non .bl .int .str .val (fun h _ r => .lst (hl _ _ h) r) (fun h _ r => .tup (ht _ _ h) r)
    (fun h _ r => .dic (hk _ _ h) r) (fun h _ r => .dit (hk2 _ _ h) r)
    (fun h _ r => .ins (hi _ _ _ _ h) r) .nil (fun _ _ a b => .cons a b) .nil (fun _ _ a b => .cons a b) .nil (fun _ _ a b => .cons a b) .nil (fun _ _ a b => .cons a b) h
theorem rps_by {G G' : Hp} (hr : ∀ v d, Rp K G v d → Rp K G' v d) : ∀ {vs : List V} {ds : List Dt}, Rps K G vs ds → Rps K G' vs ds
  | _, _, .nil => .nil
  | _, _, .cons h r => .cons (hr _ _ h) (rps_by hr r)
theorem rpk_by {G G' : Hp} (hr : ∀ v d, Rp K G v d → Rp K G' v d) : ∀ {vs : List (Key × V)} {ds : List (Key × Dt)}, RpK K G vs ds → RpK K G' vs ds
  | _, _, .nil => .nil
  | _, _, .cons h r => .cons (hr _ _ h) (rpk_by hr r)
theorem rpt_by {G G' : Hp} (hr : ∀ v d, Rp K G v d → Rp K G' v d) : ∀ {vs : List (List Key × V)} {ds : List (List Key × Dt)}, RpT K G vs ds → RpT K G' vs ds
  | _, _, .nil => .nil
  | _, _, .cons h r => .cons (hr _ _ h) (rpt_by hr r)
theorem rpf_by {G G' : Hp} (hr : ∀ v d, Rp K G v d → Rp K G' v d) : ∀ {vs : List (Str × V)} {ds : List (Str × Dt)}, RpF K G vs ds → RpF K G' vs ds
  | _, _, .nil => .nil
  | _, _, .cons h r => .cons (hr _ _ h) (rpf_by hr r)
theorem rpo_by {G G' : Hp} (hr : ∀ v d, Rp K G v d → Rp K G' v d) {o : HO} {od : OD} (h : RpO K G o od) : RpO K G' o od := by
  cases h with
  | lst h => exact .lst (rps_by hr h)
  | dic h => exact .dic (rpk_by hr h)
  | dit h => exact .dit (rpt_by hr h)
  | ins h => exact .ins (rpf_by hr h)
theorem env_by {G G' : Hp} (hr : ∀ v d, Rp K G v d → Rp K G' v d) {σ : St} {env : Env} (h : EnvR K G σ env) : EnvR K G' σ env := ⟨h.len, fun i d q => let ⟨v, h1, h2⟩ := h.get i d q; ⟨v, h1, hr v d h2⟩⟩
/-- the state with a dict of the frozen part locked, and back -/
theorem lock_in {p : Addr} {u : HO} {od : Obj} (at' : At K [] G O H) (hp : G p = some u) (hl : Lk u) : (∀ v d, Rp K G v d → Rp K (upd G p (.frz od u)) v d) ∧ At K [p] (upd G p (.frz od u)) O (upd H p (.frz od u)) := by
  have nf : ∀ o x, u ≠ .frz o x := fun o x e => by subst e; rcases hl with ⟨_, h⟩ | ⟨_, h⟩ <;> cases h
  have hr : ∀ v d, Rp K G v d → Rp K (upd G p (.frz od u)) v d := fun v d h => rp_by (fun a w hw r => (Rd.lock hp r).elim id fun ⟨o, x, e⟩ => (nf o x e).elim) (fun a C dx fs h => by
    rw [upd_ne (fun e => by subst e; rw [hp] at h; cases h; rcases hl with ⟨_, z⟩ | ⟨_, z⟩ <;> cases z)]; exact h) h
  refine ⟨hr, fun a o h => ?_, fun q qd hm => ?_, at'.nd, fun a o w h l => ?_⟩
  · by_cases e : a = p
    · subst e; rw [upd_same] at h ⊢; exact h
    · rw [upd_ne e] at h ⊢; exact at'.sub a o h
  · obtain ⟨h1, o, h2, h3⟩ := at'.own q qd hm
    have e : q ≠ p := fun e => by subst e; rw [hp] at h1; cases h1
    exact ⟨by rw [upd_ne e]; exact h1, o, by rw [upd_ne e]; exact h2, rpo_by hr h3⟩
  · by_cases e : a = p
    · subst e; simp
    · rw [upd_ne e] at h; exact absurd (at'.lk a o w h l) (by simp)
theorem lock_out {p : Addr} {u : HO} {od : Obj} {G' H' : Hp} {O' : OL} (at' : At K [] G O H) (hp : G p = some u) (hl : Lk u) (n : Next K [p] (upd G p (.frz od u)) O (upd H p (.frz od u)) G' O' H') :
    (∀ v d, Rp K G' v d → Rp K (upd G' p u) v d) ∧ Next K [] G O H (upd G' p u) O' (upd H' p u) ∧ H' p = some (.frz od u) := by
  have nf : ∀ o x, u ≠ .frz o x := fun o x e => by subst e; rcases hl with ⟨_, h⟩ | ⟨_, h⟩ <;> cases h
  have gp : G' p = some (.frz od u) := n.same p _ upd_same
  have hp' : H' p = some (.frz od u) := n.at'.sub p _ gp
  have hr : ∀ v d, Rp K G' v d → Rp K (upd G' p u) v d := fun v d h => rp_by (fun a w hw r => Rd.unlock gp nf r hw) (fun a C dx fs h => by
    rw [upd_ne (fun e => by subst e; rw [gp] at h; cases h)]; exact h) h
  have hHp : H p = some u := at'.sub p u hp
  refine ⟨hr, ⟨fun a o h => ?_, ⟨fun a o h => ?_, fun q qd hm => ?_, n.at'.nd, fun a o w h l => ?_⟩, fun a o h hd => ?_, fun a h => ?_, fun a h => ?_⟩, hp'⟩
  · by_cases e : a = p
    · subst e; rw [hp] at h; rw [upd_same]; exact h
    · rw [upd_ne e]; exact n.same a o (by rw [upd_ne e]; exact h)
  · by_cases e : a = p
    · subst e; rw [upd_same] at h ⊢; exact h
    · rw [upd_ne e] at h ⊢; exact n.at'.sub a o h
  · obtain ⟨h1, o, h2, h3⟩ := n.at'.own q qd hm
    have e : q ≠ p := fun e => by subst e; rw [gp] at h1; cases h1
    exact ⟨by rw [upd_ne e]; exact h1, o, by rw [upd_ne e]; exact h2, rpo_by hr h3⟩
  · by_cases e : a = p
    · subst e; rw [upd_same] at h; exact (nf o w (Option.some.inj h)).elim
    · rw [upd_ne e] at h
      have := n.at'.lk a o w h l
      exact absurd (List.mem_singleton.mp this) e
  · by_cases e : a = p
    · subst e; rw [hHp] at h; rw [upd_same]; exact h
    · rw [upd_ne e]; exact n.keep a o (by rw [upd_ne e]; exact h) hd
  · by_cases e : a = p
    · subst e; exact .inl (by rw [hp]; exact fun w => nomatch w)
    · rw [upd_ne e] at h
      rcases n.gnew a h with z | z | z
      · rw [upd_ne e] at z; exact .inl z
      · rw [upd_ne e] at z; exact .inr (.inl z)
      · exact .inr (.inr z)
  · rcases n.onew a h with z | z
    · exact .inl z
    · by_cases e : a = p
      · subst e; rw [upd_same] at z; cases z
      · rw [upd_ne e] at z; exact .inr z
theorem dic_at {v : V} {kds : List (Key × Dt)} (at' : At K [] G O H) (r : Rp K G v (.dic kds)) : ∃ p kvs, v = .ref p ∧ G p = some (.dK kvs) ∧ H p = some (.dK kvs) ∧ RpK K G kvs kds := by
  cases r with
  | @dic p kvs _ s q =>
    rcases s with s | ⟨o, s⟩
    · exact ⟨p, kvs, rfl, s, at'.sub _ _ s, q⟩
    · exact absurd (at'.lk _ _ _ s (.inl ⟨_, rfl⟩)) (by simp)
/-- the dict that is walked: which one it is ahead of the lock, and within -/
def LkE (K : PySem.W.Frag) (td : TE) (env : Env) (O : OL) (kds : List (Key × Dt)) : Prop :=
  ∀ σ G H, EnvR K G σ env → At K [] G O H → ∃ p kvs, G p = some (.dK kvs) ∧ RpK K G kvs kds ∧ ∀ od (Q : VK), Q (.ref p) (upd H p (.frz od (.dK kvs))) → td σ (upd H p (.frz od (.dK kvs))) Q
theorem lk_var {i : Nat} {kds : List (Key × Dt)} (h : env[i]? = some (some (.dic kds))) : LkE K (tVar i) env O kds := fun σ G H e at' => by
  obtain ⟨v, h1, h2⟩ := e.get i _ h
  obtain ⟨p, kvs, rfl, h3, _, h5⟩ := dic_at at' h2
  exact ⟨p, kvs, h3, h5, fun od Q q => ⟨_, h1, q⟩⟩
theorem lk_fld {i : Nat} {kds : List (Key × Dt)} {C : Addr} {fs : List (Str × Dt)} {f : Str} (h : env[i]? = some (some d)) (hi : AsI O d C fs) (cl : Cls K C) (na : NoAttr K C f) (hf : fs.lookup f = some (.dic kds)) : LkE K (tFld K (tVar i) f) env O kds := fun σ G H e at' => by
  obtain ⟨v, h1, h2⟩ := e.get i _ h
  obtain ⟨q, dx, vs, rfl, hq, rf⟩ := hi.get at' h2
  rcases rf.look (f := f) with ⟨_, z⟩ | ⟨w, d', h3, h4, h5⟩
  · rw [z] at hf; cases hf
  · rw [h4] at hf; cases hf
    obtain ⟨p, kvs, rfl, h6, h7, h8⟩ := dic_at at' h5
    have hne : q ≠ p := fun z => by subst z; rw [hq] at h7; cases h7
    exact ⟨p, kvs, h6, h8, fun od Q qq => ⟨_, h1, q, C, dx, vs, _, rfl, by rw [upd_ne hne]; exact hq, cl, na, h3, qq⟩⟩
/-- an item of a walk over a dict -/
structure ItK (K : PySem.W.Frag) (J : Addr → Obj → List (Key × V) → It) (itD : Key → Dt → Dt) : Prop where
  go : ∀ p o kvs i H, H p = some (.frz o (.dK kvs)) → i < kvs.length → (J p o kvs).go i H
  stop : ∀ p o kvs i H, H p = some (.frz o (.dK kvs)) → kvs.length ≤ i → (J p o kvs).stop i H
  item : ∀ {p o kvs i H x H' kds} {G : Hp} {O : OL} {m : List Addr}, (J p o kvs).yld i H x H' → At K m G O H → RpK K G kvs kds → ∃ k d G', kds[i]? = some (k, d) ∧ Next K m G O H G' O H' ∧ Rp K G' x (itD k d)
theorem it_keys : ItK K Itk (fun k _ => kD k) where
  go := fun _ _ _ _ _ h1 h2 => ⟨h1, h2⟩
  stop := fun _ _ _ _ _ h1 h2 => ⟨h1, h2⟩
  item := fun {p o kvs i H x H' kds G O m} hy at' rk => by
    obtain ⟨rfl, k, v, h1, rfl⟩ := hy
    obtain ⟨d, h2, _⟩ := rk.get h1
    exact ⟨k, d, G, h2, Next.refl at', kD_rp k⟩
theorem it_vals : ItK K Itd (fun _ d => d) where
  go := fun _ _ _ _ _ h1 h2 => ⟨h1, h2⟩
  stop := fun _ _ _ _ _ h1 h2 => ⟨h1, h2⟩
  item := fun {p o kvs i H x H' kds G O m} hy at' rk => by
    obtain ⟨rfl, k, h1⟩ := hy
    obtain ⟨d, h2, h3⟩ := rk.get h1
    exact ⟨k, d, G, h2, Next.refl at', h3⟩
theorem it_items : ItK K Iti (fun k d => .tup [kD k, d]) where
  go := fun _ _ _ _ _ h1 h2 => ⟨h1, h2⟩
  stop := fun _ _ _ _ _ h1 h2 => ⟨h1, h2⟩
  item := fun {p o kvs i H x H' kds G O m} hy at' rk => by
    obtain ⟨T, k, v, h1, rfl, hT, rfl⟩ := hy
    obtain ⟨d, h2, h3⟩ := rk.get h1
    have n := Next.frozen at' hT (.tup [kV k, v])
    exact ⟨k, d, _, h2, n, .tup (.inl (.inl upd_same)) (.cons (kD_rp k) (.cons (h3.mono n.same) .nil))⟩
/-- for over a frozen dict; nothing is raised within -/
theorem se_lockK {wi : TI} {J : Addr → Obj → List (Key × V) → It} {itD : Key → Dt → Dt} (hj : ItK K J itD)
    (hwi : ∀ σ H R, (td σ H fun x H1 => ∃ p o kvs, x = .ref p ∧ H1 p = some (.frz o (.dK kvs)) ∧ R (J p o kvs) H1) → wi σ H R)
    {kds : List (Key × Dt)} (hd : LkE K td env O kds) (Inv : Nat → Env → OL → Prop) (h0 : Inv 0 env O)
    (hs : ∀ (i : Nat) (k : Key) (x : Dt) (p : Addr) e o, kds[i]? = some (k, x) → Inv i e o → XG K [p] E g (itD k x) e o fun e' o' => SE K [p] E t e' o' { D with nx := Inv (i + 1), ct := Inv (i + 1), bk := D.nx, xs := fun _ _ => False }) (hn : ∀ e o, Inv kds.length e o → D.nx e o) :
    SE K [] E (tLock (tFor wi g t)) env O D := fun σ G H D' e a s => by
  obtain ⟨p, kvs, hp, rk, ht⟩ := hd σ G H e a
  have hl : Lk (.dK kvs) := .inl ⟨_, rfl⟩
  refine ⟨p, _, a.sub _ _ hp, trivial, fun od => ?_⟩
  obtain ⟨hr, at1⟩ := lock_in (od := od) a hp hl
  refine hwi σ _ _ (ht od _ ⟨p, od, kvs, rfl, upd_same, ?_⟩)
  have out := fun {G' H' : Hp} {O' : OL} (n : Next K [p] (upd G p (.frz od (.dK kvs))) O (upd H p (.frz od (.dK kvs))) G' O' H') => lock_out (od := od) a hp hl n
  refine ⟨fun i μ σ' H' => μ = kvs.length - i ∧ i ≤ kvs.length ∧ ∃ G' O' env', Next K [p] (upd G p (.frz od (.dK kvs))) O (upd H p (.frz od (.dK kvs))) G' O' H' ∧ EnvR K G' σ' env' ∧ Inv i env' O' ∧ RpK K G' kvs kds,
    ⟨kvs.length, rfl, Nat.zero_le _, _, O, env, Next.refl at1, env_by hr e, h0, rpk_by hr rk⟩, ?_⟩
  rintro i μ σ' H' ⟨rfl, hi, G', O', env', n, r, iv, rk'⟩
  have hH : H' p = some (.frz od (.dK kvs)) := (out n).2.2
  by_cases hlt : i < kvs.length
  · refine .inr ⟨hj.go _ _ _ _ _ hH hlt, fun σ2 H2 => i + 1 ≤ kvs.length ∧ ∃ G' O' env', Next K [p] (upd G p (.frz od (.dK kvs))) O (upd H p (.frz od (.dK kvs))) G' O' H2 ∧ EnvR K G' σ2 env' ∧ Inv (i + 1) env' O' ∧ RpK K G' kvs kds, fun σ2 H2 ⟨q1, q2⟩ => ⟨kvs.length - (i + 1), by omega, rfl, q1, q2⟩, fun x H2 hy => ?_⟩
    obtain ⟨k, d, G2, hk, n2, rx⟩ := hj.item hy n.at' rk'
    refine hs i k d p env' O' hk iv σ' G2 H2 x _ (r.mono n2.same) n2.at' rx fun σ3 env3 G3 O3 H3 n3 r3 f => ?_
    have n23 := (n.trans n2).trans n3
    refine f σ3 G3 H3 _ r3 n3.at' ⟨fun G4 O4 H4 σ4 env4 n4 r4 q4 => ?_, fun G4 O4 H4 v d n4 r4 q4 => ?_, fun G4 O4 H4 σ4 env4 n4 r4 q4 => ?_, fun G4 O4 H4 σ4 env4 n4 r4 q4 => ?_, fun _ _ _ _ _ f => f.elim⟩
    · exact ⟨hlt, G4, O4, env4, n23.trans n4, r4, q4, rk'.mono ((n2.trans n3).trans n4).same⟩
    · obtain ⟨hr', n', hp'⟩ := out (n23.trans n4)
      exact ⟨hp', s.rt _ _ _ v d n' (hr' _ _ r4) q4⟩
    · obtain ⟨hr', n', hp'⟩ := out (n23.trans n4)
      exact ⟨hp', s.nx _ _ _ σ4 env4 n' (env_by hr' r4) q4⟩
    · exact ⟨hlt, G4, O4, env4, n23.trans n4, r4, q4, rk'.mono ((n2.trans n3).trans n4).same⟩
  · refine .inl ⟨hj.stop _ _ _ _ _ hH (by omega), ?_⟩
    obtain ⟨hr', n', hp'⟩ := out n
    have el : i = kds.length := by have := rk'.len; omega
    subst el
    exact ⟨hp', s.nx _ _ _ σ' env' n' (env_by hr' r) (hn _ _ iv)⟩
theorem wi_keys {σ : St} {H : Hp} {R : It → Hp → Prop} (h : td σ H fun x H1 => ∃ p o kvs, x = .ref p ∧ H1 p = some (.frz o (.dK kvs)) ∧ R (Itk p o kvs) H1) (mono : ∀ σ H (Q Q' : VK), (∀ v H1, Q v H1 → Q' v H1) → td σ H Q → td σ H Q') : iKeys td σ H R :=
  mono σ H _ _ (fun x H1 ⟨p, o, kvs, e, h1, q⟩ => ⟨p, o, e, .inl ⟨kvs, h1, q⟩⟩) h
end
end DL

/-! DL7: comprehensions, isinstance, dict(pairs). -/
namespace DL
open PySem L2
section
variable {K : PySem.W.Frag} {m : List Addr} {E : XK} {env : Env} {O : OL} {G H : Hp} {te ta tb tc td ty : TE} {t u : TS} {tt : TT} {a b c d e : Dt} {g : TG} {D : EndsD} {vs : List Nat}
/-- what a comprehension's target makes of an item: the slots behind it; nothing owned changes -/
def EvG (K : PySem.W.Frag) (m : List Addr) (g : TG) (x : Dt) (env : Env) (O : OL) (env' : Env) (vs : List Nat) : Prop :=
  ∀ σ G H v (Q : St → Hp → Prop), EnvR K G σ env → At K m G O H → Rp K G v x → (∀ σ' G' H', Next K m G O H G' O H' → EnvR K G' σ' env' → wipe σ' vs = wipe σ vs → Q σ' H') → g v σ H Q
theorem eg_name {i : Nat} : EvG K m (gName i) d env O (env.set i (some d)) [i] := fun σ G H v Q e a r q => q _ G H (Next.refl a) (e.set i r) (by show (σ.set i (some v)).set i none = σ.set i none; rw [List.set_set])
theorem wipe_set {σ : St} {i : Nat} {x y : Option V} : ∀ {vs : List Nat}, i ∈ vs → wipe (σ.set i x) vs = wipe (σ.set i y) vs
  | [], h => by simp at h
  | w :: ws, h => by
    show (wipe (σ.set i x) ws).set w none = (wipe (σ.set i y) ws).set w none
    by_cases e : i ∈ ws
    · rw [wipe_set e]
    · have : w = i := by
        rcases List.mem_cons.mp h with z | z
        · exact z.symm
        · exact absurd z e
      subst this
      refine List.ext_getElem? fun j => ?_
      have key : ∀ (ws : List Nat) (x y : Option V), w ∉ ws → ∀ j, j ≠ w → (wipe (σ.set w x) ws)[j]? = (wipe (σ.set w y) ws)[j]? := by
        intro ws
        induction ws with
        | nil => intro x y _ j hj; show (σ.set w x)[j]? = (σ.set w y)[j]?; rw [List.getElem?_set_ne (Ne.symm hj), List.getElem?_set_ne (Ne.symm hj)]
        | cons z zs ih =>
          intro x y hz j hj
          show ((wipe (σ.set w x) zs).set z none)[j]? = ((wipe (σ.set w y) zs).set z none)[j]?
          by_cases hzj : z = j
          · subst hzj
            have l1 : (wipe (σ.set w x) zs).length = (wipe (σ.set w y) zs).length := by rw [wipe_length, wipe_length, List.length_set, List.length_set]
            rw [List.getElem?_set, List.getElem?_set, l1]
            simp
          · rw [List.getElem?_set_ne hzj, List.getElem?_set_ne hzj]
            exact ih x y (fun q => hz (List.mem_cons_of_mem _ q)) j hj
      by_cases hj : j = w
      · subst hj
        have l1 : (wipe (σ.set j x) ws).length = (wipe (σ.set j y) ws).length := by rw [wipe_length, wipe_length, List.length_set, List.length_set]
        rw [List.getElem?_set, List.getElem?_set, l1]
        simp
      · rw [List.getElem?_set_ne (Ne.symm hj), List.getElem?_set_ne (Ne.symm hj)]
        exact key ws x y e j hj
theorem eg_tup2 {i j : Nat} {x y : Dt} (hij : i ≠ j) : EvG K m (gTup K 2 (gCons (gName i) (gCons (gName j) gNil))) (.tup [x, y]) env O ((env.set i (some x)).set j (some y)) [i, j] := fun σ G H v Q e a r q => by
  obtain ⟨p, vs, rfl, s, rs⟩ := tup_get a r
  obtain ⟨v1, v2, rfl, r1, r2⟩ := rs.two
  refine ⟨p, _, rfl, s, rfl, v1, _, rfl, v2, _, rfl, rfl, q _ G H (Next.refl a) ((e.set i r1).set j r2) ?_⟩
  show (((σ.set i (some v1)).set j (some v2)).set j none).set i none = (σ.set j none).set i none
  rw [List.set_set, List.set_comm _ _ (Ne.symm hij), List.set_set, List.set_comm _ _ hij]
/-- the list made so far -/
def given (f : Nat → Option Dt) (n : Nat) : List Dt := (List.range n).filterMap f
theorem given_succ (f : Nat → Option Dt) (n : Nat) : given f (n + 1) = given f n ++ (f n).toList := by
  unfold given
  rw [List.range_succ, List.filterMap_append]
  cases h : f n <;> simp [h]
theorem given_len (f : Nat → Option Dt) (n : Nat) : (given f n).length ≤ n := by
  have h := List.length_filterMap_le f (List.range n)
  rw [List.length_range] at h
  exact h
/-- the state of a comprehension between two turns: its list at p -/
def LcW (K : PySem.W.Frag) (m : List Addr) (G0 : Hp) (O : OL) (H0 : Hp) (σ : St) (env : Env) (vs : List Nat) (f : Nat → Option Dt) (p : Addr) (X : Hp → Prop) (i : Nat) (H' : Hp) : Prop :=
  ∃ G', Next K m G0 O H0 G' ((p, .lst (given f i)) :: O) H' ∧ EnvR K G' (wipe σ vs) (wipeE env vs) ∧ X G'
/-- a pure turn -/
theorem lc_turn {G0 H0 : Hp} {σ : St} {f : Nat → Option Dt} {p : Addr} {X : Hp → Prop} {i : Nat} {H' : Hp} {x : V} {dx : Dt} {env' : Env} {bt : Bool}
    (hw : LcW K m G0 O H0 σ env vs f p X i H') (hX : ∀ G1 G2, Same G1 G2 → X G1 → X G2) (hi : i < 16777216) {H1 : Hp} (n1 : ∀ G', Next K m G0 O H0 G' ((p, .lst (given f i)) :: O) H' → X G' → ∃ G1, Next K m G' ((p, .lst (given f i)) :: O) H' G1 ((p, .lst (given f i)) :: O) H1 ∧ Rp K G1 x dx)
    (hg : EvG K m g dx (wipeE env vs) ((p, .lst (given f i)) :: O) env' vs) (ht : EvT K m tt env' ((p, .lst (given f i)) :: O) bt) (he : bt = true → ∃ y, f i = some y ∧ EvE K m te env' ((p, .lst (given f i)) :: O) y) (hf : bt = false → f i = none) :
    g x (wipe σ vs) H1 fun σ2 H2 => wipe σ2 vs = wipe σ vs ∧ tt σ2 H2 fun b H3 => if b = true then te σ2 H3 fun y H4 => ∃ acc, H4 p = some (.lst acc) ∧ acc.length < sizeLine ∧ LcW K m G0 O H0 σ env vs f p X (i + 1) (upd H4 p (.lst (acc ++ [y]))) else LcW K m G0 O H0 σ env vs f p X (i + 1) H3 := by
  obtain ⟨G', n, er, hx⟩ := hw
  obtain ⟨G1, n1, rx⟩ := n1 G' n hx
  have ww : ∀ σ : St, wipe (wipe σ vs) vs = wipe σ vs := fun σ => by
    refine List.ext_getElem? fun j => ?_
    have key : ∀ (ws : List Nat) (τ : St), (∀ j, j ∈ vs → τ[j]? = none ∨ τ[j]? = some none) → (∀ w ∈ ws, w ∈ vs) → wipe τ ws = τ := by
      intro ws
      induction ws with
      | nil => intro τ _ _; rfl
      | cons w ws ih =>
        intro τ h1 h2
        show (wipe τ ws).set w none = τ
        rw [ih τ h1 fun z hz => h2 z (List.mem_cons_of_mem _ hz)]
        rcases h1 w (h2 w List.mem_cons_self) with z | z
        · rw [List.set_eq_of_length_le]
          exact List.getElem?_eq_none_iff.mp z
        · obtain ⟨hl, hz⟩ := List.getElem?_eq_some_iff.mp z
          refine List.ext_getElem? fun k => ?_
          by_cases hk : w = k
          · subst hk; rw [List.getElem?_set_self hl, z]
          · rw [List.getElem?_set_ne hk]
    rw [key vs (wipe σ vs) (fun j hj => ?_) fun _ h => h]
    cases q : (wipe σ vs)[j]? with
    | none => exact .inl rfl
    | some o =>
      cases o with
      | none => exact .inr rfl
      | some v => exact absurd hj (wipe_some q).2
  refine hg (wipe σ vs) G1 H1 x _ (er.mono n1.same) n1.at' rx fun σ2 G2 H2 n2 e2 hw2 => ⟨by rw [hw2, ww], ht σ2 G2 H2 _ e2 n2.at' fun G3 H3 n3 => ?_⟩
  cases bt with
  | true =>
    obtain ⟨y, hy, ev⟩ := he rfl
    show te σ2 H3 _
    refine ev σ2 G3 H3 _ (e2.mono n3.same) n3.at' fun v G4 H4 n4 r4 => ?_
    obtain ⟨_, o, ho, ro⟩ := n4.at'.own p (.lst (given f i)) List.mem_cons_self
    cases ro with
    | @lst acc _ ra =>
    have nn := ((((n.trans n1).trans n2).trans n3).trans n4)
    have n5 := Next.write n4.at' (k := 0) rfl (od' := .lst (given f i ++ [y])) (o' := .lst (acc ++ [v])) (.lst (ra.app (.cons r4 .nil)))
    refine ⟨acc, ho, by rw [ra.len, sizeLine_eq]; exact Nat.lt_of_le_of_lt (given_len f i) hi, G4, ?_, er.mono (((n1.trans n2).trans n3).trans n4).same, hX _ _ (((n1.trans n2).trans n3).trans n4).same hx⟩
    have e5 : given f (i + 1) = given f i ++ [y] := by rw [given_succ, hy]; rfl
    rw [e5]
    exact nn.trans n5
  | false =>
    show LcW K m G0 O H0 σ env vs f p X (i + 1) H3
    have e5 : given f (i + 1) = given f i := by rw [given_succ, hf rfl]; simp
    exact ⟨G3, by rw [e5]; exact ((n.trans n1).trans n2).trans n3, er.mono ((n1.trans n2).trans n3).same, hX _ _ ((n1.trans n2).trans n3).same hx⟩
/-- [te for g in tl if tt], over a list that stands still, each turn pure: a new list of one's own -/
theorem xe_lcL {tl : TE} {xs : List Dt} {Φ : Dt → OL → Prop} {Ψ : Addr → OL → Prop} (f : Nat → Option Dt) (hl : EvE K m tl env O (.lst xs)) (hz : xs.length ≤ 16777216)
    (hs : ∀ (i : Nat) (x : Dt) (p : Addr), xs[i]? = some x → ∃ env' bt, EvG K m g x (wipeE env vs) ((p, .lst (given f i)) :: O) env' vs ∧ EvT K m tt env' ((p, .lst (given f i)) :: O) bt ∧ (bt = true → ∃ y, f i = some y ∧ EvE K m te env' ((p, .lst (given f i)) :: O) y) ∧ (bt = false → f i = none))
    (k : ∀ p, p ∉ O.dom → Φ (ptr p) ((p, .lst (given f xs.length)) :: O)) : XE K m E (tLc (iList K tl) g tt te vs) env O Φ Ψ := fun σ G H Q e at' q _ => by
  refine hl σ G H _ e at' fun v G1 H1 n1 r1 => ?_
  cases r1 with
  | @lst a ws _ sq rs =>
  refine ⟨a, rfl, ⟨ws, n1.at'.sub.l sq⟩, fun p hp => ?_⟩
  have n2 := Next.own n1.at' hp (o := .lst []) (od := .lst []) (.lst .nil)
  refine lc_list (K := K) (a := a) (xs := ws) (LcW K m G O H σ env vs f p (fun G' => SqL K G' a ws ∧ Rps K G' ws xs)) ⟨G1, n1.trans n2, (e.mono n1.same).wipe vs, sq, rs⟩ (fun i H' _ ⟨_, n, _, z, _⟩ => n.at'.sub.l z) (fun i y H' hy hw => ?_) fun H' ⟨G', n, _, _⟩ => ?_
  · have hi : i < ws.length := (List.getElem?_eq_some_iff.mp hy).1
    have hx : ∃ x, xs[i]? = some x := ⟨xs[i]'(by rw [← rs.len]; exact hi), List.getElem?_eq_getElem _⟩
    obtain ⟨x, hx⟩ := hx
    obtain ⟨env', bt, h1, h2, h3, h4⟩ := hs i x p hx
    refine lc_turn hw (fun G1 G2 s ⟨z1, z2⟩ => ⟨s.seq z1, z2.mono s⟩) (by rw [rs.len] at hi; omega) (fun G' n' ⟨z1, z2⟩ => ⟨G', Next.refl n'.at', ?_⟩) h1 h2 h3 h4
    obtain ⟨x', hx', rx⟩ := z2.get hy
    rw [hx] at hx'; cases hx'
    exact rx
  · rw [rs.len] at n
    exact q _ _ _ _ _ n (.val _) (k p (at'.fresh (by
      cases z : H p with
      | none => rfl
      | some u => 
        have := n1.keep p u z (fun w => by
          obtain ⟨⟨q', od⟩, hm, e'⟩ := List.mem_map.mp w
          obtain ⟨_, o, ho, _⟩ := n1.at'.own q' od hm
          have e'' : q' = p := e'
          rw [e'', hp] at ho; cases ho)
        rw [hp] at this; cases this)).2)
theorem ev_lcL {tl : TE} {xs : List Dt} (f : Nat → Option Dt) (hl : EvE K m tl env O (.lst xs)) (hz : xs.length ≤ 16777216)
    (hs : ∀ (i : Nat) (x : Dt) (p : Addr), xs[i]? = some x → ∃ env' bt, EvG K m g x (wipeE env vs) ((p, .lst (given f i)) :: O) env' vs ∧ EvT K m tt env' ((p, .lst (given f i)) :: O) bt ∧ (bt = true → ∃ y, f i = some y ∧ EvE K m te env' ((p, .lst (given f i)) :: O) y) ∧ (bt = false → f i = none)) :
    EvE K m (tLc (iList K tl) g tt te vs) env O (.lst (given f xs.length)) := fun σ G H Q e at' q =>
  (xe_lcL (E := fun _ _ _ => True) (Φ := fun d' o' => ∃ p, d' = ptr p ∧ o' = (p, .lst (given f xs.length)) :: O) (Ψ := fun _ _ => False) f hl hz hs fun p _ => ⟨p, rfl, rfl⟩) σ G H Q e at' (fun v d' G' O' H' n rv ⟨p, e1, e2⟩ => by
    subst e1 e2
    cases rv
    obtain ⟨o, ho, ro, n2⟩ := Next.freeze n.at' (k := 0) rfl
    exact q _ _ _ (n.trans n2) (Rp.of_own (ro.mono n2.same) upd_same)) fun _ _ _ _ _ f => f.elim
/-- .. over range(n) -/
theorem xe_lcR {n : Int} {Φ : Dt → OL → Prop} {Ψ : Addr → OL → Prop} {ta : TA} {j : Nat} (f : Nat → Option Dt) (hl : EvA K m ta env O [.int n]) (hz : n ≤ 16777216) (h0 : 0 ≤ n) (hj : j ∈ vs)
    (hs : ∀ (i : Nat) (p : Addr), (i : Int) < n → ∃ bt, EvT K m tt ((wipeE env vs).set j (some (.int i))) ((p, .lst (given f i)) :: O) bt ∧ (bt = true → ∃ y, f i = some y ∧ EvE K m te ((wipeE env vs).set j (some (.int i))) ((p, .lst (given f i)) :: O) y) ∧ (bt = false → f i = none))
    (k : ∀ p, p ∉ O.dom → Φ (ptr p) ((p, .lst (given f n.toNat)) :: O)) : XE K m E (tLc (iRng1 ta) (gName j) tt te vs) env O Φ Ψ := fun σ G H Q e at' q _ => by
  refine hl σ G H _ e at' fun ws G1 H1 n1 r1 => ?_
  obtain ⟨v, rfl, rv⟩ := r1.one
  cases rv
  refine ⟨n, rfl, by omega, by omega, fun p hp => ?_⟩
  have n2 := Next.own n1.at' hp (o := .lst []) (od := .lst []) (.lst .nil)
  refine lc_range (lo := 0) (n := n.toNat) (LcW K m G O H σ env vs f p (fun _ => True)) ⟨G1, n1.trans n2, (e.mono n1.same).wipe vs, trivial⟩ (fun i H' hi hw => ?_) fun H' ⟨G', n, _, _⟩ => ?_
  · have e0 : (0 : Int) + (i : Int) = i := Int.zero_add _
    rw [e0]
    obtain ⟨bt, h2, h3, h4⟩ := hs i p (by omega)
    refine lc_turn (dx := .int i) (env' := (wipeE env vs).set j (some (.int i))) hw (fun _ _ _ h => h) (by omega) (fun G' n' _ => ⟨G', Next.refl n'.at', .int _⟩) (fun σ' G' H' v Q' e' a' r' q' => q' _ G' H' (Next.refl a') (e'.set j r') ?_) h2 h3 h4
    have z : ∀ τ : St, wipe τ vs = wipe (τ.set j (τ[j]?.getD none)) vs := fun τ => by
      congr 1
      refine List.ext_getElem? fun k => ?_
      by_cases hk : j = k
      · subst hk
        by_cases hl : j < τ.length
        · rw [List.getElem?_set_self hl, List.getElem?_eq_getElem hl]; rfl
        · rw [List.set_eq_of_length_le (by omega)]
      · rw [List.getElem?_set_ne hk]
    rw [z σ']
    exact wipe_set hj
  · exact q _ _ _ _ _ n (.val _) (k p (at'.fresh (by
      cases z : H p with
      | none => rfl
      | some u => 
        have := n1.keep p u z (fun w => by
          obtain ⟨⟨q', od⟩, hm, e'⟩ := List.mem_map.mp w
          obtain ⟨_, o, ho, _⟩ := n1.at'.own q' od hm
          have e'' : q' = p := e'
          rw [e'', hp] at ho; cases ho)
        rw [hp] at this; cases this)).2)
theorem ev_lcR {n : Int} {ta : TA} {j : Nat} (f : Nat → Option Dt) (hl : EvA K m ta env O [.int n]) (hz : n ≤ 16777216) (h0 : 0 ≤ n) (hj : j ∈ vs)
    (hs : ∀ (i : Nat) (p : Addr), (i : Int) < n → ∃ bt, EvT K m tt ((wipeE env vs).set j (some (.int i))) ((p, .lst (given f i)) :: O) bt ∧ (bt = true → ∃ y, f i = some y ∧ EvE K m te ((wipeE env vs).set j (some (.int i))) ((p, .lst (given f i)) :: O) y) ∧ (bt = false → f i = none)) :
    EvE K m (tLc (iRng1 ta) (gName j) tt te vs) env O (.lst (given f n.toNat)) := fun σ G H Q e at' q =>
  (xe_lcR (E := fun _ _ _ => True) (Φ := fun d' o' => ∃ p, d' = ptr p ∧ o' = (p, .lst (given f n.toNat)) :: O) (Ψ := fun _ _ => False) f hl hz h0 hj hs fun p _ => ⟨p, rfl, rfl⟩) σ G H Q e at' (fun v d' G' O' H' n rv ⟨p, e1, e2⟩ => by
    subst e1 e2
    cases rv
    obtain ⟨o, ho, ro, n2⟩ := Next.freeze n.at' (k := 0) rfl
    exact q _ _ _ (n.trans n2) (Rp.of_own (ro.mono n2.same) upd_same)) fun _ _ _ _ _ f => f.elim
/-- .. over a text -/
theorem lc_text {x : Str} {g : TG} {tt : TT} {te : TE} {vs : List Nat} {σ : St} {H1 : Hp} {D : Addr} {Qd : Hp → Prop} (Pv : Nat → Hp → Prop) (h0 : Pv 0 (upd H1 D (.lst [])))
    (hs : ∀ i c H, x.cps[i]? = some c → Pv i H → g (.str ⟨#[c]⟩) (wipe σ vs) H fun σ2 H2 => wipe σ2 vs = wipe σ vs ∧ tt σ2 H2 fun b H3 =>
      if b = true then te σ2 H3 fun y H4 => ∃ acc, H4 D = some (.lst acc) ∧ acc.length < sizeLine ∧ Pv (i + 1) (upd H4 D (.lst (acc ++ [y]))) else Pv (i + 1) H3) (hd : ∀ H, Pv x.cps.size H → Qd H) :
    ∃ W : Nat → Nat → Hp → Prop, (∃ m, W 0 m (upd H1 D (.lst []))) ∧ ∀ i m H, W i m H →
      ((Its x).stop i H ∧ Qd H) ∨ ((Its x).go i H ∧ ∃ Nx : Hp → Prop, (∀ H', Nx H' → ∃ m', m' < m ∧ W (i + 1) m' H') ∧ ∀ y H', (Its x).yld i H y H' → g y (wipe σ vs) H' fun σ2 H2 => wipe σ2 vs = wipe σ vs ∧ tt σ2 H2 fun b H3 =>
        if b = true then te σ2 H3 fun y H4 => ∃ acc, H4 D = some (.lst acc) ∧ acc.length < sizeLine ∧ Nx (upd H4 D (.lst (acc ++ [y]))) else Nx H3) := by
  refine ⟨fun i m H => m = x.cps.size - i ∧ i ≤ x.cps.size ∧ Pv i H, ⟨x.cps.size, rfl, Nat.zero_le _, h0⟩, ?_⟩
  rintro i m H ⟨rfl, hi, p⟩
  by_cases hlt : i < x.cps.size
  · refine .inr ⟨hlt, Pv (i + 1), fun H' p' => ⟨x.cps.size - (i + 1), by omega, rfl, hlt, p'⟩, fun y H' hy => ?_⟩
    obtain ⟨rfl, c, h1, rfl⟩ := hy
    exact hs i c _ h1 p
  · have e : i = x.cps.size := by omega
    subst e
    exact .inl ⟨Nat.le_refl _, hd H p⟩
theorem ev_lcS {tl : TE} {x : Str} {j : Nat} (f : Nat → Option Dt) (hl : EvE K m tl env O (.str x)) (hz : x.length ≤ 16777216) (hj : j ∈ vs)
    (hs : ∀ (i : Nat) (ch : Nat) (p : Addr), x.cps.toList[i]? = some ch → ∃ bt, EvT K m tt ((wipeE env vs).set j (some (.str ⟨#[ch]⟩))) ((p, .lst (given f i)) :: O) bt ∧ (bt = true → ∃ y, f i = some y ∧ EvE K m te ((wipeE env vs).set j (some (.str ⟨#[ch]⟩))) ((p, .lst (given f i)) :: O) y) ∧ (bt = false → f i = none)) :
    EvE K m (tLc (iStr tl) (gName j) tt te vs) env O (.lst (given f x.length)) := fun σ G H Q e at' q => by
  refine hl σ G H _ e at' fun v G1 H1 n1 r1 => ?_
  cases r1
  refine ⟨x, rfl, fun p hp => ?_⟩
  have n2 := Next.own n1.at' hp (o := .lst []) (od := .lst []) (.lst .nil)
  refine lc_text (x := x) (LcW K m G O H σ env vs f p (fun _ => True)) ⟨G1, n1.trans n2, (e.mono n1.same).wipe vs, trivial⟩ (fun i ch H' hi hw => ?_) fun H' ⟨G', n, _, _⟩ => ?_
  · obtain ⟨bt, h2, h3, h4⟩ := hs i ch p (by rw [Array.getElem?_toList]; exact hi)
    have hlt : i < x.cps.size := (Array.getElem?_eq_some_iff.mp hi).1
    have hz' : x.cps.size ≤ 16777216 := hz
    refine lc_turn (dx := .str ⟨#[ch]⟩) (env' := (wipeE env vs).set j (some (.str ⟨#[ch]⟩))) hw (fun _ _ _ h => h) (by omega) (fun G' n' _ => ⟨G', Next.refl n'.at', .str _⟩) (fun σ' G' H' v Q' e' a' r' q' => q' _ G' H' (Next.refl a') (e'.set j r') ?_) h2 h3 h4
    have z : ∀ τ : St, wipe τ vs = wipe (τ.set j (τ[j]?.getD none)) vs := fun τ => by
      congr 1
      refine List.ext_getElem? fun k => ?_
      by_cases hk : j = k
      · subst hk
        by_cases hl : j < τ.length
        · rw [List.getElem?_set_self hl, List.getElem?_eq_getElem hl]; rfl
        · rw [List.set_eq_of_length_le (by omega)]
      · rw [List.getElem?_set_ne hk]
    rw [z σ']
    exact wipe_set hj
  · obtain ⟨o, ho, ro, n3⟩ := Next.freeze n.at' (k := 0) rfl
    exact q _ _ _ (n.trans n3) (Rp.of_own (ro.mono n3.same) upd_same)
/-! isinstance -/
/-- the built-in type of data -/
inductive TyD : Dt → String → Prop
  | non : TyD .non "NoneType" | bl (b : Bool) : TyD (.bl b) "bool" | int (i : Int) : TyD (.int i) "int" | str (x : Str) : TyD (.str x) "str"
  | lst (xs : List Dt) : TyD (.lst xs) "list" | tup (xs : List Dt) : TyD (.tup xs) "tuple"
end
end DL

/-! DL8: short words for proofs over data. -/
namespace DL
open PySem L2
section
variable {K : PySem.W.Frag} {m : List Addr} {E : XK} {env : Env} {O : OL} {G H : Hp} {te ta tb tc td ty : TE} {t u : TS} {tt : TT} {a b c d e : Dt} {g : TG} {D : EndsD} {vs : List Nat}
theorem le_nil : EnvLe [] [] := ⟨rfl, fun _ _ h => h⟩
theorem le_same {x : Option Dt} {a b : Env} (h : EnvLe a b) : EnvLe (x :: a) (x :: b) := ⟨by rw [List.length_cons, List.length_cons, h.1], fun i d q => by
  cases i with
  | zero => exact q
  | succ i => exact h.2 i d q⟩
theorem le_none {x : Option Dt} {a b : Env} (h : EnvLe a b) : EnvLe (none :: a) (x :: b) := ⟨by rw [List.length_cons, List.length_cons, h.1], fun i d q => by
  cases i with
  | zero => cases q
  | succ i => exact h.2 i d q⟩
theorem le_eq {x y : Option Dt} {a b : Env} (e : x = y) (h : EnvLe a b) : EnvLe (x :: a) (y :: b) := e ▸ le_same h
theorem EnvLe.refl (a : Env) : EnvLe a a := ⟨rfl, fun _ _ h => h⟩
theorem EnvLe.trans {a b c : Env} (h : EnvLe a b) (h' : EnvLe b c) : EnvLe a c := ⟨h.1.trans h'.1, fun i d q => h'.2 i d (h.2 i d q)⟩
theorem le_set {a b : Env} (h : EnvLe a b) (j : Nat) (x : Option Dt) : EnvLe (a.set j x) (b.set j x) := ⟨by rw [List.length_set, List.length_set, h.1], fun k d q => by
  by_cases hk : j = k
  · subst hk
    have hl : j < a.length := by
      have := (List.getElem?_eq_some_iff.mp q).1
      rwa [List.length_set] at this
    rw [List.getElem?_set_self hl] at q
    rw [List.getElem?_set_self (by rw [← h.1]; exact hl)]
    exact q
  · rw [List.getElem?_set_ne hk] at q ⊢
    exact h.2 k d q⟩
/-- more known of the slots does no harm -/
def Mono (Φ : Env → OL → Prop) : Prop := ∀ e e' o, EnvLe e' e → Φ e' o → Φ e o
theorem mono_se : Mono (fun e o => SE K m E t e o D) := fun _ _ _ l q => q.le l
theorem mono_st {σT : Type} {P : σT → Prop} {pat : σT → Env} {own : σT → OL} : Mono (fun e o => ∃ s, P s ∧ EnvLe (pat s) e ∧ o = own s) := fun _ _ _ l ⟨s, h1, h2, h3⟩ => ⟨s, h1, h2.trans l, h3⟩
theorem mono_c {Φ : OL → Prop} : Mono (fun _ o => Φ o) := fun _ _ _ _ q => q
/-- the word of a loop: behind i turns in some state s -/
abbrev Wd {σT : Type} (P : Nat → σT → Prop) (pat : Nat → σT → Env) (own : Nat → σT → OL) (i : Nat) : Env → OL → Prop := fun e o => ∃ s, P i s ∧ EnvLe (pat i s) e ∧ o = own i s
abbrev turnD (D : EndsD) (W : Env → OL → Prop) : EndsD := { D with nx := W, ct := W, bk := D.nx }
theorem wd_mk {σT : Type} {P : Nat → σT → Prop} {pat : Nat → σT → Env} {own : Nat → σT → OL} {i : Nat} {e : Env} {o : OL} (s : σT) (h1 : P i s) (h2 : EnvLe (pat i s) e) (h3 : o = own i s) : Wd P pat own i e o := ⟨s, h1, h2, h3⟩
theorem se_forR1p {σT : Type} {ta : TA} {j : Nat} {n : Int} (P : Nat → σT → Prop) (pat : Nat → σT → Env) (own : Nat → σT → OL) (s0 : σT) (h : EvA K m ta env O [.int n]) (hn : -(2 ^ 62) ≤ n ∧ n < 2 ^ 62) (h0 : P 0 s0) (hp : EnvLe (pat 0 s0) env) (ho : O = own 0 s0) (hm : Mono D.nx)
    (hs : ∀ (i : Nat) s, (i : Int) < n → P i s → SE K m E t ((pat i s).set j (some (.int i))) (own i s) (turnD D (Wd P pat own (i + 1))))
    (hd : ∀ s, P n.toNat s → D.nx (pat n.toNat s) (own n.toNat s)) : SE K m E (tFor (iRng1 ta) (gName j) t) env O D :=
  se_forR1 (Wd P pat own) (h.xa ⟨n, rfl, hn.1, hn.2, ⟨s0, h0, hp, ho⟩, fun i e o hi ⟨s, h1, h2, h3⟩ => by
    subst h3
    exact (hs i s (by omega) h1).le (le_set h2 j _), fun e o ⟨s, h1, h2, h3⟩ => hm e _ o h2 (h3 ▸ hd s h1)⟩)
theorem se_forR2p {σT : Type} {ta : TA} {j : Nat} {lo n : Int} (P : Nat → σT → Prop) (pat : Nat → σT → Env) (own : Nat → σT → OL) (s0 : σT) (h : EvA K m ta env O [.int lo, .int n]) (hn : -(2 ^ 62) ≤ lo ∧ lo < 2 ^ 62 ∧ -(2 ^ 62) ≤ n ∧ n < 2 ^ 62) (h0 : P 0 s0) (hp : EnvLe (pat 0 s0) env) (ho : O = own 0 s0) (hm : Mono D.nx)
    (hs : ∀ (i : Nat) s, lo + i < n → P i s → SE K m E t ((pat i s).set j (some (.int (lo + i)))) (own i s) (turnD D (Wd P pat own (i + 1))))
    (hd : ∀ s, P (n - lo).toNat s → D.nx (pat (n - lo).toNat s) (own (n - lo).toNat s)) : SE K m E (tFor (iRng2 ta) (gName j) t) env O D :=
  se_forR2 (Wd P pat own) (h.xa ⟨lo, n, rfl, hn, ⟨s0, h0, hp, ho⟩, fun i e o hi ⟨s, h1, h2, h3⟩ => by
    subst h3
    exact (hs i s (by omega) h1).le (le_set h2 j _), fun e o ⟨s, h1, h2, h3⟩ => hm e _ o h2 (h3 ▸ hd s h1)⟩)
theorem se_forLp {σT : Type} {tl : TE} {xs : List Dt} (P : Nat → σT → Prop) (pat : Nat → σT → Env) (own : Nat → σT → OL) (s0 : σT) (h : EvE K m tl env O (.lst xs)) (h0 : P 0 s0) (hp : EnvLe (pat 0 s0) env) (ho : O = own 0 s0) (hm : Mono D.nx)
    (hs : ∀ (i : Nat) x s, xs[i]? = some x → P i s → ∀ e, EnvLe (pat i s) e → XG K m E g x e (own i s) fun e' o' => SE K m E t e' o' (turnD D (Wd P pat own (i + 1))))
    (hd : ∀ s, P xs.length s → D.nx (pat xs.length s) (own xs.length s)) : SE K m E (tFor (iList K tl) g t) env O D :=
  se_forL (Wd P pat own) (h.xe ⟨xs, rfl, ⟨s0, h0, hp, ho⟩, fun i x e o hi ⟨s, h1, h2, h3⟩ => by
    subst h3
    exact hs i x s hi h1 e h2, fun e o ⟨s, h1, h2, h3⟩ => hm e _ o h2 (h3 ▸ hd s h1)⟩)
/-- .. the target one name -/
theorem se_forL1 {σT : Type} {tl : TE} {xs : List Dt} {j : Nat} (P : Nat → σT → Prop) (pat : Nat → σT → Env) (own : Nat → σT → OL) (s0 : σT) (h : EvE K m tl env O (.lst xs)) (h0 : P 0 s0) (hp : EnvLe (pat 0 s0) env) (ho : O = own 0 s0) (hm : Mono D.nx)
    (hs : ∀ (i : Nat) x s, xs[i]? = some x → P i s → SE K m E t ((pat i s).set j (some x)) (own i s) (turnD D (Wd P pat own (i + 1))))
    (hd : ∀ s, P xs.length s → D.nx (pat xs.length s) (own xs.length s)) : SE K m E (tFor (iList K tl) (gName j) t) env O D :=
  se_forLp P pat own s0 h h0 hp ho hm (fun i x s hi h1 e le => xg_name ((hs i x s hi h1).le (le_set le j _))) hd
/-- .. two names -/
theorem se_forL2 {σT : Type} {tl : TE} {xs : List Dt} {j1 j2 : Nat} (P : Nat → σT → Prop) (pat : Nat → σT → Env) (own : Nat → σT → OL) (s0 : σT) (h : EvE K m tl env O (.lst xs)) (h0 : P 0 s0) (hp : EnvLe (pat 0 s0) env) (ho : O = own 0 s0) (hm : Mono D.nx) (ht : ∀ (i : Nat) (x : Dt), xs[i]? = some x → ∃ y z, x = .tup [y, z])
    (hs : ∀ (i : Nat) y z s, xs[i]? = some (.tup [y, z]) → P i s → SE K m E t (((pat i s).set j1 (some y)).set j2 (some z)) (own i s) (turnD D (Wd P pat own (i + 1))))
    (hd : ∀ s, P xs.length s → D.nx (pat xs.length s) (own xs.length s)) : SE K m E (tFor (iList K tl) (gTup K 2 (gCons (gName j1) (gCons (gName j2) gNil))) t) env O D :=
  se_forLp P pat own s0 h h0 hp ho hm (fun i x s hi h1 e le => by
    obtain ⟨y, z, rfl⟩ := ht i x hi
    exact xg_tup rfl (xgs_name (xgs_name (xgs_nil ((hs i y z s hi h1).le (le_set (le_set le j1 _) j2 _)))))) hd
theorem se_forT1 {σT : Type} {tl : TE} {xs : List Dt} {j : Nat} (P : Nat → σT → Prop) (pat : Nat → σT → Env) (own : Nat → σT → OL) (s0 : σT) (h : EvE K m tl env O (.tup xs)) (h0 : P 0 s0) (hp : EnvLe (pat 0 s0) env) (ho : O = own 0 s0) (hm : Mono D.nx)
    (hs : ∀ (i : Nat) x s, xs[i]? = some x → P i s → SE K m E t ((pat i s).set j (some x)) (own i s) (turnD D (Wd P pat own (i + 1))))
    (hd : ∀ s, P xs.length s → D.nx (pat xs.length s) (own xs.length s)) : SE K m E (tFor (iTup K tl) (gName j) t) env O D :=
  se_forT (Wd P pat own) (h.xe ⟨xs, rfl, ⟨s0, h0, hp, ho⟩, fun i x e o hi ⟨s, h1, h2, h3⟩ => by
    subst h3
    exact xg_name ((hs i x s hi h1).le (le_set h2 j _)), fun e o ⟨s, h1, h2, h3⟩ => hm e _ o h2 (h3 ▸ hd s h1)⟩)
/-- a statement, then the rest from a word between them -/
theorem se_cut {σT : Type} (P : σT → Prop) (pat : σT → Env) (own : σT → OL) (h1 : SE K m E t env O { D with nx := fun e o => ∃ s, P s ∧ EnvLe (pat s) e ∧ o = own s }) (h2 : ∀ s, P s → SE K m E u (pat s) (own s) D) : SE K m E (tSeq t u) env O D :=
  se_seq (h1.imp (fun e o ⟨s, q1, q2, q3⟩ => by subst q3; exact (h2 s q1).le q2) (fun _ _ q => q) (fun _ _ q => q) (fun _ _ q => q) (fun _ _ q => q))
theorem se_cut1 {e1 : Env} {o1 : OL} (h1 : SE K m E t env O { D with nx := fun e o => EnvLe e1 e ∧ o = o1 }) (h2 : SE K m E u e1 o1 D) : SE K m E (tSeq t u) env O D :=
  se_seq (h1.imp (fun e o ⟨q2, q3⟩ => by subst q3; exact h2.le q2) (fun _ _ q => q) (fun _ _ q => q) (fun _ _ q => q) (fun _ _ q => q))
/-- an if whose arms join again -/
theorem se_ifJ {tc : TT} {bt : Bool} (h : EvT K m tc env O bt) (h1 : bt = true → SE K m E t env O D) (h2 : bt = false → SE K m E u env O D) : SE K m E (tIfS tc t u) env O D := se_ifE h h1 h2
end
end DL

/-! DLG: defs that are run where no repr runs around them; repr of data. -/
namespace DL
open PySem PySem.Spec PyProof.Rows L2
/-- as FnOk, with no repr around -/
structure FnG (P : Program) (w : World) (K : PySem.W.Frag) (mg : Str → Option Value) (base : Heap) (CX : CXT) (k : Nat) (f : Addr) (fd : FuncData) (ps : List Str) (sp : Sp) : Prop where
  len : ∀ vs H Q E, sp vs H Q E → vs.length = ps.length
  run : ∀ (A : Around) (outer : List PySem.Env) (s : Shared) (H : Hp) (args : Args) (us : List Value) (vs : List V) (Q : VK) (E : XK),
    Room k A → A.guards = some [] → Env0 P w K mg base A outer s H → BindsTo s fd args (ps.zip us) → Vals vs us → sp vs H Q E → codeAny (model P w) A (.call (.ref f) args) (CR CX outer P w H s Q E) s
section
variable {P : Program} {w : World} {K : PySem.W.Frag} {mg : Str → Option Value} {base : Heap}
theorem fnG_of {CX : CXT} {x qual : Str} {st : Stmt} {f : Addr} {fd : FuncData} {N ps : List Str} {k : Nat} {sp : Sp} (F : Fun K x qual st f fd) (S : FnScope N ps (defScope st)) (len : ∀ vs H Q E, sp vs H Q E → vs.length = ps.length)
    (body : ∀ (cdv : Value) (A : Around) (outer : List PySem.Env) (s : Shared) (H : Hp) (vs : List V) (Q : VK) (E : XK), A.guards = some [] → Room k (A.deeper (envOfC qual (defScope st) s.heap.objs.size f cdv)) → sp vs H Q E →
      ∃ t, PSs (cxOf CX P w K mg base N qual (defScope st) f cdv A outer s H E) (defBody st) t ∧ t { nx := fun _ H' => Q .non H', rt := Q } (L2.start N vs) H) : FnG P w K mg base CX (k + 1) f fd ps sp := by
  obtain ⟨oc, od, kV, doc, pm, an, cdv, ct, osl, rfl, lk, hcd⟩ := F.ex
  constructor
  · exact len
  intro A outer s H args us vs Q E hr hg e0 hb r hsp
  have kept : ∀ b o, base.get? b = some o → s.heap.get? b = some o := fun b o e => (e0.bs b o e).1
  have KX : K.In s.heap := e0.mod.kin.keeps kept
  have hl := len _ _ _ _ hsp
  have kinds : ∀ y ∈ ps.zip us, (defScope st).names.lookup y.1 = some .local ∨ ((defScope st).names.lookup y.1 = some .cell ∧ ((cellsFrom (s.heap.objs.size + 1) (defScope st).names []).lookup y.1).isSome = true) := by
    intro y hy
    refine (S.par y.1 (List.of_mem_zip (a := y.1) (b := y.2) hy).1).elim .inl fun q => .inr ⟨q, ?_⟩
    exact PySem.W.cellsFrom_some _ _ _ (.inl q)
  refine codeAny_call_function hr.depth (KX _ _ lk) rfl S.co S.gen rfl (PySem.W.codeRec_of KX hcd) (hb _ _ _ _ (wpAny_newFunctionEnv_cells S.kind kinds fun env he s1 x => ?_))
  subst he
  refine ⟨(e0.mod.nolimit.keeps kept).keeps x.toInCall.keep, codeAny_func ?_⟩
  obtain ⟨t, ht, hq⟩ := body cdv A outer s H vs Q E hg (hr.deeper _) hsp
  refine wpAny_mono (ht.run [] s1 (L2.start N vs) H _ (inv_start S hr.hd e0 hl r x) hq) (fun fl s' hs => ?_) fun e s' hs => hs
  have out : ∀ (σ' : L2.St) (H' : Hp) (v : V) (u : Value), Inv (cxOf CX P w K mg base N qual (defScope st) f cdv A outer s H E) [] σ' H' s' → RelV v u → Q v H' → CE outer P w H s Q u s' := by
    intro σ' H' v u J rv q
    exact ⟨v, H', J.os, J.bare, J.base, J.hok, rv, q⟩
  cases fl with
  | ret u => exact let ⟨v, σ', H', J, rv, q⟩ := hs; out σ' H' v u J rv q
  | next => exact let ⟨σ', H', J, q⟩ := hs; out σ' H' .non .none J rfl q
  | brk => exact let ⟨_, _, _, q⟩ := hs; q.elim
  | cont => exact let ⟨_, _, _, q⟩ := hs; q.elim
end
section
variable {X : Cx} {CX : CXT} {k : Nat} {f : Addr} {fd : FuncData} {ps : List Str} {sp : Sp} {E : XK} {x : Str} {p pos : Pos} {e : Expr} {es : List Expr} {t : TA}
theorem pe_callG (F : FnG X.prog X.w X.K X.mg X.base CX k f fd ps sp) (hr : Room k X.A) (gd : X.A.guards = some []) (hg : Gl X x) (hm : X.mg x = some (.ref f)) (hk : PySem.W.keepIn X.K (.ref f) = true) (hb : Binds X.K fd ps []) (hx : Passes CX X E)
    (ha : PA X (e :: es) t) (hdb : (x == ("__debug__" : Str)) = false := by decide) (he : starEach (e :: es) X.env = (false, eval e X.env) :: starEach es X.env := by rfl) (hpl : (backTo pos (starEach es X.env)).any (·.1) = false := by rfl) :
    PE X (.Call (.Name x p) (e :: es) [] pos) (tCall sp [] E t) := by
  constructor
  intro pins s σ H Q I h
  refine wpAny_Call_Name_kw (ld_glob I hg hm (PySem.W.callWith_K (h₀ := X.base) I.ok.mod.kin hk (thn (ha.run pos pins s σ H _ I h) ?_) he hpl) hdb)
  rintro us s1 ⟨vs, H1, I1, r, q⟩
  have q' : sp (vs ++ []) H1 Q E := q
  rw [List.append_nil] at q'
  have hl : us.length = ps.length := r.length ▸ F.len _ _ _ _ q'
  have b := hb s1 us I1.kIn (by rw [List.append_nil, hl])
  rw [List.append_nil] at b
  refine ⟨I1.kIn, wpAny_call (codeAny_mono (F.run X.A X.stack s1 H1 ⟨us, []⟩ us vs Q E hr gd I1.env0 b r q') fun r s' hq => ?_)⟩
  match r, hq with
  | .error e, hq => exact hx pins σ H1 s1 e s' I1 hq
  | .ok (.ret u), hq => exact I1.after hq
  | .ok .next, hq => exact False.elim hq
  | .ok .brk, hq => exact False.elim hq
  | .ok .cont, hq => exact False.elim hq
/-- repr of data -/
def rRepr (K : PySem.W.Frag) : List V → Hp → VK → Prop := fun xs H Q => ∃ x d, xs = [x] ∧ Dp K H x d ∧ d.showable = true ∧ d.hasDict = false ∧ d.depth < 60 ∧ d.shown.length ≤ sizeLine ∧ Q (.str d.shown) H
theorem cb_repr (hu : X.A.units + 64 < cLine) (gd : X.A.guards = some []) : CallR X (.builtin "repr") (rRepr X.K) := by
  intro pins s σ H xs us Q I r h
  obtain ⟨y, d, rfl, hd, hs, hn, hdp, hz, q⟩ := h
  obtain ⟨u, rfl, ru⟩ := r.one
  obtain ⟨as, hr⟩ := Dp.reads I d y u hd ru
  cases hd with
  | non => cases ru; exact P.repr_of_none ⟨.str _, H, I.tok _, ⟨_, rfl⟩, q⟩
  | bl b => cases ru; exact P.repr_of_bool ⟨.str _, H, I.tok _, ⟨_, rfl⟩, by cases b <;> exact q⟩
  | int i =>
    obtain ⟨t, rfl⟩ := ru
    have hs' : i.natAbs.log2 < 1920 := of_decide_eq_true hs
    exact P.repr_of_int hs' ⟨.str _, H, I.tok _, ⟨_, rfl⟩, q⟩
  | str z =>
    obtain ⟨t, rfl⟩ := ru
    exact P.repr_of_str ⟨.str _, H, I.tok _, ⟨_, rfl⟩, q⟩ hz
  | lst a b =>
    cases ru
    refine repr_of_reads' (h₀ := s.heap) hr hs (fun z => by rw [hn] at z; cases z) gd (by omega) (fun _ _ z => z) (fun h' v tk hk => ?_) hz
    exact ⟨.str _, H, I.kept hk, ⟨_, rfl⟩, q⟩
  | tup a b =>
    cases ru
    refine repr_of_reads' (h₀ := s.heap) hr hs (fun z => by rw [hn] at z; cases z) gd (by omega) (fun _ _ z => z) (fun h' v tk hk => ?_) hz
    exact ⟨.str _, H, I.kept hk, ⟨_, rfl⟩, q⟩
end
end DL

/-! DL9: more rules over data. -/
namespace DL
open PySem L2
section
variable {K : PySem.W.Frag} {m : List Addr} {E : XK} {env : Env} {O O2 : OL} {G H : Hp} {te ta tb tc td ty : TE} {t u : TS} {tt : TT} {a b c d e : Dt} {g : TG} {D : EndsD} {vs : List Nat}
/-! the order of what is owned is nothing -/
theorem perm_dom (h : O.Perm O2) : ∀ a, a ∈ O.dom ↔ a ∈ O2.dom := fun a => (h.map Prod.fst).mem_iff
theorem At.perm (at' : At K m G O H) (h : O.Perm O2) : At K m G O2 H := ⟨at'.sub, fun p od hm => at'.own p od (h.mem_iff.mpr hm), (h.map Prod.fst).nodup_iff.mp at'.nd, at'.lk⟩
theorem Next.permL {G' H' : Hp} {O' : OL} (n : Next K m G O2 H G' O' H') (h : O.Perm O2) : Next K m G O H G' O' H' :=
  ⟨n.same, n.at', fun a u e hm => n.keep a u e fun z => hm ((perm_dom h a).mpr z), fun a e => (n.gnew a e).imp id fun z => z.imp id (perm_dom h a).mpr, fun a e => (n.onew a e).imp (perm_dom h a).mpr id⟩
theorem Next.permR {G' H' : Hp} {O' : OL} (n : Next K m G O2 H G' O H') (h : O.Perm O') : Next K m G O2 H G' O' H' :=
  ⟨n.same, n.at'.perm h, n.keep, n.gnew, fun a e => n.onew a ((perm_dom h a).mpr e)⟩
theorem SE.perm (h : O.Perm O2) (z : SE K m E t env O2 D) : SE K m E t env O D := fun σ G H D' e at' s =>
  z σ G H D' e (at'.perm h) ⟨fun _ _ _ _ _ n => s.nx _ _ _ _ _ (n.permL h), fun _ _ _ _ _ n => s.rt _ _ _ _ _ (n.permL h), fun _ _ _ _ _ n => s.bk _ _ _ _ _ (n.permL h), fun _ _ _ _ _ n => s.ct _ _ _ _ _ (n.permL h), fun _ _ _ _ n => s.xs _ _ _ _ (n.permL h)⟩
theorem XE.permR {Φ Φ' : Dt → OL → Prop} {Ψ : Addr → OL → Prop} (h : XE K m E te env O Φ Ψ) (i : ∀ d o, Φ d o → ∃ o', o.Perm o' ∧ Φ' d o') : XE K m E te env O Φ' Ψ := fun σ G H Q e at' q x =>
  by
  refine h σ G H Q e at' (fun v d G' O' H' n r f => ?_) x
  obtain ⟨o', p, f'⟩ := i d O' f
  exact q v d G' o' H' (n.permR p) r f'
/-! what is owned may be told otherwise -/
theorem Next.redesc {p : Addr} {od od' : OD} (at' : At K m G ((p, od) :: O) H) (h : ∀ o, RpO K G o od → RpO K G o od') : Next K m G ((p, od) :: O) H G ((p, od') :: O) H :=
  ⟨Same.refl G, ⟨at'.sub, fun q qd hm => by
    rcases List.mem_cons.mp hm with z | hm
    · cases z
      obtain ⟨h1, o, h2, h3⟩ := at'.own _ od List.mem_cons_self
      exact ⟨h1, o, h2, h o h3⟩
    · exact at'.own q qd (List.mem_cons_of_mem _ hm), at'.nd, at'.lk⟩, fun _ _ h _ => h, fun _ h => .inl h, fun _ h => .inl h⟩
/-! += -/
theorem se_augS {i : Nat} {x y : Str} (hx : env[i]? = some (some (.str x))) (h : EvE K m te env O (.str y)) (hl : x.length + y.length ≤ sizeLine) (q : D.nx (env.set i (some (.str (x ++ y)))) O) : SE K m E (tAug i te tipAddU) env O D := fun σ G H D' e at' s => by
  obtain ⟨v, h1, h2⟩ := e.get i _ hx
  cases h2
  refine ⟨_, h1, h σ G H _ e at' fun w G1 H1 n1 r1 => ?_⟩
  cases r1
  exact .inr ⟨x, y, rfl, rfl, hl, s.nx _ _ _ _ _ n1 ((e.mono n1.same).set i (.str _)) q⟩
theorem se_augI {i : Nat} {x y : Int} (hx : env[i]? = some (some (.int x))) (h : EvE K m te env O (.int y)) (q : D.nx (env.set i (some (.int (x + y)))) O) : SE K m E (tAug i te tipAddU) env O D := fun σ G H D' e at' s => by
  obtain ⟨v, h1, h2⟩ := e.get i _ hx
  cases h2
  refine ⟨_, h1, h σ G H _ e at' fun w G1 H1 n1 r1 => ?_⟩
  cases r1
  exact .inl ⟨x, y, rfl, rfl, s.nx _ _ _ _ _ n1 ((e.mono n1.same).set i (.int _)) q⟩
/-! .reverse() -/
theorem se_reverse {to : TE} {p : Addr} {k : Nat} {ds : List Dt} (ho : EvE K m to env O (ptr p)) (hk : O[k]? = some (p, .lst ds)) (q : D.nx env (O.set k (p, .lst ds.reverse))) : SE K m E (tDrop (tBM0 K "list" rReverse to)) env O D := fun σ G H D' e at' s => by
  refine ho σ G H _ e at' fun v G1 H1 n1 r1 => ?_
  cases r1
  obtain ⟨_, o, ho1, ro⟩ := n1.at'.own p _ (List.mem_of_getElem? hk)
  cases ro with
  | @lst vs _ rs =>
  have n2 := Next.write n1.at' hk (.lst rs.reverse)
  exact ⟨.inl ⟨rfl, _, .inl (.inl ho1)⟩, p, vs, rfl, rfl, ho1, s.nx _ _ _ _ _ (n1.trans n2) (e.mono (n1.trans n2).same) q⟩
/-! isinstance of a built-in type -/
theorem tyx_list {p : Addr} {vs : List V} (s : SqL K H p vs) : TyX K H (.ref p) (.type "list") := by
  rcases s with (s | ⟨o, s⟩) | ⟨o, its, n, h1, h2, _⟩
  · exact .base (.lst s)
  · exact .base (.frz s)
  · exact .kList h1 h2
theorem tyx_tup {p : Addr} {vs : List V} (s : SqT K H p vs) : TyX K H (.ref p) (.type "tuple") := by
  rcases s with (s | ⟨o, s⟩) | ⟨o, its, n, h1, h2, _⟩
  · exact .base (.tup s)
  · exact .fTuple s
  · exact .kTuple h1 h2
theorem tyx_of {v : V} (at' : At K m G O H) (r : Rp K G v d) {T : String} (h : TyD d T) : TyX K H v (.type T) := by
  cases h with
  | non => cases r; exact .base .non
  | bl b => cases r; exact .base (.bl _)
  | int i => cases r; exact .base (.int _)
  | str x => cases r; exact .base (.str _)
  | lst xs =>
    cases r with
    | lst s q => exact tyx_list (at'.sub.l s)
  | tup xs =>
    cases r with
    | tup s q => exact tyx_tup (at'.sub.t s)
theorem ca_isi {T U : String} {r : Bool} (h : TyD d T) (hk : kitB T U = some r) : CaV K m (rIsi K) [d, .val (.ty U)] O (.bl r) := .of0 fun G H vs Q at' rs q => by
  obtain ⟨v, w, rfl, r1, r2⟩ := rs.two
  cases r2
  exact ⟨v, _, _, _, r, rfl, .ty U, tyx_of at' r1 h, kit_ty hk, q _ (.bl _)⟩
theorem ca_isiL {ds : List Dt} {U : String} {r : Bool} (h : AsL O d ds) (hk : kitB "list" U = some r) : CaV K m (rIsi K) [d, .val (.ty U)] O (.bl r) := .of0 fun G H vs Q at' rs q => by
  obtain ⟨v, w, rfl, r1, r2⟩ := rs.two
  cases r2
  obtain ⟨p, ws, rfl, s, _⟩ := h.get at' r1
  exact ⟨_, _, _, _, r, rfl, .ty U, tyx_list s, kit_ty hk, q _ (.bl _)⟩
/-! the table of built-in types -/
theorem isi_str_str {d : Dt} (h : TyD d "str") : CaV K m (rIsi K) [d, .val (.ty "str")] O (.bl true) := ca_isi h (by decide +kernel)
theorem isi_str_list {d : Dt} (h : TyD d "str") : CaV K m (rIsi K) [d, .val (.ty "list")] O (.bl false) := ca_isi h (by decide +kernel)
theorem isi_str_tuple {d : Dt} (h : TyD d "str") : CaV K m (rIsi K) [d, .val (.ty "tuple")] O (.bl false) := ca_isi h (by decide +kernel)
theorem isi_str_int {d : Dt} (h : TyD d "str") : CaV K m (rIsi K) [d, .val (.ty "int")] O (.bl false) := ca_isi h (by decide +kernel)
theorem isi_str_bool {d : Dt} (h : TyD d "str") : CaV K m (rIsi K) [d, .val (.ty "bool")] O (.bl false) := ca_isi h (by decide +kernel)
theorem isi_str_dict {d : Dt} (h : TyD d "str") : CaV K m (rIsi K) [d, .val (.ty "dict")] O (.bl false) := ca_isi h (by decide +kernel)
theorem isi_list_str {d : Dt} (h : TyD d "list") : CaV K m (rIsi K) [d, .val (.ty "str")] O (.bl false) := ca_isi h (by decide +kernel)
theorem isi_list_list {d : Dt} (h : TyD d "list") : CaV K m (rIsi K) [d, .val (.ty "list")] O (.bl true) := ca_isi h (by decide +kernel)
theorem isi_list_tuple {d : Dt} (h : TyD d "list") : CaV K m (rIsi K) [d, .val (.ty "tuple")] O (.bl false) := ca_isi h (by decide +kernel)
theorem isi_list_int {d : Dt} (h : TyD d "list") : CaV K m (rIsi K) [d, .val (.ty "int")] O (.bl false) := ca_isi h (by decide +kernel)
theorem isi_list_bool {d : Dt} (h : TyD d "list") : CaV K m (rIsi K) [d, .val (.ty "bool")] O (.bl false) := ca_isi h (by decide +kernel)
theorem isi_list_dict {d : Dt} (h : TyD d "list") : CaV K m (rIsi K) [d, .val (.ty "dict")] O (.bl false) := ca_isi h (by decide +kernel)
theorem isi_tuple_str {d : Dt} (h : TyD d "tuple") : CaV K m (rIsi K) [d, .val (.ty "str")] O (.bl false) := ca_isi h (by decide +kernel)
theorem isi_tuple_list {d : Dt} (h : TyD d "tuple") : CaV K m (rIsi K) [d, .val (.ty "list")] O (.bl false) := ca_isi h (by decide +kernel)
theorem isi_tuple_tuple {d : Dt} (h : TyD d "tuple") : CaV K m (rIsi K) [d, .val (.ty "tuple")] O (.bl true) := ca_isi h (by decide +kernel)
theorem isi_tuple_int {d : Dt} (h : TyD d "tuple") : CaV K m (rIsi K) [d, .val (.ty "int")] O (.bl false) := ca_isi h (by decide +kernel)
theorem isi_tuple_bool {d : Dt} (h : TyD d "tuple") : CaV K m (rIsi K) [d, .val (.ty "bool")] O (.bl false) := ca_isi h (by decide +kernel)
theorem isi_tuple_dict {d : Dt} (h : TyD d "tuple") : CaV K m (rIsi K) [d, .val (.ty "dict")] O (.bl false) := ca_isi h (by decide +kernel)
theorem isi_int_str {d : Dt} (h : TyD d "int") : CaV K m (rIsi K) [d, .val (.ty "str")] O (.bl false) := ca_isi h (by decide +kernel)
theorem isi_int_list {d : Dt} (h : TyD d "int") : CaV K m (rIsi K) [d, .val (.ty "list")] O (.bl false) := ca_isi h (by decide +kernel)
theorem isi_int_tuple {d : Dt} (h : TyD d "int") : CaV K m (rIsi K) [d, .val (.ty "tuple")] O (.bl false) := ca_isi h (by decide +kernel)
theorem isi_int_int {d : Dt} (h : TyD d "int") : CaV K m (rIsi K) [d, .val (.ty "int")] O (.bl true) := ca_isi h (by decide +kernel)
theorem isi_int_bool {d : Dt} (h : TyD d "int") : CaV K m (rIsi K) [d, .val (.ty "bool")] O (.bl false) := ca_isi h (by decide +kernel)
theorem isi_int_dict {d : Dt} (h : TyD d "int") : CaV K m (rIsi K) [d, .val (.ty "dict")] O (.bl false) := ca_isi h (by decide +kernel)
theorem isi_bool_str {d : Dt} (h : TyD d "bool") : CaV K m (rIsi K) [d, .val (.ty "str")] O (.bl false) := ca_isi h (by decide +kernel)
theorem isi_bool_list {d : Dt} (h : TyD d "bool") : CaV K m (rIsi K) [d, .val (.ty "list")] O (.bl false) := ca_isi h (by decide +kernel)
theorem isi_bool_tuple {d : Dt} (h : TyD d "bool") : CaV K m (rIsi K) [d, .val (.ty "tuple")] O (.bl false) := ca_isi h (by decide +kernel)
theorem isi_bool_int {d : Dt} (h : TyD d "bool") : CaV K m (rIsi K) [d, .val (.ty "int")] O (.bl true) := ca_isi h (by decide +kernel)
theorem isi_bool_bool {d : Dt} (h : TyD d "bool") : CaV K m (rIsi K) [d, .val (.ty "bool")] O (.bl true) := ca_isi h (by decide +kernel)
theorem isi_bool_dict {d : Dt} (h : TyD d "bool") : CaV K m (rIsi K) [d, .val (.ty "dict")] O (.bl false) := ca_isi h (by decide +kernel)
theorem isi_NoneType_str {d : Dt} (h : TyD d "NoneType") : CaV K m (rIsi K) [d, .val (.ty "str")] O (.bl false) := ca_isi h (by decide +kernel)
theorem isi_NoneType_list {d : Dt} (h : TyD d "NoneType") : CaV K m (rIsi K) [d, .val (.ty "list")] O (.bl false) := ca_isi h (by decide +kernel)
theorem isi_NoneType_tuple {d : Dt} (h : TyD d "NoneType") : CaV K m (rIsi K) [d, .val (.ty "tuple")] O (.bl false) := ca_isi h (by decide +kernel)
theorem isi_NoneType_int {d : Dt} (h : TyD d "NoneType") : CaV K m (rIsi K) [d, .val (.ty "int")] O (.bl false) := ca_isi h (by decide +kernel)
theorem isi_NoneType_bool {d : Dt} (h : TyD d "NoneType") : CaV K m (rIsi K) [d, .val (.ty "bool")] O (.bl false) := ca_isi h (by decide +kernel)
theorem isi_NoneType_dict {d : Dt} (h : TyD d "NoneType") : CaV K m (rIsi K) [d, .val (.ty "dict")] O (.bl false) := ca_isi h (by decide +kernel)
theorem isiL_str {d : Dt} {ds : List Dt} (h : AsL O d ds) : CaV K m (rIsi K) [d, .val (.ty "str")] O (.bl false) := ca_isiL h (by decide +kernel)
theorem isiL_list {d : Dt} {ds : List Dt} (h : AsL O d ds) : CaV K m (rIsi K) [d, .val (.ty "list")] O (.bl true) := ca_isiL h (by decide +kernel)
theorem isiL_tuple {d : Dt} {ds : List Dt} (h : AsL O d ds) : CaV K m (rIsi K) [d, .val (.ty "tuple")] O (.bl false) := ca_isiL h (by decide +kernel)
theorem isiL_int {d : Dt} {ds : List Dt} (h : AsL O d ds) : CaV K m (rIsi K) [d, .val (.ty "int")] O (.bl false) := ca_isiL h (by decide +kernel)
theorem isiL_bool {d : Dt} {ds : List Dt} (h : AsL O d ds) : CaV K m (rIsi K) [d, .val (.ty "bool")] O (.bl false) := ca_isiL h (by decide +kernel)
theorem isiL_dict {d : Dt} {ds : List Dt} (h : AsL O d ds) : CaV K m (rIsi K) [d, .val (.ty "dict")] O (.bl false) := ca_isiL h (by decide +kernel)
/-! o.m(..), any promise -/
theorem xe_meth {pre : List Addr → List Dt → OL → (Dt → OL → Prop) → (Addr → OL → Prop) → Prop} {ta : TA} {C : Addr} {mn : Str} {fs : List (Str × Dt)} {Φ : Dt → OL → Prop} {Ψ : Addr → OL → Prop} (ho : EvE K m te env O a) (hi : AsI O a C fs) (hm : fs.lookup mn = none)
    (h : XA K m E ta env O (fun ds O1 => ∃ A B, O1 = A ++ B ∧ pre m (a :: ds) A (fun d o => Φ d (o ++ B)) (fun c o => Ψ c (o ++ B))) Ψ) : XE K m E (tMeth C mn (spO K pre) [] E te ta) env O Φ Ψ := fun σ G H Q e at' q x =>
  ho σ G H _ e at' fun v G1 H1 n1 r1 => by
  obtain ⟨p, dx, ws, rfl, hp, rf⟩ := hi.get n1.at' r1
  rcases rf.look (f := mn) with ⟨z, _⟩ | ⟨w, d', h1, h2, h3⟩
  · refine ⟨p, dx, ws, rfl, hp, z, h σ G1 H1 _ (e.mono n1.same) n1.at' (fun us ds G2 O2 H2 n2 r2 ⟨A, B, eq, hp⟩ => ?_) fun C G2 O2 H2 n2 => x C G2 O2 H2 (n1.trans n2)⟩
    subst eq
    show spO K pre (.ref p :: (us ++ [])) H2 Q E
    rw [List.append_nil]
    exact sp_call n2.at' (.cons (r1.mono n2.same) r2) hp (fun v d G' O' H' n rv f => q v d G' O' H' ((n1.trans n2).trans n) rv f) fun C G' O' H' n f => x C G' O' H' ((n1.trans n2).trans n) f
  · rw [h2] at hm; cases hm
/-! repr -/
theorem ca_repr (hp : isPy d = true) (h1 : (toPy d).showable = true) (h2 : (toPy d).hasDict = false) (h3 : (toPy d).depth < 60) (h4 : (toPy d).shown.length ≤ sizeLine) : CaV K m (rRepr K) [d] O (.str (toPy d).shown) := .of0 fun G H vs Q at' rs q => by
  obtain ⟨v, rfl, r⟩ := rs.one
  exact ⟨v, _, rfl, dp_of at'.sub r hp, h1, h2, h3, h4, q _ (.str _)⟩
/-! loops over a list that may be owned -/
theorem se_forA {σT : Type} {tl : TE} {xs : List Dt} {A : OL} (P : Nat → σT → Prop) (pat : Nat → σT → Env) (own : Nat → σT → OL) (s0 : σT) (h : EvE K m tl env O d) (ha : AsL A d xs) (h0 : P 0 s0) (hp : EnvLe (pat 0 s0) env) (ho : O = own 0 s0 ++ A) (hm : Mono D.nx)
    (hs : ∀ (i : Nat) x s A', xs[i]? = some x → P i s → ∀ e, EnvLe (pat i s) e → XG K m E g x e (own i s ++ A') fun e' o' => SE K m E t e' o'
      { nx := Wd P pat (fun i s => own i s ++ A') (i + 1), ct := Wd P pat (fun i s => own i s ++ A') (i + 1), bk := fun e o => ∃ o1, o = o1 ++ A' ∧ D.nx e (o1 ++ A), rt := fun d o => ∃ o1, o = o1 ++ A' ∧ D.rt d (o1 ++ A), xs := fun c o => ∃ o1, o = o1 ++ A' ∧ D.xs c (o1 ++ A) })
    (hd : ∀ s, P xs.length s → D.nx (pat xs.length s) (own xs.length s ++ A)) : SE K m E (tFor (iList K tl) g t) env O D := by
  subst ho
  rcases ha with rfl | ⟨p, k, rfl, hk⟩
  · refine se_forLp P pat (fun i s => own i s ++ A) s0 h h0 hp rfl hm (fun i x s hi h1 e le σ G H v Q er at' r q => ?_) hd
    refine hs i x s A hi h1 e le σ G H v Q er at' r fun σ' env' G' O' H' n er' se => q σ' env' G' O' H' n er' (se.imp (fun _ _ z => z) (fun _ _ ⟨o1, z1, z2⟩ => z1 ▸ z2) (fun _ _ ⟨o1, z1, z2⟩ => z1 ▸ z2) (fun _ _ z => z) (fun _ _ ⟨o1, z1, z2⟩ => z1 ▸ z2))
  · intro σ G H D' e at' s
    refine h σ G H _ e at' fun v G1 H1 n1 r1 => ?_
    cases r1
    have hpm : A.Perm (A.eraseIdx k ++ [(p, .lst xs)]) := by
      obtain ⟨hl, he⟩ := List.getElem?_eq_some_iff.mp hk
      have q1 : A = A.take k ++ (p, .lst xs) :: A.drop (k + 1) := by rw [← he, List.getElem_cons_drop, List.take_append_drop]
      have q2 : A.eraseIdx k = A.take k ++ A.drop (k + 1) := List.eraseIdx_eq_take_drop_succ ..
      rw [q2]
      conv => lhs; rw [q1]
      rw [List.append_assoc]
      exact List.Perm.append_left _ (List.perm_append_comm (l₁ := [(p, OD.lst xs)]))
    generalize hA' : A.eraseIdx k = A' at hpm
    have pm : ∀ o1 : OL, (o1 ++ A).Perm ((o1 ++ A') ++ [(p, .lst xs)]) := fun o1 => by rw [List.append_assoc]; exact List.Perm.append_left _ hpm
    -- the state with the list last
    have at1 : At K m G1 ((own 0 s0 ++ A') ++ [(p, .lst xs)]) H1 := n1.at'.perm (pm _)
    obtain ⟨_, o, hH1, ro⟩ := at1.own p (.lst xs) (List.mem_append_right _ List.mem_cons_self)
    cases ro with
    | @lst ws _ rws =>
    have fr : ∀ {G' O' H'}, Next K m G1 (own 0 s0 ++ A') H1 G' O' H' → Next K m G (own 0 s0 ++ A) H G' (O' ++ [(p, .lst xs)]) H' := fun n => n1.trans ((Next.frame at1 n).permL (pm _))
    have hpn : ∀ {G' O' H'}, Next K m G1 (own 0 s0 ++ A') H1 G' O' H' → H' p = some (.lst ws) := fun n => n.keep p _ hH1 fun z => by
      have nd : ((own 0 s0 ++ A' ++ [(p, OD.lst xs)]).map Prod.fst).Nodup := at1.nd
      rw [List.map_append] at nd
      exact (List.nodup_append.mp nd).2.2 p z p List.mem_cons_self rfl
    refine ⟨p, rfl, ⟨ws, .inl (.inl hH1)⟩, for_list (K := K) (a := p) (xs := ws) (fun i σ' H' => ∃ G' O' env', Next K m G1 (own 0 s0 ++ A') H1 G' O' H' ∧ EnvR K G' σ' env' ∧ Wd P pat (fun i s => own i s ++ A') i env' O' ∧ Rps K G' ws xs)
      ⟨G1, _, env, Next.refl at1.part, e.mono n1.same, ⟨s0, h0, hp, rfl⟩, rws⟩ (fun i σ' H' _ ⟨G', O', env', n, _, _, _⟩ => .inl (.inl (hpn n))) (fun i y σ' H' hy ⟨G', O', env', n, er, ⟨st, h1, h2, h3⟩, rss⟩ => ?_) fun σ' H' ⟨G', O', env', n, er, ⟨st, h1, h2, h3⟩, rss⟩ => ?_⟩
    · subst h3
      obtain ⟨x, hx, rx⟩ := rss.get hy
      refine hs i x st A' hx h1 env' h2 σ' G' H' y _ er n.at' rx fun σ2 env2 G2 O2 H2 n2 r2 se => ?_
      refine se σ2 G2 H2 _ r2 n2.at' ⟨fun G3 O3 H3 σ3 env3 n3 r3 q3 => ?_, fun G3 O3 H3 v d n3 r3 ⟨o1, z1, z2⟩ => ?_, fun G3 O3 H3 σ3 env3 n3 r3 ⟨o1, z1, z2⟩ => ?_, fun G3 O3 H3 σ3 env3 n3 r3 q3 => ?_, fun G3 O3 H3 C n3 ⟨o1, z1, z2⟩ => ?_⟩
      · exact ⟨G3, O3, env3, (n.trans n2).trans n3, r3, q3, rss.mono (n2.same.trans n3.same)⟩
      · subst z1; exact s.rt G3 _ H3 v d ((fr ((n.trans n2).trans n3)).permR (pm o1).symm) r3 z2
      · subst z1; exact s.nx G3 _ H3 σ3 env3 ((fr ((n.trans n2).trans n3)).permR (pm o1).symm) r3 z2
      · exact ⟨G3, O3, env3, (n.trans n2).trans n3, r3, q3, rss.mono (n2.same.trans n3.same)⟩
      · subst z1; exact s.xs G3 _ H3 C ((fr ((n.trans n2).trans n3)).permR (pm o1).symm) z2
    · subst h3
      have el : ws.length = xs.length := rss.len
      rw [el] at h1 h2
      refine s.nx G' _ H' σ' _ ((fr (by rw [el] at n; exact n)).permR (pm _).symm) er (hm _ _ _ h2 (hd st h1))
/-! dict(pairs) -/
theorem ca_dictP {kds : List (Key × Dt)} {Q' : Dt → OL → Prop} (h : AsL O d (kds.map fun kv => .tup [kD kv.1, kv.2])) : ∀ G H vs (Q : VK), At K m G O H → Rps K G vs [d] → (∀ v p G' O' H', Next K m G O H G' O' H' → v = .ref p → O' = (p, .dic (kds.foldl (fun acc kv => putE acc kv.1 kv.2) [])) :: O → p ∉ O.dom → Q v H') → rDictP K vs H Q := fun G H vs Q at' rs q => by
  obtain ⟨v, rfl, r⟩ := rs.one
  obtain ⟨p, ws, rfl, s, r2⟩ := h.get at' r
  have key : ∀ {kds : List (Key × Dt)} {ws : List V}, Rps K G ws (kds.map fun kv => .tup [kD kv.1, kv.2]) → ∃ (ps : List Addr) (kvs : List (Key × V)), ws = ps.map V.ref ∧ PySem.Paired (fun p kv => SqT K H p [kV kv.1, kv.2]) ps kvs ∧ RpK K G kvs kds := by
    intro kds
    induction kds with
    | nil => intro ws r; cases r; exact ⟨[], [], rfl, .nil, .nil⟩
    | cons kv kds ih =>
      intro ws r
      cases r with
      | cons r1 r2 =>
      obtain ⟨ps, kvs, rfl, h1, h2⟩ := ih r2
      obtain ⟨a, us, rfl, s, ru⟩ := tup_get at' r1
      obtain ⟨v1, v2, rfl, e1, e2⟩ := ru.two
      have := kD_v e1; subst this
      exact ⟨a :: ps, (kv.1, v2) :: kvs, rfl, .cons s h1, .cons e2 h2⟩
  obtain ⟨ps, kvs, rfl, h1, h2⟩ := key r2
  refine ⟨p, ps, kvs, rfl, s, h1, fun l hl => ?_⟩
  have hfold : ∀ {kvs : List (Key × V)} {kds : List (Key × Dt)} {xs : List (Key × V)} {ds : List (Key × Dt)}, RpK K G kvs kds → RpK K G xs ds → RpK K G (kvs.foldl (fun acc kv => putK acc kv.1 kv.2) xs) (kds.foldl (fun acc kv => putE acc kv.1 kv.2) ds) := by
    intro kvs
    induction kvs with
    | nil => intro kds xs ds r r'; cases r; exact r'
    | cons kv kvs ih =>
      intro kds xs ds r r'
      cases r with
      | cons r1 r2 =>
        rw [List.foldl_cons, List.foldl_cons]
        exact ih r2 (r'.put r1)
  have hf : RpK K G (mergeK [] kvs) (kds.foldl (fun acc kv => putE acc kv.1 kv.2) []) := hfold h2 .nil
  have n := Next.own at' hl (o := .dK (mergeK [] kvs)) (od := .dic (kds.foldl (fun acc kv => putE acc kv.1 kv.2) [])) (.dic hf)
  exact q _ l _ _ _ n rfl rfl (at'.fresh hl).2
/-! promises of a pure kind -/
abbrev PreT := List Addr → List Dt → OL → (Dt → OL → Prop) → (Addr → OL → Prop) → Prop
def preV0 (R : List Dt → Dt → Prop) : PreT := fun m ds O Φ _ => m = [] ∧ ∃ d, R ds d ∧ O = [] ∧ Φ d []
def preL0 (R : List Dt → List Dt → Prop) : PreT := fun m ds O Φ _ => m = [] ∧ ∃ rs, R ds rs ∧ O = [] ∧ ∀ p, Φ (ptr p) [(p, .lst rs)]
theorem EvE.of_xe {E' : XK} (h : XE K m E' te env O (fun d' o => d' = d ∧ o = O) (fun _ _ => False)) : EvE K m te env O d := fun σ G H Q e at' q =>
  h σ G H Q e at' (fun v d' G' O' H' n r f => by
    obtain ⟨rfl, rfl⟩ := f
    exact q v G' H' n r) fun _ _ _ _ _ f => f.elim
theorem EvE.of_xeL {E' : XK} {ds : List Dt} (h : XE K m E' te env O (fun d' o => ∃ p, d' = ptr p ∧ o = (p, .lst ds) :: O) (fun _ _ => False)) : EvE K m te env O (.lst ds) := fun σ G H Q e at' q =>
  h σ G H Q e at' (fun v d' G' O' H' n r f => by
    obtain ⟨p, rfl, rfl⟩ := f
    cases r
    obtain ⟨o, ho, ro, n2⟩ := Next.freeze n.at' (k := 0) rfl
    exact q _ _ _ (n.trans n2) (Rp.of_own (ro.mono n2.same) upd_same)) fun _ _ _ _ _ f => f.elim
theorem ev_call0 {R : List Dt → Dt → Prop} {ta : TA} {ds : List Dt} {E' : XK} (h : EvA K [] ta env O ds) (hr : R ds d) : EvE K [] (tCall (spO K (preV0 R)) [] E' ta) env O d :=
  .of_xe (xe_call (h.xa ⟨[], O, rfl, rfl, d, hr, rfl, rfl, rfl⟩))
theorem ev_callL0 {R : List Dt → List Dt → Prop} {ta : TA} {ds rs : List Dt} {E' : XK} (h : EvA K [] ta env O ds) (hr : R ds rs) : EvE K [] (tCall (spO K (preL0 R)) [] E' ta) env O (.lst rs) :=
  .of_xeL (xe_call (h.xa ⟨[], O, rfl, rfl, rs, hr, rfl, fun p => ⟨p, rfl, rfl⟩⟩))
theorem ev_meth0 {R : List Dt → Dt → Prop} {ta : TA} {ds : List Dt} {E' : XK} {C : Addr} {mn : Str} {fs : List (Str × Dt)} (ho : EvE K [] te env O a) (hi : AsI O a C fs) (hm : fs.lookup mn = none) (h : EvA K [] ta env O ds) (hr : R (a :: ds) d) : EvE K [] (tMeth C mn (spO K (preV0 R)) [] E' te ta) env O d :=
  .of_xe (xe_meth ho hi hm (h.xa ⟨[], O, rfl, rfl, d, hr, rfl, rfl, rfl⟩))
theorem ev_methL0 {R : List Dt → List Dt → Prop} {ta : TA} {ds rs : List Dt} {E' : XK} {C : Addr} {mn : Str} {fs : List (Str × Dt)} (ho : EvE K [] te env O a) (hi : AsI O a C fs) (hm : fs.lookup mn = none) (h : EvA K [] ta env O ds) (hr : R (a :: ds) rs) : EvE K [] (tMeth C mn (spO K (preL0 R)) [] E' te ta) env O (.lst rs) :=
  .of_xeL (xe_meth ho hi hm (h.xa ⟨[], O, rfl, rfl, rs, hr, rfl, fun p => ⟨p, rfl, rfl⟩⟩))
theorem xe_methL0 {R : List Dt → List Dt → Prop} {ta : TA} {ds rs : List Dt} {E' : XK} {C : Addr} {mn : Str} {fs : List (Str × Dt)} {Φ : Dt → OL → Prop} {Ψ : Addr → OL → Prop} (ho : EvE K [] te env O a) (hi : AsI O a C fs) (hm : fs.lookup mn = none) (h : EvA K [] ta env O ds) (hr : R (a :: ds) rs) (k : ∀ p, Φ (ptr p) ((p, .lst rs) :: O)) : XE K [] E (tMeth C mn (spO K (preL0 R)) [] E' te ta) env O Φ Ψ := fun σ G H Q e at' q x =>
  (xe_meth (E := E') (Φ := Φ) (Ψ := fun _ _ => False) ho hi hm (h.xa ⟨[], O, rfl, rfl, rs, hr, rfl, fun p => k p⟩)) σ G H Q e at' q fun _ _ _ _ _ f => f.elim
/-- list(xs), one's own -/
theorem xe_list {xs : List Dt} {Φ : Dt → OL → Prop} {Ψ : Addr → OL → Prop} (h : EvE K m te env O a) (ha : AsS O a xs) (k : ∀ p, p ∉ O.dom → Φ (ptr p) ((p, .lst xs) :: O)) : XE K m E (tCB (rList K) (tCons te tNil)) env O Φ Ψ := fun σ G H Q e at' q _ =>
  h σ G H _ e at' fun v G1 H1 n1 r1 => by
    obtain ⟨p, vs, rfl, s, r2⟩ := ha.get n1.at' r1
    refine ⟨p, vs, rfl, s, fun l hl => ?_⟩
    have n2 := Next.own n1.at' hl (o := .lst vs) (od := .lst xs) (.lst r2)
    exact q _ _ _ _ _ (n1.trans n2) (.val _) (k l (n1.at'.fresh hl).2)
theorem xe_listD {kds : List (Key × Dt)} {Φ : Dt → OL → Prop} {Ψ : Addr → OL → Prop} (h : EvE K [] te env O a) (ha : AsD O a kds) (k : ∀ p, p ∉ O.dom → Φ (ptr p) ((p, .lst (kds.map fun kv => kD kv.1)) :: O)) : XE K [] E (tCB rListD (tCons te tNil)) env O Φ Ψ := fun σ G H Q e at' q _ =>
  h σ G H _ e at' fun v G1 H1 n1 r1 => by
    obtain ⟨p, kvs, rfl, s, rk⟩ := ha.exact n1.at' r1
    refine ⟨p, kvs, rfl, s, fun l hl => ?_⟩
    have n2 := Next.own n1.at' hl (o := .lst (kvs.map fun kv => kV kv.1)) (od := .lst (kds.map fun kv => kD kv.1)) (.lst (rps_keys rk _))
    exact q _ _ _ _ _ (n1.trans n2) (.val _) (k l (n1.at'.fresh hl).2)
/-- bodies -/
theorem bodyV {R : List Dt → Dt → Prop} {N : List Str} (h : ∀ ds d, R ds d → SE K [] E t (startE N ds) [] { nx := fun _ o => d = .non ∧ o = [], rt := fun d' o => d' = d ∧ o = [] }) : ∀ m ds O Φ Ψ, preV0 R m ds O Φ Ψ → SE K m E t (startE N ds) O { nx := fun _ O' => Φ .non O', rt := Φ, xs := Ψ } := by
  rintro m ds O Φ Ψ ⟨rfl, d, hr, rfl, f⟩
  exact (h ds d hr).imp (fun e o ⟨z1, z2⟩ => by subst z1 z2; exact f) (fun d' o ⟨z1, z2⟩ => by subst z1 z2; exact f) (fun _ _ z => z) (fun _ _ z => z) (fun _ _ z => z.elim)
theorem bodyL {R : List Dt → List Dt → Prop} {N : List Str} (h : ∀ ds rs, R ds rs → SE K [] E t (startE N ds) [] { nx := fun _ _ => False, rt := fun d o => ∃ p, d = ptr p ∧ o = [(p, .lst rs)] }) : ∀ m ds O Φ Ψ, preL0 R m ds O Φ Ψ → SE K m E t (startE N ds) O { nx := fun _ O' => Φ .non O', rt := Φ, xs := Ψ } := by
  rintro m ds O Φ Ψ ⟨rfl, rs, hr, rfl, f⟩
  exact (h ds rs hr).imp (fun _ _ z => z.elim) (fun d' o ⟨p, z1, z2⟩ => by subst z1 z2; exact f p) (fun _ _ z => z) (fun _ _ z => z) (fun _ _ z => z.elim)
/-- data written by a word -/
theorem EvE.isL {xs ys : List Dt} (h : EvE K m te env O (.lst xs)) (e : xs = ys) : EvE K m te env O (.lst ys) := e ▸ h
end
end DL

namespace DL
open PySem L2
theorem given_take {α : Type} (xs : List α) (h : α → Option Dt) : ∀ n, n ≤ xs.length → given (fun i => xs[i]?.bind h) n = (xs.take n).filterMap h
  | 0, _ => by simp [given]
  | n + 1, hn => by
    rw [given_succ, given_take xs h n (by omega), List.take_add_one, List.filterMap_append]
    rw [List.getElem?_eq_getElem (by omega)]
    refine congrArg _ ?_
    show (h _).toList = List.filterMap h [_]
    rw [List.filterMap_cons]
    cases q : h (xs[n]'(by omega)) <;> rfl
theorem given_fm {α : Type} (xs : List α) (h : α → Option Dt) : given (fun i => xs[i]?.bind h) xs.length = xs.filterMap h := by
  rw [given_take xs h _ (Nat.le_refl _), List.take_length]
theorem given_map {α : Type} (xs : List α) (f : α → Dt) : given (fun i => xs[i]?.map f) xs.length = xs.map f := by
  have e : (fun i : Nat => (xs[i]? : Option α).map f) = fun i : Nat => (xs[i]? : Option α).bind fun x => some (f x) := by
    funext i
    cases xs[i]? <;> rfl
  rw [e, given_fm, List.filterMap_eq_map']
theorem given_range (f : Nat → Dt) (n : Nat) : given (fun i => some (f i)) n = (List.range n).map f := by
  unfold given
  rw [List.filterMap_eq_map']
theorem given_filter {α : Type} (xs : List α) (p : α → Bool) (f : α → Dt) : given (fun i => xs[i]?.bind fun x => if p x = true then some (f x) else none) xs.length = (xs.filter p).map f := by
  rw [given_fm]
  induction xs with
  | nil => rfl
  | cons x xs ih =>
    rw [List.filterMap_cons, List.filter_cons]
    by_cases h : p x = true
    · rw [if_pos h, if_pos h, List.map_cons, ih]
    · rw [if_neg h, if_neg h, ih]
theorem given_rfilter (p : Nat → Bool) (f : Nat → Dt) (n : Nat) : given (fun i => if p i = true then some (f i) else none) n = ((List.range n).filter p).map f := by
  unfold given
  generalize List.range n = xs
  induction xs with
  | nil => rfl
  | cons x xs ih =>
    rw [List.filterMap_cons, List.filter_cons]
    by_cases h : p x = true
    · rw [if_pos h, if_pos h, List.map_cons, ih]
    · rw [if_neg h, if_neg h, ih]
end DL
namespace DL
open PySem L2
theorem atI_int {α : Type} {l : List α} {i : Int} {d : α} (h0 : 0 ≤ i) (h : l[i.toNat]? = some d) : atI l i = some d := by
  have hl := (List.getElem?_eq_some_iff.mp h).1
  unfold atI ixN
  rw [if_pos h0, if_pos (by omega)]
  exact h

end DL
namespace DL
open PySem L2
theorem opv_addC {K : PySem.W.Frag} {m : List Addr} {O : OL} {x : Str} {ch : Nat} (h : x.length < 1000000) : OpV K m (rAddU K) (.str x) (.str ⟨#[ch]⟩) O (.str (x ++ ⟨#[ch]⟩)) := opv_addT (by
  rw [sizeLine_eq]
  have : (⟨#[ch]⟩ : Str).length = 1 := rfl
  omega)
end DL

namespace DL
open PySem L2
section
variable {K : PySem.W.Frag} {m : List Addr} {E : XK} {env : Env} {O O2 : OL} {G H : Hp} {te ta tb tc td ty : TE} {t u : TS} {tt : TT} {a b c d e : Dt} {g : TG} {D : EndsD} {vs : List Nat}
/-- what is owned and not used is let go -/
theorem SE.dropO {k : Nat} (hk : k < O.length) (h : SE K m E t env (O.eraseIdx k) D) : SE K m E t env O D :=
  SE.frz (k := k) (p := O[k].1) (od := O[k].2) (List.getElem?_eq_getElem hk) (fun _ _ q => .inl q) rfl h
/-- dict(pairs), one's own -/
theorem xe_dictP {Φ : Dt → OL → Prop} {Ψ : Addr → OL → Prop} (h : XE K m E te env O (fun d O1 => ∃ kds : List (Key × Dt), AsL O1 d (kds.map fun kv => .tup [kD kv.1, kv.2]) ∧ ∀ p, p ∉ O1.dom → Φ (ptr p) ((p, .dic (kds.foldl (fun acc kv => putE acc kv.1 kv.2) [])) :: O1)) Ψ) :
    XE K m E (tCB (rDictP K) (tCons te tNil)) env O Φ Ψ := fun σ G H Q e at' q x =>
  h σ G H _ e at' (fun v d G1 O1 H1 n1 r1 ⟨kds, ha, f⟩ => by
    refine ca_dictP (Q' := Φ) ha G1 H1 [v] Q n1.at' (.cons r1 .nil) fun w p G2 O2 H2 n2 e1 e2 e3 => ?_
    subst e1 e2
    exact q _ (ptr p) G2 _ H2 (n1.trans n2) (.val _) (f p e3)) x
/-- the pairs of a dict's keys and new lists -/
def newPs (kds : List (Key × Dt)) (ps : List Addr) : List Dt := (kds.zip ps).map fun kp => .tup [kD kp.1.1, ptr kp.2]
def newOs (ps : List Addr) : OL := ps.map fun p => (p, .lst [])
theorem xe_lockNew {i j : Nat} {kds : List (Key × Dt)} {Φ : Dt → OL → Prop} {Ψ : Addr → OL → Prop} (h : env[i]? = some (some (.dic kds))) (hij : i ≠ j) (hz : kds.length ≤ 1000000)
    (k : ∀ l ps, ps.length = kds.length → Φ (ptr l) ((l, .lst (newPs kds ps)) :: (newOs ps ++ O))) (hjl : j < env.length) :
    XE K [] E (tLockE (tLc (iKeys (tVar i)) (gName j) tYes (tTup (tCons (tVar j) (tCons (tLst tNil) tNil))) [j])) env O Φ Ψ := fun σ G H Q e at' q _ => by
  obtain ⟨v, h1, h2⟩ := e.get i _ h
  obtain ⟨p, kvs, rfl, hp, hH, rk⟩ := dic_at at' h2
  have hl : Lk (.dK kvs) := .inl ⟨_, rfl⟩
  refine ⟨p, .dK kvs, hH, trivial, fun od => ?_⟩
  obtain ⟨hr, at1⟩ := lock_in (od := od) at' hp hl
  have out := fun {G' H' : Hp} {O' : OL} (n : Next K [p] (upd G p (.frz od (.dK kvs))) O (upd H p (.frz od (.dK kvs))) G' O' H') => lock_out (od := od) at' hp hl n
  refine ⟨_, h1, p, od, rfl, .inl ⟨kvs, upd_same, fun L hL => ?_⟩⟩
  have n0 := Next.own at1 hL (o := .lst []) (od := .lst []) (.lst .nil)
  let Pv : Nat → Hp → Prop := fun n H' => ∃ G' ps, ps.length = n ∧ Next K [p] (upd G p (.frz od (.dK kvs))) O (upd H p (.frz od (.dK kvs))) G' ((L, .lst (newPs kds ps)) :: (newOs ps ++ O)) H' ∧ EnvR K G' (wipe σ [j]) (wipeE env [j])
  have hkl := rk.len
  have ez : newPs kds [] = [] := by unfold newPs; rw [List.zip_nil_right]; rfl
  refine lc_it (walk_keys (d := p) (o := od) (kvs := kvs)) Pv ⟨_, [], rfl, by rw [ez]; exact n0, (env_by hr e).wipe [j]⟩ (fun n H' _ ⟨G', ps, _, n1, _⟩ => (out n1).2.2) (fun n x H' H'' hn ⟨G', ps, hps, n1, er⟩ ⟨hH', ky, vv, hk1, hx⟩ => ?_) fun H' ⟨G', ps, hps, n1, er⟩ => ?_
  · subst hH' hx
    obtain ⟨dd, hk2, _⟩ := rk.get hk1
    refine ⟨?_, ?_⟩
    · show ((σ.set j none).set j (some _)).set j none = σ.set j none
      rw [List.set_set, List.set_set]
    have er2 := er.set j (kD_rp (K := K) (G := G') ky)
    have hv : ((wipeE env [j]).set j (some (kD ky)))[j]? = some (some (kD ky)) := List.getElem?_set_self (by
      show j < (List.set (wipeE env []) j none).length
      rw [List.length_set]; exact hjl)
    unfold tYes
    dsimp only
    rw [if_pos rfl]
    refine (xe_tup (E := fun _ _ _ => True) (Φ := fun d o => ∃ q, d = .tup [kD ky, ptr q] ∧ o = (q, .lst []) :: ((L, .lst (newPs kds ps)) :: (newOs ps ++ O))) (Ψ := fun _ _ => False)
      (xa_cons ((ev_var hv).xe (xa_cons (xe_lst (xa_nil ⟨by decide, fun q _ => xa_nil ⟨show 2 ≤ sizeLine by rw [sizeLine_eq]; decide, q, rfl, rfl⟩⟩)))))) _ G' H'' _ er2 n1.at' (fun y dy G2 O2 H2 n2 ry ⟨q, e1, e2⟩ => ?_) fun _ _ _ _ _ f => f.elim
    subst e1 e2
    obtain ⟨_, o, ho, ro⟩ := n2.at'.own L (.lst (newPs kds ps)) (List.mem_cons_of_mem _ List.mem_cons_self)
    cases ro with
    | @lst acc _ ra =>
    have n3 := Next.write n2.at' (k := 1) rfl (od' := .lst (newPs kds ps ++ [.tup [kD ky, ptr q]])) (o' := .lst (acc ++ [y])) (.lst (ra.app (.cons ry .nil)))
    have hil : n < kds.length := (List.getElem?_eq_some_iff.mp hk2).1
    have el : (newPs kds ps).length = n := by unfold newPs; rw [List.length_map, List.length_zip, hps]; omega
    refine ⟨acc, ho, by rw [ra.len, el, sizeLine_eq]; omega, G2, ps ++ [q], by rw [List.length_append, hps]; rfl, ?_, er.mono (n2.trans n3).same⟩
    have e5 : newPs kds (ps ++ [q]) = newPs kds ps ++ [.tup [kD ky, ptr q]] := by
      unfold newPs
      have e6 : kds = kds.take n ++ (ky, dd) :: kds.drop (n + 1) := by
        obtain ⟨hl', he'⟩ := List.getElem?_eq_some_iff.mp hk2
        rw [← he', List.getElem_cons_drop, List.take_append_drop]
      have e7 : (kds.zip (ps ++ [q])) = kds.zip ps ++ [((ky, dd), q)] := by
        conv => lhs; rw [e6]
        rw [List.zip_append (by rw [List.length_take, hps]; omega)]
        have e8 : kds.zip ps = (kds.take n).zip ps := by
          conv => lhs; rw [← List.take_append_drop n kds, ← List.append_nil ps]
          rw [List.zip_append (by rw [List.length_take, hps]; omega)]
          simp
        rw [e8, List.zip_cons_cons, List.zip_nil_right]
      rw [e7, List.map_append]; rfl
    rw [e5]
    refine ((n1.trans n2).trans n3).permR ?_
    show ((q, OD.lst []) :: (L, OD.lst (newPs kds ps ++ [.tup [kD ky, ptr q]])) :: (newOs ps ++ O)).Perm ((L, OD.lst (newPs kds ps ++ [.tup [kD ky, ptr q]])) :: (newOs (ps ++ [q]) ++ O))
    refine (List.Perm.swap ..).trans (List.Perm.cons _ ?_)
    unfold newOs
    rw [List.map_append, List.append_assoc]
    exact (List.perm_middle (l₁ := ps.map fun p => (p, OD.lst [])) (l₂ := O) (a := (q, OD.lst []))).symm
  · obtain ⟨hr', n', hp'⟩ := out n1
    exact ⟨hp', q _ (ptr L) _ _ _ n' (.val _) (k L ps (by rw [hps, hkl]))⟩
/-! a dict of lists is let go -/
theorem RpK.swap {k : Key} {p : Addr} {O1 : HO} {od : OD} (ro : RpO K G O1 od) (hp : G p = some O1) : ∀ {front : List (Key × Dt)} {back : List (Key × Dt)} {vs : List (Key × V)}, RpK K G vs (front ++ (k, ptr p) :: back) → RpK K G vs (front ++ (k, od.dt) :: back)
  | [], back, _, .cons a r => by
    cases a
    exact .cons (Rp.of_own ro hp) r
  | (k', d') :: front, back, _, .cons a r => .cons a (r.swap ro hp)
theorem frz_step {pd p : Addr} {k : Key} {od : OD} {front back : List (Key × Dt)} {A : OL} (at' : At K m G ((pd, .dic (front ++ (k, ptr p) :: back)) :: (p, od) :: A) H) :
    ∃ G', Next K m G ((pd, .dic (front ++ (k, ptr p) :: back)) :: (p, od) :: A) H G' ((pd, .dic (front ++ (k, od.dt) :: back)) :: A) H := by
  obtain ⟨o, ho, ro, n⟩ := Next.freeze at' (k := 1) rfl
  have n2 := Next.redesc (od' := .dic (front ++ (k, od.dt) :: back)) n.at' (fun o2 r2 => by
    cases r2 with
    | dic r2 => exact .dic (r2.swap (ro.mono n.same) upd_same))
  exact ⟨_, n.trans n2⟩
theorem frz_all {pd : Addr} {A : OL} : ∀ (xs : List (Key × Addr × OD)) (front : List (Key × Dt)) (G : Hp), At K m G ((pd, .dic (front ++ xs.map fun x => (x.1, ptr x.2.1))) :: ((xs.map fun x => (x.2.1, x.2.2)) ++ A)) H →
    ∃ G', Next K m G ((pd, .dic (front ++ xs.map fun x => (x.1, ptr x.2.1))) :: ((xs.map fun x => (x.2.1, x.2.2)) ++ A)) H G' ((pd, .dic (front ++ xs.map fun x => (x.1, x.2.2.dt))) :: A) H
  | [], front, G, at' => ⟨G, Next.refl at'⟩
  | (k, p, od) :: xs, front, G, at' => by
    obtain ⟨G1, n1⟩ := frz_step (front := front) (back := xs.map fun x => (x.1, ptr x.2.1)) (A := (xs.map fun x => (x.2.1, x.2.2)) ++ A) (pd := pd) (p := p) (k := k) (od := od) at'
    have n1' : Next K m G ((pd, .dic (front ++ ((k, p, od) :: xs).map fun x => (x.1, ptr x.2.1))) :: ((((k, p, od) :: xs).map fun x => (x.2.1, x.2.2)) ++ A)) H G1 ((pd, .dic ((front ++ [(k, od.dt)]) ++ xs.map fun x => (x.1, ptr x.2.1))) :: ((xs.map fun x => (x.2.1, x.2.2)) ++ A)) H := by
      rw [List.append_assoc]; exact n1
    obtain ⟨G2, n2⟩ := frz_all xs (front ++ [(k, od.dt)]) G1 n1'.at'
    have e3 : (front ++ [(k, od.dt)]) ++ (xs.map fun x => (x.1, x.2.2.dt)) = front ++ ((k, p, od) :: xs).map fun x => (x.1, x.2.2.dt) := by
      rw [List.append_assoc]; rfl
    have n3 := n1'.trans n2
    rw [e3] at n3
    exact ⟨G2, n3⟩
theorem SE.frzAll {pd : Addr} {A : OL} {xs : List (Key × Addr × OD)} (h : SE K m E t env ((pd, .dic (xs.map fun x => (x.1, x.2.2.dt))) :: A) D) : SE K m E t env ((pd, .dic (xs.map fun x => (x.1, ptr x.2.1))) :: ((xs.map fun x => (x.2.1, x.2.2)) ++ A)) D := fun σ G H D' e at' s => by
  obtain ⟨G', n⟩ := frz_all xs [] G at'
  exact h σ G' H D' (e.mono n.same) n.at' (s.next n)
theorem fold_put : ∀ (xs ys : List (Key × Dt)), ((ys ++ xs).map (·.1)).Nodup → xs.foldl (fun acc kv => putE acc kv.1 kv.2) ys = ys ++ xs
  | [], ys, _ => (List.append_nil ys).symm
  | x :: xs, ys, nd => by
    have e : putE ys x.1 x.2 = ys ++ [x] := by
      unfold putE
      rw [if_neg]
      rw [Bool.not_eq_true, List.any_eq_false]
      intro y hy
      rw [decide_eq_true_eq]
      intro z
      rw [List.map_append] at nd
      exact (List.nodup_append.mp nd).2.2 y.1 (List.mem_map.mpr ⟨y, hy, rfl⟩) x.1 (List.mem_map.mpr ⟨x, List.mem_cons_self, rfl⟩) z
    rw [List.foldl_cons, e, fold_put xs (ys ++ [x]) (by rw [List.append_assoc]; exact nd), List.append_assoc]; rfl
end
end DL
namespace DL
open PySem L2
theorem XE.e0 {K : PySem.W.Frag} {m : List Addr} {E E' : XK} {te : TE} {env : Env} {O : OL} {Φ : Dt → OL → Prop} {Ψ : Addr → OL → Prop} (h : XE K m E' te env O Φ (fun _ _ => False)) : XE K m E te env O Φ Ψ := fun σ G H Q e at' q _ => h σ G H Q e at' q fun _ _ _ _ _ f => f.elim
end DL

/-! DL12: texts put together and taken apart. -/
namespace DL
open PySem L2
theorem cps_app (a b : Str) : (a ++ b).cps.toList = a.cps.toList ++ b.cps.toList := by
  show (a.cps ++ b.cps).toList = _
  rw [Array.toList_append]
theorem sep_inj {c : Nat} : ∀ {x y r s : List Nat}, c ∉ x → c ∉ y → x ++ c :: r = y ++ c :: s → x = y ∧ r = s
  | [], [], _, _, _, _, h => ⟨rfl, (List.cons.inj h).2⟩
  | [], b :: y, _, _, _, hy, h => absurd (by rw [← (List.cons.inj h).1]; exact List.mem_cons_self) hy
  | a :: x, [], _, _, hx, _, h => absurd (by rw [(List.cons.inj h).1]; exact List.mem_cons_self) hx
  | a :: x, b :: y, r, s, hx, hy, h => by
    obtain ⟨h1, h2⟩ := List.cons.inj h
    obtain ⟨h3, h4⟩ := sep_inj (fun z => hx (List.mem_cons_of_mem _ z)) (fun z => hy (List.mem_cons_of_mem _ z)) h2
    exact ⟨by rw [h1, h3], h4⟩
theorem join2 (s x y : Str) (r : List Str) : (Str.join s (x :: y :: r)).cps.toList = x.cps.toList ++ (s.cps.toList ++ (Str.join s (y :: r)).cps.toList) := by
  show (x ++ s ++ Str.join s (y :: r)).cps.toList = _
  rw [cps_app, cps_app, List.append_assoc]
theorem join_inj {c : Nat} : ∀ {xs ys : List Str}, xs ≠ [] → ys ≠ [] → (∀ x ∈ xs, c ∉ x.cps.toList) → (∀ y ∈ ys, c ∉ y.cps.toList) → Str.join ⟨#[c]⟩ xs = Str.join ⟨#[c]⟩ ys → xs = ys
  | [], _, h, _, _, _, _ => absurd rfl h
  | _, [], _, h, _, _, _ => absurd rfl h
  | [x], [y], _, _, _, _, h => by
    have h' : x = y := h
    rw [h']
  | [x], y :: y2 :: r, _, _, hx, _, h => by
    have h' : x = Str.join ⟨#[c]⟩ (y :: y2 :: r) := h
    refine absurd ?_ (hx x List.mem_cons_self)
    rw [h', join2]
    simp
  | x :: x2 :: r, [y], _, _, _, hy, h => by
    have h' : Str.join ⟨#[c]⟩ (x :: x2 :: r) = y := h
    refine absurd ?_ (hy y List.mem_cons_self)
    rw [← h', join2]
    simp
  | x :: x2 :: r, y :: y2 :: q, _, _, hx, hy, h => by
    have h1 := congrArg (fun z : Str => z.cps.toList) h
    simp only [join2] at h1
    obtain ⟨h2, h3⟩ := sep_inj (hx x List.mem_cons_self) (hy y List.mem_cons_self) h1
    have h4 := join_inj (xs := x2 :: r) (ys := y2 :: q) (by simp) (by simp) (fun z hz => hx z (List.mem_cons_of_mem _ hz)) (fun z hz => hy z (List.mem_cons_of_mem _ hz)) (str_ext h3)
    rw [str_ext h2, h4]
theorem split_ne (x y : Str) : Txt.split x y ≠ [] := by
  unfold Txt.split
  split
  · simp
  · split
    · simp
    · intro h
      have := congrArg List.length h
      rw [length_partsBetween] at this
      simp at this
theorem split_join {c : Nat} {xs : List Str} (h : xs ≠ []) (hf : ∀ x ∈ xs, c ∉ x.cps.toList) : Txt.split (Str.join ⟨#[c]⟩ xs) ⟨#[c]⟩ = xs :=
  join_inj (split_ne _ _) h (StrLaws.split_free _ _) hf (StrLaws.join_split _ _)
theorem join_txt (s : Str) (xs : List Str) : Txt.join s xs = Str.join s xs := StrLaws.glued_eq_join s xs
theorem ends_app (x : Str) (c : Nat) : Txt.endswith (x ++ ⟨#[c]⟩) ⟨#[c]⟩ = true := by
  unfold Txt.endswith
  have hl : (x ++ (⟨#[c]⟩ : Str)).length = x.length + 1 := by rw [Str.length_append]; rfl
  have h1 : (⟨#[c]⟩ : Str).length = 1 := rfl
  rw [hl, h1, Bool.and_eq_true]
  refine ⟨by rw [decide_eq_true_eq]; omega, ?_⟩
  rw [StrLaws.subAt_eq, cps_app]
  have e : x.length + 1 - 1 = x.cps.toList.length := by rw [Array.length_toList]; rfl
  rw [e, List.drop_left]
  exact beq_self_eq_true _
theorem cut_last (x : Str) (c : Nat) : cutS (x ++ ⟨#[c]⟩) none (some (-1)) = x := by
  refine str_ext ?_
  unfold cutS
  have hl : (x ++ (⟨#[c]⟩ : Str)).length = x.length + 1 := by rw [Str.length_append]; rfl
  have e1 : HT.sIx (x.length + 1) (x.length + 1) (some (-1)) = x.cps.toList.length := by
    show (if (-1 : Int) < 0 then ((-1 : Int) + ((x.length + 1 : Nat) : Int)).toNat else min (-1 : Int).toNat (x.length + 1)) = _
    rw [if_pos (by decide), Array.length_toList]
    show _ = x.length
    omega
  rw [hl, e1, show HT.sIx (x.length + 1) 0 none = 0 from rfl, List.drop_zero, Nat.sub_zero, cps_app, List.take_left]
theorem cutD_from (xs : List Dt) (n : Nat) (h : n ≤ xs.length) : cutD xs (some (n : Int)) none = xs.drop n := by
  unfold cutD
  rw [HT.sIx_nat, show HT.sIx xs.length xs.length none = xs.length from rfl, Nat.min_eq_left h]
  rw [List.take_of_length_le (by rw [List.length_drop]; omega)]
theorem srt_id {xs : List Str} (h : xs.Pairwise fun a b => leS b a = false) : srtS xs = xs := by
  unfold srtS
  refine List.mergeSort_of_pairwise (h.imp fun {a b} q => ?_)
  have := leS_total a b
  rw [q, Bool.or_false] at this
  exact this
theorem shaped_strs {xs : List Str} (h : ∀ x ∈ xs, PyData.strOk x = true) : SeqAt.shaped (toPy (.lst (xs.map Dt.str))) = true := by
  have h1 : (toPys (xs.map Dt.str)) = xs.map PyData.str := toPys_strs xs
  unfold toPy
  rw [h1]
  unfold SeqAt.shaped
  rw [Bool.and_eq_true]
  constructor
  · unfold PyData.canLay0
    clear h1
    induction xs with
    | nil => simp [PyData.canLayAll0]
    | cons x xs ih =>
      rw [List.map_cons]
      unfold PyData.canLayAll0
      rw [Bool.and_eq_true]
      refine ⟨?_, ih fun y hy => h y (List.mem_cons_of_mem _ hy)⟩
      unfold PyData.canLay0
      exact h x List.mem_cons_self
  · rw [decide_eq_true_eq]
    unfold PyData.depth
    have : PyData.depthAll (xs.map PyData.str) = 0 := by
      clear h1 h
      induction xs with
      | nil => simp [PyData.depthAll]
      | cons x xs ih =>
        rw [List.map_cons]
        unfold PyData.depthAll
        rw [ih]
        simp [PyData.depth]
    rw [this]; decide
end DL
namespace DL
open PySem L2
section
variable {K : PySem.W.Frag} {m : List Addr} {E : XK} {env : Env} {O O2 : OL} {G H : Hp} {te ta tb tc td ty : TE} {t u : TS} {tt : TT} {a b c d e : Dt} {g : TG} {D : EndsD} {vs : List Nat}
theorem dps_of (h : Sub G H) : ∀ {vs : List V} {ds : List Dt}, Rps K G vs ds → isPys ds = true → DpAll K H vs (toPys ds)
  | _, _, .nil, _ => by unfold toPys; exact .nil
  | _, _, .cons r rs, hp => by
    unfold isPys at hp
    rw [Bool.and_eq_true] at hp
    unfold toPys
    exact .cons (dp_of h r hp.1) (dps_of h rs hp.2)
/-- repr of a list, owned or not -/
theorem ca_reprL {ds : List Dt} (ha : AsL O d ds) (hp : isPy (.lst ds) = true) (h1 : (toPy (.lst ds)).showable = true) (h2 : (toPy (.lst ds)).hasDict = false) (h3 : (toPy (.lst ds)).depth < 60) (h4 : (toPy (.lst ds)).shown.length ≤ sizeLine) : CaV K m (rRepr K) [d] O (.str (toPy (.lst ds)).shown) := .of0 fun G H vs Q at' rs q => by
  obtain ⟨v, rfl, r⟩ := rs.one
  obtain ⟨p, ws, rfl, s, r2⟩ := ha.get at' r
  refine ⟨_, toPy (.lst ds), rfl, ?_, h1, h2, h3, h4, q _ (.str _)⟩
  have hp' : isPys ds = true := by unfold isPy at hp; exact hp
  have := dps_of (H := H) at'.sub r2 hp'
  unfold toPy
  exact .lst s this
/-- an owned object is let go that a frozen list holds first -/
theorem SE.frzHd {i : Nat} {p : Addr} {od : OD} {r : List Dt} (hk : O[0]? = some (p, od)) (hi : env[i]? = some (some (.lst (ptr p :: r)))) (h : SE K m E t (env.set i (some (.lst (od.dt :: r)))) (O.eraseIdx 0) D) : SE K m E t env O D := fun σ G H D' e a s => by
  obtain ⟨o, ho, ro, n⟩ := Next.freeze a hk
  refine h σ _ H D' ⟨e.len.trans (List.length_set ..).symm, fun j d q => ?_⟩ n.at' (s.next n)
  by_cases hj : i = j
  · subst hj
    have hl : i < env.length := (List.getElem?_eq_some_iff.mp hi).1
    rw [List.getElem?_set_self hl] at q
    cases q
    obtain ⟨v, h1, h2⟩ := e.get i _ hi
    refine ⟨v, h1, ?_⟩
    have h3 := h2.mono n.same
    cases h3 with
    | lst sq rs =>
      cases rs with
      | cons r1 r2 =>
        cases r1
        exact .lst sq (.cons (Rp.of_own (ro.mono n.same) upd_same) r2)
  · rw [List.getElem?_set_ne hj] at q
    obtain ⟨v, h1, h2⟩ := e.get j d q
    exact ⟨v, h1, h2.mono n.same⟩
/-- not e, where e may do more -/
theorem xt_notB {Φ : Bool → OL → Prop} {Ψ : Addr → OL → Prop} (h : XE K m E te env O (fun d O' => ∃ b, d = .bl b ∧ Φ (!b) O') Ψ) : XT K m E (tNot (tB te)) env O Φ Ψ := fun σ G H Q e a q x =>
  h σ G H _ e a (fun v d G' O' H' n r ⟨b, e1, f⟩ => by
    subst e1
    cases r
    exact ⟨b, rfl, q (!b) G' O' H' n f⟩) x
end
theorem textFrom_le (b : Nat) : ∀ (ts : List Str) (k : Nat) (acc : Str), (∀ t ∈ ts, t.length ≤ b) → (textFrom k acc ts).length ≤ acc.length + (b + 2) * ts.length
  | [], k, acc, _ => Nat.le_refl _
  | t :: r, k, acc, h => by
    unfold textFrom
    refine Nat.le_trans (textFrom_le b r _ _ fun x hx => h x (List.mem_cons_of_mem _ hx)) ?_
    have h1 := h t List.mem_cons_self
    have h2 : (", " : Str).length = 2 := by decide +kernel
    have h3 : ("" : Str).length = 0 := by decide +kernel
    rw [List.length_cons, Nat.mul_succ]
    split <;> simp only [Str.length_append, h2, h3] <;> omega
theorem listText_le (b : Nat) (ts : List Str) (h : ∀ t ∈ ts, t.length ≤ b) : (listText ts).length ≤ (b + 2) * ts.length + 2 := by
  unfold listText
  have h1 := textFrom_le b ts 0 "[" h
  have h2 : ("[" : Str).length = 1 := by decide +kernel
  have h3 : ("]" : Str).length = 1 := by decide +kernel
  rw [Str.length_append, h3]
  omega
/-- signs that need no more than four bytes -/
def LowC (x : Str) : Prop := ∀ c ∈ x.cps.toList, c < 128
theorem reprText_low {x : Str} (h : LowC x) : (reprText x).length ≤ 10 * x.length + 2 := StrLaws.reprText_len x fun c hc => by have := h c hc; omega
theorem shownAll_strs : ∀ xs : List Str, PyData.shownAll (xs.map PyData.str) = xs.map reprText
  | [] => by simp [PyData.shownAll]
  | x :: xs => by
    rw [List.map_cons, List.map_cons]
    unfold PyData.shownAll
    rw [shownAll_strs xs]
    unfold PyData.shown
    rfl
theorem toPy_strs (xs : List Str) : toPy (.lst (xs.map Dt.str)) = .list (xs.map PyData.str) := by unfold toPy; rw [toPys_strs]
theorem toPy_strsT (xs : List Str) : toPy (.tup (xs.map Dt.str)) = .tuple (xs.map PyData.str) := by unfold toPy; rw [toPys_strs]
theorem show_strs {xs : List Str} (h : ∀ x ∈ xs, LowC x ∧ x.length ≤ 1000) (hl : xs.length ≤ 1000) : (toPy (.lst (xs.map Dt.str))).showable = true ∧ (toPy (.lst (xs.map Dt.str))).hasDict = false ∧ (toPy (.lst (xs.map Dt.str))).depth < 60 ∧ (toPy (.lst (xs.map Dt.str))).shown.length ≤ sizeLine := by
  rw [toPy_strs]
  have h1 : PyData.showableAll (xs.map PyData.str) = true := by
    clear h hl
    induction xs with
    | nil => simp [PyData.showableAll]
    | cons x xs ih => rw [List.map_cons]; unfold PyData.showableAll; rw [ih]; simp [PyData.showable]
  have h2 : PyData.hasDictAll (xs.map PyData.str) = false := by
    clear h hl h1
    induction xs with
    | nil => simp [PyData.hasDictAll]
    | cons x xs ih => rw [List.map_cons]; unfold PyData.hasDictAll; rw [ih]; simp [PyData.hasDict]
  have h3 : PyData.depthAll (xs.map PyData.str) = 0 := by
    clear h hl h1 h2
    induction xs with
    | nil => simp [PyData.depthAll]
    | cons x xs ih => rw [List.map_cons]; unfold PyData.depthAll; rw [ih]; simp [PyData.depth]
  refine ⟨by unfold PyData.showable; exact h1, by unfold PyData.hasDict; exact h2, by unfold PyData.depth; rw [h3]; decide, ?_⟩
  unfold PyData.shown
  rw [shownAll_strs]
  have h4 := listText_le 10002 (xs.map reprText) (fun t ht => by
    obtain ⟨x, hx, rfl⟩ := List.mem_map.mp ht
    have h5 := reprText_low (h x hx).1
    have h6 := (h x hx).2
    omega)
  rw [List.length_map] at h4
  rw [sizeLine_eq]
  omega
theorem show_strsT {xs : List Str} (h : ∀ x ∈ xs, LowC x ∧ x.length ≤ 1000) (hl : xs.length ≤ 100) : (toPy (.tup (xs.map Dt.str))).showable = true ∧ (toPy (.tup (xs.map Dt.str))).hasDict = false ∧ (toPy (.tup (xs.map Dt.str))).depth < 60 ∧ (toPy (.tup (xs.map Dt.str))).shown.length ≤ sizeLine := by
  obtain ⟨q1, q2, q3, q4⟩ := show_strs h (Nat.le_trans hl (by decide))
  rw [toPy_strs] at q1 q2 q3 q4
  rw [toPy_strsT]
  refine ⟨by unfold PyData.showable at q1 ⊢; exact q1, by unfold PyData.hasDict at q2 ⊢; exact q2, by unfold PyData.depth at q3 ⊢; exact q3, ?_⟩
  unfold PyData.shown
  rw [shownAll_strs]
  unfold tupleText
  have h1 := StrLaws.join_length_le ", " (xs.map reprText)
  have h2 : (", " : Str).length = 2 := by decide +kernel
  have h3 : ("(" : Str).length = 1 := by decide +kernel
  have h4 : (if (xs.map reprText).length == 1 then ",)" else ")" : String) = ",)" ∨ (if (xs.map reprText).length == 1 then ",)" else ")" : String) = ")" := by split <;> simp
  have h5 : ((if (xs.map reprText).length == 1 then ",)" else ")" : String) : Str).length ≤ 2 := by
    rcases h4 with h4 | h4 <;> rw [h4] <;> decide +kernel
  have h6 : ((xs.map reprText).map (·.length)).sum ≤ 10002 * xs.length := by
    clear q1 q2 q3 q4 h1 h4 h5 hl
    induction xs with
    | nil => simp
    | cons x xs ih =>
      rw [List.map_cons, List.map_cons, List.sum_cons, List.length_cons, Nat.mul_succ]
      have := ih fun y hy => h y (List.mem_cons_of_mem _ hy)
      have h7 := reprText_low (h x List.mem_cons_self).1
      have h8 := (h x List.mem_cons_self).2
      omega
  rw [List.length_map, h2] at h1
  rw [Str.length_append, Str.length_append, h3, sizeLine_eq]
  omega
theorem show_str {x : Str} (h : LowC x) (hl : x.length ≤ 100000) : (toPy (.str x)).showable = true ∧ (toPy (.str x)).hasDict = false ∧ (toPy (.str x)).depth < 60 ∧ (toPy (.str x)).shown.length ≤ sizeLine := by
  unfold toPy
  refine ⟨by simp [PyData.showable], by simp [PyData.hasDict], by simp [PyData.depth], ?_⟩
  unfold PyData.shown
  have := reprText_low h
  rw [sizeLine_eq]; omega
end DL

/-! DLE: the end for a law whose defs want no repr around them. -/
namespace DL
open PySem PySem.Spec PyProof.Rows L2
abbrev listObj (vs : List Value) : Obj := { cls := .type "list", data := .seq vs.toArray }
section
variable {P : Program} {w : World} {K : PySem.W.Frag} {mg mb : Str → Option Value} {k : Nat} {fa a : Addr} {fd : FuncData} {x : Str} {sp : Sp} {t : Shared} {vs : List Value} {ns : List Int}
/-- what the rest of the heap is, the script's list hidden or not -/
theorem mod_hid {H : Hp} (inK : K.In t.heap) (nsG : t.heap.Ns mainGlobals mg) (nsB : t.heap.Ns builtinsNs mb) (blt : ∀ y : Str, y ≠ "__name__" → mb y = bootBuiltins y) (nol : t.heap.NoLimit)
    (obj : t.heap.get? a = some (listObj vs)) (one : ∀ b, H b ≠ none → b = a) (notK : H a ≠ none → K.lookup a = none) : Mod K mg (hidT t.heap H) := by
  have free : ∀ {b : Addr} {o : Obj} {es : Array DictEntry} {ep : Nat}, t.heap.get? b = some o → o.data = .dict es ep → H b = none := by
    intro b o es ep hb hd
    by_cases z : H b = none
    · exact z
    · rw [one b z, obj] at hb
      cases hb
      cases hd
  have ns : ∀ {b : Addr} {f : Str → Option Value}, t.heap.Ns b f → (hidT t.heap H).Ns b f := by
    rintro b f ⟨o, es, ep, h1, h2, h3⟩
    exact ⟨o, es, ep, hidT_get h1 (free h1 h2), h2, h3⟩
  obtain ⟨mc, n1, n2⟩ := nol
  refine ⟨fun b o hb => ?_, ns nsG, ⟨mb, ns nsB, blt⟩, mc, ns n1, n2⟩
  refine hidT_get (inK b o hb) ?_
  by_cases z : H b = none
  · exact z
  · have e := one b z
    subst e
    rw [notK z] at hb
    cases hb
theorem run_end {H : Hp} (inK : K.In t.heap) (nsG : t.heap.Ns mainGlobals mg) (nsB : t.heap.Ns builtinsNs mb) (blt : ∀ y : Str, y ≠ "__name__" → mb y = bootBuiltins y) (nol : t.heap.NoLimit) (gn : t.gens = #[])
    (obj : t.heap.get? a = some (listObj vs)) (room : Room k callerA) (F : ∀ base : Heap, K.In base → base.Ns mainGlobals mg → FnG P w K mg base CX0 k fa fd [x] sp) (bind : ∀ (s : Shared) (u : Value), BindsTo s fd ⟨[u], []⟩ [(x, u)])
    (hsp : sp [.ref a] H (fun v _ => v = .bl true) E0) (only : Only H) (hok : HOk P w H t.heap) (one : ∀ b, H b ≠ none → b = a) (notK : H a ≠ none → K.lookup a = none) :
    codeAny (model P w) callerA (.call (.ref fa) ⟨[.ref a], []⟩) (fun r s' => (r = .ok (.ret (.bool true)) ∧ OldK t.heap s'.heap) ∧ s'.os = t.os ∧ AllBare s'.gens) t := by
  have M := mod_hid (vs := vs) inK nsG nsB blt nol obj one notK
  have noF : ∀ b ∈ ([] : List Addr), H b = none := fun _ h => nomatch h
  have env : Env0 P w K mg (hidT t.heap H) callerA [] t H :=
    { frames := rfl, mod := M, bs := fun b o h => of_hidT h, bsz := by rw [hidT_size]; exact Nat.le_refl _, funs := trivial, frf := noF, hok := hok, bare := AllBare.of_eq gn }
  have go := (F (hidT t.heap H) M.kin M.glob).run callerA [] t H ⟨[.ref a], []⟩ [.ref a] [.ref a] _ _ room rfl env (bind t (.ref a)) (.cons rfl .nil) hsp
  refine codeAny_mono go ?_
  rintro (e | fl) s' out
  · exact (out : False).elim
  · cases fl with
    | ret u =>
      obtain ⟨v, H', o1, o2, un, hok2, rel, e⟩ := out
      have e : v = .bl true := e
      subst e
      have e2 : u = Value.bool true := rel
      subst e2
      refine ⟨⟨rfl, OldK.of_keep fun b o hb => ?_⟩, o1, o2⟩
      rcases only b with z | ⟨ob, xs, z⟩
      · exact un.keep b o hb z (fun h => nomatch h) (fun h => nomatch h)
      · have old := (hok b _ z).1
        have new := (hok2 b _ (un.frzs b ob _ z)).1
        rw [hb] at old
        cases old
        exact new
    | next => exact (out : False).elim
    | brk => exact (out : False).elim
    | cont => exact (out : False).elim
/-- the law's def, called with the script -/
theorem call_end (inK : K.In t.heap) (nsG : t.heap.Ns mainGlobals mg) (nsB : t.heap.Ns builtinsNs mb) (blt : ∀ y : Str, y ≠ "__name__" → mb y = bootBuiltins y) (nol : t.heap.NoLimit) (gn : t.gens = #[])
    (obj : t.heap.get? a = some (listObj vs)) (itn : IntsAre vs ns) (short : ns.length ≤ sizeLine) (room : Room k callerA) (F : ∀ base : Heap, K.In base → base.Ns mainGlobals mg → FnG P w K mg base CX0 k fa fd [x] sp) (bind : ∀ (s : Shared) (u : Value), BindsTo s fd ⟨[u], []⟩ [(x, u)])
    (hsp : ∀ H : Hp, Only H → SqL K H a (ns.map V.int) → sp [.ref a] H (fun v _ => v = .bl true) E0) :
    codeAny (model P w) callerA (.call (.ref fa) ⟨[.ref a], []⟩) (fun r s' => (r = .ok (.ret (.bool true)) ∧ OldK t.heap s'.heap) ∧ s'.os = t.os ∧ AllBare s'.gens) t := by
  have vals := vals_ints itn
  have size : vs.toArray.size ≤ sizeLine := by rw [List.size_toArray, itn.length]; exact short
  by_cases hk : K.lookup a = none
  · let H : Hp := fun b => if b = a then some (.frz (listObj vs) (.lst (ns.map V.int))) else none
    have here : H a = some (.frz (listObj vs) (.lst (ns.map V.int))) := if_pos rfl
    have else_ : ∀ b, b ≠ a → H b = none := fun b hb => if_neg hb
    have only : Only H := fun b => by
      by_cases hb : b = a
      · exact .inr ⟨_, _, hb ▸ here⟩
      · exact .inl (else_ b hb)
    refine run_end (H := H) inK nsG nsB blt nol gn obj room F bind (hsp H only (.inl (.inr ⟨_, here⟩))) only (fun b u hb => ?_) (fun b hb => ?_) (fun _ => hk)
    · by_cases e : b = a
      · subst e
        rw [here] at hb
        cases hb
        exact ⟨obj, by rw [List.length_map]; exact short, vs, 0, vals, obj⟩
      · rw [else_ b e] at hb; cases hb
    · by_cases e : b = a
      · exact e
      · exact absurd (else_ b e) hb
  · obtain ⟨o, ho⟩ : ∃ o, K.lookup a = some o := by
      cases q : K.lookup a with
      | none => exact absurd q hk
      | some o => exact ⟨o, rfl⟩
    have same := inK a o ho
    rw [obj] at same
    cases same
    have only : Only fun _ => none := fun _ => .inl rfl
    refine run_end (H := fun _ => none) inK nsG nsB blt nol gn obj room F bind (hsp _ only (.inr ⟨_, vs.toArray, _, ho, rfl, rfl, rfl, size, vals⟩)) only (fun b u hb => ?_) (fun b hb => absurd rfl hb) (fun hb => absurd rfl hb)
    cases hb
end
/-- the goal that the head leaves, from the promise of the law's def -/
theorem walkG {l : PySem.W.OpenLaw} {n k : Nat} {q : Program} {loose : List Str} {XP : (Str → Option Value) → Heap → Prop} {YP : World → Heap → Prop} {d : DefRec} {K : Params → PySem.W.Frag} {sp : PySem.W.Frag → Sp} {x : Str}
    (most : l.most = some n) (small : n ≤ sizeLine) (plain : d.params.defaults = []) (room : Room k callerA) (inY : ∀ (w : World) (h : Heap), YP w h → (K w.params).In h)
    (F : ∀ (w : World) (mg : Str → Option Value) (fa : Addr) (h : Heap), (K w.params).In h → h.Ns mainGlobals mg → mg d.name = some (.ref fa) → ∃ fd : FuncData, (∀ (s : Shared) (u : Value), BindsTo s fd ⟨[u], []⟩ [(x, u)]) ∧
        ∀ base : Heap, (K w.params).In base → base.Ns mainGlobals mg → FnG l.prog w (K w.params) mg base CX0 k fa fd [x] (sp (K w.params)))
    (hsp : ∀ (K : PySem.W.Frag) (H : Hp) (a : Addr) (ns : List Int), ns.length ≤ n → Only H → SqL K H a (ns.map V.int) → sp K [.ref a] H (fun v _ => v = .bl true) E0) :
    PySem.W.WalkO q loose XP YP l.row.toRowW d [] (fun f vs => PySem.call f vs) :=
  Att.attach_call most plain fun w _ t mg mb fa _ _ _ _ a vs ns G Y _ _ _ hmg obj itn len gn => by
    have kin := inY w _ Y
    obtain ⟨fd, bind, ok⟩ := F w mg fa _ kin G.T.g hmg
    refine codeAny_mono (call_end kin G.T.g G.T.b G.T.builtins G.T.nolimit gn obj itn (Nat.le_trans len small) room ok bind fun H only sq => hsp _ H a ns len only sq) fun r s' h => ?_
    exact ⟨h.1.1, h.1.2, h.2.1, h.2.2⟩
/-- only frozen lists: all that is known of the heap at the law's beginning -/
theorem at_only {K : PySem.W.Frag} {H : Hp} {a : Addr} {ns : List Int} (only : Only H) (sq : SqL K H a (ns.map V.int)) : ∃ G, At K [] G [] H ∧ Rps K G [.ref a] [.lst (ns.map Dt.int)] := by
  refine ⟨H, ⟨Same.refl H, fun p od h => (nomatch h), List.Pairwise.nil, fun b o u hb hl => ?_⟩, .cons (.lst sq (rps_of_ints ns)) .nil⟩
  rcases only b with z | ⟨_, _, z⟩
  · rw [z] at hb; cases hb
  · rw [z] at hb; cases hb
    rcases hl with ⟨_, e⟩ | ⟨_, e⟩ <;> cases e
end DL

namespace K61
open PySem PySem.Spec PyProof.Rows L2 DL
def topS (i : Nat) : Stmt := PySem.Challenge.pw_everwalk_k61_worlds_told.main.body.getD i (.Pass ⟨0, 0, 0, 0⟩)
abbrev s_kept_words : Stmt := topS 9
abbrev n_kept_words : List Str := ["words"]
theorem sc_kept_words : FnScope n_kept_words [] (defScope s_kept_words) := ⟨rfl, rfl, rfl, by decide +kernel, rfl, by decide +kernel, by decide +kernel⟩
abbrev s_is_mark : Stmt := topS 10
abbrev n_is_mark : List Str := ["thing", "sign"]
theorem sc_is_mark : FnScope n_is_mark ["thing"] (defScope s_is_mark) := ⟨rfl, rfl, rfl, by decide +kernel, rfl, by decide +kernel, by decide +kernel⟩
abbrev s_is_moment : Stmt := topS 11
abbrev n_is_moment : List Str := ["thing", "k"]
theorem sc_is_moment : FnScope n_is_moment ["thing"] (defScope s_is_moment) := ⟨rfl, rfl, rfl, by decide +kernel, rfl, by decide +kernel, by decide +kernel⟩
abbrev s_is_pair : Stmt := topS 15
abbrev n_is_pair : List Str := ["thing"]
theorem sc_is_pair : FnScope n_is_pair ["thing"] (defScope s_is_pair) := ⟨rfl, rfl, rfl, by decide +kernel, rfl, by decide +kernel, by decide +kernel⟩
abbrev s_placed : Stmt := topS 16
abbrev n_placed : List Str := ["states", "found", "one"]
theorem sc_placed : FnScope n_placed ["states"] (defScope s_placed) := ⟨rfl, rfl, rfl, by decide +kernel, rfl, by decide +kernel, by decide +kernel⟩
abbrev s_stepped : Stmt := topS 17
abbrev n_stepped : List Str := ["marks_at", "steps", "found", "one", "behind", "place"]
theorem sc_stepped : FnScope n_stepped ["marks_at", "steps"] (defScope s_stepped) := ⟨rfl, rfl, rfl, by decide +kernel, rfl, by decide +kernel, by decide +kernel⟩
abbrev s_need_starts : Stmt := topS 18
abbrev n_need_starts : List Str := ["marks_at", "starts", "found", "one"]
theorem sc_need_starts : FnScope n_need_starts ["marks_at", "starts"] (defScope s_need_starts) := ⟨rfl, rfl, rfl, by decide +kernel, rfl, by decide +kernel, by decide +kernel⟩
abbrev s_World_init : Stmt := inClass (topS 19) 0
abbrev n_World_init : List Str := ["self", "states", "steps", "starts"]
theorem sc_World_init : FnScope n_World_init ["self", "states", "steps", "starts"] (defScope s_World_init) := ⟨rfl, rfl, rfl, by decide +kernel, rfl, by decide +kernel, by decide +kernel⟩
abbrev s_World_need : Stmt := inClass (topS 19) 1
abbrev n_World_need : List Str := ["self", "place"]
theorem sc_World_need : FnScope n_World_need ["self", "place"] (defScope s_World_need) := ⟨rfl, rfl, rfl, by decide +kernel, rfl, by decide +kernel, by decide +kernel⟩
abbrev s_World_places : Stmt := inClass (topS 19) 2
abbrev n_World_places : List Str := ["self"]
theorem sc_World_places : FnScope n_World_places ["self"] (defScope s_World_places) := ⟨rfl, rfl, rfl, by decide +kernel, rfl, by decide +kernel, by decide +kernel⟩
abbrev s_World_moment_of : Stmt := inClass (topS 19) 3
abbrev n_World_moment_of : List Str := ["self", "place"]
theorem sc_World_moment_of : FnScope n_World_moment_of ["self", "place"] (defScope s_World_moment_of) := ⟨rfl, rfl, rfl, by decide +kernel, rfl, by decide +kernel, by decide +kernel⟩
abbrev s_World_nexts : Stmt := inClass (topS 19) 4
abbrev n_World_nexts : List Str := ["self", "place"]
theorem sc_World_nexts : FnScope n_World_nexts ["self", "place"] (defScope s_World_nexts) := ⟨rfl, rfl, rfl, by decide +kernel, rfl, by decide +kernel, by decide +kernel⟩
abbrev s_World_begins : Stmt := inClass (topS 19) 5
abbrev n_World_begins : List Str := ["self"]
theorem sc_World_begins : FnScope n_World_begins ["self"] (defScope s_World_begins) := ⟨rfl, rfl, rfl, by decide +kernel, rfl, by decide +kernel, by decide +kernel⟩
abbrev s_World_written : Stmt := inClass (topS 19) 6
abbrev n_World_written : List Str := ["self", "text", "place", "moment", "one", "other"]
theorem sc_World_written : FnScope n_World_written ["self"] (defScope s_World_written) := ⟨rfl, rfl, rfl, by decide +kernel, rfl, by decide +kernel, by decide +kernel⟩
abbrev s_state_of : Stmt := topS 20
abbrev n_state_of : List Str := ["words"]
theorem sc_state_of : FnScope n_state_of ["words"] (defScope s_state_of) := ⟨rfl, rfl, rfl, by decide +kernel, rfl, by decide +kernel, by decide +kernel⟩
abbrev s_read_world : Stmt := topS 21
abbrev n_read_world : List Str := ["text", "states", "steps", "starts", "line", "words", "word"]
theorem sc_read_world : FnScope n_read_world ["text"] (defScope s_read_world) := ⟨rfl, rfl, rfl, by decide +kernel, rfl, by decide +kernel, by decide +kernel⟩
abbrev s__law_draws : Stmt := topS 23
abbrev n__law_draws : List Str := ["_law_script", "_law_many", "_law_found", "_law_more", "_law_k", "_law_cell", "_law_mixed"]
theorem sc__law_draws : FnScope n__law_draws ["_law_script", "_law_many"] (defScope s__law_draws) := ⟨rfl, rfl, rfl, by decide +kernel, rfl, by decide +kernel, by decide +kernel⟩
abbrev s__law_mark_by : Stmt := topS 24
abbrev n__law_mark_by : List Str := ["_law_shape", "_law_k", "_law_letters", "_law_place", "_law_mark", "_law_turn", "_law_kept"]
theorem sc__law_mark_by : FnScope n__law_mark_by ["_law_shape", "_law_k"] (defScope s__law_mark_by) := ⟨rfl, rfl, rfl, by decide +kernel, rfl, by decide +kernel, by decide +kernel⟩
abbrev s__law_moment : Stmt := topS 25
abbrev n__law_moment : List Str := ["_law_marks", "_law_draw", "_law_bits", "_law_k"]
theorem sc__law_moment : FnScope n__law_moment ["_law_marks", "_law_draw"] (defScope s__law_moment) := ⟨rfl, rfl, rfl, by decide +kernel, rfl, by decide +kernel, by decide +kernel⟩
abbrev s__law_world : Stmt := topS 26
abbrev n__law_world : List Str := ["_law_draws_here", "_law_marks", "_law_most", "_law_many", "_law_places", "_law_states", "_law_steps", "_law_k", "_law_starts", "_law_draw", "_law_j"]
theorem sc__law_world : FnScope n__law_world ["_law_draws_here", "_law_marks", "_law_most"] (defScope s__law_world) := ⟨rfl, rfl, rfl, by decide +kernel, rfl, by decide +kernel, by decide +kernel⟩
abbrev s__law_text : Stmt := topS 27
abbrev n__law_text : List Str := ["_law_parts", "_law_text_here", "_law_place", "_law_moment_here", "_law_one", "_law_other", "_law_mark"]
theorem sc__law_text : FnScope n__law_text ["_law_parts"] (defScope s__law_text) := ⟨rfl, rfl, rfl, by decide +kernel, rfl, by decide +kernel, by decide +kernel⟩
abbrev s__law_looked : Stmt := topS 28
abbrev n__law_looked : List Str := ["_law_world_here", "_law_parts", "_law_look", "_law_draw", "_law_place", "_law_one", "_law_step"]
theorem sc__law_looked : FnScope n__law_looked ["_law_world_here", "_law_parts", "_law_look", "_law_draw"] (defScope s__law_looked) := ⟨rfl, rfl, rfl, by decide +kernel, rfl, by decide +kernel, by decide +kernel⟩
abbrev s__law_stands : Stmt := topS 29
abbrev n__law_stands : List Str := ["_law_world_here", "_law_parts", "_law_draw", "_law_held", "_law_turn", "_law_pair"]
theorem sc__law_stands : FnScope n__law_stands ["_law_world_here", "_law_parts", "_law_draw", "_law_held"] (defScope s__law_stands) := ⟨rfl, rfl, rfl, by decide +kernel, rfl, by decide +kernel, by decide +kernel⟩
abbrev s__law_right_by : Stmt := topS 30
abbrev n__law_right_by : List Str := ["_law_script", "_law_draws_here", "_law_marks", "_law_parts", "_law_other", "_law_handed", "_law_worlds", "_law_one", "_law_held", "_law_k", "_law_at", "_law_told", "_law_kept"]
theorem sc__law_right_by : FnScope n__law_right_by ["_law_script"] (defScope s__law_right_by) := ⟨rfl, rfl, rfl, by decide +kernel, rfl, by decide +kernel, by decide +kernel⟩
abbrev s_law : Stmt := topS 31
abbrev n_law : List Str := ["_law_script", "_law_some"]
theorem sc_law : FnScope n_law ["_law_script"] (defScope s_law) := ⟨rfl, rfl, rfl, by decide +kernel, rfl, by decide +kernel, by decide +kernel⟩
abbrev v_SMALL : V := .str "abcdefghijklmnopqrstuvwxyz"
abbrev v_FIGURES : V := .str "0123456789"
abbrev v_MOST_SIGNS : V := .int 8
abbrev v_MOST_MARKS : V := .int 12
abbrev v_MOST_PLACES : V := .int 8
abbrev v_MOST_STEPS : V := .int 3
abbrev lv_kept_words : Nat := 1
abbrev rm_kept_words : Nat := 0
abbrev lv_is_mark : Nat := 2
abbrev rm_is_mark : Nat := 1
abbrev lv_is_moment : Nat := 3
abbrev rm_is_moment : Nat := 2
abbrev lv_is_pair : Nat := 1
abbrev rm_is_pair : Nat := 0
abbrev lv_placed : Nat := 4
abbrev rm_placed : Nat := 3
abbrev lv_stepped : Nat := 3
abbrev rm_stepped : Nat := 2
abbrev lv_need_starts : Nat := 3
abbrev rm_need_starts : Nat := 2
abbrev lv_World_init : Nat := 5
abbrev rm_World_init : Nat := 4
abbrev lv_World_need : Nat := 3
abbrev rm_World_need : Nat := 2
abbrev lv_World_places : Nat := 1
abbrev rm_World_places : Nat := 0
abbrev lv_World_moment_of : Nat := 4
abbrev rm_World_moment_of : Nat := 3
abbrev lv_World_nexts : Nat := 4
abbrev rm_World_nexts : Nat := 3
abbrev lv_World_begins : Nat := 1
abbrev rm_World_begins : Nat := 0
abbrev lv_World_written : Nat := 1
abbrev rm_World_written : Nat := 0
abbrev lv_state_of : Nat := 1
abbrev rm_state_of : Nat := 0
abbrev lv_read_world : Nat := 7
abbrev rm_read_world : Nat := 6
abbrev lv__law_draws : Nat := 1
abbrev rm__law_draws : Nat := 0
abbrev lv__law_mark_by : Nat := 1
abbrev rm__law_mark_by : Nat := 0
abbrev lv__law_moment : Nat := 1
abbrev rm__law_moment : Nat := 0
abbrev lv__law_world : Nat := 2
abbrev rm__law_world : Nat := 1
abbrev lv__law_text : Nat := 1
abbrev rm__law_text : Nat := 0
abbrev lv__law_looked : Nat := 5
abbrev rm__law_looked : Nat := 4
abbrev lv__law_stands : Nat := 6
abbrev rm__law_stands : Nat := 5
abbrev lv__law_right_by : Nat := 8
abbrev rm__law_right_by : Nat := 7
abbrev lv_law : Nat := 9
abbrev rm_law : Nat := 8
structure Tx (K : PySem.W.Frag) (mg : Str → Option Value) where
  World_a : Addr
  World_g : mg "World" = some (.ref World_a)
  World_cl : Cls K World_a
  World_n_marks_at : NoAttr K World_a "marks_at"
  World_n_behind : NoAttr K World_a "behind"
  World_n_ways : NoAttr K World_a "ways"
  World_n_firsts : NoAttr K World_a "firsts"
  SMALL_t : Tok
  c_SMALL : mg "SMALL" = some (.str "abcdefghijklmnopqrstuvwxyz" SMALL_t)
  FIGURES_t : Tok
  c_FIGURES : mg "FIGURES" = some (.str "0123456789" FIGURES_t)
  MOST_SIGNS_t : Tok
  c_MOST_SIGNS : mg "MOST_SIGNS" = some (.int 8 MOST_SIGNS_t)
  MOST_MARKS_t : Tok
  c_MOST_MARKS : mg "MOST_MARKS" = some (.int 12 MOST_MARKS_t)
  MOST_PLACES_t : Tok
  c_MOST_PLACES : mg "MOST_PLACES" = some (.int 8 MOST_PLACES_t)
  MOST_STEPS_t : Tok
  c_MOST_STEPS : mg "MOST_STEPS" = some (.int 3 MOST_STEPS_t)
  kept_words_a : Addr
  kept_words_d : FuncData
  kept_words_F : Fun K "kept_words" "kept_words" s_kept_words kept_words_a kept_words_d
  kept_words_b : Binds K kept_words_d [] []
  kept_words_g : mg "kept_words" = some (.ref kept_words_a)
  is_mark_a : Addr
  is_mark_d : FuncData
  is_mark_F : Fun K "is_mark" "is_mark" s_is_mark is_mark_a is_mark_d
  is_mark_b : Binds K is_mark_d ["thing"] []
  is_mark_g : mg "is_mark" = some (.ref is_mark_a)
  is_moment_a : Addr
  is_moment_d : FuncData
  is_moment_F : Fun K "is_moment" "is_moment" s_is_moment is_moment_a is_moment_d
  is_moment_b : Binds K is_moment_d ["thing"] []
  is_moment_g : mg "is_moment" = some (.ref is_moment_a)
  is_pair_a : Addr
  is_pair_d : FuncData
  is_pair_F : Fun K "is_pair" "is_pair" s_is_pair is_pair_a is_pair_d
  is_pair_b : Binds K is_pair_d ["thing"] []
  is_pair_g : mg "is_pair" = some (.ref is_pair_a)
  placed_a : Addr
  placed_d : FuncData
  placed_F : Fun K "placed" "placed" s_placed placed_a placed_d
  placed_b : Binds K placed_d ["states"] []
  placed_g : mg "placed" = some (.ref placed_a)
  stepped_a : Addr
  stepped_d : FuncData
  stepped_F : Fun K "stepped" "stepped" s_stepped stepped_a stepped_d
  stepped_b : Binds K stepped_d ["marks_at", "steps"] []
  stepped_g : mg "stepped" = some (.ref stepped_a)
  need_starts_a : Addr
  need_starts_d : FuncData
  need_starts_F : Fun K "need_starts" "need_starts" s_need_starts need_starts_a need_starts_d
  need_starts_b : Binds K need_starts_d ["marks_at", "starts"] []
  need_starts_g : mg "need_starts" = some (.ref need_starts_a)
  World_init_a : Addr
  World_init_d : FuncData
  World_init_F : Fun K "__init__" "World.__init__" s_World_init World_init_a World_init_d
  World_init_b : Binds K World_init_d ["self", "states", "steps", "starts"] []
  World_mk : Mk K World_a World_init_a
  World_need_a : Addr
  World_need_d : FuncData
  World_need_F : Fun K "need" "World.need" s_World_need World_need_a World_need_d
  World_need_b : Binds K World_need_d ["self", "place"] []
  World_need_m : Meth K World_a "need" World_need_a
  World_places_a : Addr
  World_places_d : FuncData
  World_places_F : Fun K "places" "World.places" s_World_places World_places_a World_places_d
  World_places_b : Binds K World_places_d ["self"] []
  World_places_m : Meth K World_a "places" World_places_a
  World_moment_of_a : Addr
  World_moment_of_d : FuncData
  World_moment_of_F : Fun K "moment_of" "World.moment_of" s_World_moment_of World_moment_of_a World_moment_of_d
  World_moment_of_b : Binds K World_moment_of_d ["self", "place"] []
  World_moment_of_m : Meth K World_a "moment_of" World_moment_of_a
  World_nexts_a : Addr
  World_nexts_d : FuncData
  World_nexts_F : Fun K "nexts" "World.nexts" s_World_nexts World_nexts_a World_nexts_d
  World_nexts_b : Binds K World_nexts_d ["self", "place"] []
  World_nexts_m : Meth K World_a "nexts" World_nexts_a
  World_begins_a : Addr
  World_begins_d : FuncData
  World_begins_F : Fun K "begins" "World.begins" s_World_begins World_begins_a World_begins_d
  World_begins_b : Binds K World_begins_d ["self"] []
  World_begins_m : Meth K World_a "begins" World_begins_a
  World_written_a : Addr
  World_written_d : FuncData
  World_written_F : Fun K "written" "World.written" s_World_written World_written_a World_written_d
  World_written_b : Binds K World_written_d ["self"] []
  World_written_m : Meth K World_a "written" World_written_a
  state_of_a : Addr
  state_of_d : FuncData
  state_of_F : Fun K "state_of" "state_of" s_state_of state_of_a state_of_d
  state_of_b : Binds K state_of_d ["words"] []
  state_of_g : mg "state_of" = some (.ref state_of_a)
  read_world_a : Addr
  read_world_d : FuncData
  read_world_F : Fun K "read_world" "read_world" s_read_world read_world_a read_world_d
  read_world_b : Binds K read_world_d ["text"] []
  read_world_g : mg "read_world" = some (.ref read_world_a)
  _law_draws_a : Addr
  _law_draws_d : FuncData
  _law_draws_F : Fun K "_law_draws" "_law_draws" s__law_draws _law_draws_a _law_draws_d
  _law_draws_b : Binds K _law_draws_d ["_law_script", "_law_many"] []
  _law_draws_g : mg "_law_draws" = some (.ref _law_draws_a)
  _law_mark_by_a : Addr
  _law_mark_by_d : FuncData
  _law_mark_by_F : Fun K "_law_mark_by" "_law_mark_by" s__law_mark_by _law_mark_by_a _law_mark_by_d
  _law_mark_by_b : Binds K _law_mark_by_d ["_law_shape", "_law_k"] []
  _law_mark_by_g : mg "_law_mark_by" = some (.ref _law_mark_by_a)
  _law_moment_a : Addr
  _law_moment_d : FuncData
  _law_moment_F : Fun K "_law_moment" "_law_moment" s__law_moment _law_moment_a _law_moment_d
  _law_moment_b : Binds K _law_moment_d ["_law_marks", "_law_draw"] []
  _law_moment_g : mg "_law_moment" = some (.ref _law_moment_a)
  _law_world_a : Addr
  _law_world_d : FuncData
  _law_world_F : Fun K "_law_world" "_law_world" s__law_world _law_world_a _law_world_d
  _law_world_b : Binds K _law_world_d ["_law_draws_here", "_law_marks", "_law_most"] []
  _law_world_g : mg "_law_world" = some (.ref _law_world_a)
  _law_text_a : Addr
  _law_text_d : FuncData
  _law_text_F : Fun K "_law_text" "_law_text" s__law_text _law_text_a _law_text_d
  _law_text_b : Binds K _law_text_d ["_law_parts"] []
  _law_text_g : mg "_law_text" = some (.ref _law_text_a)
  _law_looked_a : Addr
  _law_looked_d : FuncData
  _law_looked_F : Fun K "_law_looked" "_law_looked" s__law_looked _law_looked_a _law_looked_d
  _law_looked_b : Binds K _law_looked_d ["_law_world_here", "_law_parts", "_law_look", "_law_draw"] []
  _law_looked_g : mg "_law_looked" = some (.ref _law_looked_a)
  _law_stands_a : Addr
  _law_stands_d : FuncData
  _law_stands_F : Fun K "_law_stands" "_law_stands" s__law_stands _law_stands_a _law_stands_d
  _law_stands_b : Binds K _law_stands_d ["_law_world_here", "_law_parts", "_law_draw", "_law_held"] []
  _law_stands_g : mg "_law_stands" = some (.ref _law_stands_a)
  _law_right_by_a : Addr
  _law_right_by_d : FuncData
  _law_right_by_F : Fun K "_law_right_by" "_law_right_by" s__law_right_by _law_right_by_a _law_right_by_d
  _law_right_by_b : Binds K _law_right_by_d ["_law_script"] []
  _law_right_by_g : mg "_law_right_by" = some (.ref _law_right_by_a)
  law_a : Addr
  law_d : FuncData
  law_F : Fun K "law" "law" s_law law_a law_d
  law_b : Binds K law_d ["_law_script"] []
  law_g : mg "law" = some (.ref law_a)
  z_len : mg "len" = none
  z_range : mg "range" = none
  z_isinstance : mg "isinstance" = none
  z_list : mg "list" = none
  z_tuple : mg "tuple" = none
  z_sorted : mg "sorted" = none
  z_min : mg "min" = none
  z_all : mg "all" = none
  z_str : mg "str" = none
  z_dict : mg "dict" = none
  z_repr : mg "repr" = none
end K61

namespace K61
open PySem PySem.Spec PyProof.Rows L2 DL
/-! what the world is, in plain data -/
abbrev Pl := List (Str × List Str)
abbrev Wy := List (Str × Str)
abbrev dStrs (xs : List Str) : List Dt := xs.map Dt.str
abbrev dInts (ns : List Int) : List Dt := ns.map Dt.int
def stD (ps : Pl) : List Dt := ps.map fun x => .tup [.str x.1, .tup (dStrs x.2)]
def wsD (ws : Wy) : List Dt := ws.map fun x => .tup [.str x.1, .str x.2]
def mkD (ps : Pl) : List (Key × Dt) := ps.map fun x => (.inr x.1, .tup (dStrs x.2))
def nxs (ws : Wy) (a : Str) : List Str := (ws.filter fun w => decide (w.1 = a)).map (·.2)
def bhD (ps : Pl) (ws : Wy) : List (Key × Dt) := ps.map fun x => (.inr x.1, .lst (dStrs (nxs ws x.1)))
def fdD (ps : Pl) (ws : Wy) (fs : List Str) : List (Str × Dt) := [("marks_at", .dic (mkD ps)), ("behind", .dic (bhD ps ws)), ("ways", .lst (wsD ws)), ("firsts", .lst (dStrs fs))]
def wD (C : Addr) (ps : Pl) (ws : Wy) (fs : List Str) : Dt := .ins C (fdD ps ws fs)
def ptD (ps : Pl) (ws : Wy) (fs : List Str) : Dt := .lst [.lst (stD ps), .lst (wsD ws), .lst (dStrs fs)]
def smallT : Str := "abcdefghijklmnopqrstuvwxyz"
def figT : Str := "0123456789"
def keptT : Str := "yes no not and or then until since frees held next before early soon ever once sofar again settles"
def keptL : List Str := Txt.split keptT " "
def markB (x : Str) : Bool := !(!(decide ((1 : Int) ≤ x.length) && decide ((x.length : Int) ≤ 8)) || !decide (x.cps.toList.headD 0 ∈ smallT.cps.toList)) &&
  (x.cps.toList.all (fun c => decide (c ∈ smallT.cps.toList) || decide (c ∈ figT.cps.toList)) && !decide (x ∈ keptL))
/-- a moment: marks, rising -/
def Mom (xs : List Str) : Prop := xs.length ≤ 12 ∧ (∀ x ∈ xs, markB x = true) ∧ xs.Pairwise fun a b => leS b a = false
structure GoodP (ps : Pl) : Prop where
  nd : (ps.map (·.1)).Nodup
  len : 1 ≤ ps.length ∧ ps.length ≤ 8
  mks : ∀ x ∈ ps, markB x.1 = true ∧ Mom x.2
structure GoodW (ps : Pl) (ws : Wy) : Prop where
  nd : ws.Nodup
  mem : ∀ w ∈ ws, w.1 ∈ ps.map (·.1) ∧ w.2 ∈ ps.map (·.1)
  len : ∀ x ∈ ps, 1 ≤ (nxs ws x.1).length ∧ (nxs ws x.1).length ≤ 3
  tot : ws.length ≤ 24
structure GoodF (ps : Pl) (fs : List Str) : Prop where
  nd : fs.Nodup
  ne : 1 ≤ fs.length ∧ fs.length ≤ 8
  mem : ∀ f ∈ fs, f ∈ ps.map (·.1)
structure GoodAll (ps : Pl) (ws : Wy) (fs : List Str) : Prop where
  p : GoodP ps
  w : GoodW ps ws
  f : GoodF ps fs
/-! its text -/
def cat : List Str → Str
  | [] => ""
  | x :: xs => x ++ cat xs
def stT (x : Str × List Str) : Str := "state " ++ x.1 ++ ":" ++ cat (x.2.map fun m => " " ++ m) ++ "\n"
def wyT (x : Str × Str) : Str := "step " ++ x.1 ++ " " ++ x.2 ++ "\n"
def fsT (x : Str) : Str := "start " ++ x ++ "\n"
def textOf (ps : Pl) (ws : Wy) (fs : List Str) : Str := cat (ps.map stT) ++ (cat (ws.map wyT) ++ cat (fs.map fsT))
/-! the law's own -/
def mix (x : Int) : Int := (x * x + 16807 * x) % 2147483629
def drawsL (ns : List Int) : Nat → Int × List Int
  | 0 => (7, [])
  | k + 1 =>
    let p := drawsL ns k
    let more := (p.1 * 48271 + ns.getD (k % ns.length) 0 + k + 1) % 2147483647
    (more, p.2 ++ [mix (mix more)])
def letT : Str := "abcdefghijklmnopqrstuvwxyz"
def let1 (i : Nat) : Str := ⟨#[97 + i % 26]⟩
def mkLoop (s k : Nat) : Nat → Str
  | 0 => ""
  | t + 1 => mkLoop s k t ++ (if t = s / 4 % 7 then let1 (s / 224 + k) else let1 (s / 7 + t * (1 + s % 5)))
def mkBy (s k : Nat) : Str :=
  if s % 4 = 0 then repS (let1 (s / 4)) (1 + k) else
  let x := mkLoop s k (s / 4 % 7 + 1 + s / 28 % (8 - s / 4 % 7))
  if x ∈ keptL then cutS x none (some 7) ++ "0" else x
def pick (ms : List Str) (dr : Nat) : List Str := ((List.range ms.length).filter fun i => decide (dr / 2 ^ i % 2 = 1)).map fun i => ms.getD i ""
/-! promises -/
section
variable {K : PySem.W.Frag} {mg : Str → Option Value} (T : Tx K mg)
def p_kept_words : PreT := preV0 fun ds d => ds = [] ∧ d = .lst (dStrs keptL)
def p_is_mark : PreT := preV0 fun ds d => ∃ x : Str, ds = [.str x] ∧ x.length ≤ 1000 ∧ d = .bl (markB x)
def p_is_moment : PreT := preV0 fun ds d => ∃ xs, ds = [.tup (dStrs xs)] ∧ Mom xs ∧ d = .bl true
def p_is_pair : PreT := preV0 fun ds d => ∃ x y, ds = [.tup [x, y]] ∧ d = .bl true
def p_placed : PreT := fun m ds A Φ _ => m = [] ∧ ∃ d ps, ds = [d] ∧ AsL A d (stD ps) ∧ GoodP ps ∧ Φ (.dic (mkD ps)) A
def p_stepped : PreT := fun m ds A Φ _ => m = [] ∧ ∃ d ps ws, ds = [.dic (mkD ps), d] ∧ AsL A d (wsD ws) ∧ GoodP ps ∧ GoodW ps ws ∧ Φ (.dic (bhD ps ws)) A
def p_need_starts : PreT := fun m ds A Φ _ => m = [] ∧ ∃ d ps fs, ds = [.dic (mkD ps), d] ∧ AsL A d (dStrs fs) ∧ GoodP ps ∧ GoodF ps fs ∧ Φ .non A
def p_World_init : PreT := fun m ds A Φ _ => m = [] ∧ ∃ x d1 d2 d3 ps ws fs A', ds = [ptr x, d1, d2, d3] ∧ A = (x, .ins T.World_a []) :: A' ∧ AsL A' d1 (stD ps) ∧ AsL A' d2 (wsD ws) ∧ AsL A' d3 (dStrs fs) ∧ GoodAll ps ws fs ∧ Φ .non ((x, .ins T.World_a (fdD ps ws fs)) :: A')
def p_World_need : PreT := preV0 fun ds d => ∃ ps ws fs a, ds = [wD T.World_a ps ws fs, .str a] ∧ GoodP ps ∧ a ∈ ps.map (·.1) ∧ d = .non
def p_World_places : PreT := preL0 fun ds rs => ∃ ps ws fs, ds = [wD T.World_a ps ws fs] ∧ rs = dStrs (ps.map (·.1))
def p_World_moment_of : PreT := preV0 fun ds d => ∃ ps ws fs x, ds = [wD T.World_a ps ws fs, .str x.1] ∧ GoodP ps ∧ x ∈ ps ∧ d = .tup (dStrs x.2)
def p_World_nexts : PreT := preL0 fun ds rs => ∃ ps ws fs x, ds = [wD T.World_a ps ws fs, .str x.1] ∧ GoodP ps ∧ x ∈ ps ∧ rs = dStrs (nxs ws x.1)
def p_World_begins : PreT := preL0 fun ds rs => ∃ ps ws fs, ds = [wD T.World_a ps ws fs] ∧ rs = dStrs fs
def p_World_written : PreT := preV0 fun ds d => ∃ ps ws fs, ds = [wD T.World_a ps ws fs] ∧ GoodAll ps ws fs ∧ d = .str (textOf ps ws fs)
def p_state_of : PreT := preV0 fun ds d => ∃ x : Str × List Str, ds = [.lst (dStrs ("state" :: (x.1 ++ ":") :: x.2))] ∧ x.1.length ≤ 8 ∧ Mom x.2 ∧ d = .tup [.str x.1, .tup (dStrs x.2)]
def p_read_world : PreT := fun m ds A Φ _ => m = [] ∧ ∃ ps ws fs, ds = [.str (textOf ps ws fs)] ∧ A = [] ∧ GoodAll ps ws fs ∧ Φ (wD T.World_a ps ws fs) []
def p__law_draws : PreT := preV0 fun ds d => ∃ ns n, ds = [.lst (dInts ns), .int n] ∧ 0 ≤ n ∧ n ≤ 1000 ∧ d = .lst (dInts (drawsL ns n.toNat).2)
def p__law_mark_by : PreT := preV0 fun ds d => ∃ s k : Nat, ds = [.int s, .int k] ∧ s < 4294967296 ∧ k ≤ 7 ∧ d = .str (mkBy s k)
def p__law_moment : PreT := preV0 fun ds d => ∃ (ms : List Str) (dr : Nat), ds = [.lst (dStrs ms), .int dr] ∧ ms.length ≤ 12 ∧ d = .tup (dStrs (srtS (pick ms dr)))
/-- the draws: whole numbers that aren't big -/
def Draws (dd : List Int) : Prop := ∀ x ∈ dd, 0 ≤ x ∧ x < 2147483629
/-- marks drawn: different ones -/
def Marks (ms : List Str) : Prop := ms.Nodup ∧ ms.length ≤ 4 ∧ ∀ x ∈ ms, markB x = true
def p__law_world : PreT := fun m ds A Φ _ => m = [] ∧ A = [] ∧ ∃ dd ms, ds = [.lst (dInts dd), .lst (dStrs ms), .int 8] ∧ 20 ≤ dd.length ∧ Draws dd ∧ Marks ms ∧ ∀ ps ws fs, GoodAll ps ws fs → Φ (ptD ps ws fs) []
def p__law_text : PreT := preV0 fun ds d => ∃ ps ws fs, ds = [ptD ps ws fs] ∧ GoodAll ps ws fs ∧ d = .str (textOf ps ws fs)
/-- lists of texts that can be shown -/
def Few (xs : List Str) : Prop := xs.length ≤ 24 ∧ ∀ x ∈ xs, LowC x ∧ x.length ≤ 8
def p__law_looked : PreT := fun m ds A Φ _ => m = [] ∧ A = [] ∧ ∃ ps ws fs look dr, ds = [wD T.World_a ps ws fs, ptD ps ws fs, .int look, .int dr] ∧ GoodAll ps ws fs ∧ 0 ≤ look ∧ look < 5 ∧ 0 ≤ dr ∧
  (∀ p xs, Few xs → Φ (.lst [ptr p, .lst (dStrs xs)]) [(p, .lst (dStrs xs))]) ∧ (∀ xs, Few xs → Φ (.lst [.tup (dStrs xs), .tup (dStrs xs)]) []) ∧ (∀ x : Str, LowC x → x.length ≤ 10000 → Φ (.lst [.str x, .str x]) [])
/-- a list told, and what repr told of it -/
def HeldOk (d : Dt) : Prop := ∃ xs : List Str, xs.length ≤ 25 ∧ (∀ x ∈ xs, LowC x ∧ x.length ≤ 8) ∧ d = .tup [.lst (dStrs xs), .str (toPy (.lst (dStrs xs))).shown]
def p__law_stands : PreT := fun m ds A Φ _ => m = [] ∧ ∃ ps ws fs dr p hs, ds = [wD T.World_a ps ws fs, ptD ps ws fs, .int dr, ptr p] ∧ A = [(p, .lst hs)] ∧ GoodAll ps ws fs ∧ 0 ≤ dr ∧ dr < 4294967296 ∧ hs.length ≤ 1000 ∧ (∀ d ∈ hs, HeldOk d) ∧
  ∀ hs', hs'.length ≤ hs.length + 7 → (∀ d ∈ hs', HeldOk d) → Φ (.bl true) [(p, .lst hs')]
def p__law_right_by : PreT := preV0 fun ds d => ∃ ns : List Int, ds = [.lst (dInts ns)] ∧ d = .bl true
def p_law : PreT := preV0 fun ds d => ∃ ns : List Int, ds = [.lst (dInts ns)] ∧ ns.length ≤ 64 ∧ d = .bl true
end
abbrev sp_kept_words {K : PySem.W.Frag} {mg : Str → Option Value} (T : Tx K mg) : Sp := spO K (p_kept_words)
abbrev sp_is_mark {K : PySem.W.Frag} {mg : Str → Option Value} (T : Tx K mg) : Sp := spO K (p_is_mark)
abbrev sp_is_moment {K : PySem.W.Frag} {mg : Str → Option Value} (T : Tx K mg) : Sp := spO K (p_is_moment)
abbrev sp_is_pair {K : PySem.W.Frag} {mg : Str → Option Value} (T : Tx K mg) : Sp := spO K (p_is_pair)
abbrev sp_placed {K : PySem.W.Frag} {mg : Str → Option Value} (T : Tx K mg) : Sp := spO K (p_placed)
abbrev sp_stepped {K : PySem.W.Frag} {mg : Str → Option Value} (T : Tx K mg) : Sp := spO K (p_stepped)
abbrev sp_need_starts {K : PySem.W.Frag} {mg : Str → Option Value} (T : Tx K mg) : Sp := spO K (p_need_starts)
abbrev sp_World_init {K : PySem.W.Frag} {mg : Str → Option Value} (T : Tx K mg) : Sp := spO K (p_World_init T)
abbrev sp_World_need {K : PySem.W.Frag} {mg : Str → Option Value} (T : Tx K mg) : Sp := spO K (p_World_need T)
abbrev sp_World_places {K : PySem.W.Frag} {mg : Str → Option Value} (T : Tx K mg) : Sp := spO K (p_World_places T)
abbrev sp_World_moment_of {K : PySem.W.Frag} {mg : Str → Option Value} (T : Tx K mg) : Sp := spO K (p_World_moment_of T)
abbrev sp_World_nexts {K : PySem.W.Frag} {mg : Str → Option Value} (T : Tx K mg) : Sp := spO K (p_World_nexts T)
abbrev sp_World_begins {K : PySem.W.Frag} {mg : Str → Option Value} (T : Tx K mg) : Sp := spO K (p_World_begins T)
abbrev sp_World_written {K : PySem.W.Frag} {mg : Str → Option Value} (T : Tx K mg) : Sp := spO K (p_World_written T)
abbrev sp_state_of {K : PySem.W.Frag} {mg : Str → Option Value} (T : Tx K mg) : Sp := spO K (p_state_of)
abbrev sp_read_world {K : PySem.W.Frag} {mg : Str → Option Value} (T : Tx K mg) : Sp := spO K (p_read_world T)
abbrev sp__law_draws {K : PySem.W.Frag} {mg : Str → Option Value} (T : Tx K mg) : Sp := spO K (p__law_draws)
abbrev sp__law_mark_by {K : PySem.W.Frag} {mg : Str → Option Value} (T : Tx K mg) : Sp := spO K (p__law_mark_by)
abbrev sp__law_moment {K : PySem.W.Frag} {mg : Str → Option Value} (T : Tx K mg) : Sp := spO K (p__law_moment)
abbrev sp__law_world {K : PySem.W.Frag} {mg : Str → Option Value} (T : Tx K mg) : Sp := spO K (p__law_world)
abbrev sp__law_text {K : PySem.W.Frag} {mg : Str → Option Value} (T : Tx K mg) : Sp := spO K (p__law_text)
abbrev sp__law_looked {K : PySem.W.Frag} {mg : Str → Option Value} (T : Tx K mg) : Sp := spO K (p__law_looked T)
abbrev sp__law_stands {K : PySem.W.Frag} {mg : Str → Option Value} (T : Tx K mg) : Sp := spO K (p__law_stands T)
abbrev sp__law_right_by {K : PySem.W.Frag} {mg : Str → Option Value} (T : Tx K mg) : Sp := spO K (p__law_right_by)
abbrev sp_law {K : PySem.W.Frag} {mg : Str → Option Value} (T : Tx K mg) : Sp := spO K (p_law)
end K61

namespace K61
open PySem PySem.Spec PyProof.Rows L2 DL
section
variable {P : Program} {w : World} {K : PySem.W.Frag} {mg : Str → Option Value} {base : Heap}
def t_kept_words (T : Tx K mg) (E : XK) : TS := (tSeq (tAsg (tC (.str "yes no not and or then until since frees held next before early soon ever once sofar again settles")) (gName 0))
    (tRet (tBM K "str" rSplit (tVar 0) (tCons (tC (.str " ")) tNil))))
set_option maxHeartbeats 4000000 in
theorem w_kept_words (T : Tx K mg)  {cdv : Value} {A : Around} {outer : List PySem.Env} {s : Shared} {H : Hp} {E : XK} (hr : Room rm_kept_words (A.deeper (envOfC "kept_words" (defScope s_kept_words) s.heap.objs.size T.kept_words_a cdv))) :
    PSs (cxOf CX0 P w K mg base n_kept_words "kept_words" (defScope s_kept_words) T.kept_words_a cdv A outer s H E).nox (defBody s_kept_words) (t_kept_words T E) :=
  (pss_cons (ps_set (i := 0) sc_kept_words.nd rfl (Or.inl rfl) pe_str)
      (pss_one (ps_ret (pe_bm PySem.F.plainAttrs_str PySem.F.slot_str_split PySem.F.type_str_split mt_splitD (pv 0) (pa_cons pe_str pa_nil)))))
def t_is_mark (T : Tx K mg) (E : XK) : TS := (tSeq (tIfS (tOr (tNot (tB (tCB (rIsi K) (tCons (tVar 0) (tCons (tC (.ty "str")) tNil))))) (tOr (tNot (tTest (tChain rLeU rLeU (tC (.int 1)) (tCB (rLen K) (tCons (tVar 0) tNil)) (tC v_MOST_SIGNS)))) (tTest (tOp rNotInSign (tOp (rIx K) (tVar 0) (tC (.int 0))) (tC v_SMALL)))))
    (tRet (tC (.bl false)))
    tNext)
    (tRet (tAndV (tCB (rAll K) (tCons (tLc (iStr (tVar 0)) (gName 1) tYes (tOrV (tOp rInSign (tVar 1) (tC v_SMALL)) (tOp rInSign (tVar 1) (tC v_FIGURES))) [1]) tNil)) (tOp (rIn K true) (tVar 0) (tCall (sp_kept_words T) [] E0 tNil)))))
set_option maxHeartbeats 4000000 in
theorem w_is_mark (T : Tx K mg) (h_kept_words : FnOk P w K mg base CX0 lv_kept_words T.kept_words_a T.kept_words_d [] (sp_kept_words T)) {cdv : Value} {A : Around} {outer : List PySem.Env} {s : Shared} {H : Hp} {E : XK} (hr : Room rm_is_mark (A.deeper (envOfC "is_mark" (defScope s_is_mark) s.heap.objs.size T.is_mark_a cdv))) :
    PSs (cxOf CX0 P w K mg base n_is_mark "is_mark" (defScope s_is_mark) T.is_mark_a cdv A outer s H E).nox (defBody s_is_mark) (t_is_mark T E) :=
  (pss_cons (ps_if (PW.pt (pw_or (pt_not (pt_val (pe_callB cb_isi (by rfl) T.z_isinstance (by decide +kernel) (pa_cons (pv 0) (pa_cons (pe_bltn (v := .ty "str") (by rfl) T.z_str (by decide +kernel) rfl) pa_nil))))) (pw_or (pt_not (pt_chain op_leU op_leU pe_int (pe_callB cb_len (by rfl) T.z_len (by decide +kernel) (pa_cons (pv 0) pa_nil)) (pe_glob (by rfl) T.c_MOST_SIGNS (rel_int _ _)))) (pw_or1 (pt_cmpR op_notInSign (pe_ix ix_seq (pv 0) pe_int (fun _ _ => rfl)) (pe_glob (by rfl) T.c_SMALL (rel_str _ _)) rfl)))))
      (pss_one (ps_ret pe_bl))
      pss_nil)
      (pss_one (ps_ret (pe_and (pe_callB (cr_all rfl) (by rfl) T.z_all (by decide +kernel) (pa_cons (pe_lc (own := [("sign", 1)]) (g := (gName 1)) (tt := tYes) rfl sc_is_mark.nd (pi_str (pv 0)) (blkOk_by (own := [("sign", 1)]) (N := n_is_mark) (sc := defScope s_is_mark) (by decide +kernel)) (fun _ _ _ _ _ => (pg_name (i := 1) sc_is_mark.nd rfl (Or.inl rfl))) (fun _ _ _ _ _ => pts_nil) (fun _ _ _ _ _ => (pe_or (pe_cmpR op_inSign (pv 1) (pe_glob (by rfl) T.c_SMALL (rel_str _ _)) rfl) (pe_one (pe_cmpR op_inSign (pv 1) (pe_glob (by rfl) T.c_FIGURES (rel_str _ _)) rfl))))) pa_nil)) (pe_one (pe_cmpR op_notIn_seq (pv 0) (pe_call0 h_kept_words (hr.mono (by decide)) (by rfl) T.kept_words_g T.kept_words_F.kp T.kept_words_b .nil pass0) rfl))))))
def t_is_moment (T : Tx K mg) (E : XK) : TS := (tSeq (tIfS (tOr (tNot (tB (tCB (rIsi K) (tCons (tVar 0) (tCons (tC (.ty "tuple")) tNil))))) (tTest (tOp rGtI (tCB (rLen K) (tCons (tVar 0) tNil)) (tC v_MOST_MARKS))))
    (tRet (tC (.bl false)))
    tNext)
    (tSeq (tFor (iRng1 (tCons (tCB (rLen K) (tCons (tVar 0) tNil)) tNil)) (gName 1)
    (tIfS (tOr (tNot (tB (tCall (sp_is_mark T) [] E0 (tCons (tOp (rIx K) (tVar 0) (tVar 1)) tNil)))) (tAnd (tTest (tOp rGtI (tVar 1) (tC (.int 0)))) (tTest (tOp rLeU (tOp (rIx K) (tVar 0) (tVar 1)) (tOp (rIx K) (tVar 0) (tOp rSubI (tVar 1) (tC (.int 1))))))))
    (tRet (tC (.bl false)))
    tNext))
    (tRet (tC (.bl true)))))
set_option maxHeartbeats 4000000 in
theorem w_is_moment (T : Tx K mg) (h_is_mark : FnOk P w K mg base CX0 lv_is_mark T.is_mark_a T.is_mark_d ["thing"] (sp_is_mark T)) {cdv : Value} {A : Around} {outer : List PySem.Env} {s : Shared} {H : Hp} {E : XK} (hr : Room rm_is_moment (A.deeper (envOfC "is_moment" (defScope s_is_moment) s.heap.objs.size T.is_moment_a cdv))) :
    PSs (cxOf CX0 P w K mg base n_is_moment "is_moment" (defScope s_is_moment) T.is_moment_a cdv A outer s H E).nox (defBody s_is_moment) (t_is_moment T E) :=
  (pss_cons (ps_if (PW.pt (pw_or (pt_not (pt_val (pe_callB cb_isi (by rfl) T.z_isinstance (by decide +kernel) (pa_cons (pv 0) (pa_cons (pe_bltn (v := .ty "tuple") (by rfl) T.z_tuple (by decide +kernel) rfl) pa_nil))))) (pw_or1 (pt_cmpR op_gtD (pe_callB cb_len (by rfl) T.z_len (by decide +kernel) (pa_cons (pv 0) pa_nil)) (pe_glob (by rfl) T.c_MOST_MARKS (rel_int _ _)) (nomark _)))))
      (pss_one (ps_ret pe_bl))
      pss_nil)
      (pss_cons (ps_for PassesOwn.never rfl (pi_range1 (by rfl) T.z_range (pa_cons (pe_callB cb_len (by rfl) T.z_len (by decide +kernel) (pa_cons (pv 0) pa_nil)) pa_nil)) (pg_name (i := 1) sc_is_moment.nd rfl (Or.inl rfl))
      (pss_one (ps_if (PW.pt (pw_or (pt_not (pt_val (pe_call h_is_mark (hr.mono (by decide)) (by rfl) T.is_mark_g T.is_mark_F.kp T.is_mark_b .nil pass0 (pa_cons (pe_ix ix_seq (pv 0) (pv 1) (fun _ _ => rfl)) pa_nil)))) (pw_or1 (PW.pt (pw_and (pt_cmpR op_gtD (pv 1) pe_int (nomark _)) (pw_and1 (pt_cmpR op_leU (pe_ix ix_seq (pv 0) (pv 1) (fun _ _ => rfl)) (pe_ix ix_seq (pv 0) (pe_op op_subD (pv 1) pe_int) (fun _ _ => rfl)) (nomark _))))))))
      (pss_one (ps_ret pe_bl))
      pss_nil)))
      (pss_one (ps_ret pe_bl))))
def t_is_pair (T : Tx K mg) (E : XK) : TS := (tRet (tAndV (tCB (rIsi K) (tCons (tVar 0) (tCons (tC (.ty "tuple")) tNil))) (tOp (rEqU K) (tCB (rLen K) (tCons (tVar 0) tNil)) (tC (.int 2)))))
set_option maxHeartbeats 4000000 in
theorem w_is_pair (T : Tx K mg)  {cdv : Value} {A : Around} {outer : List PySem.Env} {s : Shared} {H : Hp} {E : XK} (hr : Room rm_is_pair (A.deeper (envOfC "is_pair" (defScope s_is_pair) s.heap.objs.size T.is_pair_a cdv))) :
    PSs (cxOf CX0 P w K mg base n_is_pair "is_pair" (defScope s_is_pair) T.is_pair_a cdv A outer s H E).nox (defBody s_is_pair) (t_is_pair T E) :=
  (pss_one (ps_ret (pe_and (pe_callB cb_isi (by rfl) T.z_isinstance (by decide +kernel) (pa_cons (pv 0) (pa_cons (pe_bltn (v := .ty "tuple") (by rfl) T.z_tuple (by decide +kernel) rfl) pa_nil))) (pe_one (pe_cmpR (op_eqU hr.units) (pe_callB cb_len (by rfl) T.z_len (by decide +kernel) (pa_cons (pv 0) pa_nil)) pe_int (nomark _))))))
def t_placed (T : Tx K mg) (E : XK) : TS := (tSeq (tAsg tDNewK (gName 1))
    (tSeq (tFor (iList K (tVar 0)) (gName 2)
    (tSeq (tIfS (tOr (tNot (tB (tCall (sp_is_pair T) [] E0 (tCons (tVar 2) tNil)))) (tOr (tNot (tB (tCall (sp_is_mark T) [] E0 (tCons (tOp (rIx K) (tVar 2) (tC (.int 0))) tNil)))) (tOr (tNot (tB (tCall (sp_is_moment T) [] E0 (tCons (tOp (rIx K) (tVar 2) (tC (.int 1))) tNil)))) (tB (tDIn (tOp (rIx K) (tVar 2) (tC (.int 0))) (tVar 1))))))
    tNever
    tNext)
    (sDPut (tVar 1) (tOp (rIx K) (tVar 2) (tC (.int 0))) (tOp (rIx K) (tVar 2) (tC (.int 1))))))
    (tSeq (tIfS (tNot (tTest (tChain rLeU rLeU (tC (.int 1)) (tCB rLenD (tCons (tVar 1) tNil)) (tC v_MOST_PLACES))))
    tNever
    tNext)
    (tRet (tVar 1)))))
set_option maxHeartbeats 4000000 in
theorem w_placed (T : Tx K mg) (h_is_pair : FnOk P w K mg base CX0 lv_is_pair T.is_pair_a T.is_pair_d ["thing"] (sp_is_pair T)) (h_is_mark : FnOk P w K mg base CX0 lv_is_mark T.is_mark_a T.is_mark_d ["thing"] (sp_is_mark T)) (h_is_moment : FnOk P w K mg base CX0 lv_is_moment T.is_moment_a T.is_moment_d ["thing"] (sp_is_moment T)) {cdv : Value} {A : Around} {outer : List PySem.Env} {s : Shared} {H : Hp} {E : XK} (hr : Room rm_placed (A.deeper (envOfC "placed" (defScope s_placed) s.heap.objs.size T.placed_a cdv))) :
    PSs (cxOf CX0 P w K mg base n_placed "placed" (defScope s_placed) T.placed_a cdv A outer s H E).nox (defBody s_placed) (t_placed T E) :=
  (pss_cons (ps_set (i := 1) sc_placed.nd rfl (Or.inl rfl) pe_dnewK)
      (pss_cons (ps_for PassesOwn.never rfl (pi_list (pv 0)) (pg_name (i := 2) sc_placed.nd rfl (Or.inl rfl))
      (pss_cons (ps_if (PW.pt (pw_or (pt_not (pt_val (pe_call h_is_pair (hr.mono (by decide)) (by rfl) T.is_pair_g T.is_pair_F.kp T.is_pair_b .nil pass0 (pa_cons (pv 2) pa_nil)))) (pw_or (pt_not (pt_val (pe_call h_is_mark (hr.mono (by decide)) (by rfl) T.is_mark_g T.is_mark_F.kp T.is_mark_b .nil pass0 (pa_cons (pe_ix ix_seq (pv 2) pe_int (fun _ _ => rfl)) pa_nil)))) (pw_or (pt_not (pt_val (pe_call h_is_moment (hr.mono (by decide)) (by rfl) T.is_moment_g T.is_moment_F.kp T.is_moment_b .nil pass0 (pa_cons (pe_ix ix_seq (pv 2) pe_int (fun _ _ => rfl)) pa_nil)))) (pw_or1 (pt_cmp (pc_din (hu_of hr) (pe_ix ix_seq (pv 2) pe_int (fun _ _ => rfl)) (pv 1))))))))
      (pss_one ps_never)
      pss_nil)
      (pss_one (ps_dput (hu_of hr) (pv 1) (pe_ix ix_seq (pv 2) pe_int (fun _ _ => rfl)) (pe_ix ix_seq (pv 2) pe_int (fun _ _ => rfl)) rfl))))
      (pss_cons (ps_if (pt_not (pt_chain op_leU op_leU pe_int (pe_callB cb_lenD (by rfl) T.z_len (by decide +kernel) (pa_cons (pv 1) pa_nil)) (pe_glob (by rfl) T.c_MOST_PLACES (rel_int _ _))))
      (pss_one ps_never)
      pss_nil)
      (pss_one (ps_ret (pv 1))))))
def t_stepped (T : Tx K mg) (E : XK) : TS := (tSeq (tAsg (tCB (rDictP K) (tCons (tLockE (tLc (iKeys (tVar 0)) (gName 5) tYes (tTup (tCons (tVar 5) (tCons (tLst tNil) tNil))) [5])) tNil)) (gName 2))
    (tSeq (tFor (iList K (tVar 1)) (gName 3)
    (tSeq (tIfS (tOr (tNot (tB (tCall (sp_is_pair T) [] E0 (tCons (tVar 3) tNil)))) (tOr (tNot (tB (tCall (sp_is_mark T) [] E0 (tCons (tOp (rIx K) (tVar 3) (tC (.int 0))) tNil)))) (tNot (tB (tCall (sp_is_mark T) [] E0 (tCons (tOp (rIx K) (tVar 3) (tC (.int 1))) tNil))))))
    tNever
    tNext)
    (tSeq (tIfS (tOr (tB (tDNotIn (tOp (rIx K) (tVar 3) (tC (.int 0))) (tVar 2))) (tOr (tB (tDNotIn (tOp (rIx K) (tVar 3) (tC (.int 1))) (tVar 2))) (tTest (tOp (rIn K false) (tOp (rIx K) (tVar 3) (tC (.int 1))) (tDGet (tVar 2) (tOp (rIx K) (tVar 3) (tC (.int 0))))))))
    tNever
    tNext)
    (tDrop (tBM K "list" rAppend (tDGet (tVar 2) (tOp (rIx K) (tVar 3) (tC (.int 0)))) (tCons (tOp (rIx K) (tVar 3) (tC (.int 1))) tNil))))))
    (tSeq (tLock (tFor (iVals (tVar 2)) (gName 4)
    (tIfS (tNot (tTest (tChain rLeU rLeU (tC (.int 1)) (tCB (rLen K) (tCons (tVar 4) tNil)) (tC v_MOST_STEPS))))
    tNever
    tNext)))
    (tRet (tVar 2)))))
set_option maxHeartbeats 4000000 in
theorem w_stepped (T : Tx K mg) (h_is_pair : FnOk P w K mg base CX0 lv_is_pair T.is_pair_a T.is_pair_d ["thing"] (sp_is_pair T)) (h_is_mark : FnOk P w K mg base CX0 lv_is_mark T.is_mark_a T.is_mark_d ["thing"] (sp_is_mark T)) {cdv : Value} {A : Around} {outer : List PySem.Env} {s : Shared} {H : Hp} {E : XK} (hr : Room rm_stepped (A.deeper (envOfC "stepped" (defScope s_stepped) s.heap.objs.size T.stepped_a cdv))) :
    PSs (cxOf CX0 P w K mg base n_stepped "stepped" (defScope s_stepped) T.stepped_a cdv A outer s H E).nox (defBody s_stepped) (t_stepped T E) :=
  (pss_cons (ps_set (i := 2) sc_stepped.nd rfl (Or.inl rfl) (pe_callTy (cb_dictP rfl) (by rfl) T.z_dict (by decide +kernel) (pa_cons (pe_lock (pe_lc (own := [("place", 5)]) (g := (gName 5)) (tt := tYes) rfl sc_stepped.nd (pi_keys (pv 0)) (blkOk_by (own := [("place", 5)]) (N := n_stepped) (sc := defScope s_stepped) (by decide +kernel)) (fun _ _ _ _ _ => (pg_name (i := 5) sc_stepped.nd rfl (Or.inl rfl))) (fun _ _ _ _ _ => pts_nil) (fun _ _ _ _ _ => (pe_tup (pa_cons (pv 5) (pa_cons (pe_lst pa_nil) pa_nil)))))) pa_nil)))
      (pss_cons (ps_for PassesOwn.never rfl (pi_list (pv 1)) (pg_name (i := 3) sc_stepped.nd rfl (Or.inl rfl))
      (pss_cons (ps_if (PW.pt (pw_or (pt_not (pt_val (pe_call h_is_pair (hr.mono (by decide)) (by rfl) T.is_pair_g T.is_pair_F.kp T.is_pair_b .nil pass0 (pa_cons (pv 3) pa_nil)))) (pw_or (pt_not (pt_val (pe_call h_is_mark (hr.mono (by decide)) (by rfl) T.is_mark_g T.is_mark_F.kp T.is_mark_b .nil pass0 (pa_cons (pe_ix ix_seq (pv 3) pe_int (fun _ _ => rfl)) pa_nil)))) (pw_or1 (pt_not (pt_val (pe_call h_is_mark (hr.mono (by decide)) (by rfl) T.is_mark_g T.is_mark_F.kp T.is_mark_b .nil pass0 (pa_cons (pe_ix ix_seq (pv 3) pe_int (fun _ _ => rfl)) pa_nil))))))))
      (pss_one ps_never)
      pss_nil)
      (pss_cons (ps_if (PW.pt (pw_or (pt_cmp (pc_dnotin (hu_of hr) (pe_ix ix_seq (pv 3) pe_int (fun _ _ => rfl)) (pv 2))) (pw_or (pt_cmp (pc_dnotin (hu_of hr) (pe_ix ix_seq (pv 3) pe_int (fun _ _ => rfl)) (pv 2))) (pw_or1 (pt_cmpR op_in_seq (pe_ix ix_seq (pv 3) pe_int (fun _ _ => rfl)) (pe_dget (hu_of hr) (pv 2) (pe_ix ix_seq (pv 3) pe_int (fun _ _ => rfl)) (fun _ _ => rfl)) rfl)))))
      (pss_one ps_never)
      pss_nil)
      (pss_one (ps_expr (pe_bm PySem.F.plainAttrs_list PySem.F.slot_list_append PySem.F.type_list_append mt_append (pe_dget (hu_of hr) (pv 2) (pe_ix ix_seq (pv 3) pe_int (fun _ _ => rfl)) (fun _ _ => rfl)) (pa_cons (pe_ix ix_seq (pv 3) pe_int (fun _ _ => rfl)) pa_nil)))))))
      (pss_cons (ps_lock (ps_for PassesOwn.never rfl (pi_values (pv 2)) (pg_name (i := 4) sc_stepped.nd rfl (Or.inl rfl))
      (pss_one (ps_if (pt_not (pt_chain op_leU op_leU pe_int (pe_callB cb_len (by rfl) T.z_len (by decide +kernel) (pa_cons (pv 4) pa_nil)) (pe_glob (by rfl) T.c_MOST_STEPS (rel_int _ _))))
      (pss_one ps_never)
      pss_nil))))
      (pss_one (ps_ret (pv 2))))))
def t_need_starts (T : Tx K mg) (E : XK) : TS := (tSeq (tAsg tDNewK (gName 2))
    (tSeq (tFor (iList K (tVar 1)) (gName 3)
    (tSeq (tIfS (tOr (tNot (tB (tCall (sp_is_mark T) [] E0 (tCons (tVar 3) tNil)))) (tOr (tB (tDNotIn (tVar 3) (tVar 0))) (tB (tDIn (tVar 3) (tVar 2)))))
    tNever
    tNext)
    (sDPut (tVar 2) (tVar 3) (tC (.bl true)))))
    (tIfS (tTest (tOp (rEqU K) (tCB rLenD (tCons (tVar 2) tNil)) (tC (.int 0))))
    tNever
    tNext)))
set_option maxHeartbeats 4000000 in
theorem w_need_starts (T : Tx K mg) (h_is_mark : FnOk P w K mg base CX0 lv_is_mark T.is_mark_a T.is_mark_d ["thing"] (sp_is_mark T)) {cdv : Value} {A : Around} {outer : List PySem.Env} {s : Shared} {H : Hp} {E : XK} (hr : Room rm_need_starts (A.deeper (envOfC "need_starts" (defScope s_need_starts) s.heap.objs.size T.need_starts_a cdv))) :
    PSs (cxOf CX0 P w K mg base n_need_starts "need_starts" (defScope s_need_starts) T.need_starts_a cdv A outer s H E).nox (defBody s_need_starts) (t_need_starts T E) :=
  (pss_cons (ps_set (i := 2) sc_need_starts.nd rfl (Or.inl rfl) pe_dnewK)
      (pss_cons (ps_for PassesOwn.never rfl (pi_list (pv 1)) (pg_name (i := 3) sc_need_starts.nd rfl (Or.inl rfl))
      (pss_cons (ps_if (PW.pt (pw_or (pt_not (pt_val (pe_call h_is_mark (hr.mono (by decide)) (by rfl) T.is_mark_g T.is_mark_F.kp T.is_mark_b .nil pass0 (pa_cons (pv 3) pa_nil)))) (pw_or (pt_cmp (pc_dnotin (hu_of hr) (pv 3) (pv 0))) (pw_or1 (pt_cmp (pc_din (hu_of hr) (pv 3) (pv 2)))))))
      (pss_one ps_never)
      pss_nil)
      (pss_one (ps_dput (hu_of hr) (pv 2) (pv 3) pe_bl rfl))))
      (pss_one (ps_if (pt_cmpR (op_eqU hr.units) (pe_callB cb_lenD (by rfl) T.z_len (by decide +kernel) (pa_cons (pv 2) pa_nil)) pe_int (nomark _))
      (pss_one ps_never)
      pss_nil))))
def t_World_init (T : Tx K mg) (E : XK) : TS := (tSeq (tIfS (tOr (tNot (tB (tCB (rIsi K) (tCons (tVar 1) (tCons (tC (.ty "list")) tNil))))) (tOr (tNot (tB (tCB (rIsi K) (tCons (tVar 2) (tCons (tC (.ty "list")) tNil))))) (tNot (tB (tCB (rIsi K) (tCons (tVar 3) (tCons (tC (.ty "list")) tNil)))))))
    tNever
    tNext)
    (tSeq (sFld K (tVar 0) (tCall (sp_placed T) [] E0 (tCons (tVar 1) tNil)) "marks_at")
    (tSeq (sFld K (tVar 0) (tCall (sp_stepped T) [] E0 (tCons (tFld K (tVar 0) "marks_at") (tCons (tVar 2) tNil))) "behind")
    (tSeq (tDrop (tCall (sp_need_starts T) [] E0 (tCons (tFld K (tVar 0) "marks_at") (tCons (tVar 3) tNil))))
    (tSeq (sFld K (tVar 0) (tCB (rList K) (tCons (tVar 2) tNil)) "ways")
    (sFld K (tVar 0) (tCB (rList K) (tCons (tVar 3) tNil)) "firsts"))))))
set_option maxHeartbeats 4000000 in
theorem w_World_init (T : Tx K mg) (h_placed : FnOk P w K mg base CX0 lv_placed T.placed_a T.placed_d ["states"] (sp_placed T)) (h_stepped : FnOk P w K mg base CX0 lv_stepped T.stepped_a T.stepped_d ["marks_at", "steps"] (sp_stepped T)) (h_need_starts : FnOk P w K mg base CX0 lv_need_starts T.need_starts_a T.need_starts_d ["marks_at", "starts"] (sp_need_starts T)) {cdv : Value} {A : Around} {outer : List PySem.Env} {s : Shared} {H : Hp} {E : XK} (hr : Room rm_World_init (A.deeper (envOfC "World.__init__" (defScope s_World_init) s.heap.objs.size T.World_init_a cdv))) :
    PSs (cxOf CX0 P w K mg base n_World_init "World.__init__" (defScope s_World_init) T.World_init_a cdv A outer s H E).nox (defBody s_World_init) (t_World_init T E) :=
  (pss_cons (ps_if (PW.pt (pw_or (pt_not (pt_val (pe_callB cb_isi (by rfl) T.z_isinstance (by decide +kernel) (pa_cons (pv 1) (pa_cons (pe_bltn (v := .ty "list") (by rfl) T.z_list (by decide +kernel) rfl) pa_nil))))) (pw_or (pt_not (pt_val (pe_callB cb_isi (by rfl) T.z_isinstance (by decide +kernel) (pa_cons (pv 2) (pa_cons (pe_bltn (v := .ty "list") (by rfl) T.z_list (by decide +kernel) rfl) pa_nil))))) (pw_or1 (pt_not (pt_val (pe_callB cb_isi (by rfl) T.z_isinstance (by decide +kernel) (pa_cons (pv 3) (pa_cons (pe_bltn (v := .ty "list") (by rfl) T.z_list (by decide +kernel) rfl) pa_nil)))))))))
      (pss_one ps_never)
      pss_nil)
      (pss_cons (ps_fld (pv 0) (pe_call h_placed (hr.mono (by decide)) (by rfl) T.placed_g T.placed_F.kp T.placed_b .nil pass0 (pa_cons (pv 1) pa_nil)) rfl)
      (pss_cons (ps_fld (pv 0) (pe_call h_stepped (hr.mono (by decide)) (by rfl) T.stepped_g T.stepped_F.kp T.stepped_b .nil pass0 (pa_cons (pe_fld (pv 0) rfl) (pa_cons (pv 2) pa_nil))) rfl)
      (pss_cons (ps_expr (pe_call h_need_starts (hr.mono (by decide)) (by rfl) T.need_starts_g T.need_starts_F.kp T.need_starts_b .nil pass0 (pa_cons (pe_fld (pv 0) rfl) (pa_cons (pv 3) pa_nil))))
      (pss_cons (ps_fld (pv 0) (pe_callTy cb_list (by rfl) T.z_list (by decide +kernel) (pa_cons (pv 2) pa_nil)) rfl)
      (pss_one (ps_fld (pv 0) (pe_callTy cb_list (by rfl) T.z_list (by decide +kernel) (pa_cons (pv 3) pa_nil)) rfl)))))))
def t_World_need (T : Tx K mg) (E : XK) : TS := (tIfS (tOr (tNot (tB (tCall (sp_is_mark T) [] E0 (tCons (tVar 1) tNil)))) (tB (tDNotIn (tVar 1) (tFld K (tVar 0) "marks_at"))))
    tNever
    tNext)
set_option maxHeartbeats 4000000 in
theorem w_World_need (T : Tx K mg) (h_is_mark : FnOk P w K mg base CX0 lv_is_mark T.is_mark_a T.is_mark_d ["thing"] (sp_is_mark T)) {cdv : Value} {A : Around} {outer : List PySem.Env} {s : Shared} {H : Hp} {E : XK} (hr : Room rm_World_need (A.deeper (envOfC "World.need" (defScope s_World_need) s.heap.objs.size T.World_need_a cdv))) :
    PSs (cxOf CX0 P w K mg base n_World_need "World.need" (defScope s_World_need) T.World_need_a cdv A outer s H E).nox (defBody s_World_need) (t_World_need T E) :=
  (pss_one (ps_if (PW.pt (pw_or (pt_not (pt_val (pe_call h_is_mark (hr.mono (by decide)) (by rfl) T.is_mark_g T.is_mark_F.kp T.is_mark_b .nil pass0 (pa_cons (pv 1) pa_nil)))) (pw_or1 (pt_cmp (pc_dnotin (hu_of hr) (pv 1) (pe_fld (pv 0) rfl))))))
      (pss_one ps_never)
      pss_nil))
def t_World_places (T : Tx K mg) (E : XK) : TS := (tRet (tCB rListD (tCons (tFld K (tVar 0) "marks_at") tNil)))
set_option maxHeartbeats 4000000 in
theorem w_World_places (T : Tx K mg)  {cdv : Value} {A : Around} {outer : List PySem.Env} {s : Shared} {H : Hp} {E : XK} (hr : Room rm_World_places (A.deeper (envOfC "World.places" (defScope s_World_places) s.heap.objs.size T.World_places_a cdv))) :
    PSs (cxOf CX0 P w K mg base n_World_places "World.places" (defScope s_World_places) T.World_places_a cdv A outer s H E).nox (defBody s_World_places) (t_World_places T E) :=
  (pss_one (ps_ret (pe_callTy (call_list_dK rfl) (by rfl) T.z_list (by decide +kernel) (pa_cons (pe_fld (pv 0) rfl) pa_nil))))
def t_World_moment_of (T : Tx K mg) (E : XK) : TS := (tSeq (tDrop (tMeth T.World_a "need" (sp_World_need T) [] E0 (tVar 0) (tCons (tVar 1) tNil)))
    (tRet (tDGet (tFld K (tVar 0) "marks_at") (tVar 1))))
set_option maxHeartbeats 4000000 in
theorem w_World_moment_of (T : Tx K mg) (h_World_need : FnOk P w K mg base CX0 lv_World_need T.World_need_a T.World_need_d ["self", "place"] (sp_World_need T)) {cdv : Value} {A : Around} {outer : List PySem.Env} {s : Shared} {H : Hp} {E : XK} (hr : Room rm_World_moment_of (A.deeper (envOfC "World.moment_of" (defScope s_World_moment_of) s.heap.objs.size T.World_moment_of_a cdv))) :
    PSs (cxOf CX0 P w K mg base n_World_moment_of "World.moment_of" (defScope s_World_moment_of) T.World_moment_of_a cdv A outer s H E).nox (defBody s_World_moment_of) (t_World_moment_of T E) :=
  (pss_cons (ps_expr (pe_meth (pv 0) T.World_cl T.World_need_m h_World_need (hr.mono (by decide)) T.World_need_b .nil pass0 (pa_cons (pv 1) pa_nil)))
      (pss_one (ps_ret (pe_dget (hu_of hr) (pe_fld (pv 0) rfl) (pv 1) (fun _ _ => rfl)))))
def t_World_nexts (T : Tx K mg) (E : XK) : TS := (tSeq (tDrop (tMeth T.World_a "need" (sp_World_need T) [] E0 (tVar 0) (tCons (tVar 1) tNil)))
    (tRet (tCB (rList K) (tCons (tDGet (tFld K (tVar 0) "behind") (tVar 1)) tNil))))
set_option maxHeartbeats 4000000 in
theorem w_World_nexts (T : Tx K mg) (h_World_need : FnOk P w K mg base CX0 lv_World_need T.World_need_a T.World_need_d ["self", "place"] (sp_World_need T)) {cdv : Value} {A : Around} {outer : List PySem.Env} {s : Shared} {H : Hp} {E : XK} (hr : Room rm_World_nexts (A.deeper (envOfC "World.nexts" (defScope s_World_nexts) s.heap.objs.size T.World_nexts_a cdv))) :
    PSs (cxOf CX0 P w K mg base n_World_nexts "World.nexts" (defScope s_World_nexts) T.World_nexts_a cdv A outer s H E).nox (defBody s_World_nexts) (t_World_nexts T E) :=
  (pss_cons (ps_expr (pe_meth (pv 0) T.World_cl T.World_need_m h_World_need (hr.mono (by decide)) T.World_need_b .nil pass0 (pa_cons (pv 1) pa_nil)))
      (pss_one (ps_ret (pe_callTy cb_list (by rfl) T.z_list (by decide +kernel) (pa_cons (pe_dget (hu_of hr) (pe_fld (pv 0) rfl) (pv 1) (fun _ _ => rfl)) pa_nil)))))
def t_World_begins (T : Tx K mg) (E : XK) : TS := (tRet (tCB (rList K) (tCons (tFld K (tVar 0) "firsts") tNil)))
set_option maxHeartbeats 4000000 in
theorem w_World_begins (T : Tx K mg)  {cdv : Value} {A : Around} {outer : List PySem.Env} {s : Shared} {H : Hp} {E : XK} (hr : Room rm_World_begins (A.deeper (envOfC "World.begins" (defScope s_World_begins) s.heap.objs.size T.World_begins_a cdv))) :
    PSs (cxOf CX0 P w K mg base n_World_begins "World.begins" (defScope s_World_begins) T.World_begins_a cdv A outer s H E).nox (defBody s_World_begins) (t_World_begins T E) :=
  (pss_one (ps_ret (pe_callTy cb_list (by rfl) T.z_list (by decide +kernel) (pa_cons (pe_fld (pv 0) rfl) pa_nil))))
def t_World_written (T : Tx K mg) (E : XK) : TS := (tSeq (tAsg (tC (.str "")) (gName 1))
    (tSeq (tLock (tFor (iItems (tFld K (tVar 0) "marks_at")) (gTup K 2 (gCons (gName 2) (gCons (gName 3) gNil)))
    (tAug 1 (tOp (rAddU K) (tBM K "str" (rJoin K) (tC (.str " ")) (tCons (tOp (rAddU K) (tLst (tCons (tFStr [(tC (.str "state ")), (tFmt (tVar 2)), (tC (.str ":"))]) tNil)) (tCB (rList K) (tCons (tVar 3) tNil))) tNil)) (tC (.str "\n"))) tipAddU)))
    (tSeq (tFor (iList K (tFld K (tVar 0) "ways")) (gTup K 2 (gCons (gName 4) (gCons (gName 5) gNil)))
    (tAug 1 (tFStr [(tC (.str "step ")), (tFmt (tVar 4)), (tC (.str " ")), (tFmt (tVar 5)), (tC (.str "\n"))]) tipAddU))
    (tSeq (tFor (iList K (tFld K (tVar 0) "firsts")) (gName 2)
    (tAug 1 (tFStr [(tC (.str "start ")), (tFmt (tVar 2)), (tC (.str "\n"))]) tipAddU))
    (tRet (tVar 1))))))
set_option maxHeartbeats 4000000 in
theorem w_World_written (T : Tx K mg)  {cdv : Value} {A : Around} {outer : List PySem.Env} {s : Shared} {H : Hp} {E : XK} (hr : Room rm_World_written (A.deeper (envOfC "World.written" (defScope s_World_written) s.heap.objs.size T.World_written_a cdv))) :
    PSs (cxOf CX0 P w K mg base n_World_written "World.written" (defScope s_World_written) T.World_written_a cdv A outer s H E).nox (defBody s_World_written) (t_World_written T E) :=
  (pss_cons (ps_set (i := 1) sc_World_written.nd rfl (Or.inl rfl) pe_str)
      (pss_cons (ps_lock (ps_for PassesOwn.never rfl (pi_items (pe_fld (pv 0) rfl)) (pg_tup rfl (pgs_cons (pg_name (i := 2) sc_World_written.nd rfl (Or.inl rfl)) (pgs_cons (pg_name (i := 3) sc_World_written.nd rfl (Or.inl rfl)) pgs_nil)))
      (pss_one (ps_aug (i := 1) sc_World_written.nd rfl (Or.inl rfl) (pe_op op_addU (pe_bm PySem.F.plainAttrs_str PySem.F.slot_str_join PySem.F.type_str_join mt_joinD pe_str (pa_cons (pe_op op_addU (pe_lst (pa_cons (pe_joined (PJ.cons pe_str (PJ.cons (pe_fmt (pv 2)) (PJ.cons pe_str PJ.nil)))) pa_nil)) (pe_callTy cb_list (by rfl) T.z_list (by decide +kernel) (pa_cons (pv 3) pa_nil))) pa_nil)) pe_str) ip_addU))))
      (pss_cons (ps_for PassesOwn.never rfl (pi_list (pe_fld (pv 0) rfl)) (pg_tup rfl (pgs_cons (pg_name (i := 4) sc_World_written.nd rfl (Or.inl rfl)) (pgs_cons (pg_name (i := 5) sc_World_written.nd rfl (Or.inl rfl)) pgs_nil)))
      (pss_one (ps_aug (i := 1) sc_World_written.nd rfl (Or.inl rfl) (pe_joined (PJ.cons pe_str (PJ.cons (pe_fmt (pv 4)) (PJ.cons pe_str (PJ.cons (pe_fmt (pv 5)) (PJ.cons pe_str PJ.nil)))))) ip_addU)))
      (pss_cons (ps_for PassesOwn.never rfl (pi_list (pe_fld (pv 0) rfl)) (pg_name (i := 2) sc_World_written.nd rfl (Or.inl rfl))
      (pss_one (ps_aug (i := 1) sc_World_written.nd rfl (Or.inl rfl) (pe_joined (PJ.cons pe_str (PJ.cons (pe_fmt (pv 2)) (PJ.cons pe_str PJ.nil)))) ip_addU)))
      (pss_one (ps_ret (pv 1)))))))
def t_state_of (T : Tx K mg) (E : XK) : TS := (tSeq (tIfS (tOr (tTest (tOp rLtU (tCB (rLen K) (tCons (tVar 0) tNil)) (tC (.int 2)))) (tNot (tB (tBM K "str" rEnds (tOp (rIx K) (tVar 0) (tC (.int 1))) (tCons (tC (.str ":")) tNil)))))
    tNever
    tNext)
    (tRet (tTup (tCons (tSl rSlS (tOp (rIx K) (tVar 0) (tC (.int 1))) tNoPart (tPart (tUn (rU fun i => .int (-i)) (tC (.int 1))))) (tCons (tCB (rTuple K) (tCons (tCB (rSortedS K) (tCons (tSl (rSlL K) (tVar 0) (tPart (tC (.int 2))) tNoPart) tNil)) tNil)) tNil)))))
set_option maxHeartbeats 4000000 in
theorem w_state_of (T : Tx K mg)  {cdv : Value} {A : Around} {outer : List PySem.Env} {s : Shared} {H : Hp} {E : XK} (hr : Room rm_state_of (A.deeper (envOfC "state_of" (defScope s_state_of) s.heap.objs.size T.state_of_a cdv))) :
    PSs (cxOf CX0 P w K mg base n_state_of "state_of" (defScope s_state_of) T.state_of_a cdv A outer s H E).nox (defBody s_state_of) (t_state_of T E) :=
  (pss_cons (ps_if (PW.pt (pw_or (pt_cmpR op_ltU (pe_callB cb_len (by rfl) T.z_len (by decide +kernel) (pa_cons (pv 0) pa_nil)) pe_int (nomark _)) (pw_or1 (pt_not (pt_val (pe_bm PySem.F.plainAttrs_str PySem.F.slot_str_endswith PySem.F.type_str_endswith mt_endsD (pe_ix ix_seq (pv 0) pe_int (fun _ _ => rfl)) (pa_cons pe_str pa_nil)))))))
      (pss_one ps_never)
      pss_nil)
      (pss_one (ps_ret (pe_tup (pa_cons (pe_slice sl_str (pe_ix ix_seq (pv 0) pe_int (fun _ _ => rfl)) po_none (po_some (pe_un un_neg pe_int))) (pa_cons (pe_callTy cb_tuple (by rfl) T.z_tuple (by decide +kernel) (pa_cons (pe_callB cr_sortedS (by rfl) T.z_sorted (by decide +kernel) (pa_cons (pe_slice sl_list (pv 0) (po_some pe_int) po_none) pa_nil)) pa_nil)) pa_nil))))))
def t_read_world (T : Tx K mg) (E : XK) : TS := (tSeq (tAsg (tLst tNil) (gName 1))
    (tSeq (tAsg (tLst tNil) (gName 2))
    (tSeq (tAsg (tLst tNil) (gName 3))
    (tSeq (tFor (iList K (tBM K "str" rSplit (tVar 0) (tCons (tC (.str "\n")) tNil))) (gName 4)
    (tSeq (tAsg (tLc (iList K (tBM K "str" rSplit (tVar 4) (tCons (tC (.str " ")) tNil))) (gName 6) (tTest (tOp (rNeU K) (tVar 6) (tC (.str "")))) (tVar 6) [6]) (gName 5))
    (tSeq (tIfS (tTest (tOp (rEqU K) (tVar 5) (tLst tNil)))
    tCont
    tNext)
    (tIfS (tTest (tOp (rEqU K) (tOp (rIx K) (tVar 5) (tC (.int 0))) (tC (.str "state"))))
    (tDrop (tBM K "list" rAppend (tVar 1) (tCons (tCall (sp_state_of T) [] E0 (tCons (tVar 5) tNil)) tNil)))
    (tIfS (tAnd (tTest (tOp (rEqU K) (tOp (rIx K) (tVar 5) (tC (.int 0))) (tC (.str "step")))) (tTest (tOp (rEqU K) (tCB (rLen K) (tCons (tVar 5) tNil)) (tC (.int 3)))))
    (tDrop (tBM K "list" rAppend (tVar 2) (tCons (tTup (tCons (tOp (rIx K) (tVar 5) (tC (.int 1))) (tCons (tOp (rIx K) (tVar 5) (tC (.int 2))) tNil))) tNil)))
    (tIfS (tAnd (tTest (tOp (rEqU K) (tOp (rIx K) (tVar 5) (tC (.int 0))) (tC (.str "start")))) (tTest (tOp (rEqU K) (tCB (rLen K) (tCons (tVar 5) tNil)) (tC (.int 2)))))
    (tDrop (tBM K "list" rAppend (tVar 3) (tCons (tOp (rIx K) (tVar 5) (tC (.int 1))) tNil)))
    tNever))))))
    (tRet (tMake T.World_a (sp_World_init T) [] E0 (tCons (tVar 1) (tCons (tVar 2) (tCons (tVar 3) tNil)))))))))
set_option maxHeartbeats 4000000 in
theorem w_read_world (T : Tx K mg) (h_state_of : FnOk P w K mg base CX0 lv_state_of T.state_of_a T.state_of_d ["words"] (sp_state_of T)) (h_World_init : FnOk P w K mg base CX0 lv_World_init T.World_init_a T.World_init_d ["self", "states", "steps", "starts"] (sp_World_init T)) {cdv : Value} {A : Around} {outer : List PySem.Env} {s : Shared} {H : Hp} {E : XK} (hr : Room rm_read_world (A.deeper (envOfC "read_world" (defScope s_read_world) s.heap.objs.size T.read_world_a cdv))) :
    PSs (cxOf CX0 P w K mg base n_read_world "read_world" (defScope s_read_world) T.read_world_a cdv A outer s H E).nox (defBody s_read_world) (t_read_world T E) :=
  (pss_cons (ps_set (i := 1) sc_read_world.nd rfl (Or.inl rfl) (pe_lst pa_nil))
      (pss_cons (ps_set (i := 2) sc_read_world.nd rfl (Or.inl rfl) (pe_lst pa_nil))
      (pss_cons (ps_set (i := 3) sc_read_world.nd rfl (Or.inl rfl) (pe_lst pa_nil))
      (pss_cons (ps_for PassesOwn.never rfl (pi_list (pe_bm PySem.F.plainAttrs_str PySem.F.slot_str_split PySem.F.type_str_split mt_splitD (pv 0) (pa_cons pe_str pa_nil))) (pg_name (i := 4) sc_read_world.nd rfl (Or.inl rfl))
      (pss_cons (ps_setLc (i := 5) (own := [("word", 6)]) (g := (gName 6)) (tt := (tTest (tOp (rNeU K) (tVar 6) (tC (.str ""))))) rfl sc_read_world.nd rfl rfl (sw_true rfl rfl rfl (by decide +kernel)) (pi_list (pe_bm PySem.F.plainAttrs_str PySem.F.slot_str_split PySem.F.type_str_split mt_splitD (pv 4) (pa_cons pe_str pa_nil))) (blkOk_by (own := [("word", 6)]) (N := n_read_world) (sc := defScope s_read_world) (by decide +kernel)) (fun _ _ _ _ _ => (pg_name (i := 6) sc_read_world.nd rfl (Or.inl rfl))) (fun _ _ _ _ _ => (pts_one (pt_cmpR (op_neU hr.units) (pv 6) pe_str (nomark _)))) (fun _ _ _ _ _ => (pv 6)))
      (pss_cons (ps_if (pt_cmpR (op_eqU hr.units) (pv 5) (pe_lst pa_nil) (nomark _))
      (pss_one ps_continue)
      pss_nil)
      (pss_one (ps_if (pt_cmpR (op_eqU hr.units) (pe_ix ix_seq (pv 5) pe_int (fun _ _ => rfl)) pe_str (nomark _))
      (pss_one (ps_expr (pe_bm PySem.F.plainAttrs_list PySem.F.slot_list_append PySem.F.type_list_append mt_append (pv 1) (pa_cons (pe_call h_state_of (hr.mono (by decide)) (by rfl) T.state_of_g T.state_of_F.kp T.state_of_b .nil pass0 (pa_cons (pv 5) pa_nil)) pa_nil))))
      (pss_one (ps_if (PW.pt (pw_and (pt_cmpR (op_eqU hr.units) (pe_ix ix_seq (pv 5) pe_int (fun _ _ => rfl)) pe_str (nomark _)) (pw_and1 (pt_cmpR (op_eqU hr.units) (pe_callB cb_len (by rfl) T.z_len (by decide +kernel) (pa_cons (pv 5) pa_nil)) pe_int (nomark _)))))
      (pss_one (ps_expr (pe_bm PySem.F.plainAttrs_list PySem.F.slot_list_append PySem.F.type_list_append mt_append (pv 2) (pa_cons (pe_tup (pa_cons (pe_ix ix_seq (pv 5) pe_int (fun _ _ => rfl)) (pa_cons (pe_ix ix_seq (pv 5) pe_int (fun _ _ => rfl)) pa_nil))) pa_nil))))
      (pss_one (ps_if (PW.pt (pw_and (pt_cmpR (op_eqU hr.units) (pe_ix ix_seq (pv 5) pe_int (fun _ _ => rfl)) pe_str (nomark _)) (pw_and1 (pt_cmpR (op_eqU hr.units) (pe_callB cb_len (by rfl) T.z_len (by decide +kernel) (pa_cons (pv 5) pa_nil)) pe_int (nomark _)))))
      (pss_one (ps_expr (pe_bm PySem.F.plainAttrs_list PySem.F.slot_list_append PySem.F.type_list_append mt_append (pv 3) (pa_cons (pe_ix ix_seq (pv 5) pe_int (fun _ _ => rfl)) pa_nil))))
      (pss_one ps_never))))))))))
      (pss_one (ps_ret (pe_make T.World_mk h_World_init (hr.mono (by decide)) (by rfl) T.World_g T.World_init_b .nil pass0 (pa_cons (pv 1) (pa_cons (pv 2) (pa_cons (pv 3) pa_nil))))))))))
def t__law_draws (T : Tx K mg) (E : XK) : TS := (tSeq (tAsg (tLst tNil) (gName 2))
    (tSeq (tAsg (tC (.int 7)) (gName 3))
    (tSeq (tFor (iRng1 (tCons (tVar 1) tNil)) (gName 4)
    (tSeq (tAsg (tC (.int 0)) (gName 5))
    (tSeq (tIfS (tTest (tOp rGtI (tCB (rLen K) (tCons (tVar 0) tNil)) (tC (.int 0))))
    (tAsg (tOp (rIx K) (tVar 0) (tOp rModI (tVar 4) (tCB (rLen K) (tCons (tVar 0) tNil)))) (gName 5))
    tNext)
    (tSeq (tAsg (tOp rModI (tOp (rAddU K) (tOp (rAddU K) (tOp (rAddU K) (tOp rMulU (tVar 3) (tC (.int 48271))) (tVar 5)) (tVar 4)) (tC (.int 1))) (tC (.int 2147483647))) (gName 3))
    (tSeq (tAsg (tOp rModI (tOp (rAddU K) (tOp rMulU (tVar 3) (tVar 3)) (tOp rMulU (tC (.int 16807)) (tVar 3))) (tC (.int 2147483629))) (gName 6))
    (tDrop (tBM K "list" rAppend (tVar 2) (tCons (tOp rModI (tOp (rAddU K) (tOp rMulU (tVar 6) (tVar 6)) (tOp rMulU (tC (.int 16807)) (tVar 6))) (tC (.int 2147483629))) tNil))))))))
    (tRet (tVar 2)))))
set_option maxHeartbeats 4000000 in
theorem w__law_draws (T : Tx K mg)  {cdv : Value} {A : Around} {outer : List PySem.Env} {s : Shared} {H : Hp} {E : XK} (hr : Room rm__law_draws (A.deeper (envOfC "_law_draws" (defScope s__law_draws) s.heap.objs.size T._law_draws_a cdv))) :
    PSs (cxOf CX0 P w K mg base n__law_draws "_law_draws" (defScope s__law_draws) T._law_draws_a cdv A outer s H E).nox (defBody s__law_draws) (t__law_draws T E) :=
  (pss_cons (ps_set (i := 2) sc__law_draws.nd rfl (Or.inl rfl) (pe_lst pa_nil))
      (pss_cons (ps_set (i := 3) sc__law_draws.nd rfl (Or.inl rfl) pe_int)
      (pss_cons (ps_for PassesOwn.never rfl (pi_range1 (by rfl) T.z_range (pa_cons (pv 1) pa_nil)) (pg_name (i := 4) sc__law_draws.nd rfl (Or.inl rfl))
      (pss_cons (ps_set (i := 5) sc__law_draws.nd rfl (Or.inl rfl) pe_int)
      (pss_cons (ps_if (pt_cmpR op_gtD (pe_callB cb_len (by rfl) T.z_len (by decide +kernel) (pa_cons (pv 0) pa_nil)) pe_int (nomark _))
      (pss_one (ps_set (i := 5) sc__law_draws.nd rfl (Or.inl rfl) (pe_ix ix_seq (pv 0) (pe_op op_modD (pv 4) (pe_callB cb_len (by rfl) T.z_len (by decide +kernel) (pa_cons (pv 0) pa_nil))) (fun _ _ => rfl))))
      pss_nil)
      (pss_cons (ps_set (i := 3) sc__law_draws.nd rfl (Or.inl rfl) (pe_op op_modD (pe_op op_addU (pe_op op_addU (pe_op op_addU (pe_op op_mulU (pv 3) pe_int) (pv 5)) (pv 4)) pe_int) pe_int))
      (pss_cons (ps_set (i := 6) sc__law_draws.nd rfl (Or.inl rfl) (pe_op op_modD (pe_op op_addU (pe_op op_mulU (pv 3) (pv 3)) (pe_op op_mulU pe_int (pv 3))) pe_int))
      (pss_one (ps_expr (pe_bm PySem.F.plainAttrs_list PySem.F.slot_list_append PySem.F.type_list_append mt_append (pv 2) (pa_cons (pe_op op_modD (pe_op op_addU (pe_op op_mulU (pv 6) (pv 6)) (pe_op op_mulU pe_int (pv 6))) pe_int) pa_nil)))))))))
      (pss_one (ps_ret (pv 2))))))
def t__law_mark_by (T : Tx K mg) (E : XK) : TS := (tSeq (tAsg (tC (.str "abcdefghijklmnopqrstuvwxyz")) (gName 2))
    (tSeq (tIfS (tTest (tOp (rEqU K) (tOp rModI (tVar 0) (tC (.int 4))) (tC (.int 0))))
    (tRet (tOp rMulU (tOp (rIx K) (tVar 2) (tOp rModI (tOp rDivI (tVar 0) (tC (.int 4))) (tC (.int 26)))) (tOp (rAddU K) (tC (.int 1)) (tVar 1))))
    tNext)
    (tSeq (tAsg (tOp rModI (tOp rDivI (tVar 0) (tC (.int 4))) (tC (.int 7))) (gName 3))
    (tSeq (tAsg (tC (.str "")) (gName 4))
    (tSeq (tFor (iRng1 (tCons (tOp (rAddU K) (tOp (rAddU K) (tVar 3) (tC (.int 1))) (tOp rModI (tOp rDivI (tVar 0) (tC (.int 28))) (tOp rSubI (tC (.int 8)) (tVar 3)))) tNil)) (gName 5)
    (tIfS (tTest (tOp (rEqU K) (tVar 5) (tVar 3)))
    (tAsg (tOp (rAddU K) (tVar 4) (tOp (rIx K) (tVar 2) (tOp rModI (tOp (rAddU K) (tOp rDivI (tVar 0) (tC (.int 224))) (tVar 1)) (tC (.int 26))))) (gName 4))
    (tAsg (tOp (rAddU K) (tVar 4) (tOp (rIx K) (tVar 2) (tOp rModI (tOp (rAddU K) (tOp rDivI (tVar 0) (tC (.int 7))) (tOp rMulU (tVar 5) (tOp (rAddU K) (tC (.int 1)) (tOp rModI (tVar 0) (tC (.int 5)))))) (tC (.int 26))))) (gName 4))))
    (tSeq (tAsg (tC (.str "yes no not and or then until since frees held next before early soon ever once sofar again settles")) (gName 6))
    (tSeq (tIfS (tTest (tOp (rIn K false) (tVar 4) (tBM K "str" rSplit (tVar 6) (tCons (tC (.str " ")) tNil))))
    (tRet (tOp (rAddU K) (tSl rSlS (tVar 4) tNoPart (tPart (tC (.int 7)))) (tC (.str "0"))))
    tNext)
    (tRet (tVar 4)))))))))
set_option maxHeartbeats 4000000 in
theorem w__law_mark_by (T : Tx K mg)  {cdv : Value} {A : Around} {outer : List PySem.Env} {s : Shared} {H : Hp} {E : XK} (hr : Room rm__law_mark_by (A.deeper (envOfC "_law_mark_by" (defScope s__law_mark_by) s.heap.objs.size T._law_mark_by_a cdv))) :
    PSs (cxOf CX0 P w K mg base n__law_mark_by "_law_mark_by" (defScope s__law_mark_by) T._law_mark_by_a cdv A outer s H E).nox (defBody s__law_mark_by) (t__law_mark_by T E) :=
  (pss_cons (ps_set (i := 2) sc__law_mark_by.nd rfl (Or.inl rfl) pe_str)
      (pss_cons (ps_if (pt_cmpR (op_eqU hr.units) (pe_op op_modD (pv 0) pe_int) pe_int (nomark _))
      (pss_one (ps_ret (pe_op op_mulU (pe_ix ix_seq (pv 2) (pe_op op_modD (pe_op op_divD (pv 0) pe_int) pe_int) (fun _ _ => rfl)) (pe_op op_addU pe_int (pv 1)))))
      pss_nil)
      (pss_cons (ps_set (i := 3) sc__law_mark_by.nd rfl (Or.inl rfl) (pe_op op_modD (pe_op op_divD (pv 0) pe_int) pe_int))
      (pss_cons (ps_set (i := 4) sc__law_mark_by.nd rfl (Or.inl rfl) pe_str)
      (pss_cons (ps_for PassesOwn.never rfl (pi_range1 (by rfl) T.z_range (pa_cons (pe_op op_addU (pe_op op_addU (pv 3) pe_int) (pe_op op_modD (pe_op op_divD (pv 0) pe_int) (pe_op op_subD pe_int (pv 3)))) pa_nil)) (pg_name (i := 5) sc__law_mark_by.nd rfl (Or.inl rfl))
      (pss_one (ps_if (pt_cmpR (op_eqU hr.units) (pv 5) (pv 3) (nomark _))
      (pss_one (ps_set (i := 4) sc__law_mark_by.nd rfl (Or.inl rfl) (pe_op op_addU (pv 4) (pe_ix ix_seq (pv 2) (pe_op op_modD (pe_op op_addU (pe_op op_divD (pv 0) pe_int) (pv 1)) pe_int) (fun _ _ => rfl)))))
      (pss_one (ps_set (i := 4) sc__law_mark_by.nd rfl (Or.inl rfl) (pe_op op_addU (pv 4) (pe_ix ix_seq (pv 2) (pe_op op_modD (pe_op op_addU (pe_op op_divD (pv 0) pe_int) (pe_op op_mulU (pv 5) (pe_op op_addU pe_int (pe_op op_modD (pv 0) pe_int)))) pe_int) (fun _ _ => rfl))))))))
      (pss_cons (ps_set (i := 6) sc__law_mark_by.nd rfl (Or.inl rfl) pe_str)
      (pss_cons (ps_if (pt_cmpR op_in_seq (pv 4) (pe_bm PySem.F.plainAttrs_str PySem.F.slot_str_split PySem.F.type_str_split mt_splitD (pv 6) (pa_cons pe_str pa_nil)) rfl)
      (pss_one (ps_ret (pe_op op_addU (pe_slice sl_str (pv 4) po_none (po_some pe_int)) pe_str)))
      pss_nil)
      (pss_one (ps_ret (pv 4))))))))))
def t__law_moment (T : Tx K mg) (E : XK) : TS := (tSeq (tAsg (tLst (tCons (tC (.int 1)) (tCons (tC (.int 2)) (tCons (tC (.int 4)) (tCons (tC (.int 8)) (tCons (tC (.int 16)) (tCons (tC (.int 32)) (tCons (tC (.int 64)) (tCons (tC (.int 128)) (tCons (tC (.int 256)) (tCons (tC (.int 512)) (tCons (tC (.int 1024)) (tCons (tC (.int 2048)) tNil))))))))))))) (gName 2))
    (tRet (tCB (rTuple K) (tCons (tCB (rSortedS K) (tCons (tLc (iRng1 (tCons (tCB (rLen K) (tCons (tVar 0) tNil)) tNil)) (gName 3) (tTest (tOp (rEqU K) (tOp rModI (tOp rDivI (tVar 1) (tOp (rIx K) (tVar 2) (tVar 3))) (tC (.int 2))) (tC (.int 1)))) (tOp (rIx K) (tVar 0) (tVar 3)) [3]) tNil)) tNil))))
set_option maxHeartbeats 4000000 in
theorem w__law_moment (T : Tx K mg)  {cdv : Value} {A : Around} {outer : List PySem.Env} {s : Shared} {H : Hp} {E : XK} (hr : Room rm__law_moment (A.deeper (envOfC "_law_moment" (defScope s__law_moment) s.heap.objs.size T._law_moment_a cdv))) :
    PSs (cxOf CX0 P w K mg base n__law_moment "_law_moment" (defScope s__law_moment) T._law_moment_a cdv A outer s H E).nox (defBody s__law_moment) (t__law_moment T E) :=
  (pss_cons (ps_set (i := 2) sc__law_moment.nd rfl (Or.inr rfl) (pe_lst (pa_cons pe_int (pa_cons pe_int (pa_cons pe_int (pa_cons pe_int (pa_cons pe_int (pa_cons pe_int (pa_cons pe_int (pa_cons pe_int (pa_cons pe_int (pa_cons pe_int (pa_cons pe_int (pa_cons pe_int pa_nil))))))))))))))
      (pss_one (ps_ret (pe_callTy cb_tuple (by rfl) T.z_tuple (by decide +kernel) (pa_cons (pe_callB cr_sortedS (by rfl) T.z_sorted (by decide +kernel) (pa_cons (pe_lc (own := [("_law_k", 3)]) (g := (gName 3)) (tt := (tTest (tOp (rEqU K) (tOp rModI (tOp rDivI (tVar 1) (tOp (rIx K) (tVar 2) (tVar 3))) (tC (.int 2))) (tC (.int 1))))) rfl sc__law_moment.nd (pi_range1 (by rfl) T.z_range (pa_cons (pe_callB cb_len (by rfl) T.z_len (by decide +kernel) (pa_cons (pv 0) pa_nil)) pa_nil)) (blkOk_by (own := [("_law_k", 3)]) (N := n__law_moment) (sc := defScope s__law_moment) (by decide +kernel)) (fun _ _ _ _ _ => (pg_name (i := 3) sc__law_moment.nd rfl (Or.inl rfl))) (fun _ _ _ _ _ => (pts_one (pt_cmpR (op_eqU hr.units) (pe_op op_modD (pe_op op_divD (pv 1) (pe_ix ix_seq (pv 2) (pv 3) (fun _ _ => rfl))) pe_int) pe_int (nomark _)))) (fun _ _ _ _ _ => (pe_ix ix_seq (pv 0) (pv 3) (fun _ _ => rfl)))) pa_nil)) pa_nil)))))
def t__law_world (T : Tx K mg) (E : XK) : TS := (tSeq (tAsg (tOp (rAddU K) (tC (.int 1)) (tOp rModI (tOp (rIx K) (tVar 0) (tC (.int 0))) (tVar 2))) (gName 3))
    (tSeq (tAsg (tLc (iRng1 (tCons (tVar 3) tNil)) (gName 7) tYes (tCall (sp__law_mark_by T) [] E0 (tCons (tOp (rIx K) (tVar 0) (tC (.int 1))) (tCons (tVar 7) tNil))) [7]) (gName 4))
    (tSeq (tAsg (tLc (iRng1 (tCons (tVar 3) tNil)) (gName 7) tYes (tTup (tCons (tOp (rIx K) (tVar 4) (tVar 7)) (tCons (tCall (sp__law_moment T) [] E0 (tCons (tVar 1) (tCons (tOp (rIx K) (tVar 0) (tOp (rAddU K) (tC (.int 2)) (tVar 7))) tNil))) tNil))) [7]) (gName 5))
    (tSeq (tAsg (tLst tNil) (gName 6))
    (tSeq (tFor (iRng1 (tCons (tVar 3) tNil)) (gName 7)
    (tSeq (tAsg (tOp (rIx K) (tVar 0) (tOp (rAddU K) (tC (.int 10)) (tVar 7))) (gName 9))
    (tFor (iRng1 (tCons (tOp (rAddU K) (tC (.int 1)) (tOp rModI (tVar 9) (tCB rMin2 (tCons (tC (.int 3)) (tCons (tVar 3) tNil))))) tNil)) (gName 10)
    (tDrop (tBM K "list" rAppend (tVar 6) (tCons (tTup (tCons (tOp (rIx K) (tVar 4) (tOp rModI (tOp (rAddU K) (tVar 7) (tOp (rIx K) (tVar 0) (tC (.int 18)))) (tVar 3))) (tCons (tOp (rIx K) (tVar 4) (tOp rModI (tOp (rAddU K) (tOp rDivI (tVar 9) (tC (.int 3))) (tVar 10)) (tVar 3))) tNil))) tNil))))))
    (tSeq (tAsg (tLc (iRng1 (tCons (tOp (rAddU K) (tC (.int 1)) (tOp rModI (tOp rModI (tOp (rIx K) (tVar 0) (tC (.int 19))) (tC (.int 9))) (tVar 3))) tNil)) (gName 10) tYes (tOp (rIx K) (tVar 4) (tOp rModI (tOp (rAddU K) (tOp rDivI (tOp (rIx K) (tVar 0) (tC (.int 19))) (tC (.int 9))) (tVar 10)) (tVar 3))) [10]) (gName 8))
    (tRet (tLst (tCons (tVar 5) (tCons (tVar 6) (tCons (tVar 8) tNil)))))))))))
set_option maxHeartbeats 4000000 in
theorem w__law_world (T : Tx K mg) (h__law_mark_by : FnOk P w K mg base CX0 lv__law_mark_by T._law_mark_by_a T._law_mark_by_d ["_law_shape", "_law_k"] (sp__law_mark_by T)) (h__law_moment : FnOk P w K mg base CX0 lv__law_moment T._law_moment_a T._law_moment_d ["_law_marks", "_law_draw"] (sp__law_moment T)) {cdv : Value} {A : Around} {outer : List PySem.Env} {s : Shared} {H : Hp} {E : XK} (hr : Room rm__law_world (A.deeper (envOfC "_law_world" (defScope s__law_world) s.heap.objs.size T._law_world_a cdv))) :
    PSs (cxOf CX0 P w K mg base n__law_world "_law_world" (defScope s__law_world) T._law_world_a cdv A outer s H E).nox (defBody s__law_world) (t__law_world T E) :=
  (pss_cons (ps_set (i := 3) sc__law_world.nd rfl (Or.inr rfl) (pe_op op_addU pe_int (pe_op op_modD (pe_ix ix_seq (pv 0) pe_int (fun _ _ => rfl)) (pv 2))))
      (pss_cons (ps_set (i := 4) sc__law_world.nd rfl (Or.inr rfl) (pe_lc (own := [("_law_k", 7)]) (g := (gName 7)) (tt := tYes) rfl sc__law_world.nd (pi_range1 (by rfl) T.z_range (pa_cons (pv 3) pa_nil)) (blkOk_by (own := [("_law_k", 7)]) (N := n__law_world) (sc := defScope s__law_world) (by decide +kernel)) (fun _ _ _ _ _ => (pg_name (i := 7) sc__law_world.nd rfl (Or.inl rfl))) (fun _ _ _ _ _ => pts_nil) (fun _ _ _ _ _ => (pe_call h__law_mark_by (hr.mono (by decide)) (by rfl) T._law_mark_by_g T._law_mark_by_F.kp T._law_mark_by_b .nil pass0 (pa_cons (pe_ix ix_seq (pv 0) pe_int (fun _ _ => rfl)) (pa_cons (pv 7) pa_nil))))))
      (pss_cons (ps_setLc (i := 5) (own := [("_law_k", 7)]) (g := (gName 7)) (tt := tYes) rfl sc__law_world.nd rfl rfl (sw_true rfl rfl rfl (by decide +kernel)) (pi_range1 (by rfl) T.z_range (pa_cons (pv 3) pa_nil)) (blkOk_by (own := [("_law_k", 7)]) (N := n__law_world) (sc := defScope s__law_world) (by decide +kernel)) (fun _ _ _ _ _ => (pg_name (i := 7) sc__law_world.nd rfl (Or.inl rfl))) (fun _ _ _ _ _ => pts_nil) (fun _ _ _ _ _ => (pe_tup (pa_cons (pe_ix ix_seq (pv 4) (pv 7) (fun _ _ => rfl)) (pa_cons (pe_call h__law_moment (hr.mono (by decide)) (by rfl) T._law_moment_g T._law_moment_F.kp T._law_moment_b .nil pass0 (pa_cons (pv 1) (pa_cons (pe_ix ix_seq (pv 0) (pe_op op_addU pe_int (pv 7)) (fun _ _ => rfl)) pa_nil))) pa_nil)))))
      (pss_cons (ps_set (i := 6) sc__law_world.nd rfl (Or.inl rfl) (pe_lst pa_nil))
      (pss_cons (ps_for PassesOwn.never rfl (pi_range1 (by rfl) T.z_range (pa_cons (pv 3) pa_nil)) (pg_name (i := 7) sc__law_world.nd rfl (Or.inl rfl))
      (pss_cons (ps_set (i := 9) sc__law_world.nd rfl (Or.inl rfl) (pe_ix ix_seq (pv 0) (pe_op op_addU pe_int (pv 7)) (fun _ _ => rfl)))
      (pss_one (ps_for PassesOwn.never rfl (pi_range1 (by rfl) T.z_range (pa_cons (pe_op op_addU pe_int (pe_op op_modD (pv 9) (pe_callB (cb_min2 rfl) (by rfl) T.z_min (by decide +kernel) (pa_cons pe_int (pa_cons (pv 3) pa_nil))))) pa_nil)) (pg_name (i := 10) sc__law_world.nd rfl (Or.inl rfl))
      (pss_one (ps_expr (pe_bm PySem.F.plainAttrs_list PySem.F.slot_list_append PySem.F.type_list_append mt_append (pv 6) (pa_cons (pe_tup (pa_cons (pe_ix ix_seq (pv 4) (pe_op op_modD (pe_op op_addU (pv 7) (pe_ix ix_seq (pv 0) pe_int (fun _ _ => rfl))) (pv 3)) (fun _ _ => rfl)) (pa_cons (pe_ix ix_seq (pv 4) (pe_op op_modD (pe_op op_addU (pe_op op_divD (pv 9) pe_int) (pv 10)) (pv 3)) (fun _ _ => rfl)) pa_nil))) pa_nil))))))))
      (pss_cons (ps_setLc (i := 8) (own := [("_law_j", 10)]) (g := (gName 10)) (tt := tYes) rfl sc__law_world.nd rfl rfl (sw_true rfl rfl rfl (by decide +kernel)) (pi_range1 (by rfl) T.z_range (pa_cons (pe_op op_addU pe_int (pe_op op_modD (pe_op op_modD (pe_ix ix_seq (pv 0) pe_int (fun _ _ => rfl)) pe_int) (pv 3))) pa_nil)) (blkOk_by (own := [("_law_j", 10)]) (N := n__law_world) (sc := defScope s__law_world) (by decide +kernel)) (fun _ _ _ _ _ => (pg_name (i := 10) sc__law_world.nd rfl (Or.inl rfl))) (fun _ _ _ _ _ => pts_nil) (fun _ _ _ _ _ => (pe_ix ix_seq (pv 4) (pe_op op_modD (pe_op op_addU (pe_op op_divD (pe_ix ix_seq (pv 0) pe_int (fun _ _ => rfl)) pe_int) (pv 10)) (pv 3)) (fun _ _ => rfl))))
      (pss_one (ps_ret (pe_lst (pa_cons (pv 5) (pa_cons (pv 6) (pa_cons (pv 8) pa_nil))))))))))))
def t__law_text (T : Tx K mg) (E : XK) : TS := (tSeq (tAsg (tC (.str "")) (gName 1))
    (tSeq (tFor (iList K (tOp (rIx K) (tVar 0) (tC (.int 0)))) (gTup K 2 (gCons (gName 2) (gCons (gName 3) gNil)))
    (tSeq (tAsg (tOp (rAddU K) (tOp (rAddU K) (tOp (rAddU K) (tVar 1) (tC (.str "state "))) (tVar 2)) (tC (.str ":"))) (gName 1))
    (tSeq (tFor (iTup K (tVar 3)) (gName 6)
    (tAsg (tOp (rAddU K) (tOp (rAddU K) (tVar 1) (tC (.str " "))) (tVar 6)) (gName 1)))
    (tAsg (tOp (rAddU K) (tVar 1) (tC (.str "\n"))) (gName 1)))))
    (tSeq (tFor (iList K (tOp (rIx K) (tVar 0) (tC (.int 1)))) (gTup K 2 (gCons (gName 4) (gCons (gName 5) gNil)))
    (tAsg (tOp (rAddU K) (tOp (rAddU K) (tOp (rAddU K) (tOp (rAddU K) (tOp (rAddU K) (tVar 1) (tC (.str "step "))) (tVar 4)) (tC (.str " "))) (tVar 5)) (tC (.str "\n"))) (gName 1)))
    (tRet (tOp (rAddU K) (tVar 1) (tBM K "str" (rJoin K) (tC (.str "")) (tCons (tLc (iList K (tOp (rIx K) (tVar 0) (tC (.int 2)))) (gName 2) tYes (tOp (rAddU K) (tOp (rAddU K) (tC (.str "start ")) (tVar 2)) (tC (.str "\n"))) [2]) tNil)))))))
set_option maxHeartbeats 4000000 in
theorem w__law_text (T : Tx K mg)  {cdv : Value} {A : Around} {outer : List PySem.Env} {s : Shared} {H : Hp} {E : XK} (hr : Room rm__law_text (A.deeper (envOfC "_law_text" (defScope s__law_text) s.heap.objs.size T._law_text_a cdv))) :
    PSs (cxOf CX0 P w K mg base n__law_text "_law_text" (defScope s__law_text) T._law_text_a cdv A outer s H E).nox (defBody s__law_text) (t__law_text T E) :=
  (pss_cons (ps_set (i := 1) sc__law_text.nd rfl (Or.inl rfl) pe_str)
      (pss_cons (ps_for PassesOwn.never rfl (pi_list (pe_ix ix_seq (pv 0) pe_int (fun _ _ => rfl))) (pg_tup rfl (pgs_cons (pg_name (i := 2) sc__law_text.nd rfl (Or.inl rfl)) (pgs_cons (pg_name (i := 3) sc__law_text.nd rfl (Or.inl rfl)) pgs_nil)))
      (pss_cons (ps_set (i := 1) sc__law_text.nd rfl (Or.inl rfl) (pe_op op_addU (pe_op op_addU (pe_op op_addU (pv 1) pe_str) (pv 2)) pe_str))
      (pss_cons (ps_for PassesOwn.never rfl (pi_tup (pv 3)) (pg_name (i := 6) sc__law_text.nd rfl (Or.inl rfl))
      (pss_one (ps_set (i := 1) sc__law_text.nd rfl (Or.inl rfl) (pe_op op_addU (pe_op op_addU (pv 1) pe_str) (pv 6)))))
      (pss_one (ps_set (i := 1) sc__law_text.nd rfl (Or.inl rfl) (pe_op op_addU (pv 1) pe_str))))))
      (pss_cons (ps_for PassesOwn.never rfl (pi_list (pe_ix ix_seq (pv 0) pe_int (fun _ _ => rfl))) (pg_tup rfl (pgs_cons (pg_name (i := 4) sc__law_text.nd rfl (Or.inl rfl)) (pgs_cons (pg_name (i := 5) sc__law_text.nd rfl (Or.inl rfl)) pgs_nil)))
      (pss_one (ps_set (i := 1) sc__law_text.nd rfl (Or.inl rfl) (pe_op op_addU (pe_op op_addU (pe_op op_addU (pe_op op_addU (pe_op op_addU (pv 1) pe_str) (pv 4)) pe_str) (pv 5)) pe_str))))
      (pss_one (ps_ret (pe_op op_addU (pv 1) (pe_bm PySem.F.plainAttrs_str PySem.F.slot_str_join PySem.F.type_str_join mt_joinD pe_str (pa_cons (pe_lc (own := [("_law_place", 2)]) (g := (gName 2)) (tt := tYes) rfl sc__law_text.nd (pi_list (pe_ix ix_seq (pv 0) pe_int (fun _ _ => rfl))) (blkOk_by (own := [("_law_place", 2)]) (N := n__law_text) (sc := defScope s__law_text) (by decide +kernel)) (fun _ _ _ _ _ => (pg_name (i := 2) sc__law_text.nd rfl (Or.inl rfl))) (fun _ _ _ _ _ => pts_nil) (fun _ _ _ _ _ => (pe_op op_addU (pe_op op_addU pe_str (pv 2)) pe_str))) pa_nil))))))))
def t__law_looked (T : Tx K mg) (E : XK) : TS := (tSeq (tAsg (tOp (rIx K) (tOp (rIx K) (tVar 1) (tC (.int 0))) (tOp rModI (tVar 3) (tCB (rLen K) (tCons (tOp (rIx K) (tVar 1) (tC (.int 0))) tNil)))) (gName 4))
    (tSeq (tIfS (tTest (tOp (rEqU K) (tVar 2) (tC (.int 0))))
    (tRet (tLst (tCons (tMeth T.World_a "places" (sp_World_places T) [] E0 (tVar 0) tNil) (tCons (tLc (iList K (tOp (rIx K) (tVar 1) (tC (.int 0)))) (gName 5) tYes (tOp (rIx K) (tVar 5) (tC (.int 0))) [5]) tNil))))
    tNext)
    (tSeq (tIfS (tTest (tOp (rEqU K) (tVar 2) (tC (.int 1))))
    (tRet (tLst (tCons (tMeth T.World_a "begins" (sp_World_begins T) [] E0 (tVar 0) tNil) (tCons (tCB (rList K) (tCons (tOp (rIx K) (tVar 1) (tC (.int 2))) tNil)) tNil))))
    tNext)
    (tSeq (tIfS (tTest (tOp (rEqU K) (tVar 2) (tC (.int 2))))
    (tRet (tLst (tCons (tMeth T.World_a "nexts" (sp_World_nexts T) [] E0 (tVar 0) (tCons (tOp (rIx K) (tVar 4) (tC (.int 0))) tNil)) (tCons (tLc (iList K (tOp (rIx K) (tVar 1) (tC (.int 1)))) (gName 6) (tTest (tOp (rEqU K) (tOp (rIx K) (tVar 6) (tC (.int 0))) (tOp (rIx K) (tVar 4) (tC (.int 0))))) (tOp (rIx K) (tVar 6) (tC (.int 1))) [6]) tNil))))
    tNext)
    (tSeq (tIfS (tTest (tOp (rEqU K) (tVar 2) (tC (.int 3))))
    (tRet (tLst (tCons (tMeth T.World_a "moment_of" (sp_World_moment_of T) [] E0 (tVar 0) (tCons (tOp (rIx K) (tVar 4) (tC (.int 0))) tNil)) (tCons (tOp (rIx K) (tVar 4) (tC (.int 1))) tNil))))
    tNext)
    (tRet (tLst (tCons (tMeth T.World_a "written" (sp_World_written T) [] E0 (tVar 0) tNil) (tCons (tCall (sp__law_text T) [] E0 (tCons (tVar 1) tNil)) tNil)))))))))
set_option maxHeartbeats 4000000 in
theorem w__law_looked (T : Tx K mg) (h_World_places : FnOk P w K mg base CX0 lv_World_places T.World_places_a T.World_places_d ["self"] (sp_World_places T)) (h_World_begins : FnOk P w K mg base CX0 lv_World_begins T.World_begins_a T.World_begins_d ["self"] (sp_World_begins T)) (h_World_nexts : FnOk P w K mg base CX0 lv_World_nexts T.World_nexts_a T.World_nexts_d ["self", "place"] (sp_World_nexts T)) (h_World_moment_of : FnOk P w K mg base CX0 lv_World_moment_of T.World_moment_of_a T.World_moment_of_d ["self", "place"] (sp_World_moment_of T)) (h__law_text : FnOk P w K mg base CX0 lv__law_text T._law_text_a T._law_text_d ["_law_parts"] (sp__law_text T)) (h_World_written : FnOk P w K mg base CX0 lv_World_written T.World_written_a T.World_written_d ["self"] (sp_World_written T)) {cdv : Value} {A : Around} {outer : List PySem.Env} {s : Shared} {H : Hp} {E : XK} (hr : Room rm__law_looked (A.deeper (envOfC "_law_looked" (defScope s__law_looked) s.heap.objs.size T._law_looked_a cdv))) :
    PSs (cxOf CX0 P w K mg base n__law_looked "_law_looked" (defScope s__law_looked) T._law_looked_a cdv A outer s H E).nox (defBody s__law_looked) (t__law_looked T E) :=
  (pss_cons (ps_set (i := 4) sc__law_looked.nd rfl (Or.inr rfl) (pe_ix ix_seq (pe_ix ix_seq (pv 1) pe_int (fun _ _ => rfl)) (pe_op op_modD (pv 3) (pe_callB cb_len (by rfl) T.z_len (by decide +kernel) (pa_cons (pe_ix ix_seq (pv 1) pe_int (fun _ _ => rfl)) pa_nil))) (fun _ _ => rfl)))
      (pss_cons (ps_if (pt_cmpR (op_eqU hr.units) (pv 2) pe_int (nomark _))
      (pss_one (ps_ret (pe_lst (pa_cons (pe_meth0 (pv 0) T.World_cl T.World_places_m h_World_places (hr.mono (by decide)) T.World_places_b .nil pass0) (pa_cons (pe_lc (own := [("_law_one", 5)]) (g := (gName 5)) (tt := tYes) rfl sc__law_looked.nd (pi_list (pe_ix ix_seq (pv 1) pe_int (fun _ _ => rfl))) (blkOk_by (own := [("_law_one", 5)]) (N := n__law_looked) (sc := defScope s__law_looked) (by decide +kernel)) (fun _ _ _ _ _ => (pg_name (i := 5) sc__law_looked.nd rfl (Or.inl rfl))) (fun _ _ _ _ _ => pts_nil) (fun _ _ _ _ _ => (pe_ix ix_seq (pv 5) pe_int (fun _ _ => rfl)))) pa_nil)))))
      pss_nil)
      (pss_cons (ps_if (pt_cmpR (op_eqU hr.units) (pv 2) pe_int (nomark _))
      (pss_one (ps_ret (pe_lst (pa_cons (pe_meth0 (pv 0) T.World_cl T.World_begins_m h_World_begins (hr.mono (by decide)) T.World_begins_b .nil pass0) (pa_cons (pe_callTy cb_list (by rfl) T.z_list (by decide +kernel) (pa_cons (pe_ix ix_seq (pv 1) pe_int (fun _ _ => rfl)) pa_nil)) pa_nil)))))
      pss_nil)
      (pss_cons (ps_if (pt_cmpR (op_eqU hr.units) (pv 2) pe_int (nomark _))
      (pss_one (ps_ret (pe_lst (pa_cons (pe_meth (pv 0) T.World_cl T.World_nexts_m h_World_nexts (hr.mono (by decide)) T.World_nexts_b .nil pass0 (pa_cons (pe_ix ix_seq (pv 4) pe_int (fun _ _ => rfl)) pa_nil)) (pa_cons (pe_lc (own := [("_law_step", 6)]) (g := (gName 6)) (tt := (tTest (tOp (rEqU K) (tOp (rIx K) (tVar 6) (tC (.int 0))) (tOp (rIx K) (tVar 4) (tC (.int 0)))))) rfl sc__law_looked.nd (pi_list (pe_ix ix_seq (pv 1) pe_int (fun _ _ => rfl))) (blkOk_by (own := [("_law_step", 6)]) (N := n__law_looked) (sc := defScope s__law_looked) (by decide +kernel)) (fun _ _ _ _ _ => (pg_name (i := 6) sc__law_looked.nd rfl (Or.inl rfl))) (fun _ _ _ _ _ => (pts_one (pt_cmpR (op_eqU hr.units) (pe_ix ix_seq (pv 6) pe_int (fun _ _ => rfl)) (pe_ix ix_seq (pv 4) pe_int (fun _ _ => rfl)) (nomark _)))) (fun _ _ _ _ _ => (pe_ix ix_seq (pv 6) pe_int (fun _ _ => rfl)))) pa_nil)))))
      pss_nil)
      (pss_cons (ps_if (pt_cmpR (op_eqU hr.units) (pv 2) pe_int (nomark _))
      (pss_one (ps_ret (pe_lst (pa_cons (pe_meth (pv 0) T.World_cl T.World_moment_of_m h_World_moment_of (hr.mono (by decide)) T.World_moment_of_b .nil pass0 (pa_cons (pe_ix ix_seq (pv 4) pe_int (fun _ _ => rfl)) pa_nil)) (pa_cons (pe_ix ix_seq (pv 4) pe_int (fun _ _ => rfl)) pa_nil)))))
      pss_nil)
      (pss_one (ps_ret (pe_lst (pa_cons (pe_meth0 (pv 0) T.World_cl T.World_written_m h_World_written (hr.mono (by decide)) T.World_written_b .nil pass0) (pa_cons (pe_call h__law_text (hr.mono (by decide)) (by rfl) T._law_text_g T._law_text_F.kp T._law_text_b .nil pass0 (pa_cons (pv 1) pa_nil)) pa_nil))))))))))
def t__law_stands (T : Tx K mg) (E : XK) : TS := (tSeq (tFor (iRng1 (tCons (tC (.int 7)) tNil)) (gName 4)
    (tSeq (tAsg (tCall (sp__law_looked T) [] E0 (tCons (tVar 0) (tCons (tVar 1) (tCons (tOp rModI (tOp (rAddU K) (tVar 2) (tOp rMulU (tVar 4) (tOp (rIx K) (tLst (tCons (tC (.int 1)) (tCons (tC (.int 2)) (tCons (tC (.int 3)) tNil)))) (tOp rModI (tOp rDivI (tVar 2) (tC (.int 5))) (tC (.int 3)))))) (tC (.int 5))) (tCons (tOp (rAddU K) (tOp rDivI (tVar 2) (tC (.int 15))) (tVar 4)) tNil))))) (gName 5))
    (tSeq (tIfS (tTest (tOp (rNeU K) (tCB (rRepr K) (tCons (tOp (rIx K) (tVar 5) (tC (.int 0))) tNil)) (tCB (rRepr K) (tCons (tOp (rIx K) (tVar 5) (tC (.int 1))) tNil))))
    (tRet (tC (.bl false)))
    tNext)
    (tIfS (tB (tCB (rIsi K) (tCons (tOp (rIx K) (tVar 5) (tC (.int 0))) (tCons (tC (.ty "list")) tNil))))
    (tSeq (tIfS (tTest (tOp (rEqU K) (tOp rModI (tOp rDivI (tVar 2) (tC (.int 3))) (tC (.int 2))) (tC (.int 1))))
    (tDrop (tBM K "list" rAppend (tOp (rIx K) (tVar 5) (tC (.int 0))) (tCons (tC (.str "zz")) tNil)))
    tNext)
    (tDrop (tBM K "list" rAppend (tVar 3) (tCons (tTup (tCons (tOp (rIx K) (tVar 5) (tC (.int 0))) (tCons (tCB (rRepr K) (tCons (tOp (rIx K) (tVar 5) (tC (.int 0))) tNil)) tNil))) tNil))))
    tNext))))
    (tRet (tC (.bl true))))
set_option maxHeartbeats 4000000 in
theorem w__law_stands (T : Tx K mg) (h__law_looked : FnOk P w K mg base CX0 lv__law_looked T._law_looked_a T._law_looked_d ["_law_world_here", "_law_parts", "_law_look", "_law_draw"] (sp__law_looked T)) {cdv : Value} {A : Around} {outer : List PySem.Env} {s : Shared} {H : Hp} {E : XK} (gd : A.guards = some []) (hr : Room rm__law_stands (A.deeper (envOfC "_law_stands" (defScope s__law_stands) s.heap.objs.size T._law_stands_a cdv))) :
    PSs (cxOf CX0 P w K mg base n__law_stands "_law_stands" (defScope s__law_stands) T._law_stands_a cdv A outer s H E).nox (defBody s__law_stands) (t__law_stands T E) :=
  (pss_cons (ps_for PassesOwn.never rfl (pi_range1 (by rfl) T.z_range (pa_cons pe_int pa_nil)) (pg_name (i := 4) sc__law_stands.nd rfl (Or.inl rfl))
      (pss_cons (ps_set (i := 5) sc__law_stands.nd rfl (Or.inl rfl) (pe_call h__law_looked (hr.mono (by decide)) (by rfl) T._law_looked_g T._law_looked_F.kp T._law_looked_b .nil pass0 (pa_cons (pv 0) (pa_cons (pv 1) (pa_cons (pe_op op_modD (pe_op op_addU (pv 2) (pe_op op_mulU (pv 4) (pe_ix ix_seq (pe_lst (pa_cons pe_int (pa_cons pe_int (pa_cons pe_int pa_nil)))) (pe_op op_modD (pe_op op_divD (pv 2) pe_int) pe_int) (fun _ _ => rfl)))) pe_int) (pa_cons (pe_op op_addU (pe_op op_divD (pv 2) pe_int) (pv 4)) pa_nil))))))
      (pss_cons (ps_if (pt_cmpR (op_neU hr.units) (pe_callB (cb_repr hr.units gd) (by rfl) T.z_repr (by decide +kernel) (pa_cons (pe_ix ix_seq (pv 5) pe_int (fun _ _ => rfl)) pa_nil)) (pe_callB (cb_repr hr.units gd) (by rfl) T.z_repr (by decide +kernel) (pa_cons (pe_ix ix_seq (pv 5) pe_int (fun _ _ => rfl)) pa_nil)) (nomark _))
      (pss_one (ps_ret pe_bl))
      pss_nil)
      (pss_one (ps_if (pt_val (pe_callB cb_isi (by rfl) T.z_isinstance (by decide +kernel) (pa_cons (pe_ix ix_seq (pv 5) pe_int (fun _ _ => rfl)) (pa_cons (pe_bltn (v := .ty "list") (by rfl) T.z_list (by decide +kernel) rfl) pa_nil))))
      (pss_cons (ps_if (pt_cmpR (op_eqU hr.units) (pe_op op_modD (pe_op op_divD (pv 2) pe_int) pe_int) pe_int (nomark _))
      (pss_one (ps_expr (pe_bm PySem.F.plainAttrs_list PySem.F.slot_list_append PySem.F.type_list_append mt_append (pe_ix ix_seq (pv 5) pe_int (fun _ _ => rfl)) (pa_cons pe_str pa_nil))))
      pss_nil)
      (pss_one (ps_expr (pe_bm PySem.F.plainAttrs_list PySem.F.slot_list_append PySem.F.type_list_append mt_append (pv 3) (pa_cons (pe_tup (pa_cons (pe_ix ix_seq (pv 5) pe_int (fun _ _ => rfl)) (pa_cons (pe_callB (cb_repr hr.units gd) (by rfl) T.z_repr (by decide +kernel) (pa_cons (pe_ix ix_seq (pv 5) pe_int (fun _ _ => rfl)) pa_nil)) pa_nil))) pa_nil)))))
      pss_nil)))))
      (pss_one (ps_ret pe_bl)))
def t__law_right_by (T : Tx K mg) (E : XK) : TS := (tSeq (tAsg (tCall (sp__law_draws T) [] E0 (tCons (tVar 0) (tCons (tC (.int 50)) tNil))) (gName 1))
    (tSeq (tAsg (tLc (iRng1 (tCons (tOp (rAddU K) (tC (.int 1)) (tOp rModI (tOp (rIx K) (tVar 1) (tC (.int 1))) (tC (.int 4)))) tNil)) (gName 9) tYes (tCall (sp__law_mark_by T) [] E0 (tCons (tOp (rIx K) (tVar 1) (tC (.int 0))) (tCons (tVar 9) tNil))) [9]) (gName 2))
    (tSeq (tAsg (tCall (sp__law_world T) [] E0 (tCons (tSl (rSlL K) (tVar 1) (tPart (tC (.int 2))) tNoPart) (tCons (tVar 2) (tCons (tC (.int 8)) tNil)))) (gName 3))
    (tSeq (tAsg (tCall (sp__law_world T) [] E0 (tCons (tSl (rSlL K) (tVar 1) (tPart (tC (.int 22))) tNoPart) (tCons (tVar 2) (tCons (tC (.int 8)) tNil)))) (gName 4))
    (tSeq (tAsg (tLst (tCons (tCB (rList K) (tCons (tOp (rIx K) (tVar 3) (tC (.int 0))) tNil)) (tCons (tCB (rList K) (tCons (tOp (rIx K) (tVar 3) (tC (.int 1))) tNil)) (tCons (tCB (rList K) (tCons (tOp (rIx K) (tVar 3) (tC (.int 2))) tNil)) tNil)))) (gName 5))
    (tSeq (tAsg (tLst (tCons (tMake T.World_a (sp_World_init T) [] E0 (tCons (tOp (rIx K) (tVar 5) (tC (.int 0))) (tCons (tOp (rIx K) (tVar 5) (tC (.int 1))) (tCons (tOp (rIx K) (tVar 5) (tC (.int 2))) tNil)))) (tCons (tMake T.World_a (sp_World_init T) [] E0 (tCons (tOp (rIx K) (tVar 4) (tC (.int 0))) (tCons (tOp (rIx K) (tVar 4) (tC (.int 1))) (tCons (tOp (rIx K) (tVar 4) (tC (.int 2))) tNil)))) tNil))) (gName 6))
    (tSeq (tFor (iList K (tVar 5)) (gName 7)
    (tSeq (tDrop (tBM K "list" rAppend (tVar 7) (tCons (tC (.str "zz")) tNil)))
    (tDrop (tBM0 K "list" rReverse (tVar 7)))))
    (tSeq (tDrop (tBM K "list" rAppend (tVar 6) (tCons (tCall (sp_read_world T) [] E0 (tCons (tMeth T.World_a "written" (sp_World_written T) [] E0 (tOp (rIx K) (tVar 6) (tC (.int 0))) tNil) tNil)) tNil)))
    (tSeq (tAsg (tLst tNil) (gName 8))
    (tSeq (tFor (iRng1 (tCons (tC (.int 4)) tNil)) (gName 9)
    (tSeq (tAsg (tOp rModI (tOp (rAddU K) (tVar 9) (tOp (rIx K) (tVar 1) (tC (.int 44)))) (tC (.int 3))) (gName 10))
    (tIfS (tNot (tB (tCall (sp__law_stands T) [] E0 (tCons (tOp (rIx K) (tVar 6) (tVar 10)) (tCons (tOp (rIx K) (tLst (tCons (tVar 3) (tCons (tVar 4) (tCons (tVar 3) tNil)))) (tVar 10)) (tCons (tOp (rIx K) (tVar 1) (tOp (rAddU K) (tC (.int 45)) (tVar 9))) (tCons (tVar 8) tNil)))))))
    (tRet (tC (.bl false)))
    tNext)))
    (tRet (tCB (rAll K) (tCons (tLc (iList K (tVar 8)) (gTup K 2 (gCons (gName 11) (gCons (gName 12) gNil))) tYes (tOp (rEqU K) (tCB (rRepr K) (tCons (tVar 11) tNil)) (tVar 12)) [11, 12]) tNil)))))))))))))
set_option maxHeartbeats 4000000 in
theorem w__law_right_by (T : Tx K mg) (h__law_draws : FnOk P w K mg base CX0 lv__law_draws T._law_draws_a T._law_draws_d ["_law_script", "_law_many"] (sp__law_draws T)) (h__law_mark_by : FnOk P w K mg base CX0 lv__law_mark_by T._law_mark_by_a T._law_mark_by_d ["_law_shape", "_law_k"] (sp__law_mark_by T)) (h__law_world : FnOk P w K mg base CX0 lv__law_world T._law_world_a T._law_world_d ["_law_draws_here", "_law_marks", "_law_most"] (sp__law_world T)) (h_World_init : FnOk P w K mg base CX0 lv_World_init T.World_init_a T.World_init_d ["self", "states", "steps", "starts"] (sp_World_init T)) (h_read_world : FnOk P w K mg base CX0 lv_read_world T.read_world_a T.read_world_d ["text"] (sp_read_world T)) (h_World_written : FnOk P w K mg base CX0 lv_World_written T.World_written_a T.World_written_d ["self"] (sp_World_written T)) (h__law_stands : FnG P w K mg base CX0 lv__law_stands T._law_stands_a T._law_stands_d ["_law_world_here", "_law_parts", "_law_draw", "_law_held"] (sp__law_stands T)) {cdv : Value} {A : Around} {outer : List PySem.Env} {s : Shared} {H : Hp} {E : XK} (gd : A.guards = some []) (hr : Room rm__law_right_by (A.deeper (envOfC "_law_right_by" (defScope s__law_right_by) s.heap.objs.size T._law_right_by_a cdv))) :
    PSs (cxOf CX0 P w K mg base n__law_right_by "_law_right_by" (defScope s__law_right_by) T._law_right_by_a cdv A outer s H E).nox (defBody s__law_right_by) (t__law_right_by T E) :=
  (pss_cons (ps_set (i := 1) sc__law_right_by.nd rfl (Or.inr rfl) (pe_call h__law_draws (hr.mono (by decide)) (by rfl) T._law_draws_g T._law_draws_F.kp T._law_draws_b .nil pass0 (pa_cons (pv 0) (pa_cons pe_int pa_nil))))
      (pss_cons (ps_setLc (i := 2) (own := [("_law_k", 9)]) (g := (gName 9)) (tt := tYes) rfl sc__law_right_by.nd rfl rfl (sw_true rfl rfl rfl (by decide +kernel)) (pi_range1 (by rfl) T.z_range (pa_cons (pe_op op_addU pe_int (pe_op op_modD (pe_ix ix_seq (pv 1) pe_int (fun _ _ => rfl)) pe_int)) pa_nil)) (blkOk_by (own := [("_law_k", 9)]) (N := n__law_right_by) (sc := defScope s__law_right_by) (by decide +kernel)) (fun _ _ _ _ _ => (pg_name (i := 9) sc__law_right_by.nd rfl (Or.inl rfl))) (fun _ _ _ _ _ => pts_nil) (fun _ _ _ _ _ => (pe_call h__law_mark_by (hr.mono (by decide)) (by rfl) T._law_mark_by_g T._law_mark_by_F.kp T._law_mark_by_b .nil pass0 (pa_cons (pe_ix ix_seq (pv 1) pe_int (fun _ _ => rfl)) (pa_cons (pv 9) pa_nil)))))
      (pss_cons (ps_set (i := 3) sc__law_right_by.nd rfl (Or.inl rfl) (pe_call h__law_world (hr.mono (by decide)) (by rfl) T._law_world_g T._law_world_F.kp T._law_world_b .nil pass0 (pa_cons (pe_slice sl_list (pv 1) (po_some pe_int) po_none) (pa_cons (pv 2) (pa_cons pe_int pa_nil)))))
      (pss_cons (ps_set (i := 4) sc__law_right_by.nd rfl (Or.inl rfl) (pe_call h__law_world (hr.mono (by decide)) (by rfl) T._law_world_g T._law_world_F.kp T._law_world_b .nil pass0 (pa_cons (pe_slice sl_list (pv 1) (po_some pe_int) po_none) (pa_cons (pv 2) (pa_cons pe_int pa_nil)))))
      (pss_cons (ps_set (i := 5) sc__law_right_by.nd rfl (Or.inl rfl) (pe_lst (pa_cons (pe_callTy cb_list (by rfl) T.z_list (by decide +kernel) (pa_cons (pe_ix ix_seq (pv 3) pe_int (fun _ _ => rfl)) pa_nil)) (pa_cons (pe_callTy cb_list (by rfl) T.z_list (by decide +kernel) (pa_cons (pe_ix ix_seq (pv 3) pe_int (fun _ _ => rfl)) pa_nil)) (pa_cons (pe_callTy cb_list (by rfl) T.z_list (by decide +kernel) (pa_cons (pe_ix ix_seq (pv 3) pe_int (fun _ _ => rfl)) pa_nil)) pa_nil)))))
      (pss_cons (ps_set (i := 6) sc__law_right_by.nd rfl (Or.inl rfl) (pe_lst (pa_cons (pe_make T.World_mk h_World_init (hr.mono (by decide)) (by rfl) T.World_g T.World_init_b .nil pass0 (pa_cons (pe_ix ix_seq (pv 5) pe_int (fun _ _ => rfl)) (pa_cons (pe_ix ix_seq (pv 5) pe_int (fun _ _ => rfl)) (pa_cons (pe_ix ix_seq (pv 5) pe_int (fun _ _ => rfl)) pa_nil)))) (pa_cons (pe_make T.World_mk h_World_init (hr.mono (by decide)) (by rfl) T.World_g T.World_init_b .nil pass0 (pa_cons (pe_ix ix_seq (pv 4) pe_int (fun _ _ => rfl)) (pa_cons (pe_ix ix_seq (pv 4) pe_int (fun _ _ => rfl)) (pa_cons (pe_ix ix_seq (pv 4) pe_int (fun _ _ => rfl)) pa_nil)))) pa_nil))))
      (pss_cons (ps_for PassesOwn.never rfl (pi_list (pv 5)) (pg_name (i := 7) sc__law_right_by.nd rfl (Or.inl rfl))
      (pss_cons (ps_expr (pe_bm PySem.F.plainAttrs_list PySem.F.slot_list_append PySem.F.type_list_append mt_append (pv 7) (pa_cons pe_str pa_nil)))
      (pss_one (ps_expr (pe_bm0 PySem.F.plainAttrs_list PySem.F.slot_list_reverse PySem.F.type_list_reverse mt_reverse (pv 7))))))
      (pss_cons (ps_expr (pe_bm PySem.F.plainAttrs_list PySem.F.slot_list_append PySem.F.type_list_append mt_append (pv 6) (pa_cons (pe_call h_read_world (hr.mono (by decide)) (by rfl) T.read_world_g T.read_world_F.kp T.read_world_b .nil pass0 (pa_cons (pe_meth0 (pe_ix ix_seq (pv 6) pe_int (fun _ _ => rfl)) T.World_cl T.World_written_m h_World_written (hr.mono (by decide)) T.World_written_b .nil pass0) pa_nil)) pa_nil)))
      (pss_cons (ps_set (i := 8) sc__law_right_by.nd rfl (Or.inl rfl) (pe_lst pa_nil))
      (pss_cons (ps_for PassesOwn.never rfl (pi_range1 (by rfl) T.z_range (pa_cons pe_int pa_nil)) (pg_name (i := 9) sc__law_right_by.nd rfl (Or.inl rfl))
      (pss_cons (ps_set (i := 10) sc__law_right_by.nd rfl (Or.inl rfl) (pe_op op_modD (pe_op op_addU (pv 9) (pe_ix ix_seq (pv 1) pe_int (fun _ _ => rfl))) pe_int))
      (pss_one (ps_if (pt_not (pt_val (pe_callG h__law_stands (hr.mono (by decide)) gd (by rfl) T._law_stands_g T._law_stands_F.kp T._law_stands_b pass0 (pa_cons (pe_ix ix_seq (pv 6) (pv 10) (fun _ _ => rfl)) (pa_cons (pe_ix ix_seq (pe_lst (pa_cons (pv 3) (pa_cons (pv 4) (pa_cons (pv 3) pa_nil)))) (pv 10) (fun _ _ => rfl)) (pa_cons (pe_ix ix_seq (pv 1) (pe_op op_addU pe_int (pv 9)) (fun _ _ => rfl)) (pa_cons (pv 8) pa_nil)))))))
      (pss_one (ps_ret pe_bl))
      pss_nil))))
      (pss_one (ps_ret (pe_callB (cr_all rfl) (by rfl) T.z_all (by decide +kernel) (pa_cons (pe_lc (own := [("_law_told", 11), ("_law_kept", 12)]) (g := (gTup K 2 (gCons (gName 11) (gCons (gName 12) gNil)))) (tt := tYes) rfl sc__law_right_by.nd (pi_list (pv 8)) (blkOk_by (own := [("_law_told", 11), ("_law_kept", 12)]) (N := n__law_right_by) (sc := defScope s__law_right_by) (by decide +kernel)) (fun _ _ _ _ _ => (pg_tup rfl (pgs_cons (pg_name (i := 11) sc__law_right_by.nd rfl (Or.inl rfl)) (pgs_cons (pg_name (i := 12) sc__law_right_by.nd rfl (Or.inl rfl)) pgs_nil)))) (fun _ _ _ _ _ => pts_nil) (fun _ _ _ _ _ => (pe_cmpR (op_eqU hr.units) (pe_callB (cb_repr hr.units gd) (by rfl) T.z_repr (by decide +kernel) (pa_cons (pv 11) pa_nil)) (pv 12) (nomark _)))) pa_nil))))))))))))))
def t_law (T : Tx K mg) (E : XK) : TS := (tSeq (tFor (iList K (tLst (tCons (tVar 0) (tCons (tOp (rAddU K) (tSl (rSlL K) (tVar 0) (tPart (tC (.int 1))) tNoPart) (tLst (tCons (tOp (rAddU K) (tC (.int 7)) (tCB (rLen K) (tCons (tVar 0) tNil))) tNil))) (tCons (tVar 0) tNil))))) (gName 1)
    (tIfS (tNot (tB (tCall (sp__law_right_by T) [] E0 (tCons (tVar 1) tNil))))
    (tRet (tC (.bl false)))
    tNext))
    (tRet (tC (.bl true))))
set_option maxHeartbeats 4000000 in
theorem w_law (T : Tx K mg) (h__law_right_by : FnG P w K mg base CX0 lv__law_right_by T._law_right_by_a T._law_right_by_d ["_law_script"] (sp__law_right_by T)) {cdv : Value} {A : Around} {outer : List PySem.Env} {s : Shared} {H : Hp} {E : XK} (gd : A.guards = some []) (hr : Room rm_law (A.deeper (envOfC "law" (defScope s_law) s.heap.objs.size T.law_a cdv))) :
    PSs (cxOf CX0 P w K mg base n_law "law" (defScope s_law) T.law_a cdv A outer s H E).nox (defBody s_law) (t_law T E) :=
  (pss_cons (ps_for PassesOwn.never rfl (pi_list (pe_lst (pa_cons (pv 0) (pa_cons (pe_op op_addU (pe_slice sl_list (pv 0) (po_some pe_int) po_none) (pe_lst (pa_cons (pe_op op_addU pe_int (pe_callB cb_len (by rfl) T.z_len (by decide +kernel) (pa_cons (pv 0) pa_nil))) pa_nil))) (pa_cons (pv 0) pa_nil))))) (pg_name (i := 1) sc_law.nd rfl (Or.inl rfl))
      (pss_one (ps_if (pt_not (pt_val (pe_callG h__law_right_by (hr.mono (by decide)) gd (by rfl) T._law_right_by_g T._law_right_by_F.kp T._law_right_by_b pass0 (pa_cons (pv 1) pa_nil))))
      (pss_one (ps_ret pe_bl))
      pss_nil)))
      (pss_one (ps_ret pe_bl)))
end
end K61

namespace K61
open PySem L2 DL
local macro_rules | `(tactic| walk_at "dlisi") => `(tactic| first | exact isi_str_str (.str _) | exact isi_str_list (.str _) | exact isi_str_tuple (.str _) | exact isi_str_int (.str _) | exact isi_str_bool (.str _) | exact isi_str_dict (.str _) | exact isi_list_str (.lst _) | exact isi_list_list (.lst _) | exact isi_list_tuple (.lst _) | exact isi_list_int (.lst _) | exact isi_list_bool (.lst _) | exact isi_list_dict (.lst _) | exact isi_tuple_str (.tup _) | exact isi_tuple_list (.tup _) | exact isi_tuple_tuple (.tup _) | exact isi_tuple_int (.tup _) | exact isi_tuple_bool (.tup _) | exact isi_tuple_dict (.tup _) | exact isi_int_str (.int _) | exact isi_int_list (.int _) | exact isi_int_tuple (.int _) | exact isi_int_int (.int _) | exact isi_int_bool (.int _) | exact isi_int_dict (.int _) | exact isi_bool_str (.bl _) | exact isi_bool_list (.bl _) | exact isi_bool_tuple (.bl _) | exact isi_bool_int (.bl _) | exact isi_bool_bool (.bl _) | exact isi_bool_dict (.bl _) | exact isi_NoneType_str (.non) | exact isi_NoneType_list (.non) | exact isi_NoneType_tuple (.non) | exact isi_NoneType_int (.non) | exact isi_NoneType_bool (.non) | exact isi_NoneType_dict (.non) | exact isiL_str (by assumption) | exact isiL_list (by assumption) | exact isiL_tuple (by assumption) | exact isiL_int (by assumption) | exact isiL_bool (by assumption) | exact isiL_dict (by assumption))
local macro_rules | `(tactic| walk_at "dlside") => `(tactic| first | (with_reducible assumption) | omega | (exact Or.inr ⟨by omega, by omega⟩) | (exact Or.inl ⟨by omega, by omega⟩) | (with_reducible exact AsS.fr) | (with_reducible exact AsL.fr) | (with_reducible exact AsS.tu) | (with_reducible exact AsD.fr) | (rw [sizeLine_eq]; omega) | (rw [sizeLine_eq]; simp only [List.length_cons, List.length_nil]; omega) | (rw [sizeLine_eq]; simp only [Str.length_append]; omega) | (rw [sizeLine_eq]; decide +kernel) | decide)
local macro_rules | `(tactic| walk_at "dlix") => `(tactic| first | (with_reducible assumption) | exact L2.atI_nat (by with_reducible assumption) | rfl)
local macro_rules | `(tactic| walk_at "dlopv") => `(tactic| first | (with_reducible exact opv_addI) | (with_reducible exact opv_subI) | (with_reducible exact opv_gtI) | (with_reducible exact opv_ltI) | (with_reducible exact opv_leI) | (with_reducible exact opv_geI) | (with_reducible exact opv_eqI) | (with_reducible exact opv_neI) | (with_reducible exact opv_eqS) | (with_reducible exact opv_neS) | (with_reducible exact opv_leS) | (with_reducible exact opv_inSign) | (with_reducible exact opv_notInSign) | ((with_reducible apply opv_modI); (walk_at "dlside")) | ((with_reducible apply opv_divI) <;> walk_at "dlside") | ((with_reducible apply opv_mulI); (walk_at "dlside")) | ((with_reducible apply opv_addC); (walk_at "dlside")) | ((with_reducible apply opv_mulS); (walk_at "dlside"); (walk_at "dlside"); (walk_at "dlside")) | ((with_reducible apply opv_addT); (walk_at "dlside")) | ((with_reducible apply opv_ixS); (walk_at "dlside"); (walk_at "dlix")) | ((with_reducible apply opv_ixStr); (walk_at "dlside"); (walk_at "dlix")) | ((with_reducible apply opv_addL); (walk_at "dlside"); (walk_at "dlside"); (walk_at "dlside")) | ((with_reducible apply opv_inS); (walk_at "dlside")) | ((with_reducible apply opv_notInS); (walk_at "dlside")))
local macro_rules | `(tactic| walk_at "dlca") => `(tactic| first | (apply ca_lenS; (walk_at "dlside")) | (apply ca_lenT; (walk_at "dlside")) | exact ca_min2 | exact ca_max2 | (apply ca_list; (walk_at "dlside")) | (apply ca_lenD; (walk_at "dlside")) | (apply ca_listD; (walk_at "dlside")) | exact ca_tupT | (apply ca_tupL; (walk_at "dlside")) | (apply ca_sortedS; (walk_at "dlside"); (walk_at "dlside")) | walk_at "dlisi")
local macro_rules | `(tactic| walk_at "dlme") => `(tactic| first | (apply me_split <;> walk_at "dlside") | exact me_ends | (apply me_join; (walk_at "dlside"); (walk_at "dlside")))
local macro_rules | `(tactic| walk_at "dlev") => `(tactic| first
  | (with_reducible assumption)
  | exact ev_var rfl | exact ev_int | exact ev_str | exact ev_bl | exact ev_non | exact ev_val | (with_reducible exact ea_nil) | (with_reducible exact et_yes)
  | ((with_reducible apply ev_op); (walk_at "dlev"); (walk_at "dlev"); (walk_at "dlopv"))
  | ((with_reducible apply ea_cons); (walk_at "dlev"); (walk_at "dlev"))
  | ((with_reducible apply ev_cb); (walk_at "dlev"); (walk_at "dlca"))
  | ((with_reducible apply ev_bmS); (walk_at "dlev"); (walk_at "dlev"); (walk_at "dlme"))
  | ((with_reducible apply ev_tup); (walk_at "dlev"); (walk_at "dlside"))
  | ((with_reducible apply ev_lst); (walk_at "dlev"); (walk_at "dlside"))
  | ((with_reducible apply et_test); (walk_at "dlev")) | ((with_reducible apply et_B); (walk_at "dlev"))
  | ((with_reducible apply et_not); (walk_at "dlev"))
  | ((with_reducible apply et_or); (walk_at "dlev"); (intro _; walk_at "dlev"))
  | ((with_reducible apply et_and); (walk_at "dlev"); (intro _; walk_at "dlev"))
  | ((with_reducible apply ev_andV); (walk_at "dlev"); (intro _; walk_at "dlev"))
  | ((with_reducible apply ev_orV); (walk_at "dlev"); (intro _; walk_at "dlev"))
  | ((with_reducible apply ev_chain); (walk_at "dlev"); (walk_at "dlev"); (walk_at "dlopv"); (intro _; walk_at "dlev"); (intro _; walk_at "dlopv"))
  | ((with_reducible apply ev_slL); (walk_at "dlev"); (walk_at "dlev"); (walk_at "dlev"); (walk_at "dlside"))
  | ((with_reducible apply ev_slS); (walk_at "dlev"); (walk_at "dlev"); (walk_at "dlev"); (walk_at "dlside"))
  | ((with_reducible apply ev_fstr); (walk_at "dlev")) | (with_reducible exact ej_nil) | ((with_reducible apply ej_cons); (walk_at "dlev"); (walk_at "dlside"); (walk_at "dlev")) | ((with_reducible apply ev_fmtS); (walk_at "dlev"); (walk_at "dlside"))
  | (with_reducible exact eo_none) | ((with_reducible apply eo_some); (walk_at "dlev")) | ((with_reducible apply ev_un); (walk_at "dlev")) | assumption)
local macro_rules | `(tactic| walk_at "dlevb") => `(tactic| refine EvT.is (by walk_at "dlev") ?_)
local macro_rules | `(tactic| walk_at "dlle") => `(tactic| ((iterate 24 (try (first | exact le_nil | refine le_same ?_ | refine le_none ?_))); done))
section
variable {K : PySem.W.Frag} {mg : Str → Option Value} (T : Tx K mg) {E : XK}
theorem d_kept_words : ∀ m ds O Φ Ψ, p_kept_words m ds O Φ Ψ → SE K m E (t_kept_words T E) (startE n_kept_words ds) O { nx := fun _ O' => Φ .non O', rt := Φ, xs := Ψ } := bodyV (by
  rintro ds d ⟨rfl, rfl⟩
  refine se_seq (se_asg (EvE.xe (by walk_at "dlev") ?_))
  exact se_ret (EvE.xe (EvE.is (by walk_at "dlev") (by rfl)) ⟨rfl, rfl⟩))
theorem d_is_pair : ∀ m ds O Φ Ψ, p_is_pair m ds O Φ Ψ → SE K m E (t_is_pair T E) (startE n_is_pair ds) O { nx := fun _ O' => Φ .non O', rt := Φ, xs := Ψ } := bodyV (by
  rintro ds d ⟨x, y, rfl, rfl⟩
  exact se_ret (EvE.xe (EvE.is (by walk_at "dlev") (by rfl)) ⟨rfl, rfl⟩))
theorem head_at {x : Str} (h : 1 ≤ x.length) : atI x.cps.toList 0 = some (x.cps.toList.headD 0) := by
  have hl : 1 ≤ x.cps.toList.length := by rw [Array.length_toList]; exact h
  cases q : x.cps.toList with
  | nil => rw [q] at hl; simp at hl
  | cons a b => simp [atI, ixN]
theorem d_is_mark : ∀ m ds O Φ Ψ, p_is_mark m ds O Φ Ψ → SE K m E (t_is_mark T E) (startE n_is_mark ds) O { nx := fun _ O' => Φ .non O', rt := Φ, xs := Ψ } := bodyV (by
  rintro ds d ⟨x, rfl, hx, rfl⟩
  have hz : x.length ≤ sizeLine := by rw [sizeLine_eq]; omega
  refine se_seq (se_ifE (b := !(decide ((1 : Int) ≤ x.length) && decide ((x.length : Int) ≤ 8)) || !decide (x.cps.toList.headD 0 ∈ smallT.cps.toList)) ?_ (fun hb => ?_) (fun hb => ?_))
  · refine et_or (x := false) (EvT.is (by walk_at "dlev") (by rfl)) (fun _ => et_or (by walk_at "dlev") fun hc => ?_)
    have h1 : 1 ≤ x.length := by
      rw [Bool.not_eq_false', Bool.and_eq_true] at hc
      have := of_decide_eq_true hc.1
      omega
    have h2 := head_at h1
    exact EvT.is (by walk_at "dlev") (by rfl)
  · refine se_ret (EvE.xe (by walk_at "dlev") ⟨?_, rfl⟩)
    unfold markB; rw [hb]; rfl
  · refine se_next ?_
    refine se_ret (EvE.xe (d := .bl (markB x)) ?_ ⟨rfl, rfl⟩)
    have e : markB x = (x.cps.toList.all (fun c => decide (c ∈ smallT.cps.toList) || decide (c ∈ figT.cps.toList)) && !decide (x ∈ keptL)) := by unfold markB; rw [hb]; rfl
    rw [e]
    refine ev_andV ?_ (fun _ => ?_)
    · refine EvE.is (b := .bl (x.cps.toList.all (fun c => decide (c ∈ smallT.cps.toList) || decide (c ∈ figT.cps.toList)))) (ev_cb (ea_cons (ev_lcS (x := x) (f := fun i => x.cps.toList[i]?.map fun c => .bl (decide (c ∈ smallT.cps.toList) || decide (c ∈ figT.cps.toList))) (by walk_at "dlev") (by omega) (by decide) (fun i ch p hi => ⟨true, by walk_at "dlev", fun _ => ⟨_, by rw [hi]; rfl, EvE.is (by walk_at "dlev") (by rfl)⟩, fun h => nomatch h⟩)) ea_nil)
        (ca_all (bs := x.cps.toList.map (fun c => decide (c ∈ smallT.cps.toList) || decide (c ∈ figT.cps.toList))) (.inl ?_))) ?_
      · congr 1
        rw [show x.length = x.cps.toList.length from (Array.length_toList).symm]
        rw [given_map, List.map_map]; rfl
      · rw [List.all_map]; rfl
    · have hk : EvE K [] (tCall (sp_kept_words T) [] E0 tNil) (startE n_is_mark [.str x]) [] (.lst (dStrs keptL)) := ev_call0 ea_nil ⟨rfl, rfl⟩
      walk_at "dlev")
end
end K61

namespace K61
open PySem L2 DL
local macro_rules | `(tactic| walk_at "dlisi") => `(tactic| first | exact isi_str_str (.str _) | exact isi_str_list (.str _) | exact isi_str_tuple (.str _) | exact isi_str_int (.str _) | exact isi_str_bool (.str _) | exact isi_str_dict (.str _) | exact isi_list_str (.lst _) | exact isi_list_list (.lst _) | exact isi_list_tuple (.lst _) | exact isi_list_int (.lst _) | exact isi_list_bool (.lst _) | exact isi_list_dict (.lst _) | exact isi_tuple_str (.tup _) | exact isi_tuple_list (.tup _) | exact isi_tuple_tuple (.tup _) | exact isi_tuple_int (.tup _) | exact isi_tuple_bool (.tup _) | exact isi_tuple_dict (.tup _) | exact isi_int_str (.int _) | exact isi_int_list (.int _) | exact isi_int_tuple (.int _) | exact isi_int_int (.int _) | exact isi_int_bool (.int _) | exact isi_int_dict (.int _) | exact isi_bool_str (.bl _) | exact isi_bool_list (.bl _) | exact isi_bool_tuple (.bl _) | exact isi_bool_int (.bl _) | exact isi_bool_bool (.bl _) | exact isi_bool_dict (.bl _) | exact isi_NoneType_str (.non) | exact isi_NoneType_list (.non) | exact isi_NoneType_tuple (.non) | exact isi_NoneType_int (.non) | exact isi_NoneType_bool (.non) | exact isi_NoneType_dict (.non) | exact isiL_str (by assumption) | exact isiL_list (by assumption) | exact isiL_tuple (by assumption) | exact isiL_int (by assumption) | exact isiL_bool (by assumption) | exact isiL_dict (by assumption))
local macro_rules | `(tactic| walk_at "dlside") => `(tactic| first | (with_reducible assumption) | omega | (exact Or.inr ⟨by omega, by omega⟩) | (exact Or.inl ⟨by omega, by omega⟩) | (with_reducible exact AsS.fr) | (with_reducible exact AsL.fr) | (with_reducible exact AsS.tu) | (with_reducible exact AsD.fr) | (rw [sizeLine_eq]; omega) | (rw [sizeLine_eq]; simp only [List.length_cons, List.length_nil]; omega) | (rw [sizeLine_eq]; simp only [Str.length_append]; omega) | (rw [sizeLine_eq]; decide +kernel) | decide)
local macro_rules | `(tactic| walk_at "dlix") => `(tactic| first | (with_reducible assumption) | exact L2.atI_nat (by with_reducible assumption) | rfl)
local macro_rules | `(tactic| walk_at "dlopv") => `(tactic| first | (with_reducible exact opv_addI) | (with_reducible exact opv_subI) | (with_reducible exact opv_gtI) | (with_reducible exact opv_ltI) | (with_reducible exact opv_leI) | (with_reducible exact opv_geI) | (with_reducible exact opv_eqI) | (with_reducible exact opv_neI) | (with_reducible exact opv_eqS) | (with_reducible exact opv_neS) | (with_reducible exact opv_leS) | (with_reducible exact opv_inSign) | (with_reducible exact opv_notInSign) | ((with_reducible apply opv_modI); (walk_at "dlside")) | ((with_reducible apply opv_divI) <;> walk_at "dlside") | ((with_reducible apply opv_mulI); (walk_at "dlside")) | ((with_reducible apply opv_addC); (walk_at "dlside")) | ((with_reducible apply opv_mulS); (walk_at "dlside"); (walk_at "dlside"); (walk_at "dlside")) | ((with_reducible apply opv_addT); (walk_at "dlside")) | ((with_reducible apply opv_ixS); (walk_at "dlside"); (walk_at "dlix")) | ((with_reducible apply opv_ixStr); (walk_at "dlside"); (walk_at "dlix")) | ((with_reducible apply opv_addL); (walk_at "dlside"); (walk_at "dlside"); (walk_at "dlside")) | ((with_reducible apply opv_inS); (walk_at "dlside")) | ((with_reducible apply opv_notInS); (walk_at "dlside")))
local macro_rules | `(tactic| walk_at "dlca") => `(tactic| first | (apply ca_lenS; (walk_at "dlside")) | (apply ca_lenT; (walk_at "dlside")) | exact ca_min2 | exact ca_max2 | (apply ca_list; (walk_at "dlside")) | (apply ca_lenD; (walk_at "dlside")) | (apply ca_listD; (walk_at "dlside")) | exact ca_tupT | (apply ca_tupL; (walk_at "dlside")) | (apply ca_sortedS; (walk_at "dlside"); (walk_at "dlside")) | walk_at "dlisi")
local macro_rules | `(tactic| walk_at "dlme") => `(tactic| first | (apply me_split <;> walk_at "dlside") | exact me_ends | (apply me_join; (walk_at "dlside"); (walk_at "dlside")))
local macro_rules | `(tactic| walk_at "dlev") => `(tactic| first
  | (with_reducible assumption)
  | exact ev_var rfl | exact ev_int | exact ev_str | exact ev_bl | exact ev_non | exact ev_val | (with_reducible exact ea_nil) | (with_reducible exact et_yes)
  | ((with_reducible apply ev_op); (walk_at "dlev"); (walk_at "dlev"); (walk_at "dlopv"))
  | ((with_reducible apply ea_cons); (walk_at "dlev"); (walk_at "dlev"))
  | ((with_reducible apply ev_cb); (walk_at "dlev"); (walk_at "dlca"))
  | ((with_reducible apply ev_bmS); (walk_at "dlev"); (walk_at "dlev"); (walk_at "dlme"))
  | ((with_reducible apply ev_tup); (walk_at "dlev"); (walk_at "dlside"))
  | ((with_reducible apply ev_lst); (walk_at "dlev"); (walk_at "dlside"))
  | ((with_reducible apply et_test); (walk_at "dlev")) | ((with_reducible apply et_B); (walk_at "dlev"))
  | ((with_reducible apply et_not); (walk_at "dlev"))
  | ((with_reducible apply et_or); (walk_at "dlev"); (intro _; walk_at "dlev"))
  | ((with_reducible apply et_and); (walk_at "dlev"); (intro _; walk_at "dlev"))
  | ((with_reducible apply ev_andV); (walk_at "dlev"); (intro _; walk_at "dlev"))
  | ((with_reducible apply ev_orV); (walk_at "dlev"); (intro _; walk_at "dlev"))
  | ((with_reducible apply ev_chain); (walk_at "dlev"); (walk_at "dlev"); (walk_at "dlopv"); (intro _; walk_at "dlev"); (intro _; walk_at "dlopv"))
  | ((with_reducible apply ev_slL); (walk_at "dlev"); (walk_at "dlev"); (walk_at "dlev"); (walk_at "dlside"))
  | ((with_reducible apply ev_slS); (walk_at "dlev"); (walk_at "dlev"); (walk_at "dlev"); (walk_at "dlside"))
  | ((with_reducible apply ev_fstr); (walk_at "dlev")) | (with_reducible exact ej_nil) | ((with_reducible apply ej_cons); (walk_at "dlev"); (walk_at "dlside"); (walk_at "dlev")) | ((with_reducible apply ev_fmtS); (walk_at "dlev"); (walk_at "dlside"))
  | (with_reducible exact eo_none) | ((with_reducible apply eo_some); (walk_at "dlev")) | ((with_reducible apply ev_un); (walk_at "dlev")) | assumption)
local macro_rules | `(tactic| walk_at "dlevb") => `(tactic| refine EvT.is (by walk_at "dlev") ?_)
local macro_rules | `(tactic| walk_at "dlle") => `(tactic| ((iterate 24 (try (first | exact le_nil | refine le_same ?_ | refine le_none ?_))); done))
section
variable {K : PySem.W.Frag} {mg : Str → Option Value} (T : Tx K mg) {E : XK}
theorem mark_len {x : Str} (h : markB x = true) : 1 ≤ x.length ∧ x.length ≤ 8 := by
  unfold markB at h
  simp only [Bool.and_eq_true, Bool.not_eq_true', Bool.or_eq_false_iff, Bool.not_eq_false', decide_eq_true_eq] at h
  omega
theorem dStrs_at {xs : List Str} {i : Nat} {x : Str} (h : xs[i]? = some x) : (dStrs xs)[i]? = some (.str x) := by
  unfold dStrs; rw [List.getElem?_map, h]; rfl
theorem dStrs_len (xs : List Str) : (dStrs xs).length = xs.length := List.length_map ..
theorem ev_mark {te : TE} {env : DL.Env} {O : OL} {x : Str} (h : EvE K [] te env O (.str x)) (hx : x.length ≤ 1000) : EvE K [] (tCall (sp_is_mark T) [] E0 (tCons te tNil)) env O (.bl (markB x)) := ev_call0 (ea_cons h ea_nil) ⟨x, rfl, hx, rfl⟩
theorem d_is_moment : ∀ m ds O Φ Ψ, p_is_moment m ds O Φ Ψ → SE K m E (t_is_moment T E) (startE n_is_moment ds) O { nx := fun _ O' => Φ .non O', rt := Φ, xs := Ψ } := bodyV (by
  rintro ds d ⟨xs, rfl, ⟨h1, h2, h3⟩, rfl⟩
  have hn := dStrs_len xs
  refine se_seq (se_ifF (EvT.is (by walk_at "dlev") ?_) (se_next ?_))
  · rw [hn, Bool.not_true, Bool.false_or, decide_eq_false]; omega
  refine se_seq (se_forR1p (σT := Unit) (n := xs.length) (fun _ _ => True) (fun _ _ => [some (.tup (dStrs xs)), none]) (fun _ _ => []) () ?_ (by omega) trivial ?_ rfl mono_se (fun i s hi _ => ?_) (fun s _ => ?_))
  · rw [← hn]; walk_at "dlev"
  · walk_at "dlle"
  · have hi' : i < xs.length := by omega
    have e0 : xs[i]? = some (xs[i]) := List.getElem?_eq_getElem hi'
    have e1 := atI_nat (dStrs_at e0)
    have hm := h2 _ (List.getElem_mem hi')
    have hl := (mark_len hm).2
    refine se_ifF (EvT.is (x := false || (decide ((0 : Int) < i) && false)) (et_or (EvT.is (et_not (et_B (ev_mark T (x := xs[i]) (by walk_at "dlev") (by omega)))) (by rw [hm]; rfl)) fun _ => et_and (by walk_at "dlev") fun hb => ?_) (by rw [Bool.and_false]; rfl)) (se_next ?_)
    · have hp : 0 < i := by have := of_decide_eq_true hb; omega
      have e2 : xs[i - 1]? = some (xs[i - 1]'(by omega)) := List.getElem?_eq_getElem (by omega)
      have e3 : atI (dStrs xs) ((i : Int) - 1) = some (.str (xs[i - 1]'(by omega))) := atI_int (by omega) (by rw [show ((i : Int) - 1).toNat = i - 1 by omega]; exact dStrs_at e2)
      exact EvT.is (y := false) (by walk_at "dlev") (List.pairwise_iff_getElem.mp h3 (i - 1) i _ hi' (by omega))
    · exact ⟨(), trivial, by walk_at "dlle", rfl⟩
  · exact se_ret (EvE.xe (by walk_at "dlev") ⟨rfl, rfl⟩))
theorem drawsL_len (ns : List Int) : ∀ k, (drawsL ns k).2.length = k
  | 0 => rfl
  | k + 1 => by show ((drawsL ns k).2 ++ [_]).length = k + 1; rw [List.length_append, drawsL_len ns k]; rfl
theorem drawsL_more (ns : List Int) : ∀ k, 0 ≤ (drawsL ns k).1 ∧ (drawsL ns k).1 < 2147483647
  | 0 => ⟨by show (0:Int) ≤ 7; decide, by show (7:Int) < 2147483647; decide⟩
  | k + 1 => ⟨Int.emod_nonneg _ (by decide), Int.emod_lt_of_pos _ (by decide)⟩
theorem mix_b (x : Int) : 0 ≤ mix x ∧ mix x < 2147483629 := ⟨Int.emod_nonneg _ (by decide), Int.emod_lt_of_pos _ (by decide)⟩
theorem dInts_at {ns : List Int} {i : Nat} (h : i < ns.length) : (dInts ns)[i]? = some (.int (ns.getD i 0)) := by
  unfold dInts
  rw [List.getElem?_map, List.getElem?_eq_getElem h]
  simp [List.getD, h]
theorem dInts_len (ns : List Int) : (dInts ns).length = ns.length := List.length_map ..
theorem d__law_draws : ∀ m ds O Φ Ψ, p__law_draws m ds O Φ Ψ → SE K m E (t__law_draws T E) (startE n__law_draws ds) O { nx := fun _ O' => Φ .non O', rt := Φ, xs := Ψ } := bodyV (by
  rintro ds d ⟨ns, n, rfl, h0, hn, rfl⟩
  have hln := dInts_len ns
  refine se_seq (se_asg (xe_lst (xa_nil ⟨by decide, fun p hp => ?_⟩)))
  refine se_seq (se_asg (EvE.xe (by walk_at "dlev") ?_))
  refine se_seq (se_forR1p (σT := Unit) (n := n) (fun i s => True) (fun i s => [some (.lst (dInts ns)), some (.int n), some (ptr p), some (.int (drawsL ns i).1), none, none, none]) (fun i _ => [(p, .lst (dInts (drawsL ns i).2))])
     () (by walk_at "dlev") (by omega) trivial (by walk_at "dlle") rfl mono_se (fun i s hi _ => ?_) (fun s _ => ?_))
  · have hm := drawsL_more ns i
    refine se_seq (se_asg (EvE.xe (by walk_at "dlev") ?_))
    refine se_cut1 (o1 := [(p, .lst (dInts (drawsL ns i).2))]) (e1 := [some (.lst (dInts ns)), some (.int n), some (ptr p), some (.int (drawsL ns i).1), some (.int i), some (.int (ns.getD (i % ns.length) 0)), none]) ?_ ?_
    · refine se_ifE (b := decide (0 < (ns.length : Int))) (EvT.is (by walk_at "dlev") (by rw [hln])) (fun hb => ?_) (fun hb => ?_)
      · have hl : 0 < ns.length := by have := of_decide_eq_true hb; omega
        have e1 : atI (dInts ns) ((i : Int) % ((dInts ns).length : Nat)) = some (.int (ns.getD (i % ns.length) 0)) := atI_int (Int.emod_nonneg _ (by omega)) (by
          rw [hln, show ((i : Int) % (ns.length : Nat)).toNat = i % ns.length by rw [← Int.natCast_emod]; rfl]
          exact dInts_at (Nat.mod_lt _ hl))
        have e2 : (0 : Int) < ((dInts ns).length : Nat) := by omega
        exact se_asg (EvE.xe (by walk_at "dlev") ⟨by walk_at "dlle", rfl⟩)
      · have hl : ns = [] := by
          have := of_decide_eq_false hb
          exact List.eq_nil_of_length_eq_zero (by omega)
        subst hl
        exact se_next ⟨by walk_at "dlle", rfl⟩
    · refine se_seq (se_asg (EvE.xe (by walk_at "dlev") ?_))
      refine se_seq (se_asg (EvE.xe (by walk_at "dlev") ?_))
      refine se_append (k := 0) (ev_var rfl) rfl (EvE.xe (by walk_at "dlev") ⟨0, _, rfl, ?_, ?_⟩)
      · rw [dInts_len, drawsL_len, sizeLine_eq]; omega
      · refine ⟨(), trivial, by walk_at "dlle", ?_⟩
        show _ = [(p, OD.lst (dInts ((drawsL ns i).2 ++ _)))]
        rw [dInts, dInts, List.map_append]
        rfl
  · exact se_ret (XE.frz (EvE.xe (by walk_at "dlev") ⟨0, p, _, rfl, rfl, rfl, rfl⟩)))
end
end K61

namespace K61
open PySem L2 DL
local macro_rules | `(tactic| walk_at "dlisi") => `(tactic| first | exact isi_str_str (.str _) | exact isi_str_list (.str _) | exact isi_str_tuple (.str _) | exact isi_str_int (.str _) | exact isi_str_bool (.str _) | exact isi_str_dict (.str _) | exact isi_list_str (.lst _) | exact isi_list_list (.lst _) | exact isi_list_tuple (.lst _) | exact isi_list_int (.lst _) | exact isi_list_bool (.lst _) | exact isi_list_dict (.lst _) | exact isi_tuple_str (.tup _) | exact isi_tuple_list (.tup _) | exact isi_tuple_tuple (.tup _) | exact isi_tuple_int (.tup _) | exact isi_tuple_bool (.tup _) | exact isi_tuple_dict (.tup _) | exact isi_int_str (.int _) | exact isi_int_list (.int _) | exact isi_int_tuple (.int _) | exact isi_int_int (.int _) | exact isi_int_bool (.int _) | exact isi_int_dict (.int _) | exact isi_bool_str (.bl _) | exact isi_bool_list (.bl _) | exact isi_bool_tuple (.bl _) | exact isi_bool_int (.bl _) | exact isi_bool_bool (.bl _) | exact isi_bool_dict (.bl _) | exact isi_NoneType_str (.non) | exact isi_NoneType_list (.non) | exact isi_NoneType_tuple (.non) | exact isi_NoneType_int (.non) | exact isi_NoneType_bool (.non) | exact isi_NoneType_dict (.non) | exact isiL_str (by assumption) | exact isiL_list (by assumption) | exact isiL_tuple (by assumption) | exact isiL_int (by assumption) | exact isiL_bool (by assumption) | exact isiL_dict (by assumption))
local macro_rules | `(tactic| walk_at "dlside") => `(tactic| first | (with_reducible assumption) | omega | (exact Or.inr ⟨by omega, by omega⟩) | (exact Or.inl ⟨by omega, by omega⟩) | (with_reducible exact AsS.fr) | (with_reducible exact AsL.fr) | (with_reducible exact AsS.tu) | (with_reducible exact AsD.fr) | (rw [sizeLine_eq]; omega) | (rw [sizeLine_eq]; simp only [List.length_cons, List.length_nil]; omega) | (rw [sizeLine_eq]; simp only [Str.length_append]; omega) | (rw [sizeLine_eq]; decide +kernel) | decide)
local macro_rules | `(tactic| walk_at "dlix") => `(tactic| first | (with_reducible assumption) | exact L2.atI_nat (by with_reducible assumption) | rfl)
local macro_rules | `(tactic| walk_at "dlopv") => `(tactic| first | (with_reducible exact opv_addI) | (with_reducible exact opv_subI) | (with_reducible exact opv_gtI) | (with_reducible exact opv_ltI) | (with_reducible exact opv_leI) | (with_reducible exact opv_geI) | (with_reducible exact opv_eqI) | (with_reducible exact opv_neI) | (with_reducible exact opv_eqS) | (with_reducible exact opv_neS) | (with_reducible exact opv_leS) | (with_reducible exact opv_inSign) | (with_reducible exact opv_notInSign) | ((with_reducible apply opv_modI); (walk_at "dlside")) | ((with_reducible apply opv_divI) <;> walk_at "dlside") | ((with_reducible apply opv_mulI); (walk_at "dlside")) | ((with_reducible apply opv_addC); (walk_at "dlside")) | ((with_reducible apply opv_mulS); (walk_at "dlside"); (walk_at "dlside"); (walk_at "dlside")) | ((with_reducible apply opv_addT); (walk_at "dlside")) | ((with_reducible apply opv_ixS); (walk_at "dlside"); (walk_at "dlix")) | ((with_reducible apply opv_ixStr); (walk_at "dlside"); (walk_at "dlix")) | ((with_reducible apply opv_addL); (walk_at "dlside"); (walk_at "dlside"); (walk_at "dlside")) | ((with_reducible apply opv_inS); (walk_at "dlside")) | ((with_reducible apply opv_notInS); (walk_at "dlside")))
local macro_rules | `(tactic| walk_at "dlca") => `(tactic| first | (apply ca_lenS; (walk_at "dlside")) | (apply ca_lenT; (walk_at "dlside")) | exact ca_min2 | exact ca_max2 | (apply ca_list; (walk_at "dlside")) | (apply ca_lenD; (walk_at "dlside")) | (apply ca_listD; (walk_at "dlside")) | exact ca_tupT | (apply ca_tupL; (walk_at "dlside")) | (apply ca_sortedS; (walk_at "dlside"); (walk_at "dlside")) | walk_at "dlisi")
local macro_rules | `(tactic| walk_at "dlme") => `(tactic| first | (apply me_split <;> walk_at "dlside") | exact me_ends | (apply me_join; (walk_at "dlside"); (walk_at "dlside")))
local macro_rules | `(tactic| walk_at "dlev") => `(tactic| first
  | (with_reducible assumption)
  | exact ev_var rfl | exact ev_int | exact ev_str | exact ev_bl | exact ev_non | exact ev_val | (with_reducible exact ea_nil) | (with_reducible exact et_yes)
  | ((with_reducible apply ev_op); (walk_at "dlev"); (walk_at "dlev"); (walk_at "dlopv"))
  | ((with_reducible apply ea_cons); (walk_at "dlev"); (walk_at "dlev"))
  | ((with_reducible apply ev_cb); (walk_at "dlev"); (walk_at "dlca"))
  | ((with_reducible apply ev_bmS); (walk_at "dlev"); (walk_at "dlev"); (walk_at "dlme"))
  | ((with_reducible apply ev_tup); (walk_at "dlev"); (walk_at "dlside"))
  | ((with_reducible apply ev_lst); (walk_at "dlev"); (walk_at "dlside"))
  | ((with_reducible apply et_test); (walk_at "dlev")) | ((with_reducible apply et_B); (walk_at "dlev"))
  | ((with_reducible apply et_not); (walk_at "dlev"))
  | ((with_reducible apply et_or); (walk_at "dlev"); (intro _; walk_at "dlev"))
  | ((with_reducible apply et_and); (walk_at "dlev"); (intro _; walk_at "dlev"))
  | ((with_reducible apply ev_andV); (walk_at "dlev"); (intro _; walk_at "dlev"))
  | ((with_reducible apply ev_orV); (walk_at "dlev"); (intro _; walk_at "dlev"))
  | ((with_reducible apply ev_chain); (walk_at "dlev"); (walk_at "dlev"); (walk_at "dlopv"); (intro _; walk_at "dlev"); (intro _; walk_at "dlopv"))
  | ((with_reducible apply ev_slL); (walk_at "dlev"); (walk_at "dlev"); (walk_at "dlev"); (walk_at "dlside"))
  | ((with_reducible apply ev_slS); (walk_at "dlev"); (walk_at "dlev"); (walk_at "dlev"); (walk_at "dlside"))
  | ((with_reducible apply ev_fstr); (walk_at "dlev")) | (with_reducible exact ej_nil) | ((with_reducible apply ej_cons); (walk_at "dlev"); (walk_at "dlside"); (walk_at "dlev")) | ((with_reducible apply ev_fmtS); (walk_at "dlev"); (walk_at "dlside"))
  | (with_reducible exact eo_none) | ((with_reducible apply eo_some); (walk_at "dlev")) | ((with_reducible apply ev_un); (walk_at "dlev")) | assumption)
local macro_rules | `(tactic| walk_at "dlevb") => `(tactic| refine EvT.is (by walk_at "dlev") ?_)
local macro_rules | `(tactic| walk_at "dlle") => `(tactic| ((iterate 24 (try (first | exact le_nil | refine le_same ?_ | refine le_none ?_))); done))
section
variable {K : PySem.W.Frag} {mg : Str → Option Value} (T : Tx K mg) {E : XK}
theorem let_at : ∀ i : Nat, i < 26 → letT.cps.toList[i]? = some (97 + i) := by decide +kernel
theorem let_ix (i : Nat) : atI letT.cps.toList ((i % 26 : Nat) : Int) = some (97 + i % 26) := L2.atI_nat (let_at _ (Nat.mod_lt _ (by decide)))
theorem letT_len : letT.length = 26 := by decide +kernel
theorem mkLoop_len (s k : Nat) : ∀ t, (mkLoop s k t).length = t
  | 0 => rfl
  | t + 1 => by
    unfold mkLoop
    rw [Str.length_append, mkLoop_len s k t]
    split <;> rfl
theorem d__law_mark_by : ∀ m ds O Φ Ψ, p__law_mark_by m ds O Φ Ψ → SE K m E (t__law_mark_by T E) (startE n__law_mark_by ds) O { nx := fun _ O' => Φ .non O', rt := Φ, xs := Ψ } := bodyV (by
  rintro ds d ⟨s, k, rfl, hs, hk, rfl⟩
  have hll : letT.length ≤ sizeLine := by rw [letT_len, sizeLine_eq]; decide
  refine se_seq (se_asg (EvE.xe (d := .str letT) ev_str ?_))
  refine se_seq (se_ifE (b := decide ((s : Int) % 4 = 0)) (by walk_at "dlev") (fun hb => ?_) (fun hb => ?_))
  · have hb' : s % 4 = 0 := by have := of_decide_eq_true hb; omega
    have e1 : atI letT.cps.toList ((s : Int) / 4 % 26) = some (97 + s / 4 % 26) := by
      rw [show (s : Int) / 4 % 26 = ((s / 4 % 26 : Nat) : Int) by omega]; exact let_ix _
    have e2 : (⟨#[97 + s / 4 % 26]⟩ : Str).length * (1 + (k : Int)).toNat ≤ 1000000 := by
      rw [show (⟨#[97 + s / 4 % 26]⟩ : Str).length = 1 from rfl]; omega
    refine se_ret (EvE.xe (EvE.is (by
      refine ev_op (b := .int (1 + (k : Int))) (a := .str ⟨#[97 + s / 4 % 26]⟩) (by walk_at "dlev") (by walk_at "dlev") ?_
      refine opv_mulS ?_ ?_ ?_
      walk_at "dlside"
      walk_at "dlside"
      walk_at "dlside") (congrArg Dt.str (?_ : repS (let1 (s / 4)) (1 + (k : Int)).toNat = mkBy s k))) ⟨rfl, rfl⟩)
    rw [show (1 + (k : Int)).toNat = 1 + k by omega, mkBy, if_pos hb']
  · have hb' : ¬ s % 4 = 0 := by have := of_decide_eq_false hb; omega
    refine se_next ?_
    have hp : s / 4 % 7 < 7 := Nat.mod_lt _ (by decide)
    generalize hpl : s / 4 % 7 = p at hp
    generalize hN : p + 1 + s / 28 % (8 - p) = N
    have hN8 : N ≤ 8 := by have := Nat.mod_lt (s / 28) (show 0 < 8 - p by omega); omega
    refine se_seq (se_asg (EvE.xe (d := .int (p : Nat)) (EvE.is (by walk_at "dlev") (congrArg Dt.int (by omega))) ?_))
    refine se_seq (se_asg (EvE.xe (by walk_at "dlev") ?_))
    have e0 : (0 : Int) < 8 - (p : Int) := by omega
    refine se_seq (se_forR1p (σT := Unit) (n := (N : Nat)) (fun _ _ => True) (fun i _ => [some (.int s), some (.int k), some (.str letT), some (.int p), some (.str (mkLoop s k i)), none, none]) (fun _ _ => []) () (ea_cons (EvE.is (by walk_at "dlev") (congrArg Dt.int ?_)) ea_nil) (by omega) trivial ?_ rfl mono_se (fun i u hi _ => ?_) (fun u _ => ?_))
    · rw [← hN, show (8 : Int) - (p : Int) = ((8 - p : Nat) : Int) by omega]
      push_cast
      rfl
    · walk_at "dlle"
    · have hl := mkLoop_len s k i
      refine se_ifE (b := decide ((i : Int) = (p : Int))) (by walk_at "dlev") (fun hc => ?_) (fun hc => ?_)
      · have hc' : i = p := by have := of_decide_eq_true hc; omega
        have e1 : atI letT.cps.toList (((s : Int) / 224 + k) % 26) = some (97 + (s / 224 + k) % 26) := by
          rw [show ((s : Int) / 224 + k) % 26 = (((s / 224 + k) % 26 : Nat) : Int) by omega]; exact let_ix _
        refine se_asg (EvE.xe (by walk_at "dlev") ⟨(), trivial, ?_, rfl⟩)
        have e2 : mkLoop s k (i + 1) = mkLoop s k i ++ ⟨#[97 + (s / 224 + k) % 26]⟩ := by
          show mkLoop s k i ++ _ = _
          rw [hpl, if_pos hc']; rfl
        simp only [e2]
        walk_at "dlle"
      · have hc' : ¬ i = p := by have := of_decide_eq_false hc; omega
        have e1 : atI letT.cps.toList (((s : Int) / 7 + (i : Int) * (1 + (s : Int) % 5)) % 26) = some (97 + (s / 7 + i * (1 + s % 5)) % 26) := by
          rw [show ((s : Int) / 7 + (i : Int) * (1 + (s : Int) % 5)) % 26 = (((s / 7 + i * (1 + s % 5)) % 26 : Nat) : Int) by push_cast; rfl]; exact let_ix _
        have e3 : CMul (i : Int) (1 + (s : Int) % 5) := Or.inr ⟨by omega, by omega⟩
        refine se_asg (EvE.xe (by walk_at "dlev") ⟨(), trivial, ?_, rfl⟩)
        have e2 : mkLoop s k (i + 1) = mkLoop s k i ++ ⟨#[97 + (s / 7 + i * (1 + s % 5)) % 26]⟩ := by
          show mkLoop s k i ++ _ = _
          rw [hpl, if_neg hc']; rfl
        simp only [e2]
        walk_at "dlle"
    · refine se_seq (se_asg (EvE.xe (d := .str keptT) ev_str ?_))
      have hl := mkLoop_len s k N
      have hx : (mkLoop s k (N : Int).toNat).length ≤ sizeLine := by rw [Int.toNat_natCast, sizeLine_eq]; omega
      have hkt : keptT.length + 2 ≤ sizeLine := by rw [sizeLine_eq]; decide +kernel
      refine se_seq (se_ifE (b := decide (mkLoop s k N ∈ keptL)) (EvT.is (by walk_at "dlev") (by rw [Int.toNat_natCast]; rfl)) (fun hc => ?_) (fun hc => ?_))
      · have hc' := of_decide_eq_true hc
        have e4 : (cutS (mkLoop s k (N : Int).toNat) none (some 7)).length + ("0" : Str).length ≤ sizeLine := by
          have := cutS_length (mkLoop s k (N : Int).toNat) none (some 7)
          have h1 : ("0" : Str).length = 1 := by decide +kernel
          rw [Int.toNat_natCast] at this ⊢
          rw [sizeLine_eq]
          omega
        refine se_ret (EvE.xe (EvE.is (by walk_at "dlev") (congrArg Dt.str (?_ : cutS (mkLoop s k (N : Int).toNat) none (some 7) ++ "0" = mkBy s k))) ⟨rfl, rfl⟩)
        rw [Int.toNat_natCast, mkBy, if_neg hb', hpl, hN, if_pos hc']
      · have hc' := of_decide_eq_false hc
        refine se_next (se_ret (EvE.xe (EvE.is (by walk_at "dlev") (congrArg Dt.str (?_ : mkLoop s k (N : Int).toNat = mkBy s k))) ⟨rfl, rfl⟩))
        rw [Int.toNat_natCast, mkBy, if_neg hb', hpl, hN, if_neg hc'])
end
end K61

namespace K61
open PySem L2 DL
local macro_rules | `(tactic| walk_at "dlisi") => `(tactic| first | exact isi_str_str (.str _) | exact isi_str_list (.str _) | exact isi_str_tuple (.str _) | exact isi_str_int (.str _) | exact isi_str_bool (.str _) | exact isi_str_dict (.str _) | exact isi_list_str (.lst _) | exact isi_list_list (.lst _) | exact isi_list_tuple (.lst _) | exact isi_list_int (.lst _) | exact isi_list_bool (.lst _) | exact isi_list_dict (.lst _) | exact isi_tuple_str (.tup _) | exact isi_tuple_list (.tup _) | exact isi_tuple_tuple (.tup _) | exact isi_tuple_int (.tup _) | exact isi_tuple_bool (.tup _) | exact isi_tuple_dict (.tup _) | exact isi_int_str (.int _) | exact isi_int_list (.int _) | exact isi_int_tuple (.int _) | exact isi_int_int (.int _) | exact isi_int_bool (.int _) | exact isi_int_dict (.int _) | exact isi_bool_str (.bl _) | exact isi_bool_list (.bl _) | exact isi_bool_tuple (.bl _) | exact isi_bool_int (.bl _) | exact isi_bool_bool (.bl _) | exact isi_bool_dict (.bl _) | exact isi_NoneType_str (.non) | exact isi_NoneType_list (.non) | exact isi_NoneType_tuple (.non) | exact isi_NoneType_int (.non) | exact isi_NoneType_bool (.non) | exact isi_NoneType_dict (.non) | exact isiL_str (by assumption) | exact isiL_list (by assumption) | exact isiL_tuple (by assumption) | exact isiL_int (by assumption) | exact isiL_bool (by assumption) | exact isiL_dict (by assumption))
local macro_rules | `(tactic| walk_at "dlside") => `(tactic| first | (with_reducible assumption) | omega | (exact Or.inr ⟨by omega, by omega⟩) | (exact Or.inl ⟨by omega, by omega⟩) | (with_reducible exact AsS.fr) | (with_reducible exact AsL.fr) | (with_reducible exact AsS.tu) | (with_reducible exact AsD.fr) | (rw [sizeLine_eq]; omega) | (rw [sizeLine_eq]; simp only [List.length_cons, List.length_nil]; omega) | (rw [sizeLine_eq]; simp only [Str.length_append]; omega) | (rw [sizeLine_eq]; decide +kernel) | decide)
local macro_rules | `(tactic| walk_at "dlix") => `(tactic| first | (with_reducible assumption) | exact L2.atI_nat (by with_reducible assumption) | rfl)
local macro_rules | `(tactic| walk_at "dlopv") => `(tactic| first | (with_reducible exact opv_addI) | (with_reducible exact opv_subI) | (with_reducible exact opv_gtI) | (with_reducible exact opv_ltI) | (with_reducible exact opv_leI) | (with_reducible exact opv_geI) | (with_reducible exact opv_eqI) | (with_reducible exact opv_neI) | (with_reducible exact opv_eqS) | (with_reducible exact opv_neS) | (with_reducible exact opv_leS) | (with_reducible exact opv_inSign) | (with_reducible exact opv_notInSign) | ((with_reducible apply opv_modI); (walk_at "dlside")) | ((with_reducible apply opv_divI) <;> walk_at "dlside") | ((with_reducible apply opv_mulI); (walk_at "dlside")) | ((with_reducible apply opv_addC); (walk_at "dlside")) | ((with_reducible apply opv_mulS); (walk_at "dlside"); (walk_at "dlside"); (walk_at "dlside")) | ((with_reducible apply opv_addT); (walk_at "dlside")) | ((with_reducible apply opv_ixS); (walk_at "dlside"); (walk_at "dlix")) | ((with_reducible apply opv_ixStr); (walk_at "dlside"); (walk_at "dlix")) | ((with_reducible apply opv_addL); (walk_at "dlside"); (walk_at "dlside"); (walk_at "dlside")) | ((with_reducible apply opv_inS); (walk_at "dlside")) | ((with_reducible apply opv_notInS); (walk_at "dlside")))
local macro_rules | `(tactic| walk_at "dlca") => `(tactic| first | (apply ca_lenS; (walk_at "dlside")) | (apply ca_lenT; (walk_at "dlside")) | exact ca_min2 | exact ca_max2 | (apply ca_list; (walk_at "dlside")) | (apply ca_lenD; (walk_at "dlside")) | (apply ca_listD; (walk_at "dlside")) | exact ca_tupT | (apply ca_tupL; (walk_at "dlside")) | (apply ca_sortedS; (walk_at "dlside"); (walk_at "dlside")) | walk_at "dlisi")
local macro_rules | `(tactic| walk_at "dlme") => `(tactic| first | (apply me_split <;> walk_at "dlside") | exact me_ends | (apply me_join; (walk_at "dlside"); (walk_at "dlside")))
local macro_rules | `(tactic| walk_at "dlev") => `(tactic| first
  | (with_reducible assumption)
  | exact ev_var rfl | exact ev_int | exact ev_str | exact ev_bl | exact ev_non | exact ev_val | (with_reducible exact ea_nil) | (with_reducible exact et_yes)
  | ((with_reducible apply ev_op); (walk_at "dlev"); (walk_at "dlev"); (walk_at "dlopv"))
  | ((with_reducible apply ea_cons); (walk_at "dlev"); (walk_at "dlev"))
  | ((with_reducible apply ev_cb); (walk_at "dlev"); (walk_at "dlca"))
  | ((with_reducible apply ev_bmS); (walk_at "dlev"); (walk_at "dlev"); (walk_at "dlme"))
  | ((with_reducible apply ev_tup); (walk_at "dlev"); (walk_at "dlside"))
  | ((with_reducible apply ev_lst); (walk_at "dlev"); (walk_at "dlside"))
  | ((with_reducible apply et_test); (walk_at "dlev")) | ((with_reducible apply et_B); (walk_at "dlev"))
  | ((with_reducible apply et_not); (walk_at "dlev"))
  | ((with_reducible apply et_or); (walk_at "dlev"); (intro _; walk_at "dlev"))
  | ((with_reducible apply et_and); (walk_at "dlev"); (intro _; walk_at "dlev"))
  | ((with_reducible apply ev_andV); (walk_at "dlev"); (intro _; walk_at "dlev"))
  | ((with_reducible apply ev_orV); (walk_at "dlev"); (intro _; walk_at "dlev"))
  | ((with_reducible apply ev_chain); (walk_at "dlev"); (walk_at "dlev"); (walk_at "dlopv"); (intro _; walk_at "dlev"); (intro _; walk_at "dlopv"))
  | ((with_reducible apply ev_slL); (walk_at "dlev"); (walk_at "dlev"); (walk_at "dlev"); (walk_at "dlside"))
  | ((with_reducible apply ev_slS); (walk_at "dlev"); (walk_at "dlev"); (walk_at "dlev"); (walk_at "dlside"))
  | ((with_reducible apply ev_fstr); (walk_at "dlev")) | (with_reducible exact ej_nil) | ((with_reducible apply ej_cons); (walk_at "dlev"); (walk_at "dlside"); (walk_at "dlev")) | ((with_reducible apply ev_fmtS); (walk_at "dlev"); (walk_at "dlside"))
  | (with_reducible exact eo_none) | ((with_reducible apply eo_some); (walk_at "dlev")) | ((with_reducible apply ev_un); (walk_at "dlev")) | assumption)
local macro_rules | `(tactic| walk_at "dlevb") => `(tactic| refine EvT.is (by walk_at "dlev") ?_)
local macro_rules | `(tactic| walk_at "dlle") => `(tactic| ((iterate 24 (try (first | exact le_nil | refine le_same ?_ | refine le_none ?_))); done))
section
variable {K : PySem.W.Frag} {mg : Str → Option Value} (T : Tx K mg) {E : XK}
abbrev bitsD : List Dt := [.int 1, .int 2, .int 4, .int 8, .int 16, .int 32, .int 64, .int 128, .int 256, .int 512, .int 1024, .int 2048]
theorem bit_at (i : Nat) (h : i < 12) : bitsD[i]? = some (.int ((2 ^ i : Nat) : Int)) := by
  have : i = 0 ∨ i = 1 ∨ i = 2 ∨ i = 3 ∨ i = 4 ∨ i = 5 ∨ i = 6 ∨ i = 7 ∨ i = 8 ∨ i = 9 ∨ i = 10 ∨ i = 11 := by omega
  rcases this with rfl | rfl | rfl | rfl | rfl | rfl | rfl | rfl | rfl | rfl | rfl | rfl <;> rfl
theorem d__law_moment : ∀ m ds O Φ Ψ, p__law_moment m ds O Φ Ψ → SE K m E (t__law_moment T E) (startE n__law_moment ds) O { nx := fun _ O' => Φ .non O', rt := Φ, xs := Ψ } := bodyV (by
  rintro ds d ⟨ms, dr, rfl, hm, rfl⟩
  have hn := dStrs_len ms
  refine se_seq (se_asg (EvE.xe (d := .lst bitsD) (by walk_at "dlev") ?_))
  have hlc : EvE K [] (tLc (iRng1 (tCons (tCB (rLen K) (tCons (tVar 0) tNil)) tNil)) (gName 3) (tTest (tOp (rEqU K) (tOp rModI (tOp rDivI (tVar 1) (tOp (rIx K) (tVar 2) (tVar 3))) (tC (.int 2))) (tC (.int 1)))) (tOp (rIx K) (tVar 0) (tVar 3)) [3]) [some (.lst (dStrs ms)), some (.int dr), some (.lst bitsD), none] [] (.lst (dStrs (pick ms dr))) := by
    refine EvE.isL (ev_lcR (n := ms.length) (fun i => if (decide (dr / 2 ^ i % 2 = 1)) = true then some (.str (ms.getD i "")) else none) ?_ (by omega) (by omega) (by decide) (fun i p hi => ?_)) ?_
    · rw [← hn]; walk_at "dlev"
    · have hi' : i < ms.length := by omega
      obtain ⟨q, hq⟩ : ∃ q, q = 2 ^ i := ⟨_, rfl⟩
      have e1 : atI bitsD (i : Int) = some (.int (q : Nat)) := by rw [hq]; exact L2.atI_nat (bit_at i (by omega))
      have e2 : atI (dStrs ms) (i : Int) = some (.str (ms.getD i "")) := L2.atI_nat (dStrs_at (by rw [List.getD_eq_getElem?_getD, List.getElem?_eq_getElem hi']; rfl))
      have h1 : q ≤ 2 ^ 11 := by rw [hq]; exact Nat.pow_le_pow_right (by decide) (by omega)
      have h2 : 0 < q := by rw [hq]; exact Nat.pow_pos (by decide)
      have h3 : (0 : Int) < (q : Int) := by omega
      have h4 : (q : Int) < 1073741824 := by omega
      have hb0 : decide (((dr : Int) / (q : Int)) % 2 = 1) = decide (dr / 2 ^ i % 2 = 1) := by
        rw [← hq, show ((dr : Int) / (q : Int) % 2) = ((dr / q % 2 : Nat) : Int) by rw [Int.natCast_emod, Int.natCast_ediv]; rfl]
        exact decide_eq_decide.mpr (by omega)
      refine ⟨decide (dr / 2 ^ i % 2 = 1), EvT.is (by walk_at "dlev") hb0, fun hb => ⟨.str (ms.getD i ""), if_pos hb, by walk_at "dlev"⟩, fun hb => if_neg (by rw [hb]; decide)⟩
    · rw [Int.toNat_natCast, given_rfilter, pick, dStrs, List.map_map]; rfl
  have hp : (pick ms dr).length < 64 := by
    unfold pick
    rw [List.length_map]
    have := List.length_filter_le (fun i => decide (dr / 2 ^ i % 2 = 1)) (List.range ms.length)
    rw [List.length_range] at this
    omega
  exact se_ret (EvE.xe (by walk_at "dlev") ⟨rfl, rfl⟩))
/-! the world that the draws give -/
def dn (dd : List Int) (i : Nat) : Nat := (dd.getD i 0).toNat
def plc (dd : List Int) (k : Nat) : Str := mkBy (dn dd 1) k
def many (dd : List Int) : Nat := 1 + dn dd 0 % 8
def lPs (dd : List Int) (ms : List Str) : Pl := (List.range (many dd)).map fun k => (plc dd k, srtS (pick ms (dn dd (2 + k))))
def lWs1 (dd : List Int) (k : Nat) : Wy := (List.range (1 + dn dd (10 + k) % min 3 (many dd))).map fun j => (plc dd ((k + dn dd 18) % many dd), plc dd ((dn dd (10 + k) / 3 + j) % many dd))
def lWs (dd : List Int) : Wy := (List.range (many dd)).flatMap (lWs1 dd)
def lFs (dd : List Int) : List Str := (List.range (1 + dn dd 19 % 9 % many dd)).map fun j => plc dd ((dn dd 19 / 9 + j) % many dd)
theorem dn_at {dd : List Int} (h : Draws dd) {i : Nat} (hi : i < dd.length) : atI (dInts dd) (i : Int) = some (.int (dn dd i)) := by
  refine L2.atI_nat ?_
  rw [dInts_at hi]
  have h0 : 0 ≤ dd.getD i 0 := by
    rw [List.getD_eq_getElem?_getD, List.getElem?_eq_getElem hi]
    exact (h _ (List.getElem_mem hi)).1
  rw [dn, Int.toNat_of_nonneg h0]
theorem dn_lt {dd : List Int} (h : Draws dd) (i : Nat) : dn dd i < 2147483629 := by
  unfold dn
  rw [List.getD_eq_getElem?_getD]
  cases q : dd[i]? with
  | none => decide
  | some x =>
    have := (h x (List.mem_of_getElem? q)).2
    show x.toNat < _
    omega
theorem range_at {f : Nat → Dt} {n i : Nat} (h : i < n) : ((List.range n).map f)[i]? = some (f i) := by
  rw [List.getElem?_map, List.getElem?_range h]; rfl
theorem d__law_world (hgood : ∀ dd ms, Draws dd → Marks ms → GoodAll (lPs dd ms) (lWs dd) (lFs dd)) : ∀ m ds O Φ Ψ, p__law_world m ds O Φ Ψ → SE K m E (t__law_world T E) (startE n__law_world ds) O { nx := fun _ O' => Φ .non O', rt := Φ, xs := Ψ } := by
  rintro m ds O Φ Ψ ⟨rfl, rfl, dd, ms, rfl, hl, hd, hm, f⟩
  have hx := f _ _ _ (hgood dd ms hd hm)
  have hml := hm.2.1
  have d0 : atI (dInts dd) 0 = some (.int (dn dd 0)) := dn_at hd (i := 0) (by omega)
  have d1 : atI (dInts dd) 1 = some (.int (dn dd 1)) := dn_at hd (i := 1) (by omega)
  have d18 : atI (dInts dd) 18 = some (.int (dn dd 18)) := dn_at hd (i := 18) (by omega)
  have d19 : atI (dInts dd) 19 = some (.int (dn dd 19)) := dn_at hd (i := 19) (by omega)
  generalize hn : many dd = n
  have hn8 : 1 ≤ n ∧ n ≤ 8 := by rw [← hn, many]; omega
  have l1 := dn_lt hd 1
  refine se_seq (se_asg (EvE.xe (d := .int n) (EvE.is (by walk_at "dlev") (congrArg Dt.int ?_)) ?_))
  · rw [← hn, many]; push_cast; rfl
  let plD : List Dt := (List.range n).map fun k => .str (plc dd k)
  have pl_at : ∀ i, i < n → atI plD (i : Int) = some (.str (plc dd i)) := fun i hi => L2.atI_nat (range_at hi)
  refine se_seq (se_asg (EvE.xe (d := .lst plD) (EvE.isL (ev_lcR (n := n) (fun i => some (.str (plc dd i))) (by walk_at "dlev") (by omega) (by omega) (by decide) (fun i p hi => ⟨true, et_yes, fun _ => ⟨_, rfl, ?_⟩, fun h => nomatch h⟩)) (by rw [Int.toNat_natCast, given_range])) ?_))
  · exact ev_call0 (by walk_at "dlev") ⟨dn dd 1, i, rfl, by omega, by omega, rfl⟩
  refine se_seq (se_asg (EvE.xe (d := .lst (stD (lPs dd ms))) (EvE.isL (ev_lcR (n := n) (fun i => some (.tup [.str (plc dd i), .tup (dStrs (srtS (pick ms (dn dd (2 + i)))))])) (by walk_at "dlev") (by omega) (by omega) (by decide) (fun i p hi => ⟨true, et_yes, fun _ => ⟨_, rfl, ?_⟩, fun h => nomatch h⟩)) ?_) ?_))
  · have hi' : i < n := by omega
    have e1 := pl_at i hi'
    have e2 : atI (dInts dd) (2 + (i : Int)) = some (.int (dn dd (2 + i))) := by
      rw [show (2 : Int) + i = ((2 + i : Nat) : Int) by omega]; exact dn_at hd (by omega)
    refine ev_tup (ea_cons (by walk_at "dlev") (ea_cons (ev_call0 (by walk_at "dlev") ⟨ms, dn dd (2 + i), rfl, by omega, rfl⟩) ea_nil)) (show 2 ≤ sizeLine by rw [sizeLine_eq]; decide)
  · rw [Int.toNat_natCast, given_range, lPs, hn, stD, List.map_map]; rfl
  refine se_seq (se_asg (xe_lst (xa_nil ⟨by decide, fun p hp => ?_⟩)))
  let wAll : Nat → Wy := fun k => (List.range k).flatMap (lWs1 dd)
  have wlen : ∀ k, (wAll k).length ≤ 3 * k := by
    intro k
    induction k with
    | zero => exact Nat.le_refl _
    | succ k ih =>
      show ((List.range (k + 1)).flatMap (lWs1 dd)).length ≤ _
      rw [List.range_succ, List.flatMap_append, List.length_append, List.flatMap_singleton]
      have h1 : (lWs1 dd k).length ≤ 3 := by
        unfold lWs1
        rw [List.length_map, List.length_range, hn]
        have := Nat.mod_lt (dn dd (10 + k)) (show 0 < min 3 n by omega)
        omega
      have : ((List.range k).flatMap (lWs1 dd)).length ≤ 3 * k := ih
      omega
  refine se_seq (se_forR1p (σT := Unit) (n := n) (fun _ _ => True) (fun i _ => [some (.lst (dInts dd)), some (.lst (dStrs ms)), some (.int 8), some (.int n), some (.lst plD), some (.lst (stD (lPs dd ms))), some (ptr p), none, none, none, none]) (fun i _ => [(p, .lst (wsD (wAll i)))]) () (by walk_at "dlev") (by omega) trivial (by walk_at "dlle") rfl mono_se (fun i u hi _ => ?_) (fun u _ => ?_))
  · have hi' : i < n := by omega
    have e1 : atI (dInts dd) (10 + (i : Int)) = some (.int (dn dd (10 + i))) := by
      rw [show (10 : Int) + i = ((10 + i : Nat) : Int) by omega]; exact dn_at hd (by omega)
    have e2 : (0 : Int) < (if (n : Int) < 3 then (n : Int) else 3) := by split <;> omega
    have e3 : (if (n : Int) < 3 then (n : Int) else 3) = ((min 3 n : Nat) : Int) := by split <;> omega
    have hj1 := Nat.mod_lt (dn dd (10 + i)) (show 0 < min 3 n by omega)
    refine se_seq (se_asg (EvE.xe (by walk_at "dlev") ?_))
    refine se_forR1p (σT := Unit) (n := (1 + dn dd (10 + i) % min 3 n : Nat)) (fun _ _ => True) (fun j _ => [some (.lst (dInts dd)), some (.lst (dStrs ms)), some (.int 8), some (.int n), some (.lst plD), some (.lst (stD (lPs dd ms))), some (ptr p), some (.int i), none, some (.int (dn dd (10 + i))), none])
      (fun j _ => [(p, .lst (wsD (wAll i ++ (lWs1 dd i).take j)))]) () (ea_cons (EvE.is (by walk_at "dlev") (congrArg Dt.int ?_)) ea_nil) (by omega) trivial (by walk_at "dlle") (by rw [List.take_zero, List.append_nil]) (fun _ _ _ l ⟨_, z1, z2, z3⟩ => ⟨(), z1, z2.trans l, z3⟩) (fun j u hj _ => ?_) (fun u _ => ?_)
    · rw [e3]; push_cast; rfl
    · have hj' : j < 1 + dn dd (10 + i) % min 3 n := by omega
      have q1 : (0 : Int) < (n : Int) := by omega
      have q2 : atI plD (((i : Int) + (dn dd 18 : Nat)) % (n : Int)) = some (.str (plc dd ((i + dn dd 18) % n))) := by
        rw [show ((i : Int) + (dn dd 18 : Nat)) % (n : Int) = (((i + dn dd 18) % n : Nat) : Int) by push_cast; rfl]
        exact pl_at _ (Nat.mod_lt _ (by omega))
      have q3 : atI plD (((dn dd (10 + i) : Nat) / 3 + (j : Int)) % (n : Int)) = some (.str (plc dd ((dn dd (10 + i) / 3 + j) % n))) := by
        rw [show (((dn dd (10 + i) : Nat) : Int) / 3 + (j : Int)) % (n : Int) = (((dn dd (10 + i) / 3 + j) % n : Nat) : Int) by push_cast; rfl]
        exact pl_at _ (Nat.mod_lt _ (by omega))
      have q4 : [Dt.str (plc dd ((i + dn dd 18) % n)), Dt.str (plc dd ((dn dd (10 + i) / 3 + j) % n))].length ≤ sizeLine := by rw [sizeLine_eq]; exact (by decide : 2 ≤ 16777216)
      refine se_append (k := 0) (ev_var rfl) rfl (EvE.xe (by walk_at "dlev") ⟨0, _, rfl, ?_, ⟨(), trivial, by walk_at "dlle", ?_⟩⟩)
      · have h1 := wlen i
        have h2 : ((lWs1 dd i).take j).length ≤ j := by rw [List.length_take]; omega
        rw [wsD, List.length_map, List.length_append, sizeLine_eq]
        omega
      · have hlw : (lWs1 dd i)[j]? = some (plc dd ((i + dn dd 18) % n), plc dd ((dn dd (10 + i) / 3 + j) % n)) := by
          unfold lWs1
          rw [hn, List.getElem?_map, List.getElem?_range hj']
          rfl
        show _ = [(p, OD.lst (wsD (wAll i ++ (lWs1 dd i).take (j + 1))))]
        rw [List.take_add_one, hlw, ← List.append_assoc]
        show [(p, OD.lst (wsD (wAll i ++ (lWs1 dd i).take j) ++ [_]))] = _
        unfold wsD
        rw [List.map_append (l₁ := wAll i ++ _)]
        rfl
    · refine ⟨(), trivial, by walk_at "dlle", ?_⟩
      have hlw : (lWs1 dd i).length = 1 + dn dd (10 + i) % min 3 n := by unfold lWs1; rw [hn, List.length_map, List.length_range]
      show [(p, OD.lst (wsD (wAll i ++ (lWs1 dd i).take (Int.toNat (1 + dn dd (10 + i) % min 3 n : Nat)))))] = [(p, OD.lst (wsD (wAll (i + 1))))]
      rw [Int.toNat_natCast, ← hlw, List.take_length]
      show _ = [(p, OD.lst (wsD ((List.range (i + 1)).flatMap (lWs1 dd))))]
      rw [List.range_succ, List.flatMap_append, List.flatMap_singleton]
  · have q1 : (0 : Int) < (n : Int) := by omega
    have hj1 := Nat.mod_lt (dn dd 19 % 9) (show 0 < n by omega)
    refine se_seq (se_asg (EvE.xe (d := .lst (dStrs (lFs dd))) (EvE.isL (ev_lcR (n := (1 + dn dd 19 % 9 % n : Nat)) (fun j => some (.str (plc dd ((dn dd 19 / 9 + j) % n)))) (ea_cons (EvE.is (by walk_at "dlev") (congrArg Dt.int ?_)) ea_nil) (by omega) (by omega) (by decide) (fun j p hi => ⟨true, et_yes, fun _ => ⟨_, rfl, ?_⟩, fun h => nomatch h⟩)) ?_) ?_))
    · push_cast; rfl
    · have q3 : atI plD (((dn dd 19 : Nat) / 9 + (j : Int)) % (n : Int)) = some (.str (plc dd ((dn dd 19 / 9 + j) % n))) := by
        rw [show (((dn dd 19 : Nat) : Int) / 9 + (j : Int)) % (n : Int) = (((dn dd 19 / 9 + j) % n : Nat) : Int) by push_cast; rfl]
        exact pl_at _ (Nat.mod_lt _ (by omega))
      walk_at "dlev"
    · rw [Int.toNat_natCast, given_range, lFs, hn, dStrs, List.map_map]; rfl
    · have hw : wAll n = lWs dd := by show (List.range n).flatMap _ = _; rw [lWs, hn]
      refine SE.frz (k := 0) (p := p) (od := .lst (wsD (wAll n))) (env' := [some (.lst (dInts dd)), some (.lst (dStrs ms)), some (.int 8), some (.int n), some (.lst plD), some (.lst (stD (lPs dd ms))), some (.lst (wsD (lWs dd))), none, some (.lst (dStrs (lFs dd))), none, none]) (by rw [Int.toNat_natCast]; rfl) ?_ rfl ?_
      · intro i d hi
        rcases i with _ | _ | _ | _ | _ | _ | _ | _ | _ | _ | _ | _
        all_goals first | exact Or.inl hi | (cases hi; exact Or.inr ⟨rfl, by rw [hw]; rfl⟩) | cases hi
      · exact se_ret (EvE.xe (EvE.is (by walk_at "dlev") (by rfl)) hx)
end
end K61

namespace K61
open PySem L2 DL
local macro_rules | `(tactic| walk_at "dlisi") => `(tactic| first | exact isi_str_str (.str _) | exact isi_str_list (.str _) | exact isi_str_tuple (.str _) | exact isi_str_int (.str _) | exact isi_str_bool (.str _) | exact isi_str_dict (.str _) | exact isi_list_str (.lst _) | exact isi_list_list (.lst _) | exact isi_list_tuple (.lst _) | exact isi_list_int (.lst _) | exact isi_list_bool (.lst _) | exact isi_list_dict (.lst _) | exact isi_tuple_str (.tup _) | exact isi_tuple_list (.tup _) | exact isi_tuple_tuple (.tup _) | exact isi_tuple_int (.tup _) | exact isi_tuple_bool (.tup _) | exact isi_tuple_dict (.tup _) | exact isi_int_str (.int _) | exact isi_int_list (.int _) | exact isi_int_tuple (.int _) | exact isi_int_int (.int _) | exact isi_int_bool (.int _) | exact isi_int_dict (.int _) | exact isi_bool_str (.bl _) | exact isi_bool_list (.bl _) | exact isi_bool_tuple (.bl _) | exact isi_bool_int (.bl _) | exact isi_bool_bool (.bl _) | exact isi_bool_dict (.bl _) | exact isi_NoneType_str (.non) | exact isi_NoneType_list (.non) | exact isi_NoneType_tuple (.non) | exact isi_NoneType_int (.non) | exact isi_NoneType_bool (.non) | exact isi_NoneType_dict (.non) | exact isiL_str (by assumption) | exact isiL_list (by assumption) | exact isiL_tuple (by assumption) | exact isiL_int (by assumption) | exact isiL_bool (by assumption) | exact isiL_dict (by assumption))
local macro_rules | `(tactic| walk_at "dlside") => `(tactic| first | (with_reducible assumption) | omega | (exact Or.inr ⟨by omega, by omega⟩) | (exact Or.inl ⟨by omega, by omega⟩) | (with_reducible exact AsS.fr) | (with_reducible exact AsL.fr) | (with_reducible exact AsS.tu) | (with_reducible exact AsD.fr) | (rw [sizeLine_eq]; omega) | (rw [sizeLine_eq]; simp only [List.length_cons, List.length_nil]; omega) | (rw [sizeLine_eq]; simp only [Str.length_append]; omega) | (rw [sizeLine_eq]; decide +kernel) | decide)
local macro_rules | `(tactic| walk_at "dlix") => `(tactic| first | (with_reducible assumption) | exact L2.atI_nat (by with_reducible assumption) | rfl)
local macro_rules | `(tactic| walk_at "dlopv") => `(tactic| first | (with_reducible exact opv_addI) | (with_reducible exact opv_subI) | (with_reducible exact opv_gtI) | (with_reducible exact opv_ltI) | (with_reducible exact opv_leI) | (with_reducible exact opv_geI) | (with_reducible exact opv_eqI) | (with_reducible exact opv_neI) | (with_reducible exact opv_eqS) | (with_reducible exact opv_neS) | (with_reducible exact opv_leS) | (with_reducible exact opv_inSign) | (with_reducible exact opv_notInSign) | ((with_reducible apply opv_modI); (walk_at "dlside")) | ((with_reducible apply opv_divI) <;> walk_at "dlside") | ((with_reducible apply opv_mulI); (walk_at "dlside")) | ((with_reducible apply opv_addC); (walk_at "dlside")) | ((with_reducible apply opv_mulS); (walk_at "dlside"); (walk_at "dlside"); (walk_at "dlside")) | ((with_reducible apply opv_addT); (walk_at "dlside")) | ((with_reducible apply opv_ixS); (walk_at "dlside"); (walk_at "dlix")) | ((with_reducible apply opv_ixStr); (walk_at "dlside"); (walk_at "dlix")) | ((with_reducible apply opv_addL); (walk_at "dlside"); (walk_at "dlside"); (walk_at "dlside")) | ((with_reducible apply opv_inS); (walk_at "dlside")) | ((with_reducible apply opv_notInS); (walk_at "dlside")))
local macro_rules | `(tactic| walk_at "dlca") => `(tactic| first | (apply ca_lenS; (walk_at "dlside")) | (apply ca_lenT; (walk_at "dlside")) | exact ca_min2 | exact ca_max2 | (apply ca_list; (walk_at "dlside")) | (apply ca_lenD; (walk_at "dlside")) | (apply ca_listD; (walk_at "dlside")) | exact ca_tupT | (apply ca_tupL; (walk_at "dlside")) | (apply ca_sortedS; (walk_at "dlside"); (walk_at "dlside")) | walk_at "dlisi")
local macro_rules | `(tactic| walk_at "dlme") => `(tactic| first | (apply me_split <;> walk_at "dlside") | exact me_ends | (apply me_join; (walk_at "dlside"); (walk_at "dlside")))
local macro_rules | `(tactic| walk_at "dlev") => `(tactic| first
  | (with_reducible assumption)
  | exact ev_var rfl | exact ev_int | exact ev_str | exact ev_bl | exact ev_non | exact ev_val | (with_reducible exact ea_nil) | (with_reducible exact et_yes)
  | ((with_reducible apply ev_op); (walk_at "dlev"); (walk_at "dlev"); (walk_at "dlopv"))
  | ((with_reducible apply ea_cons); (walk_at "dlev"); (walk_at "dlev"))
  | ((with_reducible apply ev_cb); (walk_at "dlev"); (walk_at "dlca"))
  | ((with_reducible apply ev_bmS); (walk_at "dlev"); (walk_at "dlev"); (walk_at "dlme"))
  | ((with_reducible apply ev_tup); (walk_at "dlev"); (walk_at "dlside"))
  | ((with_reducible apply ev_lst); (walk_at "dlev"); (walk_at "dlside"))
  | ((with_reducible apply et_test); (walk_at "dlev")) | ((with_reducible apply et_B); (walk_at "dlev"))
  | ((with_reducible apply et_not); (walk_at "dlev"))
  | ((with_reducible apply et_or); (walk_at "dlev"); (intro _; walk_at "dlev"))
  | ((with_reducible apply et_and); (walk_at "dlev"); (intro _; walk_at "dlev"))
  | ((with_reducible apply ev_andV); (walk_at "dlev"); (intro _; walk_at "dlev"))
  | ((with_reducible apply ev_orV); (walk_at "dlev"); (intro _; walk_at "dlev"))
  | ((with_reducible apply ev_chain); (walk_at "dlev"); (walk_at "dlev"); (walk_at "dlopv"); (intro _; walk_at "dlev"); (intro _; walk_at "dlopv"))
  | ((with_reducible apply ev_slL); (walk_at "dlev"); (walk_at "dlev"); (walk_at "dlev"); (walk_at "dlside"))
  | ((with_reducible apply ev_slS); (walk_at "dlev"); (walk_at "dlev"); (walk_at "dlev"); (walk_at "dlside"))
  | ((with_reducible apply ev_fstr); (walk_at "dlev")) | (with_reducible exact ej_nil) | ((with_reducible apply ej_cons); (walk_at "dlev"); (walk_at "dlside"); (walk_at "dlev")) | ((with_reducible apply ev_fmtS); (walk_at "dlev"); (walk_at "dlside"))
  | (with_reducible exact eo_none) | ((with_reducible apply eo_some); (walk_at "dlev")) | ((with_reducible apply ev_un); (walk_at "dlev")) | assumption)
local macro_rules | `(tactic| walk_at "dlevb") => `(tactic| refine EvT.is (by walk_at "dlev") ?_)
local macro_rules | `(tactic| walk_at "dlle") => `(tactic| ((iterate 24 (try (first | exact le_nil | refine le_same ?_ | refine le_none ?_))); done))
section
variable {K : PySem.W.Frag} {mg : Str → Option Value} (T : Tx K mg) {E : XK}
theorem app_nil (x : Str) : x ++ ("" : Str) = x := Str.append_right_empty rfl
theorem nil_app (x : Str) : ("" : Str) ++ x = x := Str.empty_append x
theorem cat_app : ∀ xs ys : List Str, cat (xs ++ ys) = cat xs ++ cat ys
  | [], ys => (nil_app _).symm
  | x :: xs, ys => by
    show x ++ cat (xs ++ ys) = x ++ cat xs ++ cat ys
    rw [cat_app xs ys, Str.append_assoc]
theorem cat_one (x : Str) : cat [x] = x := app_nil x
theorem cat_take {α : Type} {xs : List α} {f : α → Str} {i : Nat} {x : α} (h : xs[i]? = some x) : cat ((xs.take (i + 1)).map f) = cat ((xs.take i).map f) ++ f x := by
  rw [List.take_add_one, h, List.map_append, cat_app]
  show _ ++ cat [f x] = _
  rw [cat_one]
theorem cat_len {b : Nat} : ∀ xs : List Str, (∀ x ∈ xs, x.length ≤ b) → (cat xs).length ≤ b * xs.length
  | [], _ => by show 0 ≤ _; omega
  | x :: xs, h => by
    show (x ++ cat xs).length ≤ b * (xs.length + 1)
    rw [Str.length_append]
    have h1 := h x List.mem_cons_self
    have h2 := cat_len xs fun y hy => h y (List.mem_cons_of_mem _ hy)
    rw [Nat.mul_succ]
    omega
theorem join_cat (s : Str) : ∀ (ys : List Str) (x : Str), Txt.join s (x :: ys) = x ++ cat (ys.map fun y => s ++ y)
  | [], x => by
    show Txt.join s [x] = x ++ ""
    rw [app_nil]
    exact StrLaws.glued_eq_join s [x]
  | y :: ys, x => by
    have h1 : Txt.join s (x :: y :: ys) = x ++ s ++ Txt.join s (y :: ys) := by
      show Builtin.Str.glued s (x :: y :: ys) = x ++ s ++ Builtin.Str.glued s (y :: ys)
      rw [StrLaws.glued_eq_join, StrLaws.glued_eq_join]
      rfl
    rw [h1, join_cat s ys y, List.map_cons]
    show x ++ s ++ (y ++ _) = x ++ ((s ++ y) ++ _)
    rw [Str.append_assoc, Str.append_assoc]
theorem join_e : ∀ xs : List Str, Txt.join "" xs = cat xs
  | [] => by
    show Builtin.Str.glued "" [] = ""
    rw [StrLaws.glued_eq_join]; rfl
  | x :: xs => by
    rw [join_cat]
    have e : xs.map (fun y => ("" : Str) ++ y) = xs := by
      conv => rhs; rw [← List.map_id xs]
      refine List.map_congr_left fun y _ => nil_app y
    rw [e]; rfl
theorem cat_sum : ∀ xs : List Str, (xs.map (·.length)).sum = (cat xs).length
  | [] => rfl
  | x :: xs => by
    show _ = (x ++ cat xs).length
    rw [List.map_cons, List.sum_cons, cat_sum xs, Str.length_append]
theorem lit_state : ("state " : Str).length = 6 := by decide +kernel
theorem lit_step : ("step " : Str).length = 5 := by decide +kernel
theorem lit_start : ("start " : Str).length = 6 := by decide +kernel
theorem lit_nl : ("\n" : Str).length = 1 := by decide +kernel
theorem lit_sp : (" " : Str).length = 1 := by decide +kernel
theorem lit_co : (":" : Str).length = 1 := by decide +kernel
theorem lit_e : ("" : Str).length = 0 := by decide +kernel
theorem lit_em : Str.empty.length = 0 := rfl
theorem mom_cat {mo : List Str} (h : Mom mo) (j : Nat) : (cat ((mo.take j).map fun m => " " ++ m)).length ≤ 9 * 12 := by
  have h1 := cat_len (b := 9) ((mo.take j).map fun m => " " ++ m) (fun x hx => by
    obtain ⟨y, hy, rfl⟩ := List.mem_map.mp hx
    have := (mark_len (h.2.1 y (List.mem_of_mem_take hy))).2
    rw [Str.length_append, lit_sp]
    omega)
  rw [List.length_map, List.length_take] at h1
  have := h.1
  omega
theorem stT_len {x : Str × List Str} (h : markB x.1 = true) (hm : Mom x.2) : (stT x).length ≤ 130 := by
  have h1 := (mark_len h).2
  have h2 := mom_cat hm x.2.length
  rw [List.take_length] at h2
  unfold stT
  simp only [Str.length_append, lit_state, lit_co, lit_nl]
  omega
theorem st_cat {ps : Pl} (h : GoodP ps) (i : Nat) : (cat ((ps.take i).map stT)).length ≤ 1040 := by
  have h1 := cat_len (b := 130) ((ps.take i).map stT) (fun x hx => by
    obtain ⟨y, hy, rfl⟩ := List.mem_map.mp hx
    exact stT_len (h.mks y (List.mem_of_mem_take hy)).1 (h.mks y (List.mem_of_mem_take hy)).2)
  rw [List.length_map, List.length_take] at h1
  have := h.len
  omega
theorem pl_len {ps : Pl} (h : GoodP ps) {a : Str} (ha : a ∈ ps.map (·.1)) : a.length ≤ 8 := by
  obtain ⟨x, hx, rfl⟩ := List.mem_map.mp ha
  exact (mark_len (h.mks x hx).1).2
theorem wy_cat {ps : Pl} {ws : Wy} (h : GoodP ps) (hw : GoodW ps ws) (i : Nat) : (cat ((ws.take i).map wyT)).length ≤ 600 := by
  have h1 := cat_len (b := 25) ((ws.take i).map wyT) (fun x hx => by
    obtain ⟨y, hy, rfl⟩ := List.mem_map.mp hx
    have h2 := hw.mem y (List.mem_of_mem_take hy)
    have h3 := pl_len h h2.1
    have h4 := pl_len h h2.2
    unfold wyT
    simp only [Str.length_append, lit_step, lit_sp, lit_nl]
    omega)
  rw [List.length_map, List.length_take] at h1
  have := hw.tot
  omega
theorem fs_cat {ps : Pl} {fs : List Str} (h : GoodP ps) (hf : GoodF ps fs) (i : Nat) : (cat ((fs.take i).map fsT)).length ≤ 200 := by
  have h1 := cat_len (b := 20) ((fs.take i).map fsT) (fun x hx => by
    obtain ⟨y, hy, rfl⟩ := List.mem_map.mp hx
    have h3 := pl_len h (hf.mem y (List.mem_of_mem_take hy))
    unfold fsT
    simp only [Str.length_append, lit_start, lit_nl]
    omega)
  rw [List.length_map, List.length_take] at h1
  have := hf.ne
  omega
theorem text_len {ps : Pl} {ws : Wy} {fs : List Str} (h : GoodAll ps ws fs) : (textOf ps ws fs).length ≤ 2000 := by
  have h1 := st_cat h.p ps.length
  have h2 := wy_cat h.p h.w ws.length
  have h3 := fs_cat h.p h.f fs.length
  rw [List.take_length] at h1 h2 h3
  unfold textOf
  rw [Str.length_append, Str.length_append]
  omega
theorem stD_at {ps : Pl} {i : Nat} {x : Dt} (h : (stD ps)[i]? = some x) : ∃ y, ps[i]? = some y ∧ x = .tup [.str y.1, .tup (dStrs y.2)] := by
  unfold stD at h
  rw [List.getElem?_map] at h
  cases q : ps[i]? with
  | none => rw [q] at h; cases h
  | some y => rw [q] at h; cases h; exact ⟨y, rfl, rfl⟩
theorem wsD_at {ws : Wy} {i : Nat} {x : Dt} (h : (wsD ws)[i]? = some x) : ∃ y, ws[i]? = some y ∧ x = .tup [.str y.1, .str y.2] := by
  unfold wsD at h
  rw [List.getElem?_map] at h
  cases q : ws[i]? with
  | none => rw [q] at h; cases h
  | some y => rw [q] at h; cases h; exact ⟨y, rfl, rfl⟩
theorem dStrs_get {xs : List Str} {i : Nat} {x : Dt} (h : (dStrs xs)[i]? = some x) : ∃ y, xs[i]? = some y ∧ x = .str y := by
  rw [List.getElem?_map] at h
  cases q : xs[i]? with
  | none => rw [q] at h; cases h
  | some y => rw [q] at h; cases h; exact ⟨y, rfl, rfl⟩
theorem d__law_text : ∀ m ds O Φ Ψ, p__law_text m ds O Φ Ψ → SE K m E (t__law_text T E) (startE n__law_text ds) O { nx := fun _ O' => Φ .non O', rt := Φ, xs := Ψ } := bodyV (by
  rintro ds d ⟨ps, ws, fs, rfl, hg, rfl⟩
  have q1 := lit_state; have q2 := lit_step; have q3 := lit_start; have q4 := lit_nl; have q5 := lit_sp; have q6 := lit_co
  refine se_seq (se_asg (EvE.xe (by walk_at "dlev") ?_))
  have ix0 : atI [Dt.lst (stD ps), .lst (wsD ws), .lst (dStrs fs)] 0 = some (.lst (stD ps)) := rfl
  have ix1 : atI [Dt.lst (stD ps), .lst (wsD ws), .lst (dStrs fs)] 1 = some (.lst (wsD ws)) := rfl
  have ix2 : atI [Dt.lst (stD ps), .lst (wsD ws), .lst (dStrs fs)] 2 = some (.lst (dStrs fs)) := rfl
  refine se_seq (se_forL2 (σT := Unit) (xs := stD ps) (fun _ _ => True) (fun i _ => [some (ptD ps ws fs), some (.str (cat ((ps.take i).map stT))), none, none, none, none, none]) (fun _ _ => []) () (ev_op (ev_var rfl) ev_int (opv_ixS AsS.fr ix0)) trivial (by walk_at "dlle") rfl mono_se (fun i x hx => ?_) (fun i y z u hx _ => ?_) (fun u _ => ?_))
  · obtain ⟨y, _, rfl⟩ := stD_at hx; exact ⟨_, _, rfl⟩
  · obtain ⟨y', hy, e⟩ := stD_at hx
    injection e with e
    injection e with e1 e2
    injection e2 with e2 _
    subst e1 e2
    have hgp := hg.p.mks y' (List.mem_of_getElem? hy)
    have g1 := (mark_len hgp.1).2
    have g2 := st_cat hg.p i
    refine se_seq (se_asg (EvE.xe (by walk_at "dlev") ?_))
    refine se_seq (se_forT1 (σT := Unit) (xs := dStrs y'.2) (fun _ _ => True) (fun j _ => [some (ptD ps ws fs), some (.str (cat ((ps.take i).map stT) ++ "state " ++ y'.1 ++ ":" ++ cat ((y'.2.take j).map fun m => " " ++ m))), some (.str y'.1), some (.tup (dStrs y'.2)), none, none, none]) (fun _ _ => []) () (ev_var rfl) trivial ?_ rfl mono_se (fun j x u hx _ => ?_) (fun u _ => ?_))
    · rw [List.take_zero, List.map_nil, show cat [] = "" from rfl, app_nil]
      walk_at "dlle"
    · obtain ⟨mm, hm, rfl⟩ := dStrs_get hx
      have g3 := mom_cat hgp.2 j
      have g4 := (mark_len (hgp.2.2.1 mm (List.mem_of_getElem? hm))).2
      refine se_asg (EvE.xe (by walk_at "dlev") ⟨(), trivial, ?_, rfl⟩)
      simp only [cat_take hm, ← Str.append_assoc]
      walk_at "dlle"
    · have g3 := mom_cat hgp.2 y'.2.length
      rw [List.take_length] at g3
      have el : (dStrs y'.2).length = y'.2.length := dStrs_len _
      simp only [el, List.take_length]
      refine se_asg (EvE.xe (by walk_at "dlev") ⟨(), trivial, ?_, rfl⟩)
      simp only [cat_take hy, stT, ← Str.append_assoc]
      walk_at "dlle"
  · have el : (stD ps).length = ps.length := List.length_map ..
    simp only [el, List.take_length]
    have g2 := st_cat hg.p ps.length
    rw [List.take_length] at g2
    refine se_seq (se_forL2 (σT := Unit) (xs := wsD ws) (fun _ _ => True) (fun i _ => [some (ptD ps ws fs), some (.str (cat (ps.map stT) ++ cat ((ws.take i).map wyT))), none, none, none, none, none]) (fun _ _ => []) () (ev_op (ev_var rfl) ev_int (opv_ixS AsS.fr ix1)) trivial ?_ rfl mono_se (fun i x hx => ?_) (fun i y z u hx _ => ?_) (fun u _ => ?_))
    · rw [List.take_zero, List.map_nil, show cat [] = "" from rfl, app_nil]
      walk_at "dlle"
    · obtain ⟨y, _, rfl⟩ := wsD_at hx; exact ⟨_, _, rfl⟩
    · obtain ⟨y', hy, e⟩ := wsD_at hx
      injection e with e
      injection e with e1 e2
      injection e2 with e2 _
      subst e1 e2
      have hm := hg.w.mem y' (List.mem_of_getElem? hy)
      have g3 := pl_len hg.p hm.1
      have g4 := pl_len hg.p hm.2
      have g5 := wy_cat hg.p hg.w i
      refine se_asg (EvE.xe (by walk_at "dlev") ⟨(), trivial, ?_, rfl⟩)
      simp only [cat_take hy, wyT, ← Str.append_assoc]
      walk_at "dlle"
    · have el2 : (wsD ws).length = ws.length := List.length_map ..
      simp only [el2, List.take_length]
      have g5 := wy_cat hg.p hg.w ws.length
      rw [List.take_length] at g5
      have g6 := fs_cat hg.p hg.f fs.length
      rw [List.take_length] at g6
      have hel : (dStrs fs).length = fs.length := dStrs_len fs
      refine se_ret (EvE.xe (ev_op (ev_var rfl) (ev_bmS ev_str (ea_cons (EvE.isL (ys := dStrs (fs.map fsT)) (ev_lcL (xs := dStrs fs) (f := fun i => (fs[i]?).map fun x => Dt.str (fsT x)) (ev_op (ev_var rfl) ev_int (opv_ixS AsS.fr ix2)) (by have := hg.f.ne; omega) (fun i x p hx => ?_)) ?_) ea_nil) (me_join AsS.fr ?_)) (opv_addT ?_)) ⟨?_, rfl⟩)
      · obtain ⟨y, hy, rfl⟩ := dStrs_get hx
        have g7 := pl_len hg.p (hg.f.mem y (List.mem_of_getElem? hy))
        exact ⟨_, true, eg_name, et_yes, fun _ => ⟨_, by rw [hy]; rfl, EvE.is (by walk_at "dlev") (by rfl)⟩, fun h => nomatch h⟩
      · rw [hel, given_map, dStrs, List.map_map]; rfl
      · rw [cat_sum, lit_e]; omega
      · rw [join_e, sizeLine_eq, Str.length_append]; omega
      · rw [join_e, textOf, Str.append_assoc])
end
end K61

namespace K61
open PySem L2 DL
local macro_rules | `(tactic| walk_at "dlisi") => `(tactic| first | exact isi_str_str (.str _) | exact isi_str_list (.str _) | exact isi_str_tuple (.str _) | exact isi_str_int (.str _) | exact isi_str_bool (.str _) | exact isi_str_dict (.str _) | exact isi_list_str (.lst _) | exact isi_list_list (.lst _) | exact isi_list_tuple (.lst _) | exact isi_list_int (.lst _) | exact isi_list_bool (.lst _) | exact isi_list_dict (.lst _) | exact isi_tuple_str (.tup _) | exact isi_tuple_list (.tup _) | exact isi_tuple_tuple (.tup _) | exact isi_tuple_int (.tup _) | exact isi_tuple_bool (.tup _) | exact isi_tuple_dict (.tup _) | exact isi_int_str (.int _) | exact isi_int_list (.int _) | exact isi_int_tuple (.int _) | exact isi_int_int (.int _) | exact isi_int_bool (.int _) | exact isi_int_dict (.int _) | exact isi_bool_str (.bl _) | exact isi_bool_list (.bl _) | exact isi_bool_tuple (.bl _) | exact isi_bool_int (.bl _) | exact isi_bool_bool (.bl _) | exact isi_bool_dict (.bl _) | exact isi_NoneType_str (.non) | exact isi_NoneType_list (.non) | exact isi_NoneType_tuple (.non) | exact isi_NoneType_int (.non) | exact isi_NoneType_bool (.non) | exact isi_NoneType_dict (.non) | exact isiL_str (by assumption) | exact isiL_list (by assumption) | exact isiL_tuple (by assumption) | exact isiL_int (by assumption) | exact isiL_bool (by assumption) | exact isiL_dict (by assumption))
local macro_rules | `(tactic| walk_at "dlside") => `(tactic| first | (with_reducible assumption) | omega | (exact Or.inr ⟨by omega, by omega⟩) | (exact Or.inl ⟨by omega, by omega⟩) | (with_reducible exact AsS.fr) | (with_reducible exact AsL.fr) | (with_reducible exact AsS.tu) | (with_reducible exact AsD.fr) | (rw [sizeLine_eq]; omega) | (rw [sizeLine_eq]; simp only [List.length_cons, List.length_nil]; omega) | (rw [sizeLine_eq]; simp only [Str.length_append]; omega) | (rw [sizeLine_eq]; decide +kernel) | decide)
local macro_rules | `(tactic| walk_at "dlix") => `(tactic| first | (with_reducible assumption) | exact L2.atI_nat (by with_reducible assumption) | rfl)
local macro_rules | `(tactic| walk_at "dlopv") => `(tactic| first | (with_reducible exact opv_addI) | (with_reducible exact opv_subI) | (with_reducible exact opv_gtI) | (with_reducible exact opv_ltI) | (with_reducible exact opv_leI) | (with_reducible exact opv_geI) | (with_reducible exact opv_eqI) | (with_reducible exact opv_neI) | (with_reducible exact opv_eqS) | (with_reducible exact opv_neS) | (with_reducible exact opv_leS) | (with_reducible exact opv_inSign) | (with_reducible exact opv_notInSign) | ((with_reducible apply opv_modI); (walk_at "dlside")) | ((with_reducible apply opv_divI) <;> walk_at "dlside") | ((with_reducible apply opv_mulI); (walk_at "dlside")) | ((with_reducible apply opv_addC); (walk_at "dlside")) | ((with_reducible apply opv_mulS); (walk_at "dlside"); (walk_at "dlside"); (walk_at "dlside")) | ((with_reducible apply opv_addT); (walk_at "dlside")) | ((with_reducible apply opv_ixS); (walk_at "dlside"); (walk_at "dlix")) | ((with_reducible apply opv_ixStr); (walk_at "dlside"); (walk_at "dlix")) | ((with_reducible apply opv_addL); (walk_at "dlside"); (walk_at "dlside"); (walk_at "dlside")) | ((with_reducible apply opv_inS); (walk_at "dlside")) | ((with_reducible apply opv_notInS); (walk_at "dlside")))
local macro_rules | `(tactic| walk_at "dlca") => `(tactic| first | (apply ca_lenS; (walk_at "dlside")) | (apply ca_lenT; (walk_at "dlside")) | exact ca_min2 | exact ca_max2 | (apply ca_list; (walk_at "dlside")) | (apply ca_lenD; (walk_at "dlside")) | (apply ca_listD; (walk_at "dlside")) | exact ca_tupT | (apply ca_tupL; (walk_at "dlside")) | (apply ca_sortedS; (walk_at "dlside"); (walk_at "dlside")) | walk_at "dlisi")
local macro_rules | `(tactic| walk_at "dlme") => `(tactic| first | (apply me_split <;> walk_at "dlside") | exact me_ends | (apply me_join; (walk_at "dlside"); (walk_at "dlside")))
local macro_rules | `(tactic| walk_at "dlev") => `(tactic| first
  | (with_reducible assumption)
  | exact ev_var rfl | exact ev_int | exact ev_str | exact ev_bl | exact ev_non | exact ev_val | (with_reducible exact ea_nil) | (with_reducible exact et_yes)
  | ((with_reducible apply ev_op); (walk_at "dlev"); (walk_at "dlev"); (walk_at "dlopv"))
  | ((with_reducible apply ea_cons); (walk_at "dlev"); (walk_at "dlev"))
  | ((with_reducible apply ev_cb); (walk_at "dlev"); (walk_at "dlca"))
  | ((with_reducible apply ev_bmS); (walk_at "dlev"); (walk_at "dlev"); (walk_at "dlme"))
  | ((with_reducible apply ev_tup); (walk_at "dlev"); (walk_at "dlside"))
  | ((with_reducible apply ev_lst); (walk_at "dlev"); (walk_at "dlside"))
  | ((with_reducible apply et_test); (walk_at "dlev")) | ((with_reducible apply et_B); (walk_at "dlev"))
  | ((with_reducible apply et_not); (walk_at "dlev"))
  | ((with_reducible apply et_or); (walk_at "dlev"); (intro _; walk_at "dlev"))
  | ((with_reducible apply et_and); (walk_at "dlev"); (intro _; walk_at "dlev"))
  | ((with_reducible apply ev_andV); (walk_at "dlev"); (intro _; walk_at "dlev"))
  | ((with_reducible apply ev_orV); (walk_at "dlev"); (intro _; walk_at "dlev"))
  | ((with_reducible apply ev_chain); (walk_at "dlev"); (walk_at "dlev"); (walk_at "dlopv"); (intro _; walk_at "dlev"); (intro _; walk_at "dlopv"))
  | ((with_reducible apply ev_slL); (walk_at "dlev"); (walk_at "dlev"); (walk_at "dlev"); (walk_at "dlside"))
  | ((with_reducible apply ev_slS); (walk_at "dlev"); (walk_at "dlev"); (walk_at "dlev"); (walk_at "dlside"))
  | ((with_reducible apply ev_fstr); (walk_at "dlev")) | (with_reducible exact ej_nil) | ((with_reducible apply ej_cons); (walk_at "dlev"); (walk_at "dlside"); (walk_at "dlev")) | ((with_reducible apply ev_fmtS); (walk_at "dlev"); (walk_at "dlside"))
  | (with_reducible exact eo_none) | ((with_reducible apply eo_some); (walk_at "dlev")) | ((with_reducible apply ev_un); (walk_at "dlev")) | assumption)
local macro_rules | `(tactic| walk_at "dlevb") => `(tactic| refine EvT.is (by walk_at "dlev") ?_)
local macro_rules | `(tactic| walk_at "dlle") => `(tactic| ((iterate 24 (try (first | exact le_nil | refine le_same ?_ | refine le_none ?_))); done))
section
variable {K : PySem.W.Frag} {mg : Str → Option Value} (T : Tx K mg) {E : XK}
theorem mkD_at {ps : Pl} {i : Nat} {k : Key} {x : Dt} (h : (mkD ps)[i]? = some (k, x)) : ∃ y, ps[i]? = some y ∧ k = .inr y.1 ∧ x = .tup (dStrs y.2) := by
  unfold mkD at h
  rw [List.getElem?_map] at h
  cases q : ps[i]? with
  | none => rw [q] at h; cases h
  | some y => rw [q] at h; cases h; exact ⟨y, rfl, rfl, rfl⟩
theorem asI (C : Addr) (O : OL) (ps : Pl) (ws : Wy) (fs : List Str) : AsI O (wD C ps ws fs) C (fdD ps ws fs) := .inl rfl
theorem fm (ps : Pl) (ws : Wy) (fs : List Str) : (fdD ps ws fs).lookup ("marks_at" : Str) = some (.dic (mkD ps)) := by
  show List.lookup ("marks_at" : Str) _ = _
  unfold fdD
  rw [List.lookup_cons, show (("marks_at" : Str) == "marks_at") = true by decide +kernel]
theorem fb (ps : Pl) (ws : Wy) (fs : List Str) : (fdD ps ws fs).lookup ("behind" : Str) = some (.dic (bhD ps ws)) := by
  show List.lookup ("behind" : Str) _ = _
  unfold fdD
  rw [List.lookup_cons, show (("behind" : Str) == "marks_at") = false by decide +kernel]
  rw [List.lookup_cons, show (("behind" : Str) == "behind") = true by decide +kernel]
theorem fw (ps : Pl) (ws : Wy) (fs : List Str) : (fdD ps ws fs).lookup ("ways" : Str) = some (.lst (wsD ws)) := by
  show List.lookup ("ways" : Str) _ = _
  unfold fdD
  rw [List.lookup_cons, show (("ways" : Str) == "marks_at") = false by decide +kernel]
  rw [List.lookup_cons, show (("ways" : Str) == "behind") = false by decide +kernel]
  rw [List.lookup_cons, show (("ways" : Str) == "ways") = true by decide +kernel]
theorem ff (ps : Pl) (ws : Wy) (fs : List Str) : (fdD ps ws fs).lookup ("firsts" : Str) = some (.lst (dStrs fs)) := by
  show List.lookup ("firsts" : Str) _ = _
  unfold fdD
  rw [List.lookup_cons, show (("firsts" : Str) == "marks_at") = false by decide +kernel]
  rw [List.lookup_cons, show (("firsts" : Str) == "behind") = false by decide +kernel]
  rw [List.lookup_cons, show (("firsts" : Str) == "ways") = false by decide +kernel]
  rw [List.lookup_cons, show (("firsts" : Str) == "firsts") = true by decide +kernel]
theorem fno (ps : Pl) (ws : Wy) (fs : List Str) (f : Str) (h : f ∈ [("need" : Str), "places", "moment_of", "nexts", "begins", "written"]) : (fdD ps ws fs).lookup f = none := by
  have key : ∀ f ∈ [("need" : Str), "places", "moment_of", "nexts", "begins", "written"], (f == "marks_at") = false ∧ (f == "behind") = false ∧ (f == "ways") = false ∧ (f == "firsts") = false := by decide +kernel
  obtain ⟨h1, h2, h3, h4⟩ := key f h
  unfold fdD
  rw [List.lookup_cons, h1, List.lookup_cons, h2, List.lookup_cons, h3, List.lookup_cons, h4]; rfl
theorem em {env : DL.Env} {m : List Addr} {O : OL} {i : Nat} {ps : Pl} {ws : Wy} {fs : List Str} (h : env[i]? = some (some (wD T.World_a ps ws fs))) : EvE K m (tFld K (tVar i) "marks_at") env O (.dic (mkD ps)) := ev_fld (ev_var h) (asI _ _ _ _ _) T.World_cl T.World_n_marks_at (fm _ _ _)
theorem eb {env : DL.Env} {m : List Addr} {O : OL} {i : Nat} {ps : Pl} {ws : Wy} {fs : List Str} (h : env[i]? = some (some (wD T.World_a ps ws fs))) : EvE K m (tFld K (tVar i) "behind") env O (.dic (bhD ps ws)) := ev_fld (ev_var h) (asI _ _ _ _ _) T.World_cl T.World_n_behind (fb _ _ _)
theorem ew {env : DL.Env} {m : List Addr} {O : OL} {i : Nat} {ps : Pl} {ws : Wy} {fs : List Str} (h : env[i]? = some (some (wD T.World_a ps ws fs))) : EvE K m (tFld K (tVar i) "ways") env O (.lst (wsD ws)) := ev_fld (ev_var h) (asI _ _ _ _ _) T.World_cl T.World_n_ways (fw _ _ _)
theorem ef {env : DL.Env} {m : List Addr} {O : OL} {i : Nat} {ps : Pl} {ws : Wy} {fs : List Str} (h : env[i]? = some (some (wD T.World_a ps ws fs))) : EvE K m (tFld K (tVar i) "firsts") env O (.lst (dStrs fs)) := ev_fld (ev_var h) (asI _ _ _ _ _) T.World_cl T.World_n_firsts (ff _ _ _)
theorem d_World_written : ∀ m ds O Φ Ψ, p_World_written T m ds O Φ Ψ → SE K m E (t_World_written T E) (startE n_World_written ds) O { nx := fun _ O' => Φ .non O', rt := Φ, xs := Ψ } := bodyV (by
  rintro ds d ⟨ps, ws, fs, rfl, hg, rfl⟩
  have q1 := lit_state; have q2 := lit_step; have q3 := lit_start; have q4 := lit_nl; have q5 := lit_sp; have q6 := lit_co; have q7 := lit_em
  refine se_seq (se_asg (EvE.xe (by walk_at "dlev") ?_))
  refine se_seq (se_lockK (kds := mkD ps) it_items (fun _ _ _ h => h) (lk_fld (d := wD T.World_a ps ws fs) rfl (asI _ _ _ _ _) T.World_cl T.World_n_marks_at (fm _ _ _)) (fun i e o => EnvLe [some (wD T.World_a ps ws fs), some (.str (cat ((ps.take i).map stT))), none, none, none, none] e ∧ o = []) ⟨by walk_at "dlle", rfl⟩ (fun i k x p e o hi ⟨hle, ho⟩ => ?_) (fun e o ⟨hle, ho⟩ => ?_))
  · subst ho
    obtain ⟨y, hy, rfl, rfl⟩ := mkD_at hi
    have hgp := hg.p.mks y (List.mem_of_getElem? hy)
    have g1 := (mark_len hgp.1).2
    have g2 := st_cat hg.p i
    have g3 := mom_cat hgp.2 y.2.length
    rw [List.take_length] at g3
    refine xg_tup rfl (xgs_name (xgs_name (xgs_nil ?_)))
    refine SE.le ?_ (le_set (le_set hle 2 _) 3 _)
    have hf : EvE K [p] (tFStr [(tC (.str "state ")), (tFmt (tVar 2)), (tC (.str ":"))]) [some (wD T.World_a ps ws fs), some (.str (cat ((ps.take i).map stT))), some (.str y.1), some (.tup (dStrs y.2)), none, none] [] (.str ("state " ++ y.1 ++ ":")) := EvE.is (by walk_at "dlev") (by rw [Str.empty_append])
    have hj : EvE K [p] (tOp (rAddU K) (tLst (tCons (tFStr [(tC (.str "state ")), (tFmt (tVar 2)), (tC (.str ":"))]) tNil)) (tCB (rList K) (tCons (tVar 3) tNil))) [some (wD T.World_a ps ws fs), some (.str (cat ((ps.take i).map stT))), some (.str y.1), some (.tup (dStrs y.2)), none, none] [] (.lst (dStrs (("state " ++ y.1 ++ ":") :: y.2))) := by
      have hl : [Dt.str ("state " ++ y.1 ++ ":")].length + (dStrs y.2).length ≤ sizeLine := by
        have := hgp.2.1
        rw [dStrs_len, sizeLine_eq, List.length_singleton]; omega
      exact EvE.isL (ev_op (ev_lst (ea_cons hf ea_nil) (by rw [sizeLine_eq]; exact (by decide : 1 ≤ 16777216))) (by walk_at "dlev") (opv_addL AsL.fr AsL.fr hl)) rfl
    have hjl : Txt.join " " (("state " ++ y.1 ++ ":") :: y.2) ++ "\n" = stT y := by rw [join_cat]; rfl
    have hsum : ((("state " ++ y.1 ++ ":") :: y.2).map (·.length)).sum + (("state " ++ y.1 ++ ":") :: y.2).length * (" " : Str).length ≤ 16777216 := by
      rw [cat_sum]
      have h5 := cat_len (b := 15) (("state " ++ y.1 ++ ":") :: y.2) (fun z hz => by
        rcases List.mem_cons.mp hz with rfl | hz
        · simp only [Str.length_append]; omega
        · have := (mark_len (hgp.2.2.1 z hz)).2; omega)
      have h6 := hgp.2.1
      rw [List.length_cons] at h5 ⊢
      rw [q5, Nat.mul_one]
      omega
    have h7 : (Txt.join " " (("state " ++ y.1 ++ ":") :: y.2)).length + ("\n" : Str).length ≤ sizeLine := by
      have := congrArg Str.length hjl
      rw [Str.length_append] at this
      have h8 := stT_len hgp.1 hgp.2
      rw [sizeLine_eq]; omega
    refine se_augS rfl (EvE.is (ev_op (ev_bmS ev_str (ea_cons hj ea_nil) (me_join AsS.fr hsum)) ev_str (opv_addT h7)) (congrArg Dt.str hjl)) ?_ ⟨?_, rfl⟩
    · have h8 := stT_len hgp.1 hgp.2
      rw [sizeLine_eq]; omega
    · rw [cat_take hy]
      walk_at "dlle"
  · subst ho
    have el : (mkD ps).length = ps.length := List.length_map ..
    rw [el, List.take_length] at hle
    refine SE.le ?_ hle
    have g2 := st_cat hg.p ps.length
    rw [List.take_length] at g2
    refine se_seq (se_forL2 (σT := Unit) (xs := wsD ws) (fun _ _ => True) (fun i _ => [some (wD T.World_a ps ws fs), some (.str (cat (ps.map stT) ++ cat ((ws.take i).map wyT))), none, none, none, none]) (fun _ _ => []) () (ew T rfl) trivial ?_ rfl mono_se (fun i x hx => ?_) (fun i y z u hx _ => ?_) (fun u _ => ?_))
    · rw [List.take_zero, List.map_nil, show cat [] = "" from rfl, app_nil]
      walk_at "dlle"
    · obtain ⟨y, _, rfl⟩ := wsD_at hx; exact ⟨_, _, rfl⟩
    · obtain ⟨y', hy, e⟩ := wsD_at hx
      injection e with e
      injection e with e1 e2
      injection e2 with e2 _
      subst e1 e2
      have hm := hg.w.mem y' (List.mem_of_getElem? hy)
      have g3 := pl_len hg.p hm.1
      have g4 := pl_len hg.p hm.2
      have g5 := wy_cat hg.p hg.w i
      have hf : EvE K [] (tFStr [(tC (.str "step ")), (tFmt (tVar 4)), (tC (.str " ")), (tFmt (tVar 5)), (tC (.str "\n"))]) (([some (wD T.World_a ps ws fs), some (.str (cat (ps.map stT) ++ cat ((ws.take i).map wyT))), none, none, none, none].set 4 (some (.str y'.1))).set 5 (some (.str y'.2))) [] (.str (wyT y')) := EvE.is (by walk_at "dlev") (by rw [Str.empty_append]; rfl)
      have g8 : (wyT y').length ≤ 100 := by unfold wyT; simp only [Str.length_append]; omega
      refine se_augS rfl hf (by rw [sizeLine_eq, Str.length_append]; omega) ⟨(), trivial, ?_, rfl⟩
      simp only [cat_take hy, ← Str.append_assoc]
      walk_at "dlle"
    · have el2 : (wsD ws).length = ws.length := List.length_map ..
      simp only [el2, List.take_length]
      have g5 := wy_cat hg.p hg.w ws.length
      rw [List.take_length] at g5
      refine se_seq (se_forL1 (σT := Unit) (xs := dStrs fs) (fun _ _ => True) (fun i _ => [some (wD T.World_a ps ws fs), some (.str (cat (ps.map stT) ++ cat (ws.map wyT) ++ cat ((fs.take i).map fsT))), none, none, none, none]) (fun _ _ => []) () (ef T rfl) trivial ?_ rfl mono_se (fun i x u hx _ => ?_) (fun u _ => ?_))
      · rw [List.take_zero, List.map_nil, show cat [] = "" from rfl, app_nil]
        walk_at "dlle"
      · obtain ⟨y, hy, rfl⟩ := dStrs_get hx
        have g3 := pl_len hg.p (hg.f.mem y (List.mem_of_getElem? hy))
        have g6 := fs_cat hg.p hg.f i
        have hf : EvE K [] (tFStr [(tC (.str "start ")), (tFmt (tVar 2)), (tC (.str "\n"))]) ([some (wD T.World_a ps ws fs), some (.str (cat (ps.map stT) ++ cat (ws.map wyT) ++ cat ((fs.take i).map fsT))), none, none, none, none].set 2 (some (.str y))) [] (.str (fsT y)) := EvE.is (by walk_at "dlev") (by rw [Str.empty_append]; rfl)
        have g8 : (fsT y).length ≤ 100 := by unfold fsT; simp only [Str.length_append]; omega
        refine se_augS rfl hf (by rw [sizeLine_eq, Str.length_append, Str.length_append]; omega) ⟨(), trivial, ?_, rfl⟩
        simp only [cat_take hy, ← Str.append_assoc]
        walk_at "dlle"
      · have hel : (dStrs fs).length = fs.length := dStrs_len fs
        simp only [hel, List.take_length]
        exact se_ret (EvE.xe (by walk_at "dlev") ⟨by rw [textOf, Str.append_assoc], rfl⟩))
theorem d_World_places : ∀ m ds O Φ Ψ, p_World_places T m ds O Φ Ψ → SE K m E (t_World_places T E) (startE n_World_places ds) O { nx := fun _ O' => Φ .non O', rt := Φ, xs := Ψ } := bodyL (by
  rintro ds rs ⟨ps, ws, fs, rfl, rfl⟩
  exact se_ret (xe_listD (em T (ps := ps) (ws := ws) (fs := fs) rfl) AsD.fr fun p _ => ⟨p, rfl, by rw [mkD, List.map_map, dStrs, List.map_map]; rfl⟩))
theorem d_World_begins : ∀ m ds O Φ Ψ, p_World_begins T m ds O Φ Ψ → SE K m E (t_World_begins T E) (startE n_World_begins ds) O { nx := fun _ O' => Φ .non O', rt := Φ, xs := Ψ } := bodyL (by
  rintro ds rs ⟨ps, ws, fs, rfl, rfl⟩
  exact se_ret (xe_list (ef T (ps := ps) (ws := ws) (fs := fs) rfl) AsS.fr fun p _ => ⟨p, rfl, rfl⟩))
theorem look_mk : ∀ {ps : Pl}, (ps.map (·.1)).Nodup → ∀ {x : Str × List Str}, x ∈ ps → lookD (mkD ps) (.inr x.1) = some (.tup (dStrs x.2))
  | [], _, _, h => nomatch h
  | y :: ps, nd, x, h => by
    unfold lookD mkD
    rw [List.map_cons, List.find?_cons]
    by_cases e : y.1 = x.1
    · have : x = y := by
        rcases List.mem_cons.mp h with h | h
        · exact h
        · have nd' := (List.nodup_cons.mp nd).1
          exact absurd (List.mem_map.mpr ⟨x, h, e.symm⟩) nd'
      subst this
      simp
    · rw [decide_eq_false (fun z => e (Sum.inr.inj z))]
      have : x ∈ ps := by
        rcases List.mem_cons.mp h with h | h
        · exact absurd (by rw [h]) e
        · exact h
      exact look_mk (List.nodup_cons.mp nd).2 this
theorem look_mem {α : Type} {f : α → Str} {g : α → Dt} : ∀ {xs : List α} {a : Str}, (lookD (xs.map fun x => ((.inr (f x) : Key), g x)) (.inr a)).isSome = decide (a ∈ xs.map f)
  | [], a => rfl
  | y :: xs, a => by
    have ih := look_mem (f := f) (g := g) (xs := xs) (a := a)
    unfold lookD at ih ⊢
    rw [List.map_cons, List.find?_cons, List.map_cons]
    by_cases e : f y = a
    · simp [e]
    · have e' : a ≠ f y := fun z => e z.symm
      rw [decide_eq_false (fun z => e (Sum.inr.inj z))]
      simp only [ih, List.mem_cons, e', false_or]
theorem d_World_need : ∀ m ds O Φ Ψ, p_World_need T m ds O Φ Ψ → SE K m E (t_World_need T E) (startE n_World_need ds) O { nx := fun _ O' => Φ .non O', rt := Φ, xs := Ψ } := bodyV (by
  rintro ds d ⟨ps, ws, fs, a, rfl, hp, ha, rfl⟩
  obtain ⟨x, hx, rfl⟩ := List.mem_map.mp ha
  have hm := (hp.mks x hx).1
  have hl := mark_len hm
  refine se_ifF (EvT.is (et_or (et_not (et_B (ev_mark T (ev_var rfl) (by omega)))) (fun _ => et_B (ev_dnotin (k := .inr x.1) (ev_var rfl) (em T (ps := ps) (ws := ws) (fs := fs) rfl) AsD.fr))) ?_) (se_next ⟨rfl, rfl⟩)
  rw [hm, look_mk hp.nd hx]; rfl)
theorem ev_need {env : DL.Env} {O : OL} {ps : Pl} {ws : Wy} {fs : List Str} {a : Str} (h0 : env[0]? = some (some (wD T.World_a ps ws fs))) (h1 : env[1]? = some (some (.str a))) (hp : GoodP ps) (ha : a ∈ ps.map (·.1)) : EvE K [] (tMeth T.World_a "need" (sp_World_need T) [] E0 (tVar 0) (tCons (tVar 1) tNil)) env O .non :=
  ev_meth0 (ev_var h0) (asI _ _ _ _ _) (fno _ _ _ _ (by decide +kernel)) (ea_cons (ev_var h1) ea_nil) ⟨ps, ws, fs, a, rfl, hp, ha, rfl⟩
theorem d_World_moment_of : ∀ m ds O Φ Ψ, p_World_moment_of T m ds O Φ Ψ → SE K m E (t_World_moment_of T E) (startE n_World_moment_of ds) O { nx := fun _ O' => Φ .non O', rt := Φ, xs := Ψ } := bodyV (by
  rintro ds d ⟨ps, ws, fs, x, rfl, hp, hx, rfl⟩
  refine se_seq (se_drop (EvE.xe (ev_need T (ps := ps) (ws := ws) (fs := fs) (a := x.1) rfl rfl hp (List.mem_map.mpr ⟨x, hx, rfl⟩)) ?_))
  exact se_ret (EvE.xe (ev_dget (k := .inr x.1) (em T (ps := ps) (ws := ws) (fs := fs) rfl) (ev_var rfl) AsD.fr (look_mk hp.nd hx)) ⟨rfl, rfl⟩))
theorem look_bh : ∀ {ps : Pl} {ws : Wy}, ∀ {x : Str × List Str}, x ∈ ps → lookD (bhD ps ws) (.inr x.1) = some (.lst (dStrs (nxs ws x.1)))
  | [], _, _, h => nomatch h
  | y :: ps, ws, x, h => by
    unfold lookD bhD
    rw [List.map_cons, List.find?_cons]
    by_cases e : y.1 = x.1
    · simp [e]
    · rw [decide_eq_false (fun z => e (Sum.inr.inj z))]
      have : x ∈ ps := by
        rcases List.mem_cons.mp h with h | h
        · exact absurd (by rw [h]) e
        · exact h
      exact look_bh this
theorem d_World_nexts : ∀ m ds O Φ Ψ, p_World_nexts T m ds O Φ Ψ → SE K m E (t_World_nexts T E) (startE n_World_nexts ds) O { nx := fun _ O' => Φ .non O', rt := Φ, xs := Ψ } := bodyL (by
  rintro ds rs ⟨ps, ws, fs, x, rfl, hp, hx, rfl⟩
  refine se_seq (se_drop (EvE.xe (ev_need T (ps := ps) (ws := ws) (fs := fs) (a := x.1) rfl rfl hp (List.mem_map.mpr ⟨x, hx, rfl⟩)) ?_))
  exact se_ret (xe_list (ev_dget (k := .inr x.1) (eb T (ps := ps) (ws := ws) (fs := fs) rfl) (ev_var rfl) AsD.fr (look_bh hx)) AsS.fr fun p _ => ⟨p, rfl, rfl⟩))
end
end K61

namespace K61
open PySem L2 DL
local macro_rules | `(tactic| walk_at "dlisi") => `(tactic| first | exact isi_str_str (.str _) | exact isi_str_list (.str _) | exact isi_str_tuple (.str _) | exact isi_str_int (.str _) | exact isi_str_bool (.str _) | exact isi_str_dict (.str _) | exact isi_list_str (.lst _) | exact isi_list_list (.lst _) | exact isi_list_tuple (.lst _) | exact isi_list_int (.lst _) | exact isi_list_bool (.lst _) | exact isi_list_dict (.lst _) | exact isi_tuple_str (.tup _) | exact isi_tuple_list (.tup _) | exact isi_tuple_tuple (.tup _) | exact isi_tuple_int (.tup _) | exact isi_tuple_bool (.tup _) | exact isi_tuple_dict (.tup _) | exact isi_int_str (.int _) | exact isi_int_list (.int _) | exact isi_int_tuple (.int _) | exact isi_int_int (.int _) | exact isi_int_bool (.int _) | exact isi_int_dict (.int _) | exact isi_bool_str (.bl _) | exact isi_bool_list (.bl _) | exact isi_bool_tuple (.bl _) | exact isi_bool_int (.bl _) | exact isi_bool_bool (.bl _) | exact isi_bool_dict (.bl _) | exact isi_NoneType_str (.non) | exact isi_NoneType_list (.non) | exact isi_NoneType_tuple (.non) | exact isi_NoneType_int (.non) | exact isi_NoneType_bool (.non) | exact isi_NoneType_dict (.non) | exact isiL_str (by assumption) | exact isiL_list (by assumption) | exact isiL_tuple (by assumption) | exact isiL_int (by assumption) | exact isiL_bool (by assumption) | exact isiL_dict (by assumption))
local macro_rules | `(tactic| walk_at "dlside") => `(tactic| first | (with_reducible assumption) | omega | (exact Or.inr ⟨by omega, by omega⟩) | (exact Or.inl ⟨by omega, by omega⟩) | (with_reducible exact AsS.fr) | (with_reducible exact AsL.fr) | (with_reducible exact AsS.tu) | (with_reducible exact AsD.fr) | (rw [sizeLine_eq]; omega) | (rw [sizeLine_eq]; simp only [List.length_cons, List.length_nil]; omega) | (rw [sizeLine_eq]; simp only [Str.length_append]; omega) | (rw [sizeLine_eq]; decide +kernel) | decide)
local macro_rules | `(tactic| walk_at "dlix") => `(tactic| first | (with_reducible assumption) | exact L2.atI_nat (by with_reducible assumption) | rfl)
local macro_rules | `(tactic| walk_at "dlopv") => `(tactic| first | (with_reducible exact opv_addI) | (with_reducible exact opv_subI) | (with_reducible exact opv_gtI) | (with_reducible exact opv_ltI) | (with_reducible exact opv_leI) | (with_reducible exact opv_geI) | (with_reducible exact opv_eqI) | (with_reducible exact opv_neI) | (with_reducible exact opv_eqS) | (with_reducible exact opv_neS) | (with_reducible exact opv_leS) | (with_reducible exact opv_inSign) | (with_reducible exact opv_notInSign) | ((with_reducible apply opv_modI); (walk_at "dlside")) | ((with_reducible apply opv_divI) <;> walk_at "dlside") | ((with_reducible apply opv_mulI); (walk_at "dlside")) | ((with_reducible apply opv_addC); (walk_at "dlside")) | ((with_reducible apply opv_mulS); (walk_at "dlside"); (walk_at "dlside"); (walk_at "dlside")) | ((with_reducible apply opv_addT); (walk_at "dlside")) | ((with_reducible apply opv_ixS); (walk_at "dlside"); (walk_at "dlix")) | ((with_reducible apply opv_ixStr); (walk_at "dlside"); (walk_at "dlix")) | ((with_reducible apply opv_addL); (walk_at "dlside"); (walk_at "dlside"); (walk_at "dlside")) | ((with_reducible apply opv_inS); (walk_at "dlside")) | ((with_reducible apply opv_notInS); (walk_at "dlside")))
local macro_rules | `(tactic| walk_at "dlca") => `(tactic| first | (apply ca_lenS; (walk_at "dlside")) | (apply ca_lenT; (walk_at "dlside")) | exact ca_min2 | exact ca_max2 | (apply ca_list; (walk_at "dlside")) | (apply ca_lenD; (walk_at "dlside")) | (apply ca_listD; (walk_at "dlside")) | exact ca_tupT | (apply ca_tupL; (walk_at "dlside")) | (apply ca_sortedS; (walk_at "dlside"); (walk_at "dlside")) | walk_at "dlisi")
local macro_rules | `(tactic| walk_at "dlme") => `(tactic| first | (apply me_split <;> walk_at "dlside") | exact me_ends | (apply me_join; (walk_at "dlside"); (walk_at "dlside")))
local macro_rules | `(tactic| walk_at "dlev") => `(tactic| first
  | (with_reducible assumption)
  | exact ev_var rfl | exact ev_int | exact ev_str | exact ev_bl | exact ev_non | exact ev_val | (with_reducible exact ea_nil) | (with_reducible exact et_yes)
  | ((with_reducible apply ev_op); (walk_at "dlev"); (walk_at "dlev"); (walk_at "dlopv"))
  | ((with_reducible apply ea_cons); (walk_at "dlev"); (walk_at "dlev"))
  | ((with_reducible apply ev_cb); (walk_at "dlev"); (walk_at "dlca"))
  | ((with_reducible apply ev_bmS); (walk_at "dlev"); (walk_at "dlev"); (walk_at "dlme"))
  | ((with_reducible apply ev_tup); (walk_at "dlev"); (walk_at "dlside"))
  | ((with_reducible apply ev_lst); (walk_at "dlev"); (walk_at "dlside"))
  | ((with_reducible apply et_test); (walk_at "dlev")) | ((with_reducible apply et_B); (walk_at "dlev"))
  | ((with_reducible apply et_not); (walk_at "dlev"))
  | ((with_reducible apply et_or); (walk_at "dlev"); (intro _; walk_at "dlev"))
  | ((with_reducible apply et_and); (walk_at "dlev"); (intro _; walk_at "dlev"))
  | ((with_reducible apply ev_andV); (walk_at "dlev"); (intro _; walk_at "dlev"))
  | ((with_reducible apply ev_orV); (walk_at "dlev"); (intro _; walk_at "dlev"))
  | ((with_reducible apply ev_chain); (walk_at "dlev"); (walk_at "dlev"); (walk_at "dlopv"); (intro _; walk_at "dlev"); (intro _; walk_at "dlopv"))
  | ((with_reducible apply ev_slL); (walk_at "dlev"); (walk_at "dlev"); (walk_at "dlev"); (walk_at "dlside"))
  | ((with_reducible apply ev_slS); (walk_at "dlev"); (walk_at "dlev"); (walk_at "dlev"); (walk_at "dlside"))
  | ((with_reducible apply ev_fstr); (walk_at "dlev")) | (with_reducible exact ej_nil) | ((with_reducible apply ej_cons); (walk_at "dlev"); (walk_at "dlside"); (walk_at "dlev")) | ((with_reducible apply ev_fmtS); (walk_at "dlev"); (walk_at "dlside"))
  | (with_reducible exact eo_none) | ((with_reducible apply eo_some); (walk_at "dlev")) | ((with_reducible apply ev_un); (walk_at "dlev")) | assumption)
local macro_rules | `(tactic| walk_at "dlevb") => `(tactic| refine EvT.is (by walk_at "dlev") ?_)
local macro_rules | `(tactic| walk_at "dlle") => `(tactic| ((iterate 24 (try (first | exact le_nil | refine le_same ?_ | refine le_none ?_))); done))
section
variable {K : PySem.W.Frag} {mg : Str → Option Value} (T : Tx K mg) {E : XK}
theorem ev_pair {te : TE} {env : DL.Env} {O : OL} {x y : Dt} (h : EvE K [] te env O (.tup [x, y])) : EvE K [] (tCall (sp_is_pair T) [] E0 (tCons te tNil)) env O (.bl true) := ev_call0 (ea_cons h ea_nil) ⟨x, y, rfl, rfl⟩
theorem ev_mom {te : TE} {env : DL.Env} {O : OL} {xs : List Str} (h : EvE K [] te env O (.tup (dStrs xs))) (hm : Mom xs) : EvE K [] (tCall (sp_is_moment T) [] E0 (tCons te tNil)) env O (.bl true) := ev_call0 (ea_cons h ea_nil) ⟨xs, rfl, hm, rfl⟩
theorem look_none {α : Type} {f : α → Str} {g : α → Dt} {xs : List α} {a : Str} (h : a ∉ xs.map f) : (lookD (xs.map fun x => ((.inr (f x) : Key), g x)) (.inr a)).isSome = false := by
  rw [look_mem, decide_eq_false h]
theorem put_new {α : Type} {f : α → Str} {g : α → Dt} {xs : List α} {a : Str} {d : Dt} (h : a ∉ xs.map f) : putE (xs.map fun x => ((.inr (f x) : Key), g x)) (.inr a) d = (xs.map fun x => ((.inr (f x) : Key), g x)) ++ [(.inr a, d)] := by
  unfold putE
  rw [if_neg]
  rw [Bool.not_eq_true, List.any_map, List.any_eq_false]
  intro x hx
  rw [Function.comp, decide_eq_true_eq]
  intro z
  exact h (List.mem_map.mpr ⟨x, hx, Sum.inr.inj z⟩)
theorem take_new {α β : Type} {f : α → β} {xs : List α} {i : Nat} {x : α} (nd : (xs.map f).Nodup) (h : xs[i]? = some x) : f x ∉ (xs.take i).map f := by
  intro z
  obtain ⟨y, hy, e⟩ := List.mem_map.mp z
  obtain ⟨j, hj, rfl⟩ := List.mem_take_iff_getElem.mp hy
  obtain ⟨hi, rfl⟩ := List.getElem?_eq_some_iff.mp h
  have := (List.getElem_inj (h₀ := by rw [List.length_map]; omega) (h₁ := by rw [List.length_map]; omega) nd (i := j) (j := i)).mp (by rw [List.getElem_map, List.getElem_map]; exact e)
  omega
theorem d_placed : ∀ m ds O Φ Ψ, p_placed m ds O Φ Ψ → SE K m E (t_placed T E) (startE n_placed ds) O { nx := fun _ O' => Φ .non O', rt := Φ, xs := Ψ } := by
  rintro m ds A Φ Ψ ⟨rfl, d, ps, rfl, ha, hp, f⟩
  refine se_seq (se_asg (xe_dnew fun p hpo => ?_))
  refine se_seq (se_forA (σT := Unit) (A := A) (xs := stD ps) (fun _ _ => True) (fun _ _ => [some d, some (ptr p), none]) (fun i _ => [(p, .dic (mkD (ps.take i)))]) () (ev_var rfl) ha trivial (by walk_at "dlle") rfl mono_se (fun i x u A' hx _ e le => xg_name (SE.le ?_ (le_set le 2 _))) (fun u _ => ?_))
  · obtain ⟨y, hy, rfl⟩ := stD_at hx
    have hgp := hp.mks y (List.mem_of_getElem? hy)
    have g1 := (mark_len hgp.1).2
    have hnew := take_new (f := fun x : Str × List Str => x.1) hp.nd hy
    have hil : i < ps.length := (List.getElem?_eq_some_iff.mp hy).1
    have hl := hp.len
    refine se_seq (se_ifF (EvT.is (et_or (et_not (et_B (ev_pair T (ev_var rfl)))) (fun _ => et_or (et_not (et_B (ev_mark T (x := y.1) (by walk_at "dlev") (by omega)))) (fun _ => et_or (et_not (et_B (ev_mom T (xs := y.2) (by walk_at "dlev") hgp.2))) (fun _ => et_B (ev_din (k := .inr y.1) (ev_op (ev_var rfl) ev_int (opv_ixS AsS.tu rfl)) (ev_var rfl) (AsD.own 0 rfl)))))) (by rw [hgp.1, mkD, look_none hnew]; rfl)) (se_next ?_))
    refine se_dput (p := p) (k := .inr y.1) (EvE.xe (ev_op (ev_var rfl) ev_int (opv_ixS AsS.tu rfl)) ⟨0, _, rfl, ev_var rfl, ev_op (ev_var rfl) ev_int (opv_ixS AsS.tu rfl), ?_, (), trivial, by walk_at "dlle", ?_⟩)
    · rw [mkD, List.length_map, List.length_take, sizeLine_eq]; omega
    · show (p, OD.dic (putE (mkD (ps.take i)) _ _)) :: A' = (p, OD.dic (mkD (ps.take (i + 1)))) :: A'
      rw [mkD, put_new hnew, mkD, List.take_add_one, hy, List.map_append]; rfl
  · have el : (stD ps).length = ps.length := List.length_map ..
    have em : (mkD ps).length = ps.length := List.length_map ..
    simp only [el, List.take_length]
    have hl := hp.len
    refine se_seq (se_ifF (EvT.is (et_not (et_test (ev_chain ev_int (ev_cb (ea_cons (ev_var rfl) ea_nil) (ca_lenD (AsD.own 0 rfl))) opv_leI (fun _ => ev_int) (fun _ => opv_leI)))) (by rw [em, decide_eq_true (by omega), decide_eq_true (by omega)]; rfl)) (se_next ?_))
    exact se_ret (XE.frz (EvE.xe (ev_var rfl) ⟨0, p, _, rfl, rfl, f⟩))
theorem d_need_starts : ∀ m ds O Φ Ψ, p_need_starts m ds O Φ Ψ → SE K m E (t_need_starts T E) (startE n_need_starts ds) O { nx := fun _ O' => Φ .non O', rt := Φ, xs := Ψ } := by
  rintro m ds A Φ Ψ ⟨rfl, d, ps, fs, rfl, ha, hp, hf, f⟩
  refine se_seq (se_asg (xe_dnew fun p hpo => ?_))
  refine se_seq (se_forA (σT := Unit) (A := A) (xs := dStrs fs) (fun _ _ => True) (fun _ _ => [some (.dic (mkD ps)), some d, some (ptr p), none]) (fun i _ => [(p, .dic ((fs.take i).map fun x => (.inr x, .bl true)))]) () (ev_var rfl) ha trivial (by walk_at "dlle") rfl mono_se (fun i x u A' hx _ e le => xg_name (SE.le ?_ (le_set le 3 _))) (fun u _ => ?_))
  · obtain ⟨y, hy, rfl⟩ := dStrs_get hx
    have hmem := hf.mem y (List.mem_of_getElem? hy)
    obtain ⟨z, hz, rfl⟩ := List.mem_map.mp hmem
    have hgp := hp.mks z hz
    have g1 := (mark_len hgp.1).2
    have hnew := take_new (f := fun x : Str => x) (xs := fs) (by rw [List.map_id']; exact hf.nd) hy
    have hil : i < fs.length := (List.getElem?_eq_some_iff.mp hy).1
    have hl := hf.ne
    refine se_seq (se_ifF (EvT.is (et_or (et_not (et_B (ev_mark T (x := z.1) (by walk_at "dlev") (by omega)))) (fun _ => et_or (et_B (ev_dnotin (k := .inr z.1) (ev_var rfl) (ev_var rfl) (AsD.fr))) (fun _ => et_B (ev_din (k := .inr z.1) (ev_var rfl) (ev_var rfl) (AsD.own 0 rfl))))) (by rw [hgp.1, look_mk hp.nd hz, look_none hnew]; rfl)) (se_next ?_))
    refine se_dput (p := p) (k := .inr z.1) (EvE.xe ev_bl ⟨0, _, rfl, ev_var rfl, ev_var rfl, ?_, (), trivial, by walk_at "dlle", ?_⟩)
    · rw [List.length_map, List.length_take, sizeLine_eq]; omega
    · show (p, OD.dic (putE ((fs.take i).map fun x => (.inr x, .bl true)) _ _)) :: A' = (p, OD.dic ((fs.take (i + 1)).map fun x => (.inr x, .bl true))) :: A'
      rw [put_new (f := fun x : Str => x) hnew, List.take_add_one, hy, List.map_append]; rfl
  · have el : (dStrs fs).length = fs.length := dStrs_len fs
    simp only [el, List.take_length]
    have hl := hf.ne
    refine SE.frz (k := 0) (p := p) (env' := [some (.dic (mkD ps)), some d, some (.dic (fs.map fun x => (.inr x, .bl true))), none]) rfl (fun i d hi => ?_) rfl ?_
    · rcases i with _ | _ | _ | _ | _
      all_goals first | exact Or.inl hi | (cases hi; exact Or.inr ⟨rfl, rfl⟩) | cases hi
    · refine se_ifF (EvT.is (et_test (ev_op (ev_cb (ea_cons (ev_var rfl) ea_nil) (ca_lenD AsD.fr)) ev_int opv_eqI)) ?_) (se_next f)
      rw [List.length_map, decide_eq_false]; omega
end
end K61

namespace K61
open PySem L2 DL
local macro_rules | `(tactic| walk_at "dlisi") => `(tactic| first | exact isi_str_str (.str _) | exact isi_str_list (.str _) | exact isi_str_tuple (.str _) | exact isi_str_int (.str _) | exact isi_str_bool (.str _) | exact isi_str_dict (.str _) | exact isi_list_str (.lst _) | exact isi_list_list (.lst _) | exact isi_list_tuple (.lst _) | exact isi_list_int (.lst _) | exact isi_list_bool (.lst _) | exact isi_list_dict (.lst _) | exact isi_tuple_str (.tup _) | exact isi_tuple_list (.tup _) | exact isi_tuple_tuple (.tup _) | exact isi_tuple_int (.tup _) | exact isi_tuple_bool (.tup _) | exact isi_tuple_dict (.tup _) | exact isi_int_str (.int _) | exact isi_int_list (.int _) | exact isi_int_tuple (.int _) | exact isi_int_int (.int _) | exact isi_int_bool (.int _) | exact isi_int_dict (.int _) | exact isi_bool_str (.bl _) | exact isi_bool_list (.bl _) | exact isi_bool_tuple (.bl _) | exact isi_bool_int (.bl _) | exact isi_bool_bool (.bl _) | exact isi_bool_dict (.bl _) | exact isi_NoneType_str (.non) | exact isi_NoneType_list (.non) | exact isi_NoneType_tuple (.non) | exact isi_NoneType_int (.non) | exact isi_NoneType_bool (.non) | exact isi_NoneType_dict (.non) | exact isiL_str (by assumption) | exact isiL_list (by assumption) | exact isiL_tuple (by assumption) | exact isiL_int (by assumption) | exact isiL_bool (by assumption) | exact isiL_dict (by assumption))
local macro_rules | `(tactic| walk_at "dlside") => `(tactic| first | (with_reducible assumption) | omega | (exact Or.inr ⟨by omega, by omega⟩) | (exact Or.inl ⟨by omega, by omega⟩) | (with_reducible exact AsS.fr) | (with_reducible exact AsL.fr) | (with_reducible exact AsS.tu) | (with_reducible exact AsD.fr) | (rw [sizeLine_eq]; omega) | (rw [sizeLine_eq]; simp only [List.length_cons, List.length_nil]; omega) | (rw [sizeLine_eq]; simp only [Str.length_append]; omega) | (rw [sizeLine_eq]; decide +kernel) | decide)
local macro_rules | `(tactic| walk_at "dlix") => `(tactic| first | (with_reducible assumption) | exact L2.atI_nat (by with_reducible assumption) | rfl)
local macro_rules | `(tactic| walk_at "dlopv") => `(tactic| first | (with_reducible exact opv_addI) | (with_reducible exact opv_subI) | (with_reducible exact opv_gtI) | (with_reducible exact opv_ltI) | (with_reducible exact opv_leI) | (with_reducible exact opv_geI) | (with_reducible exact opv_eqI) | (with_reducible exact opv_neI) | (with_reducible exact opv_eqS) | (with_reducible exact opv_neS) | (with_reducible exact opv_leS) | (with_reducible exact opv_inSign) | (with_reducible exact opv_notInSign) | ((with_reducible apply opv_modI); (walk_at "dlside")) | ((with_reducible apply opv_divI) <;> walk_at "dlside") | ((with_reducible apply opv_mulI); (walk_at "dlside")) | ((with_reducible apply opv_addC); (walk_at "dlside")) | ((with_reducible apply opv_mulS); (walk_at "dlside"); (walk_at "dlside"); (walk_at "dlside")) | ((with_reducible apply opv_addT); (walk_at "dlside")) | ((with_reducible apply opv_ixS); (walk_at "dlside"); (walk_at "dlix")) | ((with_reducible apply opv_ixStr); (walk_at "dlside"); (walk_at "dlix")) | ((with_reducible apply opv_addL); (walk_at "dlside"); (walk_at "dlside"); (walk_at "dlside")) | ((with_reducible apply opv_inS); (walk_at "dlside")) | ((with_reducible apply opv_notInS); (walk_at "dlside")))
local macro_rules | `(tactic| walk_at "dlca") => `(tactic| first | (apply ca_lenS; (walk_at "dlside")) | (apply ca_lenT; (walk_at "dlside")) | exact ca_min2 | exact ca_max2 | (apply ca_list; (walk_at "dlside")) | (apply ca_lenD; (walk_at "dlside")) | (apply ca_listD; (walk_at "dlside")) | exact ca_tupT | (apply ca_tupL; (walk_at "dlside")) | (apply ca_sortedS; (walk_at "dlside"); (walk_at "dlside")) | walk_at "dlisi")
local macro_rules | `(tactic| walk_at "dlme") => `(tactic| first | (apply me_split <;> walk_at "dlside") | exact me_ends | (apply me_join; (walk_at "dlside"); (walk_at "dlside")))
local macro_rules | `(tactic| walk_at "dlev") => `(tactic| first
  | (with_reducible assumption)
  | exact ev_var rfl | exact ev_int | exact ev_str | exact ev_bl | exact ev_non | exact ev_val | (with_reducible exact ea_nil) | (with_reducible exact et_yes)
  | ((with_reducible apply ev_op); (walk_at "dlev"); (walk_at "dlev"); (walk_at "dlopv"))
  | ((with_reducible apply ea_cons); (walk_at "dlev"); (walk_at "dlev"))
  | ((with_reducible apply ev_cb); (walk_at "dlev"); (walk_at "dlca"))
  | ((with_reducible apply ev_bmS); (walk_at "dlev"); (walk_at "dlev"); (walk_at "dlme"))
  | ((with_reducible apply ev_tup); (walk_at "dlev"); (walk_at "dlside"))
  | ((with_reducible apply ev_lst); (walk_at "dlev"); (walk_at "dlside"))
  | ((with_reducible apply et_test); (walk_at "dlev")) | ((with_reducible apply et_B); (walk_at "dlev"))
  | ((with_reducible apply et_not); (walk_at "dlev"))
  | ((with_reducible apply et_or); (walk_at "dlev"); (intro _; walk_at "dlev"))
  | ((with_reducible apply et_and); (walk_at "dlev"); (intro _; walk_at "dlev"))
  | ((with_reducible apply ev_andV); (walk_at "dlev"); (intro _; walk_at "dlev"))
  | ((with_reducible apply ev_orV); (walk_at "dlev"); (intro _; walk_at "dlev"))
  | ((with_reducible apply ev_chain); (walk_at "dlev"); (walk_at "dlev"); (walk_at "dlopv"); (intro _; walk_at "dlev"); (intro _; walk_at "dlopv"))
  | ((with_reducible apply ev_slL); (walk_at "dlev"); (walk_at "dlev"); (walk_at "dlev"); (walk_at "dlside"))
  | ((with_reducible apply ev_slS); (walk_at "dlev"); (walk_at "dlev"); (walk_at "dlev"); (walk_at "dlside"))
  | ((with_reducible apply ev_fstr); (walk_at "dlev")) | (with_reducible exact ej_nil) | ((with_reducible apply ej_cons); (walk_at "dlev"); (walk_at "dlside"); (walk_at "dlev")) | ((with_reducible apply ev_fmtS); (walk_at "dlev"); (walk_at "dlside"))
  | (with_reducible exact eo_none) | ((with_reducible apply eo_some); (walk_at "dlev")) | ((with_reducible apply ev_un); (walk_at "dlev")) | assumption)
local macro_rules | `(tactic| walk_at "dlevb") => `(tactic| refine EvT.is (by walk_at "dlev") ?_)
local macro_rules | `(tactic| walk_at "dlle") => `(tactic| ((iterate 24 (try (first | exact le_nil | refine le_same ?_ | refine le_none ?_))); done))
section
variable {K : PySem.W.Frag} {mg : Str → Option Value} (T : Tx K mg) {E : XK}
/-- places, each with the address of its list of steps -/
abbrev zp (ps : Pl) (as : List Addr) : List ((Str × List Str) × Addr) := ps.zip as
def zD (ps : Pl) (as : List Addr) : List (Key × Dt) := (zp ps as).map fun x => (.inr x.1.1, ptr x.2)
def zO (ps : Pl) (as : List Addr) (ws : Wy) : OL := (zp ps as).map fun x => (x.2, .lst (dStrs (nxs ws x.1.1)))
theorem zp_fst {ps : Pl} {as : List Addr} (h : as.length = ps.length) : (zp ps as).map (fun x => x.1.1) = ps.map (·.1) := by
  have e : (zp ps as).map (·.1) = ps := List.map_fst_zip (by omega)
  conv => rhs; rw [← e, List.map_map]
  rfl
theorem zp_len {ps : Pl} {as : List Addr} (h : as.length = ps.length) : (zp ps as).length = ps.length := by rw [List.length_zip]; omega
theorem look_at {α : Type} {f : α → Str} {g : α → Dt} : ∀ {xs : List α}, (xs.map f).Nodup → ∀ {x : α}, x ∈ xs → lookD (xs.map fun x => ((.inr (f x) : Key), g x)) (.inr (f x)) = some (g x)
  | [], _, _, h => nomatch h
  | y :: xs, nd, x, h => by
    unfold lookD
    rw [List.map_cons, List.find?_cons]
    by_cases e : f y = f x
    · have : x = y := by
        rcases List.mem_cons.mp h with h | h
        · exact h
        · exact absurd (List.mem_map.mpr ⟨x, h, e.symm⟩) (List.nodup_cons.mp nd).1
      subst this
      simp
    · rw [decide_eq_false (fun z => e (Sum.inr.inj z))]
      have : x ∈ xs := by
        rcases List.mem_cons.mp h with h | h
        · exact absurd (by rw [h]) e
        · exact h
      exact look_at (List.nodup_cons.mp nd).2 this
theorem nxs_add {ws : Wy} {i : Nat} {w : Str × Str} (h : ws[i]? = some w) (a : Str) : nxs (ws.take (i + 1)) a = if w.1 = a then nxs (ws.take i) a ++ [w.2] else nxs (ws.take i) a := by
  unfold nxs
  rw [List.take_add_one, h, List.filter_append, List.map_append]
  show _ ++ List.map _ (List.filter _ [w]) = _
  by_cases e : w.1 = a
  · rw [if_pos e, List.filter_cons, if_pos (decide_eq_true e)]; rfl
  · rw [if_neg e, List.filter_cons, if_neg (by rw [decide_eq_false e]; decide)]; simp
theorem nxs_len_take {ws : Wy} (i : Nat) (a : Str) : (nxs (ws.take i) a).length ≤ (nxs ws a).length := by
  unfold nxs
  rw [List.length_map, List.length_map]
  exact (List.Sublist.filter _ (List.take_sublist i ws)).length_le
theorem nxs_new {ws : Wy} (nd : ws.Nodup) {i : Nat} {w : Str × Str} (h : ws[i]? = some w) : w.2 ∉ nxs (ws.take i) w.1 := by
  intro z
  unfold nxs at z
  obtain ⟨y, hy, e⟩ := List.mem_map.mp z
  have h1 := (List.mem_filter.mp hy)
  have h2 : y = w := Prod.ext (of_decide_eq_true h1.2) e
  subst h2
  exact take_new (f := fun x : Str × Str => x) (by rw [List.map_id']; exact nd) h (by rw [List.map_id']; exact h1.1)
theorem bhD_at {ps : Pl} {ws : Wy} {i : Nat} {k : Key} {x : Dt} (h : (bhD ps ws)[i]? = some (k, x)) : ∃ y, ps[i]? = some y ∧ k = .inr y.1 ∧ x = .lst (dStrs (nxs ws y.1)) := by
  unfold bhD at h
  rw [List.getElem?_map] at h
  cases q : ps[i]? with
  | none => rw [q] at h; cases h
  | some y => rw [q] at h; cases h; exact ⟨y, rfl, rfl, rfl⟩
theorem d_stepped : ∀ m ds O Φ Ψ, p_stepped m ds O Φ Ψ → SE K m E (t_stepped T E) (startE n_stepped ds) O { nx := fun _ O' => Φ .non O', rt := Φ, xs := Ψ } := by
  rintro m ds A Φ Ψ ⟨rfl, d, ps, ws, rfl, ha, hp, hw, f⟩
  have eml : (mkD ps).length = ps.length := List.length_map ..
  have hpl := hp.len
  refine se_seq (se_asg (xe_dictP (xe_lockNew (i := 0) (j := 5) (kds := mkD ps) rfl (by decide) (by omega) (fun l as has => ⟨(mkD ps).zip as |>.map fun kp => (kp.1.1, ptr kp.2), AsL.own 0 (by unfold newPs; rw [List.map_map]; rfl), fun pd hpd => ?_⟩) (show 5 < 6 by decide))))
  rw [eml] at has
  have e1 : ((mkD ps).zip as |>.map fun kp => (kp.1.1, ptr kp.2)) = zD ps as := by
    unfold zD zp mkD
    rw [List.zip_map_left, List.map_map]; rfl
  have ndz : ((zp ps as).map fun x => x.1.1).Nodup := by rw [zp_fst has]; exact hp.nd
  have e2 : (zD ps as).foldl (fun acc kv => putE acc kv.1 kv.2) [] = zD ps as := by
    have : ((([] : List (Key × Dt)) ++ zD ps as).map (fun x => x.1)).Nodup := by
      show ((zD ps as).map (·.1)).Nodup
      unfold zD
      rw [List.map_map]
      have h2 : ((zp ps as).map fun x => x.1.1).map (fun a => (Sum.inr a : Key)) = (zp ps as).map ((fun x : Key × Dt => x.1) ∘ fun x : (Str × List Str) × Addr => ((Sum.inr x.1.1 : Key), ptr x.2)) := by rw [List.map_map]; rfl
      rw [← h2]
      exact List.pairwise_map.mpr (List.Pairwise.imp (fun h z => h (Sum.inr.inj z)) ndz)
    have := fold_put (zD ps as) [] this
    rw [this]; rfl
  have e3 : newOs as = zO ps as [] := by
    unfold newOs zO
    have h2 : (zp ps as).map (·.2) = as := List.map_snd_zip (by omega)
    conv => lhs; rw [← h2, List.map_map]
    rfl
  rw [e1, e2, e3]
  refine SE.dropO (k := 1) (by simp) ?_
  show SE K [] E _ _ ((pd, OD.dic (zD ps as)) :: (zO ps as [] ++ A)) _
  refine se_seq (se_forA (σT := Unit) (A := A) (xs := wsD ws) (fun _ _ => True) (fun _ _ => [some (.dic (mkD ps)), some d, some (ptr pd), none, none, none]) (fun i _ => (pd, .dic (zD ps as)) :: zO ps as (ws.take i)) () (ev_var rfl) ha trivial (by walk_at "dlle") rfl mono_se (fun i x u A' hx _ e le => xg_name (SE.le ?_ (le_set le 3 _))) (fun u _ => ?_))
  · obtain ⟨w, hwi, rfl⟩ := wsD_at hx
    have hmem := hw.mem w (List.mem_of_getElem? hwi)
    obtain ⟨y, hy, ey⟩ := List.mem_map.mp hmem.1
    obtain ⟨y2, hy2, ey2⟩ := List.mem_map.mp hmem.2
    have g1 := hp.mks y hy
    have g2 := hp.mks y2 hy2
    rw [ey] at g1
    rw [ey2] at g2
    have g3 := (mark_len g1.1).2
    have g4 := (mark_len g2.1).2
    -- the place's index
    obtain ⟨j, hj⟩ := List.mem_iff_getElem?.mp hy
    have hjl : j < ps.length := (List.getElem?_eq_some_iff.mp hj).1
    have hz : (zp ps as)[j]? = some (y, as[j]'(by omega)) := by
      rw [List.getElem?_zip_eq_some]
      exact ⟨hj, List.getElem?_eq_getElem _⟩
    generalize as[j]'(by omega) = pj at hz
    have hl1 : lookD (zD ps as) (.inr w.1) = some (ptr pj) := by
      rw [← ey]
      exact look_at (f := fun x : (Str × List Str) × Addr => x.1.1) (g := fun x => ptr x.2) ndz (List.mem_of_getElem? hz)
    have hl2 : (lookD (zD ps as) (.inr w.2)).isSome = true := by
      unfold zD
      rw [look_mem (f := fun x : (Str × List Str) × Addr => x.1.1), zp_fst has]
      exact decide_eq_true hmem.2
    have hO : ((pd, OD.dic (zD ps as)) :: zO ps as (ws.take i) ++ A')[j + 1]? = some (pj, .lst (dStrs (nxs (ws.take i) w.1))) := by
      rw [List.cons_append, List.getElem?_cons_succ, List.getElem?_append_left (by unfold zO; rw [List.length_map, zp_len has]; exact hjl)]
      unfold zO
      rw [List.getElem?_map, hz]
      show some (pj, OD.lst (dStrs (nxs (ws.take i) y.1))) = _
      rw [ey]
    have hnew := nxs_new hw.nd hwi
    have ix0 : ∀ (O : OL) (env : DL.Env), env[3]? = some (some (.tup [.str w.1, .str w.2])) → EvE K [] (tOp (rIx K) (tVar 3) (tC (.int 0))) env O (.str w.1) := fun O env h => ev_op (ev_var h) ev_int (opv_ixS AsS.tu rfl)
    have ix1 : ∀ (O : OL) (env : DL.Env), env[3]? = some (some (.tup [.str w.1, .str w.2])) → EvE K [] (tOp (rIx K) (tVar 3) (tC (.int 1))) env O (.str w.2) := fun O env h => ev_op (ev_var h) ev_int (opv_ixS AsS.tu rfl)
    have hget : EvE K [] (tDGet (tVar 2) (tOp (rIx K) (tVar 3) (tC (.int 0)))) ([some (.dic (mkD ps)), some d, some (ptr pd), none, none, none].set 3 (some (.tup [.str w.1, .str w.2]))) ((pd, OD.dic (zD ps as)) :: zO ps as (ws.take i) ++ A') (ptr pj) := ev_dget (k := .inr w.1) (ev_var rfl) (ix0 _ _ rfl) (AsD.own 0 rfl) hl1
    refine se_seq (se_ifF (EvT.is (et_or (et_not (et_B (ev_pair T (ev_var rfl)))) (fun _ => et_or (et_not (et_B (ev_mark T (ix0 _ _ rfl) (by omega)))) (fun _ => et_not (et_B (ev_mark T (ix1 _ _ rfl) (by omega)))))) (by rw [g1.1, g2.1]; rfl)) (se_next ?_))
    refine se_seq (se_ifF (EvT.is (et_or (et_B (ev_dnotin (k := .inr w.1) (ix0 _ _ rfl) (ev_var rfl) (AsD.own 0 rfl))) (fun _ => et_or (et_B (ev_dnotin (k := .inr w.2) (ix1 _ _ rfl) (ev_var rfl) (AsD.own 0 rfl))) (fun _ => et_test (ev_op (ix1 _ _ rfl) hget (opv_inS (AsS.own (j + 1) hO)))))) (by rw [hl1, hl2, decide_eq_false hnew]; rfl)) (se_next ?_))
    refine se_append (k := j + 1) hget hO (EvE.xe (ix1 _ _ rfl) ⟨j + 1, _, hO, ?_, (), trivial, by walk_at "dlle", ?_⟩)
    · have h5 := nxs_len_take (ws := ws) i w.1
      have h6 := (hw.len y hy).2
      rw [ey] at h6
      rw [dStrs_len, sizeLine_eq]; omega
    · -- the owned behind the append
      rw [List.cons_append, List.set_cons_succ, List.set_append_left _ _ (by unfold zO; rw [List.length_map, zp_len has]; exact hjl)]
      show _ = (pd, OD.dic (zD ps as)) :: (zO ps as (ws.take (i + 1)) ++ A')
      congr 2
      refine List.ext_getElem? fun k => ?_
      have hzk : ∀ {k' x'}, (zp ps as)[k']? = some x' → x'.1.1 = w.1 → k' = j := fun {k' x'} h1 h2 => by
        obtain ⟨l1, e1⟩ := List.getElem?_eq_some_iff.mp h1
        obtain ⟨l2, e2⟩ := List.getElem?_eq_some_iff.mp hz
        refine (List.getElem_inj (h₀ := by rw [List.length_map]; exact l1) (h₁ := by rw [List.length_map]; exact l2) ndz).mp ?_
        rw [List.getElem_map, List.getElem_map, e1, e2, h2, ← ey]
      by_cases hk : j = k
      · subst hk
        rw [List.getElem?_set_self (by unfold zO; rw [List.length_map, zp_len has]; exact hjl)]
        unfold zO
        rw [List.getElem?_map, hz]
        show _ = some (pj, OD.lst (dStrs (nxs (ws.take (i + 1)) y.1)))
        rw [ey, nxs_add hwi, if_pos rfl, dStrs, dStrs, List.map_append]; rfl
      · rw [List.getElem?_set_ne hk]
        unfold zO
        rw [List.getElem?_map, List.getElem?_map]
        cases q : (zp ps as)[k]? with
        | none => rfl
        | some x' =>
          show some (x'.2, OD.lst (dStrs (nxs (ws.take i) x'.1.1))) = some (x'.2, OD.lst (dStrs (nxs (ws.take (i + 1)) x'.1.1)))
          rw [nxs_add hwi, if_neg (fun z => hk (hzk q z.symm).symm)]
  · have el : (wsD ws).length = ws.length := List.length_map ..
    simp only [el, List.take_length]
    have f1 : zD ps as = ((zp ps as).map fun x => ((.inr x.1.1 : Key), x.2, OD.lst (dStrs (nxs ws x.1.1)))).map fun x => (x.1, ptr x.2.1) := by unfold zD; rw [List.map_map]; rfl
    have f2 : zO ps as ws = ((zp ps as).map fun x => ((.inr x.1.1 : Key), x.2, OD.lst (dStrs (nxs ws x.1.1)))).map fun x => (x.2.1, x.2.2) := by unfold zO; rw [List.map_map]; rfl
    have f3 : (((zp ps as).map fun x => ((.inr x.1.1 : Key), x.2, OD.lst (dStrs (nxs ws x.1.1)))).map fun x => (x.1, x.2.2.dt)) = bhD ps ws := by
      rw [List.map_map]
      have e : (zp ps as).map (·.1) = ps := List.map_fst_zip (by omega)
      unfold bhD
      conv => rhs; rw [← e, List.map_map]
      rfl
    rw [List.cons_append, f1, f2]
    refine SE.frzAll ?_
    rw [f3]
    refine SE.frz (k := 0) (p := pd) (env' := [some (.dic (mkD ps)), some d, some (.dic (bhD ps ws)), none, none, none]) rfl (fun i d' hi => ?_) rfl ?_
    · rcases i with _ | _ | _ | _ | _ | _ | _
      all_goals first | exact Or.inl hi | (cases hi; exact Or.inr ⟨rfl, rfl⟩) | cases hi
    · show SE K [] E _ _ A _
      refine se_seq (se_lockK (kds := bhD ps ws) it_vals (fun _ _ _ h => h) (lk_var (kds := bhD ps ws) rfl) (fun i e o => EnvLe [some (.dic (mkD ps)), some d, some (.dic (bhD ps ws)), none, none, none] e ∧ o = A) ⟨by walk_at "dlle", rfl⟩ (fun i k x p e o hi ⟨hle, ho⟩ => ?_) (fun e o ⟨hle, ho⟩ => ?_))
      · subst ho
        obtain ⟨y, hy, rfl, rfl⟩ := bhD_at hi
        have hln := hw.len y (List.mem_of_getElem? hy)
        refine xg_name (SE.le ?_ (le_set hle 4 _))
        have hdl := dStrs_len (nxs ws y.1)
        refine se_ifF (EvT.is (et_not (et_test (ev_chain ev_int (ev_cb (ea_cons (ev_var rfl) ea_nil) (ca_lenS AsS.fr)) opv_leI (fun _ => ev_int) (fun _ => opv_leI)))) (by rw [hdl, decide_eq_true (by omega), decide_eq_true (by omega)]; rfl)) (se_next ⟨?_, rfl⟩)
        walk_at "dlle"
      · subst ho
        exact SE.le (se_ret (EvE.xe (ev_var rfl) f)) hle
theorem asL_cons {A : OL} {y : Addr × OD} {d : Dt} {xs : List Dt} (h : AsL A d xs) : AsL (y :: A) d xs := by
  rcases h with h | ⟨p, k, h1, h2⟩
  · exact .inl h
  · exact .inr ⟨p, k + 1, h1, h2⟩
def fd1 (ps : Pl) : List (Str × Dt) := [("marks_at", .dic (mkD ps))]
def fd2 (ps : Pl) (ws : Wy) : List (Str × Dt) := [("marks_at", .dic (mkD ps)), ("behind", .dic (bhD ps ws))]
def fd3 (ps : Pl) (ws : Wy) : List (Str × Dt) := [("marks_at", .dic (mkD ps)), ("behind", .dic (bhD ps ws)), ("ways", .lst (wsD ws))]
theorem put_ne {f g : Str} {d e : Dt} {r : List (Str × Dt)} (h : ¬ g = f) : putD f d ((g, e) :: r) = (g, e) :: putD f d r := by
  conv => lhs; unfold putD
  rw [if_neg h]
theorem put2 (ps : Pl) (ws : Wy) : putD "behind" (.dic (bhD ps ws)) (fd1 ps) = fd2 ps ws := by
  unfold fd1; rw [put_ne (by decide +kernel)]; rfl
theorem put3 (ps : Pl) (ws : Wy) : putD "ways" (.lst (wsD ws)) (fd2 ps ws) = fd3 ps ws := by
  unfold fd2; rw [put_ne (by decide +kernel), put_ne (by decide +kernel)]; rfl
theorem put4 (ps : Pl) (ws : Wy) (fs : List Str) : putD "firsts" (.lst (dStrs fs)) (fd3 ps ws) = fdD ps ws fs := by
  unfold fd3; rw [put_ne (by decide +kernel), put_ne (by decide +kernel), put_ne (by decide +kernel)]; rfl
theorem lk1 (d : Dt) (r : List (Str × Dt)) : List.lookup ("marks_at" : Str) (("marks_at", d) :: r) = some d := by
  rw [List.lookup_cons, show (("marks_at" : Str) == "marks_at") = true by decide +kernel]
theorem d_World_init : ∀ m ds O Φ Ψ, p_World_init T m ds O Φ Ψ → SE K m E (t_World_init T E) (startE n_World_init ds) O { nx := fun _ O' => Φ .non O', rt := Φ, xs := Ψ } := by
  rintro m ds O Φ Ψ ⟨rfl, x, d1, d2, d3, ps, ws, fs, A, rfl, rfl, h1, h2, h3, hg, f⟩
  have a1 : AsL ((x, .ins T.World_a []) :: A) d1 (stD ps) := asL_cons h1
  have a2 : AsL ((x, .ins T.World_a []) :: A) d2 (wsD ws) := asL_cons h2
  have a3 : AsL ((x, .ins T.World_a []) :: A) d3 (dStrs fs) := asL_cons h3
  refine se_seq (se_ifF (EvT.is (et_or (et_not (et_B (ev_cb (ea_cons (ev_var rfl) (ea_cons ev_val ea_nil)) (isiL_list a1)))) (fun _ => et_or (et_not (et_B (ev_cb (ea_cons (ev_var rfl) (ea_cons ev_val ea_nil)) (isiL_list a2)))) (fun _ => et_not (et_B (ev_cb (ea_cons (ev_var rfl) (ea_cons ev_val ea_nil)) (isiL_list a3)))))) (by rfl)) (se_next ?_))
  refine se_seq (se_fld (p := x) (XE.e0 (E' := E0) (xe_call (EvA.xa (ea_cons (ev_var rfl) ea_nil) ⟨_, [], (List.append_nil _).symm, rfl, d1, ps, rfl, a1, hg.p, 0, [], rfl, ev_var rfl, T.World_cl, T.World_n_marks_at, by decide, ?_⟩))))
  show SE K [] E _ _ ((x, OD.ins T.World_a (fd1 ps)) :: (A ++ [])) _
  rw [List.append_nil]
  have fl1 : AsI ((x, .ins T.World_a (fd1 ps)) :: A) (ptr x) T.World_a (fd1 ps) := .inr ⟨x, 0, rfl, rfl⟩
  have em1 : EvE K [] (tFld K (tVar 0) "marks_at") (startE n_World_init [ptr x, d1, d2, d3]) ((x, .ins T.World_a (fd1 ps)) :: A) (.dic (mkD ps)) := ev_fld (ev_var rfl) fl1 T.World_cl T.World_n_marks_at (lk1 _ _)
  refine se_seq (se_fld (p := x) (XE.e0 (E' := E0) (xe_call (EvA.xa (ea_cons em1 (ea_cons (ev_var rfl) ea_nil)) ⟨_, [], (List.append_nil _).symm, rfl, d2, ps, ws, rfl, asL_cons h2, hg.p, hg.w, 0, fd1 ps, rfl, ev_var rfl, T.World_cl, T.World_n_behind, (show 1 < 1000 by decide), ?_⟩))))
  rw [put2]
  show SE K [] E _ _ ((x, OD.ins T.World_a (fd2 ps ws)) :: (A ++ [])) _
  rw [List.append_nil]
  have fl2 : AsI ((x, .ins T.World_a (fd2 ps ws)) :: A) (ptr x) T.World_a (fd2 ps ws) := .inr ⟨x, 0, rfl, rfl⟩
  have em2 : EvE K [] (tFld K (tVar 0) "marks_at") (startE n_World_init [ptr x, d1, d2, d3]) ((x, .ins T.World_a (fd2 ps ws)) :: A) (.dic (mkD ps)) := ev_fld (ev_var rfl) fl2 T.World_cl T.World_n_marks_at (lk1 _ _)
  refine se_seq (se_drop (XE.e0 (E' := E0) (xe_call (EvA.xa (ea_cons em2 (ea_cons (ev_var rfl) ea_nil)) ⟨_, [], (List.append_nil _).symm, rfl, d3, ps, fs, rfl, asL_cons h3, hg.p, hg.f, ?_⟩))))
  show SE K [] E _ _ ((x, OD.ins T.World_a (fd2 ps ws)) :: (A ++ [])) _
  rw [List.append_nil]
  have b2 : AsS ((x, .ins T.World_a (fd2 ps ws)) :: A) d2 (wsD ws) := .inl (asL_cons h2)
  refine se_seq (se_fld (p := x) (EvE.xe (ev_cb (ea_cons (ev_var rfl) ea_nil) (ca_list b2)) ⟨0, fd2 ps ws, rfl, ev_var rfl, T.World_cl, T.World_n_ways, (show 2 < 1000 by decide), ?_⟩))
  rw [put3]
  have b3 : AsS ((x, .ins T.World_a (fd3 ps ws)) :: A) d3 (dStrs fs) := .inl (asL_cons h3)
  refine se_fld (p := x) (EvE.xe (ev_cb (ea_cons (ev_var rfl) ea_nil) (ca_list b3)) ⟨0, fd3 ps ws, rfl, ev_var rfl, T.World_cl, T.World_n_firsts, (show 3 < 1000 by decide), ?_⟩)
  rw [put4]
  exact f
end
end K61

namespace K61
open PySem L2 DL
local macro_rules | `(tactic| walk_at "dlisi") => `(tactic| first | exact isi_str_str (.str _) | exact isi_str_list (.str _) | exact isi_str_tuple (.str _) | exact isi_str_int (.str _) | exact isi_str_bool (.str _) | exact isi_str_dict (.str _) | exact isi_list_str (.lst _) | exact isi_list_list (.lst _) | exact isi_list_tuple (.lst _) | exact isi_list_int (.lst _) | exact isi_list_bool (.lst _) | exact isi_list_dict (.lst _) | exact isi_tuple_str (.tup _) | exact isi_tuple_list (.tup _) | exact isi_tuple_tuple (.tup _) | exact isi_tuple_int (.tup _) | exact isi_tuple_bool (.tup _) | exact isi_tuple_dict (.tup _) | exact isi_int_str (.int _) | exact isi_int_list (.int _) | exact isi_int_tuple (.int _) | exact isi_int_int (.int _) | exact isi_int_bool (.int _) | exact isi_int_dict (.int _) | exact isi_bool_str (.bl _) | exact isi_bool_list (.bl _) | exact isi_bool_tuple (.bl _) | exact isi_bool_int (.bl _) | exact isi_bool_bool (.bl _) | exact isi_bool_dict (.bl _) | exact isi_NoneType_str (.non) | exact isi_NoneType_list (.non) | exact isi_NoneType_tuple (.non) | exact isi_NoneType_int (.non) | exact isi_NoneType_bool (.non) | exact isi_NoneType_dict (.non) | exact isiL_str (by assumption) | exact isiL_list (by assumption) | exact isiL_tuple (by assumption) | exact isiL_int (by assumption) | exact isiL_bool (by assumption) | exact isiL_dict (by assumption))
local macro_rules | `(tactic| walk_at "dlside") => `(tactic| first | (with_reducible assumption) | omega | (exact Or.inr ⟨by omega, by omega⟩) | (exact Or.inl ⟨by omega, by omega⟩) | (with_reducible exact AsS.fr) | (with_reducible exact AsL.fr) | (with_reducible exact AsS.tu) | (with_reducible exact AsD.fr) | (rw [sizeLine_eq]; omega) | (rw [sizeLine_eq]; simp only [List.length_cons, List.length_nil]; omega) | (rw [sizeLine_eq]; simp only [Str.length_append]; omega) | (rw [sizeLine_eq]; decide +kernel) | decide)
local macro_rules | `(tactic| walk_at "dlix") => `(tactic| first | (with_reducible assumption) | exact L2.atI_nat (by with_reducible assumption) | rfl)
local macro_rules | `(tactic| walk_at "dlopv") => `(tactic| first | (with_reducible exact opv_addI) | (with_reducible exact opv_subI) | (with_reducible exact opv_gtI) | (with_reducible exact opv_ltI) | (with_reducible exact opv_leI) | (with_reducible exact opv_geI) | (with_reducible exact opv_eqI) | (with_reducible exact opv_neI) | (with_reducible exact opv_eqS) | (with_reducible exact opv_neS) | (with_reducible exact opv_leS) | (with_reducible exact opv_inSign) | (with_reducible exact opv_notInSign) | ((with_reducible apply opv_modI); (walk_at "dlside")) | ((with_reducible apply opv_divI) <;> walk_at "dlside") | ((with_reducible apply opv_mulI); (walk_at "dlside")) | ((with_reducible apply opv_addC); (walk_at "dlside")) | ((with_reducible apply opv_mulS); (walk_at "dlside"); (walk_at "dlside"); (walk_at "dlside")) | ((with_reducible apply opv_addT); (walk_at "dlside")) | ((with_reducible apply opv_ixS); (walk_at "dlside"); (walk_at "dlix")) | ((with_reducible apply opv_ixStr); (walk_at "dlside"); (walk_at "dlix")) | ((with_reducible apply opv_addL); (walk_at "dlside"); (walk_at "dlside"); (walk_at "dlside")) | ((with_reducible apply opv_inS); (walk_at "dlside")) | ((with_reducible apply opv_notInS); (walk_at "dlside")))
local macro_rules | `(tactic| walk_at "dlca") => `(tactic| first | (apply ca_lenS; (walk_at "dlside")) | (apply ca_lenT; (walk_at "dlside")) | exact ca_min2 | exact ca_max2 | (apply ca_list; (walk_at "dlside")) | (apply ca_lenD; (walk_at "dlside")) | (apply ca_listD; (walk_at "dlside")) | exact ca_tupT | (apply ca_tupL; (walk_at "dlside")) | (apply ca_sortedS; (walk_at "dlside"); (walk_at "dlside")) | walk_at "dlisi")
local macro_rules | `(tactic| walk_at "dlme") => `(tactic| first | (apply me_split <;> walk_at "dlside") | exact me_ends | (apply me_join; (walk_at "dlside"); (walk_at "dlside")))
local macro_rules | `(tactic| walk_at "dlev") => `(tactic| first
  | (with_reducible assumption)
  | exact ev_var rfl | exact ev_int | exact ev_str | exact ev_bl | exact ev_non | exact ev_val | (with_reducible exact ea_nil) | (with_reducible exact et_yes)
  | ((with_reducible apply ev_op); (walk_at "dlev"); (walk_at "dlev"); (walk_at "dlopv"))
  | ((with_reducible apply ea_cons); (walk_at "dlev"); (walk_at "dlev"))
  | ((with_reducible apply ev_cb); (walk_at "dlev"); (walk_at "dlca"))
  | ((with_reducible apply ev_bmS); (walk_at "dlev"); (walk_at "dlev"); (walk_at "dlme"))
  | ((with_reducible apply ev_tup); (walk_at "dlev"); (walk_at "dlside"))
  | ((with_reducible apply ev_lst); (walk_at "dlev"); (walk_at "dlside"))
  | ((with_reducible apply et_test); (walk_at "dlev")) | ((with_reducible apply et_B); (walk_at "dlev"))
  | ((with_reducible apply et_not); (walk_at "dlev"))
  | ((with_reducible apply et_or); (walk_at "dlev"); (intro _; walk_at "dlev"))
  | ((with_reducible apply et_and); (walk_at "dlev"); (intro _; walk_at "dlev"))
  | ((with_reducible apply ev_andV); (walk_at "dlev"); (intro _; walk_at "dlev"))
  | ((with_reducible apply ev_orV); (walk_at "dlev"); (intro _; walk_at "dlev"))
  | ((with_reducible apply ev_chain); (walk_at "dlev"); (walk_at "dlev"); (walk_at "dlopv"); (intro _; walk_at "dlev"); (intro _; walk_at "dlopv"))
  | ((with_reducible apply ev_slL); (walk_at "dlev"); (walk_at "dlev"); (walk_at "dlev"); (walk_at "dlside"))
  | ((with_reducible apply ev_slS); (walk_at "dlev"); (walk_at "dlev"); (walk_at "dlev"); (walk_at "dlside"))
  | ((with_reducible apply ev_fstr); (walk_at "dlev")) | (with_reducible exact ej_nil) | ((with_reducible apply ej_cons); (walk_at "dlev"); (walk_at "dlside"); (walk_at "dlev")) | ((with_reducible apply ev_fmtS); (walk_at "dlev"); (walk_at "dlside"))
  | (with_reducible exact eo_none) | ((with_reducible apply eo_some); (walk_at "dlev")) | ((with_reducible apply ev_un); (walk_at "dlev")) | assumption)
local macro_rules | `(tactic| walk_at "dlevb") => `(tactic| refine EvT.is (by walk_at "dlev") ?_)
local macro_rules | `(tactic| walk_at "dlle") => `(tactic| ((iterate 24 (try (first | exact le_nil | refine le_same ?_ | refine le_none ?_))); done))
section
variable {K : PySem.W.Frag} {mg : Str → Option Value} (T : Tx K mg) {E : XK}
theorem mark_sign {x : Str} (h : markB x = true) : ∀ c ∈ x.cps.toList, c ∈ smallT.cps.toList ∨ c ∈ figT.cps.toList := by
  unfold markB at h
  simp only [Bool.and_eq_true, List.all_eq_true, Bool.or_eq_true, decide_eq_true_eq] at h
  exact h.2.1
theorem sign_b : ∀ c, (c ∈ smallT.cps.toList ∨ c ∈ figT.cps.toList) → 48 ≤ c ∧ c ≤ 122 ∧ c ≠ 58 := by
  have h1 : ∀ c ∈ smallT.cps.toList, 48 ≤ c ∧ c ≤ 122 ∧ c ≠ 58 := by decide +kernel
  have h2 : ∀ c ∈ figT.cps.toList, 48 ≤ c ∧ c ≤ 122 ∧ c ≠ 58 := by decide +kernel
  intro c h
  rcases h with h | h
  · exact h1 c h
  · exact h2 c h
theorem mark_b {x : Str} (h : markB x = true) : ∀ c ∈ x.cps.toList, 48 ≤ c ∧ c ≤ 122 ∧ c ≠ 58 := fun c hc => sign_b c (mark_sign h c hc)
/-- a word: no blank, no line feed within, not empty -/
def Wrd (x : Str) : Prop := (∀ c ∈ x.cps.toList, 48 ≤ c ∧ c ≤ 122) ∧ x ≠ ""
theorem mark_w {x : Str} (h : markB x = true) : Wrd x := ⟨fun c hc => ⟨(mark_b h c hc).1, (mark_b h c hc).2.1⟩, fun z => by
  have := (mark_len h).1
  rw [z, lit_e] at this
  omega⟩
theorem kw_w : ∀ x ∈ [("state" : Str), "step", "start"], Wrd x := by
  have h1 : ∀ x ∈ [("state" : Str), "step", "start"], (∀ c ∈ x.cps.toList, 48 ≤ c ∧ c ≤ 122) ∧ x ≠ "" := by decide +kernel
  exact h1
theorem colon_w {x : Str} (h : markB x = true) : Wrd (x ++ ":") := ⟨fun c hc => by
  rw [cps_app] at hc
  rcases List.mem_append.mp hc with h1 | h1
  · exact (mark_w h).1 c h1
  · have : ∀ c ∈ (":" : Str).cps.toList, 48 ≤ c ∧ c ≤ 122 := by decide +kernel
    exact this c h1, fun z => by
  have := congrArg Str.length z
  rw [Str.length_append, lit_co, lit_e] at this
  omega⟩
theorem w_free {x : Str} (h : Wrd x) : (32 : Nat) ∉ x.cps.toList ∧ (10 : Nat) ∉ x.cps.toList := ⟨fun z => by have := h.1 _ z; omega, fun z => by have := h.1 _ z; omega⟩
theorem sp_lit : (" " : Str) = ⟨#[32]⟩ := by decide +kernel
theorem nl_lit : ("\n" : Str) = ⟨#[10]⟩ := by decide +kernel
theorem co_lit : (":" : Str) = ⟨#[58]⟩ := by decide +kernel
theorem d_state_of : ∀ m ds O Φ Ψ, p_state_of m ds O Φ Ψ → SE K m E (t_state_of T E) (startE n_state_of ds) O { nx := fun _ O' => Φ .non O', rt := Φ, xs := Ψ } := bodyV (by
  rintro ds d ⟨x, rfl, hx, hm, rfl⟩
  have i1 : atI (dStrs ("state" :: (x.1 ++ ":") :: x.2)) 1 = some (.str (x.1 ++ ":")) := L2.atI_nat (j := 1) rfl
  have hl : (dStrs ("state" :: (x.1 ++ ":") :: x.2)).length = x.2.length + 2 := dStrs_len _
  have q6 := lit_co
  have h1 : (x.1 ++ ":").length ≤ sizeLine := by rw [Str.length_append, sizeLine_eq]; omega
  refine se_seq (se_ifF (EvT.is (et_or (et_test (ev_op (ev_cb (ea_cons (ev_var rfl) ea_nil) (ca_lenS AsS.fr)) ev_int opv_ltI)) (fun _ => et_not (et_B (ev_bmS (ev_op (ev_var rfl) ev_int (opv_ixS AsS.fr i1)) (ea_cons ev_str ea_nil) me_ends)))) ?_) (se_next ?_))
  · rw [hl, decide_eq_false (by omega), co_lit, ends_app]; rfl
  have hcut : cutD (dStrs ("state" :: (x.1 ++ ":") :: x.2)) (some ((2 : Nat) : Int)) none = dStrs x.2 := by
    rw [cutD_from _ _ (by rw [hl]; omega)]; rfl
  have hcut1 : cutS (x.1 ++ ":") none (some (-1)) = x.1 := by rw [co_lit]; exact cut_last _ _
  have hs : EvE K [] (tSl (rSlL K) (tVar 0) (tPart (tC (.int 2))) tNoPart) (startE n_state_of [.lst (dStrs ("state" :: (x.1 ++ ":") :: x.2))]) [] (.lst (dStrs x.2)) := EvE.isL (ev_slL (ev_var rfl) (eo_some ev_int) eo_none AsL.fr) hcut
  have hsl : x.2.length < 64 := by have := hm.1; omega
  have hc : EvE K [] (tSl rSlS (tOp (rIx K) (tVar 0) (tC (.int 1))) tNoPart (tPart (tUn (rU fun i => .int (-i)) (tC (.int 1))))) (startE n_state_of [.lst (dStrs ("state" :: (x.1 ++ ":") :: x.2))]) [] (.str x.1) := EvE.is (ev_slS (ev_op (ev_var rfl) ev_int (opv_ixS AsS.fr i1)) eo_none (eo_some (ev_un ev_int)) h1) (congrArg Dt.str hcut1)
  exact se_ret (EvE.xe (EvE.is (ev_tup (ea_cons hc (ea_cons (ev_cb (ea_cons (ev_cb (ea_cons hs ea_nil) (ca_sortedS AsL.fr hsl)) ea_nil) (ca_tupL AsL.fr)) ea_nil)) (show 2 ≤ sizeLine by rw [sizeLine_eq]; decide)) (by rw [srt_id hm.2.2])) ⟨rfl, rfl⟩))
/-! its rows as words -/
def stW (x : Str × List Str) : List Str := "state" :: (x.1 ++ ":") :: x.2
def wyW (w : Str × Str) : List Str := ["step", w.1, w.2]
def fsW (f : Str) : List Str := ["start", f]
def rowsW (ps : Pl) (ws : Wy) (fs : List Str) : List (List Str) := ps.map stW ++ (ws.map wyW ++ fs.map fsW)
def row (ls : List Str) : Str := Str.join ⟨#[32]⟩ ls
theorem join_nl : ∀ ls : List Str, Str.join ⟨#[10]⟩ (ls ++ [("" : Str)]) = cat (ls.map fun l => l ++ "\n")
  | [] => rfl
  | [l] => by
    show l ++ ⟨#[10]⟩ ++ ("" : Str) = (l ++ "\n") ++ ""
    rw [nl_lit]
  | l :: l2 :: r => by
    have ih := join_nl (l2 :: r)
    show l ++ ⟨#[10]⟩ ++ Str.join ⟨#[10]⟩ ((l2 :: r) ++ [("" : Str)]) = (l ++ "\n") ++ cat ((l2 :: r).map fun l => l ++ "\n")
    rw [ih, nl_lit]
theorem row_st (x : Str × List Str) : row (stW x) ++ "\n" = stT x := by
  have h := join_cat " " ((x.1 ++ ":") :: x.2) "state"
  rw [join_txt, sp_lit] at h
  unfold row stW stT
  rw [h, List.map_cons]
  show "state" ++ ((⟨#[32]⟩ ++ (x.1 ++ ":")) ++ cat (x.2.map fun y => ⟨#[32]⟩ ++ y)) ++ "\n" = _
  have e : ("state " : Str) = "state" ++ ⟨#[32]⟩ := by decide +kernel
  rw [e, sp_lit]
  simp only [Str.append_assoc]
theorem row_wy (w : Str × Str) : row (wyW w) ++ "\n" = wyT w := by
  unfold row wyW wyT
  show (("step" : Str) ++ ⟨#[32]⟩ ++ (w.1 ++ ⟨#[32]⟩ ++ w.2)) ++ "\n" = _
  have e : ("step " : Str) = "step" ++ ⟨#[32]⟩ := by decide +kernel
  rw [e, sp_lit]
  simp only [Str.append_assoc]
theorem row_fs (f : Str) : row (fsW f) ++ "\n" = fsT f := by
  unfold row fsW fsT
  show (("start" : Str) ++ ⟨#[32]⟩ ++ f) ++ "\n" = _
  have e : ("start " : Str) = "start" ++ ⟨#[32]⟩ := by decide +kernel
  rw [e]
theorem text_rows (ps : Pl) (ws : Wy) (fs : List Str) : textOf ps ws fs = Str.join ⟨#[10]⟩ ((rowsW ps ws fs).map row ++ [("" : Str)]) := by
  have h1 : ps.map stT = (ps.map stW).map fun r => row r ++ "\n" := by rw [List.map_map]; exact List.map_congr_left fun x _ => (row_st x).symm
  have h2 : ws.map wyT = (ws.map wyW).map fun r => row r ++ "\n" := by rw [List.map_map]; exact List.map_congr_left fun x _ => (row_wy x).symm
  have h3 : fs.map fsT = (fs.map fsW).map fun r => row r ++ "\n" := by rw [List.map_map]; exact List.map_congr_left fun x _ => (row_fs x).symm
  rw [join_nl, List.map_map]
  unfold rowsW textOf
  rw [h1, h2, h3, List.map_append, List.map_append, cat_app, cat_app]
  rfl
theorem rows_w {ps : Pl} {ws : Wy} {fs : List Str} (h : GoodAll ps ws fs) : ∀ r ∈ rowsW ps ws fs, r ≠ [] ∧ ∀ x ∈ r, Wrd x := by
  have pm : ∀ a ∈ ps.map (·.1), Wrd a := fun a ha => by
    obtain ⟨x, hx, rfl⟩ := List.mem_map.mp ha
    exact mark_w (h.p.mks x hx).1
  intro r hr
  unfold rowsW at hr
  rcases List.mem_append.mp hr with hr | hr
  · obtain ⟨x, hx, rfl⟩ := List.mem_map.mp hr
    refine ⟨by simp [stW], fun y hy => ?_⟩
    have hg := h.p.mks x hx
    unfold stW at hy
    rcases List.mem_cons.mp hy with rfl | hy
    · exact kw_w _ (by simp)
    · rcases List.mem_cons.mp hy with rfl | hy
      · exact colon_w hg.1
      · exact mark_w (hg.2.2.1 y hy)
  · rcases List.mem_append.mp hr with hr | hr
    · obtain ⟨w, hw, rfl⟩ := List.mem_map.mp hr
      refine ⟨by simp [wyW], fun y hy => ?_⟩
      have hm := h.w.mem w hw
      unfold wyW at hy
      simp only [List.mem_cons, List.not_mem_nil, or_false] at hy
      rcases hy with rfl | rfl | rfl
      · exact kw_w _ (by simp)
      · exact pm _ hm.1
      · exact pm _ hm.2
    · obtain ⟨f, hf, rfl⟩ := List.mem_map.mp hr
      refine ⟨by simp [fsW], fun y hy => ?_⟩
      unfold fsW at hy
      simp only [List.mem_cons, List.not_mem_nil, or_false] at hy
      rcases hy with rfl | rfl
      · exact kw_w _ (by simp)
      · exact pm _ (h.f.mem _ hf)
theorem join_free {c d : Nat} (hcd : c ≠ d) : ∀ {xs : List Str}, (∀ x ∈ xs, c ∉ x.cps.toList) → c ∉ (Str.join ⟨#[d]⟩ xs).cps.toList
  | [], _ => by show c ∉ ([] : List Nat); simp
  | [x], h => h x List.mem_cons_self
  | x :: y :: r, h => by
    rw [join2]
    intro z
    rcases List.mem_append.mp z with z | z
    · exact h x List.mem_cons_self z
    · rcases List.mem_append.mp z with z | z
      · exact hcd (List.mem_singleton.mp z)
      · exact join_free hcd (fun w hw => h w (List.mem_cons_of_mem _ hw)) z
theorem split_text {ps : Pl} {ws : Wy} {fs : List Str} (h : GoodAll ps ws fs) : Txt.split (textOf ps ws fs) "\n" = (rowsW ps ws fs).map row ++ [("" : Str)] := by
  rw [text_rows, nl_lit]
  refine split_join (by simp) fun x hx => ?_
  rcases List.mem_append.mp hx with hx | hx
  · obtain ⟨r, hr, rfl⟩ := List.mem_map.mp hx
    exact join_free (by decide) fun w hw => (w_free ((rows_w h r hr).2 w hw)).2
  · rw [List.mem_singleton.mp hx]; decide +kernel
theorem split_row {r : List Str} (h : r ≠ []) (hw : ∀ x ∈ r, Wrd x) : (Txt.split (row r) " ").filter (fun x : Str => !decide (x = ("" : Str))) = r := by
  rw [sp_lit, row, split_join h fun x hx => (w_free (hw x hx)).1]
  rw [List.filter_eq_self]
  intro x hx
  rw [decide_eq_false (hw x hx).2]; rfl
theorem split_empty : (Txt.split ("" : Str) " ").filter (fun x : Str => !decide (x = ("" : Str))) = [] := by decide +kernel
end
end K61

namespace K61
open PySem L2 DL
local macro_rules | `(tactic| walk_at "dlisi") => `(tactic| first | exact isi_str_str (.str _) | exact isi_str_list (.str _) | exact isi_str_tuple (.str _) | exact isi_str_int (.str _) | exact isi_str_bool (.str _) | exact isi_str_dict (.str _) | exact isi_list_str (.lst _) | exact isi_list_list (.lst _) | exact isi_list_tuple (.lst _) | exact isi_list_int (.lst _) | exact isi_list_bool (.lst _) | exact isi_list_dict (.lst _) | exact isi_tuple_str (.tup _) | exact isi_tuple_list (.tup _) | exact isi_tuple_tuple (.tup _) | exact isi_tuple_int (.tup _) | exact isi_tuple_bool (.tup _) | exact isi_tuple_dict (.tup _) | exact isi_int_str (.int _) | exact isi_int_list (.int _) | exact isi_int_tuple (.int _) | exact isi_int_int (.int _) | exact isi_int_bool (.int _) | exact isi_int_dict (.int _) | exact isi_bool_str (.bl _) | exact isi_bool_list (.bl _) | exact isi_bool_tuple (.bl _) | exact isi_bool_int (.bl _) | exact isi_bool_bool (.bl _) | exact isi_bool_dict (.bl _) | exact isi_NoneType_str (.non) | exact isi_NoneType_list (.non) | exact isi_NoneType_tuple (.non) | exact isi_NoneType_int (.non) | exact isi_NoneType_bool (.non) | exact isi_NoneType_dict (.non) | exact isiL_str (by assumption) | exact isiL_list (by assumption) | exact isiL_tuple (by assumption) | exact isiL_int (by assumption) | exact isiL_bool (by assumption) | exact isiL_dict (by assumption))
local macro_rules | `(tactic| walk_at "dlside") => `(tactic| first | (with_reducible assumption) | omega | (exact Or.inr ⟨by omega, by omega⟩) | (exact Or.inl ⟨by omega, by omega⟩) | (with_reducible exact AsS.fr) | (with_reducible exact AsL.fr) | (with_reducible exact AsS.tu) | (with_reducible exact AsD.fr) | (rw [sizeLine_eq]; omega) | (rw [sizeLine_eq]; simp only [List.length_cons, List.length_nil]; omega) | (rw [sizeLine_eq]; simp only [Str.length_append]; omega) | (rw [sizeLine_eq]; decide +kernel) | decide)
local macro_rules | `(tactic| walk_at "dlix") => `(tactic| first | (with_reducible assumption) | exact L2.atI_nat (by with_reducible assumption) | rfl)
local macro_rules | `(tactic| walk_at "dlopv") => `(tactic| first | (with_reducible exact opv_addI) | (with_reducible exact opv_subI) | (with_reducible exact opv_gtI) | (with_reducible exact opv_ltI) | (with_reducible exact opv_leI) | (with_reducible exact opv_geI) | (with_reducible exact opv_eqI) | (with_reducible exact opv_neI) | (with_reducible exact opv_eqS) | (with_reducible exact opv_neS) | (with_reducible exact opv_leS) | (with_reducible exact opv_inSign) | (with_reducible exact opv_notInSign) | ((with_reducible apply opv_modI); (walk_at "dlside")) | ((with_reducible apply opv_divI) <;> walk_at "dlside") | ((with_reducible apply opv_mulI); (walk_at "dlside")) | ((with_reducible apply opv_addC); (walk_at "dlside")) | ((with_reducible apply opv_mulS); (walk_at "dlside"); (walk_at "dlside"); (walk_at "dlside")) | ((with_reducible apply opv_addT); (walk_at "dlside")) | ((with_reducible apply opv_ixS); (walk_at "dlside"); (walk_at "dlix")) | ((with_reducible apply opv_ixStr); (walk_at "dlside"); (walk_at "dlix")) | ((with_reducible apply opv_addL); (walk_at "dlside"); (walk_at "dlside"); (walk_at "dlside")) | ((with_reducible apply opv_inS); (walk_at "dlside")) | ((with_reducible apply opv_notInS); (walk_at "dlside")))
local macro_rules | `(tactic| walk_at "dlca") => `(tactic| first | (apply ca_lenS; (walk_at "dlside")) | (apply ca_lenT; (walk_at "dlside")) | exact ca_min2 | exact ca_max2 | (apply ca_list; (walk_at "dlside")) | (apply ca_lenD; (walk_at "dlside")) | (apply ca_listD; (walk_at "dlside")) | exact ca_tupT | (apply ca_tupL; (walk_at "dlside")) | (apply ca_sortedS; (walk_at "dlside"); (walk_at "dlside")) | walk_at "dlisi")
local macro_rules | `(tactic| walk_at "dlme") => `(tactic| first | (apply me_split <;> walk_at "dlside") | exact me_ends | (apply me_join; (walk_at "dlside"); (walk_at "dlside")))
local macro_rules | `(tactic| walk_at "dlev") => `(tactic| first
  | (with_reducible assumption)
  | exact ev_var rfl | exact ev_int | exact ev_str | exact ev_bl | exact ev_non | exact ev_val | (with_reducible exact ea_nil) | (with_reducible exact et_yes)
  | ((with_reducible apply ev_op); (walk_at "dlev"); (walk_at "dlev"); (walk_at "dlopv"))
  | ((with_reducible apply ea_cons); (walk_at "dlev"); (walk_at "dlev"))
  | ((with_reducible apply ev_cb); (walk_at "dlev"); (walk_at "dlca"))
  | ((with_reducible apply ev_bmS); (walk_at "dlev"); (walk_at "dlev"); (walk_at "dlme"))
  | ((with_reducible apply ev_tup); (walk_at "dlev"); (walk_at "dlside"))
  | ((with_reducible apply ev_lst); (walk_at "dlev"); (walk_at "dlside"))
  | ((with_reducible apply et_test); (walk_at "dlev")) | ((with_reducible apply et_B); (walk_at "dlev"))
  | ((with_reducible apply et_not); (walk_at "dlev"))
  | ((with_reducible apply et_or); (walk_at "dlev"); (intro _; walk_at "dlev"))
  | ((with_reducible apply et_and); (walk_at "dlev"); (intro _; walk_at "dlev"))
  | ((with_reducible apply ev_andV); (walk_at "dlev"); (intro _; walk_at "dlev"))
  | ((with_reducible apply ev_orV); (walk_at "dlev"); (intro _; walk_at "dlev"))
  | ((with_reducible apply ev_chain); (walk_at "dlev"); (walk_at "dlev"); (walk_at "dlopv"); (intro _; walk_at "dlev"); (intro _; walk_at "dlopv"))
  | ((with_reducible apply ev_slL); (walk_at "dlev"); (walk_at "dlev"); (walk_at "dlev"); (walk_at "dlside"))
  | ((with_reducible apply ev_slS); (walk_at "dlev"); (walk_at "dlev"); (walk_at "dlev"); (walk_at "dlside"))
  | ((with_reducible apply ev_fstr); (walk_at "dlev")) | (with_reducible exact ej_nil) | ((with_reducible apply ej_cons); (walk_at "dlev"); (walk_at "dlside"); (walk_at "dlev")) | ((with_reducible apply ev_fmtS); (walk_at "dlev"); (walk_at "dlside"))
  | (with_reducible exact eo_none) | ((with_reducible apply eo_some); (walk_at "dlev")) | ((with_reducible apply ev_un); (walk_at "dlev")) | assumption)
local macro_rules | `(tactic| walk_at "dlevb") => `(tactic| refine EvT.is (by walk_at "dlev") ?_)
local macro_rules | `(tactic| walk_at "dlle") => `(tactic| ((iterate 24 (try (first | exact le_nil | refine le_same ?_ | refine le_none ?_))); done))
section
variable {K : PySem.W.Frag} {mg : Str → Option Value} (T : Tx K mg) {E : XK}
theorem isPy_strs (xs : List Str) : isPy (.lst (dStrs xs)) = true := by unfold isPy; exact isPys_strs xs
theorem wrd_ok {x : Str} (h : Wrd x) : PyData.strOk x = true := by
  unfold PyData.strOk
  rw [Array.all_eq_true_iff_forall_mem]
  intro c hc
  have := (h.1 c (Array.mem_toList_iff.mpr hc)).2
  rw [decide_eq_true_eq]
  omega
theorem opv_eqStrs {m : List Addr} {O : OL} {xs ys : List Str} (h1 : ∀ x ∈ xs, PyData.strOk x = true) (h2 : ∀ x ∈ ys, PyData.strOk x = true) : OpV K m (rEqU K) (.lst (dStrs xs)) (.lst (dStrs ys)) O (.bl (decide (xs = ys))) :=
  opv_eqD (isPy_strs xs) (isPy_strs ys) (shaped_strs h1) (shaped_strs h2) (by
    have e1 : toPy (.lst (dStrs xs)) = .list (xs.map PyData.str) := by unfold toPy; rw [toPys_strs]
    have e2 : toPy (.lst (dStrs ys)) = .list (ys.map PyData.str) := by unfold toPy; rw [toPys_strs]
    rw [e1, e2]
    unfold PyData.eqv
    exact eqvAll_strs xs ys)
theorem row_len {r : List Str} (h : ∀ x ∈ r, x.length ≤ 10) (hl : r.length ≤ 20) : (row r).length ≤ 1000 := by
  have h1 := StrLaws.join_length_le ⟨#[32]⟩ r
  have h2 := cat_sum r
  have h3 := cat_len (b := 10) r h
  have h4 : (⟨#[32]⟩ : Str).length = 1 := rfl
  unfold row
  rw [h2, h4] at h1
  omega
/-- one row's words -/
def WordsOf (y : Str) (r : List Str) : Prop := y.length ≤ 1000 ∧ (Txt.split y " ").length ≤ 100 ∧ (Txt.split y " ").filter (fun x : Str => !decide (x = ("" : Str))) = r
theorem ev_words {env : DL.Env} {O : OL} {y : Str} {r : List Str} (h : env[4]? = some (some (.str y))) (hw : WordsOf y r) (hv : (wipeE env [6])[4]? = some (some (.str y)) := by rfl) (h6 : 6 < env.length := by show 6 < 7; decide) :
    EvE K [] (tLc (iList K (tBM K "str" rSplit (tVar 4) (tCons (tC (.str " ")) tNil))) (gName 6) (tTest (tOp (rNeU K) (tVar 6) (tC (.str "")))) (tVar 6) [6]) env O (.lst (dStrs r)) := by
  have h1 : y.length + 2 ≤ sizeLine := by have := hw.1; rw [sizeLine_eq]; omega
  refine EvE.isL (ev_lcL (xs := (Txt.split y " ").map Dt.str) (f := fun i => (Txt.split y " ")[i]?.bind fun x => if (!decide (x = ("" : Str))) = true then some (.str x) else none) (ev_bmS (ev_var h) (ea_cons ev_str ea_nil) (me_split (by decide +kernel) h1)) (by rw [List.length_map]; have := hw.2.1; omega) (fun i x p hx => ?_)) ?_
  · obtain ⟨z, hz, rfl⟩ := dStrs_get hx
    have hg : ((wipeE env [6]).set 6 (some (.str z)))[6]? = some (some (.str z)) := List.getElem?_set_self (by
      show 6 < (List.set (wipeE env []) 6 none).length
      rw [List.length_set]; exact h6)
    refine ⟨_, !decide (z = ("" : Str)), eg_name, et_test (ev_op (ev_var hg) ev_str opv_neS), fun hb => ⟨.str z, ?_, ev_var hg⟩, fun hb => ?_⟩
    · show ((Txt.split y " ")[i]?).bind _ = _
      rw [hz]; exact if_pos hb
    · show ((Txt.split y " ")[i]?).bind _ = _
      rw [hz]
      exact if_neg (by rw [hb]; decide)
  · rw [List.length_map, given_filter, hw.2.2]
theorem words_row {r : List Str} (h : r ≠ []) (hw : ∀ x ∈ r, Wrd x) (hl : ∀ x ∈ r, x.length ≤ 10) (hn : r.length ≤ 20) : WordsOf (row r) r := by
  refine ⟨row_len hl hn, ?_, split_row h hw⟩
  rw [sp_lit, row, split_join h fun x hx => (w_free (hw x hx)).1]
  omega
def ownR (p1 p2 p3 : Addr) (ps : Pl) (ws : Wy) (fs : List Str) (i : Nat) : OL := [(p3, .lst (dStrs (fs.take (i - ps.length - ws.length)))), (p2, .lst (wsD (ws.take (i - ps.length)))), (p1, .lst (stD (ps.take i)))]
theorem d_read_world : ∀ m ds O Φ Ψ, p_read_world T m ds O Φ Ψ → SE K m E (t_read_world T E) (startE n_read_world ds) O { nx := fun _ O' => Φ .non O', rt := Φ, xs := Ψ } := by
  rintro m ds O Φ Ψ ⟨rfl, ps, ws, fs, rfl, rfl, hg, f⟩
  have htl := text_len hg
  have htz : (textOf ps ws fs).length + 2 ≤ sizeLine := by rw [sizeLine_eq]; omega
  refine se_seq (se_asg (xe_lst (xa_nil ⟨by decide, fun p1 _ => ?_⟩)))
  refine se_seq (se_asg (xe_lst (xa_nil ⟨by decide, fun p2 _ => ?_⟩)))
  refine se_seq (se_asg (xe_lst (xa_nil ⟨by decide, fun p3 _ => ?_⟩)))
  let lines : List Str := (rowsW ps ws fs).map row ++ [("" : Str)]
  have hrl : (rowsW ps ws fs).length = ps.length + (ws.length + fs.length) := by
    unfold rowsW; rw [List.length_append, List.length_append, List.length_map, List.length_map, List.length_map]
  have hll : lines.length = ps.length + (ws.length + fs.length) + 1 := by
    show ((rowsW ps ws fs).map row ++ [("" : Str)]).length = _
    rw [List.length_append, List.length_map, hrl]; rfl
  have pml : ∀ a ∈ ps.map (·.1), a.length ≤ 8 := fun a ha => pl_len hg.p ha
  have hll2 : (dStrs lines).length = lines.length := dStrs_len _
  have hpn := hg.p.len; have hwn := hg.w.tot; have hfn := hg.f.ne
  refine se_seq (se_forL1 (σT := Unit) (xs := dStrs lines) (fun _ _ => True) (fun _ _ => [some (.str (textOf ps ws fs)), some (ptr p1), some (ptr p2), some (ptr p3), none, none, none])
    (fun i _ => ownR p1 p2 p3 ps ws fs i) () (EvE.isL (ev_bmS (ev_var rfl) (ea_cons ev_str ea_nil) (me_split (by decide +kernel) htz)) (by rw [split_text hg])) trivial (by walk_at "dlle") (by simp [ownR, dStrs, wsD, stD]) mono_se (fun i x u hx _ => ?_) (fun u _ => ?_))
  · obtain ⟨y, hy, rfl⟩ := dStrs_get hx
    have hil : i < lines.length := (List.getElem?_eq_some_iff.mp hy).1
    have hy' : ((rowsW ps ws fs).map row ++ [("" : Str)])[i]? = some y := hy
    by_cases hi : i < (rowsW ps ws fs).length
    · rw [List.getElem?_append_left (by rw [List.length_map]; exact hi), List.getElem?_map] at hy'
      obtain ⟨r, hr⟩ : ∃ r, (rowsW ps ws fs)[i]? = some r := ⟨_, List.getElem?_eq_getElem hi⟩
      rw [hr] at hy'
      have hyr : row r = y := Option.some.inj hy'
      subst hyr
      have hrw := rows_w hg r (List.mem_of_getElem? hr)
      have hok : ∀ x ∈ r, PyData.strOk x = true := fun x hx => wrd_ok (hrw.2 x hx)
      by_cases h1 : i < ps.length
      · -- a state
        unfold rowsW at hr
        rw [List.getElem?_append_left (by rw [List.length_map]; exact h1), List.getElem?_map] at hr
        obtain ⟨z, hz⟩ : ∃ z, ps[i]? = some z := ⟨_, List.getElem?_eq_getElem h1⟩
        rw [hz] at hr
        have hrz : stW z = r := Option.some.inj hr
        subst hrz
        have hgp := hg.p.mks z (List.mem_of_getElem? hz)
        have g1 := mark_len hgp.1
        have hW : WordsOf (row (stW z)) (stW z) := words_row hrw.1 hrw.2 (fun x hx => by
          unfold stW at hx
          rcases List.mem_cons.mp hx with rfl | hx
          · decide +kernel
          · rcases List.mem_cons.mp hx with rfl | hx
            · rw [Str.length_append, lit_co]; omega
            · have := mark_len (hgp.2.2.1 x hx); omega) (by have := hgp.2.1; show z.2.length + 1 + 1 ≤ 20; omega)
        refine se_seq (se_asg (EvE.xe (ev_words rfl hW) ?_))
        refine se_seq (se_ifF (EvT.is (et_test (ev_op (ev_var rfl) (ev_lst ea_nil (by decide)) (opv_eqStrs (ys := []) hok (fun _ h => nomatch h)))) (decide_eq_false hrw.1)) (se_next ?_))
        have i0 : atI (dStrs (stW z)) 0 = some (.str "state") := L2.atI_nat (j := 0) rfl
        refine se_ifT (EvT.is (et_test (ev_op (ev_op (ev_var rfl) ev_int (opv_ixS AsS.fr i0)) ev_str opv_eqS)) (by decide)) ?_
        refine se_append (k := 2) (ev_var rfl) rfl (EvE.xe (ev_call0 (ea_cons (ev_var rfl) ea_nil) ⟨z, rfl, g1.2, hgp.2, rfl⟩) ⟨2, _, rfl, ?_, (), trivial, by walk_at "dlle", ?_⟩)
        · rw [stD, List.length_map, List.length_take, sizeLine_eq]; omega
        · show _ = ownR p1 p2 p3 ps ws fs (i + 1)
          unfold ownR
          rw [show i + 1 - ps.length = 0 by omega, show i - ps.length = 0 by omega, show 0 - ws.length = 0 by omega]
          show [(p3, OD.lst (dStrs (fs.take 0))), (p2, OD.lst (wsD (ws.take 0))), (p1, OD.lst (stD (ps.take i) ++ [.tup [.str z.1, .tup (dStrs z.2)]]))] = _
          rw [show stD (ps.take (i + 1)) = stD (ps.take i) ++ [.tup [.str z.1, .tup (dStrs z.2)]] by rw [stD, stD, List.take_add_one, hz, List.map_append]; rfl]
      · by_cases h2 : i < ps.length + ws.length
        · unfold rowsW at hr
          rw [List.getElem?_append_right (by rw [List.length_map]; omega), List.length_map, List.getElem?_append_left (by rw [List.length_map]; omega), List.getElem?_map] at hr
          obtain ⟨z, hz⟩ : ∃ z, ws[i - ps.length]? = some z := ⟨_, List.getElem?_eq_getElem (by omega)⟩
          rw [hz] at hr
          have hrz : wyW z = r := Option.some.inj hr
          subst hrz
          have hm := hg.w.mem z (List.mem_of_getElem? hz)
          have g1 := pml _ hm.1
          have g2 := pml _ hm.2
          have hW : WordsOf (row (wyW z)) (wyW z) := words_row hrw.1 hrw.2 (fun x hx => by
            unfold wyW at hx
            simp only [List.mem_cons, List.not_mem_nil, or_false] at hx
            rcases hx with rfl | rfl | rfl
            · decide +kernel
            · omega
            · omega) (show 3 ≤ 20 by decide)
          refine se_seq (se_asg (EvE.xe (ev_words rfl hW) ?_))
          refine se_seq (se_ifF (EvT.is (et_test (ev_op (ev_var rfl) (ev_lst ea_nil (by decide)) (opv_eqStrs (ys := []) hok (fun _ h => nomatch h)))) (decide_eq_false hrw.1)) (se_next ?_))
          have i0 : atI (dStrs (wyW z)) 0 = some (.str "step") := L2.atI_nat (j := 0) rfl
          have i1 : atI (dStrs (wyW z)) 1 = some (.str z.1) := L2.atI_nat (j := 1) rfl
          have i2 : atI (dStrs (wyW z)) 2 = some (.str z.2) := L2.atI_nat (j := 2) rfl
          refine se_ifF (EvT.is (et_test (ev_op (ev_op (ev_var rfl) ev_int (opv_ixS AsS.fr i0)) ev_str opv_eqS)) (by decide +kernel)) ?_
          refine se_ifT (EvT.is (et_and (et_test (ev_op (ev_op (ev_var rfl) ev_int (opv_ixS AsS.fr i0)) ev_str opv_eqS)) (fun _ => et_test (ev_op (ev_cb (ea_cons (ev_var rfl) ea_nil) (ca_lenS AsS.fr)) ev_int opv_eqI))) (by rw [decide_eq_true rfl, dStrs_len]; rfl)) ?_
          refine se_append (k := 1) (ev_var rfl) rfl (EvE.xe (ev_tup (ea_cons (ev_op (ev_var rfl) ev_int (opv_ixS AsS.fr i1)) (ea_cons (ev_op (ev_var rfl) ev_int (opv_ixS AsS.fr i2)) ea_nil)) (show 2 ≤ sizeLine by rw [sizeLine_eq]; decide)) ⟨1, _, rfl, ?_, (), trivial, by walk_at "dlle", ?_⟩)
          · rw [wsD, List.length_map, List.length_take, sizeLine_eq]; omega
          · show _ = ownR p1 p2 p3 ps ws fs (i + 1)
            unfold ownR
            rw [show i + 1 - ps.length = (i - ps.length) + 1 by omega, show i - ps.length - ws.length = 0 by omega, show i - ps.length + 1 - ws.length = 0 by omega, List.take_of_length_le (l := ps) (i := i) (by omega), List.take_of_length_le (l := ps) (i := i + 1) (by omega)]
            show [(p3, OD.lst (dStrs (fs.take 0))), (p2, OD.lst (wsD (ws.take (i - ps.length)) ++ [.tup [.str z.1, .str z.2]])), (p1, OD.lst (stD ps))] = _
            rw [show wsD (ws.take (i - ps.length + 1)) = wsD (ws.take (i - ps.length)) ++ [.tup [.str z.1, .str z.2]] by rw [wsD, wsD, List.take_add_one, hz, List.map_append]; rfl]
        · unfold rowsW at hr
          rw [List.getElem?_append_right (by rw [List.length_map]; omega), List.length_map, List.getElem?_append_right (by rw [List.length_map]; omega), List.length_map, List.getElem?_map] at hr
          obtain ⟨z, hz⟩ : ∃ z, fs[i - ps.length - ws.length]? = some z := ⟨_, List.getElem?_eq_getElem (by omega)⟩
          rw [hz] at hr
          have hrz : fsW z = r := Option.some.inj hr
          subst hrz
          have g1 := pml _ (hg.f.mem z (List.mem_of_getElem? hz))
          have hW : WordsOf (row (fsW z)) (fsW z) := words_row hrw.1 hrw.2 (fun x hx => by
            unfold fsW at hx
            simp only [List.mem_cons, List.not_mem_nil, or_false] at hx
            rcases hx with rfl | rfl
            · decide +kernel
            · omega) (show 2 ≤ 20 by decide)
          refine se_seq (se_asg (EvE.xe (ev_words rfl hW) ?_))
          refine se_seq (se_ifF (EvT.is (et_test (ev_op (ev_var rfl) (ev_lst ea_nil (by decide)) (opv_eqStrs (ys := []) hok (fun _ h => nomatch h)))) (decide_eq_false hrw.1)) (se_next ?_))
          have i0 : atI (dStrs (fsW z)) 0 = some (.str "start") := L2.atI_nat (j := 0) rfl
          have i1 : atI (dStrs (fsW z)) 1 = some (.str z) := L2.atI_nat (j := 1) rfl
          refine se_ifF (EvT.is (et_test (ev_op (ev_op (ev_var rfl) ev_int (opv_ixS AsS.fr i0)) ev_str opv_eqS)) (by decide +kernel)) ?_
          refine se_ifF (EvT.is (et_and (y := true) (et_test (ev_op (ev_op (ev_var rfl) ev_int (opv_ixS AsS.fr i0)) ev_str opv_eqS)) (fun h => absurd h (by decide +kernel))) (by decide +kernel)) ?_
          refine se_ifT (EvT.is (et_and (et_test (ev_op (ev_op (ev_var rfl) ev_int (opv_ixS AsS.fr i0)) ev_str opv_eqS)) (fun _ => et_test (ev_op (ev_cb (ea_cons (ev_var rfl) ea_nil) (ca_lenS AsS.fr)) ev_int opv_eqI))) (by rw [decide_eq_true rfl, dStrs_len]; rfl)) ?_
          refine se_append (k := 0) (ev_var rfl) rfl (EvE.xe (ev_op (ev_var rfl) ev_int (opv_ixS AsS.fr i1)) ⟨0, _, rfl, ?_, (), trivial, by walk_at "dlle", ?_⟩)
          · rw [dStrs_len, List.length_take, sizeLine_eq]; omega
          · show _ = ownR p1 p2 p3 ps ws fs (i + 1)
            unfold ownR
            rw [show i + 1 - ps.length - ws.length = (i - ps.length - ws.length) + 1 by omega, List.take_of_length_le (l := ps) (i := i) (by omega), List.take_of_length_le (l := ps) (i := i + 1) (by omega), List.take_of_length_le (l := ws) (i := i - ps.length) (by omega), List.take_of_length_le (l := ws) (i := i + 1 - ps.length) (by omega)]
            show [(p3, OD.lst (dStrs (fs.take (i - ps.length - ws.length)) ++ [.str z])), (p2, OD.lst (wsD ws)), (p1, OD.lst (stD ps))] = _
            rw [show dStrs (fs.take (i - ps.length - ws.length + 1)) = dStrs (fs.take (i - ps.length - ws.length)) ++ [.str z] by rw [dStrs, dStrs, List.take_add_one, hz, List.map_append]; rfl]
    · rw [List.getElem?_append_right (by rw [List.length_map]; omega)] at hy'
      have he : i = (rowsW ps ws fs).length := by omega
      rw [List.length_map, he, Nat.sub_self] at hy'
      have hye : y = "" := (Option.some.inj hy').symm
      subst hye
      have hW : WordsOf "" [] := ⟨by decide +kernel, by decide +kernel, split_empty⟩
      refine se_seq (se_asg (EvE.xe (ev_words rfl hW) ?_))
      refine se_seq (se_ifT (EvT.is (et_test (ev_op (ev_var rfl) (ev_lst ea_nil (by decide)) (opv_eqStrs (xs := []) (ys := []) (fun _ h => nomatch h) (fun _ h => nomatch h)))) (by decide)) (se_cont ⟨(), trivial, by walk_at "dlle", ?_⟩))
      show ownR p1 p2 p3 ps ws fs i = ownR p1 p2 p3 ps ws fs (i + 1)
      unfold ownR
      rw [List.take_of_length_le (l := ps) (i := i) (by omega), List.take_of_length_le (l := ps) (i := i + 1) (by omega), List.take_of_length_le (l := ws) (i := i - ps.length) (by omega), List.take_of_length_le (l := ws) (i := i + 1 - ps.length) (by omega), List.take_of_length_le (l := fs) (i := i - ps.length - ws.length) (by omega), List.take_of_length_le (l := fs) (i := i + 1 - ps.length - ws.length) (by omega)]
  · have hown : ownR p1 p2 p3 ps ws fs (dStrs lines).length = [(p3, .lst (dStrs fs)), (p2, .lst (wsD ws)), (p1, .lst (stD ps))] := by
      rw [hll2, hll]
      unfold ownR
      rw [List.take_of_length_le (l := ps) (by omega), List.take_of_length_le (l := ws) (by omega), List.take_of_length_le (l := fs) (by omega)]
    show SE K [] E _ _ (ownR p1 p2 p3 ps ws fs (dStrs lines).length) _
    rw [hown]
    refine SE.frz (k := 0) (p := p3) (env' := [some (.str (textOf ps ws fs)), some (ptr p1), some (ptr p2), some (.lst (dStrs fs)), none, none, none]) rfl (fun i d' hi => ?_) rfl ?_
    · rcases i with _ | _ | _ | _ | _ | _ | _ | _
      all_goals first | exact Or.inl hi | (cases hi; exact Or.inr ⟨rfl, rfl⟩) | cases hi
    refine SE.frz (k := 0) (p := p2) (env' := [some (.str (textOf ps ws fs)), some (ptr p1), some (.lst (wsD ws)), some (.lst (dStrs fs)), none, none, none]) rfl (fun i d' hi => ?_) rfl ?_
    · rcases i with _ | _ | _ | _ | _ | _ | _ | _
      all_goals first | exact Or.inl hi | (cases hi; exact Or.inr ⟨rfl, rfl⟩) | cases hi
    refine SE.frz (k := 0) (p := p1) (env' := [some (.str (textOf ps ws fs)), some (.lst (stD ps)), some (.lst (wsD ws)), some (.lst (dStrs fs)), none, none, none]) rfl (fun i d' hi => ?_) rfl ?_
    · rcases i with _ | _ | _ | _ | _ | _ | _ | _
      all_goals first | exact Or.inl hi | (cases hi; exact Or.inr ⟨rfl, rfl⟩) | cases hi
    exact se_ret (XE.frz (XE.e0 (E' := E0) (xe_make (EvA.xa (ea_cons (ev_var rfl) (ea_cons (ev_var rfl) (ea_cons (ev_var rfl) ea_nil))) ⟨[], [], rfl, fun x _ => ⟨rfl, x, _, _, _, ps, ws, fs, [], rfl, rfl, AsL.fr, AsL.fr, AsL.fr, hg, rfl, 0, x, _, rfl, rfl, f⟩⟩))))
end
end K61

namespace K61
open PySem L2 DL
local macro_rules | `(tactic| walk_at "dlisi") => `(tactic| first | exact isi_str_str (.str _) | exact isi_str_list (.str _) | exact isi_str_tuple (.str _) | exact isi_str_int (.str _) | exact isi_str_bool (.str _) | exact isi_str_dict (.str _) | exact isi_list_str (.lst _) | exact isi_list_list (.lst _) | exact isi_list_tuple (.lst _) | exact isi_list_int (.lst _) | exact isi_list_bool (.lst _) | exact isi_list_dict (.lst _) | exact isi_tuple_str (.tup _) | exact isi_tuple_list (.tup _) | exact isi_tuple_tuple (.tup _) | exact isi_tuple_int (.tup _) | exact isi_tuple_bool (.tup _) | exact isi_tuple_dict (.tup _) | exact isi_int_str (.int _) | exact isi_int_list (.int _) | exact isi_int_tuple (.int _) | exact isi_int_int (.int _) | exact isi_int_bool (.int _) | exact isi_int_dict (.int _) | exact isi_bool_str (.bl _) | exact isi_bool_list (.bl _) | exact isi_bool_tuple (.bl _) | exact isi_bool_int (.bl _) | exact isi_bool_bool (.bl _) | exact isi_bool_dict (.bl _) | exact isi_NoneType_str (.non) | exact isi_NoneType_list (.non) | exact isi_NoneType_tuple (.non) | exact isi_NoneType_int (.non) | exact isi_NoneType_bool (.non) | exact isi_NoneType_dict (.non) | exact isiL_str (by assumption) | exact isiL_list (by assumption) | exact isiL_tuple (by assumption) | exact isiL_int (by assumption) | exact isiL_bool (by assumption) | exact isiL_dict (by assumption))
local macro_rules | `(tactic| walk_at "dlside") => `(tactic| first | (with_reducible assumption) | omega | (exact Or.inr ⟨by omega, by omega⟩) | (exact Or.inl ⟨by omega, by omega⟩) | (with_reducible exact AsS.fr) | (with_reducible exact AsL.fr) | (with_reducible exact AsS.tu) | (with_reducible exact AsD.fr) | (rw [sizeLine_eq]; omega) | (rw [sizeLine_eq]; simp only [List.length_cons, List.length_nil]; omega) | (rw [sizeLine_eq]; simp only [Str.length_append]; omega) | (rw [sizeLine_eq]; decide +kernel) | decide)
local macro_rules | `(tactic| walk_at "dlix") => `(tactic| first | (with_reducible assumption) | exact L2.atI_nat (by with_reducible assumption) | rfl)
local macro_rules | `(tactic| walk_at "dlopv") => `(tactic| first | (with_reducible exact opv_addI) | (with_reducible exact opv_subI) | (with_reducible exact opv_gtI) | (with_reducible exact opv_ltI) | (with_reducible exact opv_leI) | (with_reducible exact opv_geI) | (with_reducible exact opv_eqI) | (with_reducible exact opv_neI) | (with_reducible exact opv_eqS) | (with_reducible exact opv_neS) | (with_reducible exact opv_leS) | (with_reducible exact opv_inSign) | (with_reducible exact opv_notInSign) | ((with_reducible apply opv_modI); (walk_at "dlside")) | ((with_reducible apply opv_divI) <;> walk_at "dlside") | ((with_reducible apply opv_mulI); (walk_at "dlside")) | ((with_reducible apply opv_addC); (walk_at "dlside")) | ((with_reducible apply opv_mulS); (walk_at "dlside"); (walk_at "dlside"); (walk_at "dlside")) | ((with_reducible apply opv_addT); (walk_at "dlside")) | ((with_reducible apply opv_ixS); (walk_at "dlside"); (walk_at "dlix")) | ((with_reducible apply opv_ixStr); (walk_at "dlside"); (walk_at "dlix")) | ((with_reducible apply opv_addL); (walk_at "dlside"); (walk_at "dlside"); (walk_at "dlside")) | ((with_reducible apply opv_inS); (walk_at "dlside")) | ((with_reducible apply opv_notInS); (walk_at "dlside")))
local macro_rules | `(tactic| walk_at "dlca") => `(tactic| first | (apply ca_lenS; (walk_at "dlside")) | (apply ca_lenT; (walk_at "dlside")) | exact ca_min2 | exact ca_max2 | (apply ca_list; (walk_at "dlside")) | (apply ca_lenD; (walk_at "dlside")) | (apply ca_listD; (walk_at "dlside")) | exact ca_tupT | (apply ca_tupL; (walk_at "dlside")) | (apply ca_sortedS; (walk_at "dlside"); (walk_at "dlside")) | walk_at "dlisi")
local macro_rules | `(tactic| walk_at "dlme") => `(tactic| first | (apply me_split <;> walk_at "dlside") | exact me_ends | (apply me_join; (walk_at "dlside"); (walk_at "dlside")))
local macro_rules | `(tactic| walk_at "dlev") => `(tactic| first
  | (with_reducible assumption)
  | exact ev_var rfl | exact ev_int | exact ev_str | exact ev_bl | exact ev_non | exact ev_val | (with_reducible exact ea_nil) | (with_reducible exact et_yes)
  | ((with_reducible apply ev_op); (walk_at "dlev"); (walk_at "dlev"); (walk_at "dlopv"))
  | ((with_reducible apply ea_cons); (walk_at "dlev"); (walk_at "dlev"))
  | ((with_reducible apply ev_cb); (walk_at "dlev"); (walk_at "dlca"))
  | ((with_reducible apply ev_bmS); (walk_at "dlev"); (walk_at "dlev"); (walk_at "dlme"))
  | ((with_reducible apply ev_tup); (walk_at "dlev"); (walk_at "dlside"))
  | ((with_reducible apply ev_lst); (walk_at "dlev"); (walk_at "dlside"))
  | ((with_reducible apply et_test); (walk_at "dlev")) | ((with_reducible apply et_B); (walk_at "dlev"))
  | ((with_reducible apply et_not); (walk_at "dlev"))
  | ((with_reducible apply et_or); (walk_at "dlev"); (intro _; walk_at "dlev"))
  | ((with_reducible apply et_and); (walk_at "dlev"); (intro _; walk_at "dlev"))
  | ((with_reducible apply ev_andV); (walk_at "dlev"); (intro _; walk_at "dlev"))
  | ((with_reducible apply ev_orV); (walk_at "dlev"); (intro _; walk_at "dlev"))
  | ((with_reducible apply ev_chain); (walk_at "dlev"); (walk_at "dlev"); (walk_at "dlopv"); (intro _; walk_at "dlev"); (intro _; walk_at "dlopv"))
  | ((with_reducible apply ev_slL); (walk_at "dlev"); (walk_at "dlev"); (walk_at "dlev"); (walk_at "dlside"))
  | ((with_reducible apply ev_slS); (walk_at "dlev"); (walk_at "dlev"); (walk_at "dlev"); (walk_at "dlside"))
  | ((with_reducible apply ev_fstr); (walk_at "dlev")) | (with_reducible exact ej_nil) | ((with_reducible apply ej_cons); (walk_at "dlev"); (walk_at "dlside"); (walk_at "dlev")) | ((with_reducible apply ev_fmtS); (walk_at "dlev"); (walk_at "dlside"))
  | (with_reducible exact eo_none) | ((with_reducible apply eo_some); (walk_at "dlev")) | ((with_reducible apply ev_un); (walk_at "dlev")) | assumption)
local macro_rules | `(tactic| walk_at "dlevb") => `(tactic| refine EvT.is (by walk_at "dlev") ?_)
local macro_rules | `(tactic| walk_at "dlle") => `(tactic| ((iterate 24 (try (first | exact le_nil | refine le_same ?_ | refine le_none ?_))); done))
section
variable {K : PySem.W.Frag} {mg : Str → Option Value} (T : Tx K mg) {E : XK}
theorem low_app {x y : Str} (h : LowC x) (h' : LowC y) : LowC (x ++ y) := fun c hc => by
  rw [cps_app] at hc
  exact (List.mem_append.mp hc).elim (h c) (h' c)
theorem low_cat : ∀ {xs : List Str}, (∀ x ∈ xs, LowC x) → LowC (cat xs)
  | [], _ => fun c hc => by
    have : c ∈ ("" : Str).cps.toList := hc
    have h0 : ("" : Str).cps.toList = [] := by decide +kernel
    rw [h0] at this; cases this
  | x :: xs, h => low_app (h x List.mem_cons_self) (low_cat fun y hy => h y (List.mem_cons_of_mem _ hy))
theorem low_mark {x : Str} (h : markB x = true) : LowC x := fun c hc => by have := (mark_b h c hc).2.1; omega
theorem low_lits : LowC ("state " : Str) ∧ LowC ("step " : Str) ∧ LowC ("start " : Str) ∧ LowC ("\n" : Str) ∧ LowC (" " : Str) ∧ LowC (":" : Str) ∧ LowC ("zz" : Str) := by
  refine ⟨?_, ?_, ?_, ?_, ?_, ?_, ?_⟩ <;> (unfold LowC; decide +kernel)
theorem low_pl {ps : Pl} (h : GoodP ps) {a : Str} (ha : a ∈ ps.map (·.1)) : LowC a := by
  obtain ⟨x, hx, rfl⟩ := List.mem_map.mp ha
  exact low_mark (h.mks x hx).1
theorem low_text {ps : Pl} {ws : Wy} {fs : List Str} (h : GoodAll ps ws fs) : LowC (textOf ps ws fs) := by
  obtain ⟨l1, l2, l3, l4, l5, l6, _⟩ := low_lits
  unfold textOf
  refine low_app (low_cat fun x hx => ?_) (low_app (low_cat fun x hx => ?_) (low_cat fun x hx => ?_))
  · obtain ⟨y, hy, rfl⟩ := List.mem_map.mp hx
    have hg := h.p.mks y hy
    unfold stT
    refine low_app (low_app (low_app (low_app l1 (low_mark hg.1)) l6) (low_cat fun z hz => ?_)) l4
    obtain ⟨w, hw, rfl⟩ := List.mem_map.mp hz
    exact low_app l5 (low_mark (hg.2.2.1 w hw))
  · obtain ⟨y, hy, rfl⟩ := List.mem_map.mp hx
    have hm := h.w.mem y hy
    unfold wyT
    exact low_app (low_app (low_app (low_app l2 (low_pl h.p hm.1)) l5) (low_pl h.p hm.2)) l4
  · obtain ⟨y, hy, rfl⟩ := List.mem_map.mp hx
    unfold fsT
    exact low_app (low_app l3 (low_pl h.p (h.f.mem y hy))) l4
theorem d__law_looked : ∀ m ds O Φ Ψ, p__law_looked T m ds O Φ Ψ → SE K m E (t__law_looked T E) (startE n__law_looked ds) O { nx := fun _ O' => Φ .non O', rt := Φ, xs := Ψ } := by
  rintro m ds O Φ Ψ ⟨rfl, rfl, ps, ws, fs, look, dr, rfl, hg, hk0, hk5, hd0, f1, f2, f3⟩
  have hpn := hg.p.len; have hwn := hg.w.tot; have hfn := hg.f.ne
  have hsl : (stD ps).length = ps.length := List.length_map ..
  have ix0 : atI [Dt.lst (stD ps), .lst (wsD ws), .lst (dStrs fs)] 0 = some (.lst (stD ps)) := rfl
  have ix1 : atI [Dt.lst (stD ps), .lst (wsD ws), .lst (dStrs fs)] 1 = some (.lst (wsD ws)) := rfl
  have ix2 : atI [Dt.lst (stD ps), .lst (wsD ws), .lst (dStrs fs)] 2 = some (.lst (dStrs fs)) := rfl
  have e0 : ∀ {env : DL.Env} {O : OL}, env[1]? = some (some (ptD ps ws fs)) → EvE K [] (tOp (rIx K) (tVar 1) (tC (.int 0))) env O (.lst (stD ps)) := fun h => ev_op (ev_var h) ev_int (opv_ixS AsS.fr ix0)
  have e1 : ∀ {env : DL.Env} {O : OL}, env[1]? = some (some (ptD ps ws fs)) → EvE K [] (tOp (rIx K) (tVar 1) (tC (.int 1))) env O (.lst (wsD ws)) := fun h => ev_op (ev_var h) ev_int (opv_ixS AsS.fr ix1)
  have e2 : ∀ {env : DL.Env} {O : OL}, env[1]? = some (some (ptD ps ws fs)) → EvE K [] (tOp (rIx K) (tVar 1) (tC (.int 2))) env O (.lst (dStrs fs)) := fun h => ev_op (ev_var h) ev_int (opv_ixS AsS.fr ix2)
  have hpos : (0 : Int) < (ps.length : Nat) := by omega
  obtain ⟨x, hx⟩ : ∃ x, ps[(dr % (ps.length : Nat)).toNat]? = some x := ⟨_, List.getElem?_eq_getElem (by have := Int.emod_lt_of_pos dr hpos; have := Int.emod_nonneg dr (show ((ps.length : Nat) : Int) ≠ 0 by omega); omega)⟩
  have hxm := List.mem_of_getElem? hx
  have hgp := hg.p.mks x hxm
  have ipl : atI (stD ps) (dr % ((stD ps).length : Nat)) = some (.tup [.str x.1, .tup (dStrs x.2)]) := by
    rw [hsl]
    refine atI_int (Int.emod_nonneg _ (by omega)) ?_
    unfold stD
    rw [List.getElem?_map, hx]; rfl
  refine se_seq (se_asg (EvE.xe (ev_op (e0 rfl) (ev_op (ev_var rfl) (ev_cb (ea_cons (e0 rfl) ea_nil) (ca_lenS AsS.fr)) (opv_modI (by rw [hsl]; omega))) (opv_ixS AsS.fr ipl)) ?_))
  have few_pl : Few (ps.map (·.1)) := ⟨by rw [List.length_map]; omega, fun a ha => ⟨low_pl hg.p ha, pl_len hg.p ha⟩⟩
  have few_fs : Few fs := ⟨by omega, fun a ha => ⟨low_pl hg.p (hg.f.mem a ha), pl_len hg.p (hg.f.mem a ha)⟩⟩
  have few_nx : Few (nxs ws x.1) := ⟨by have := (hg.w.len x hxm).2; omega, fun a ha => by
    obtain ⟨w, hw, rfl⟩ := List.mem_map.mp ha
    have := (hg.w.mem w (List.mem_filter.mp hw).1).2
    exact ⟨low_pl hg.p this, pl_len hg.p this⟩⟩
  have two : ∀ a b : Dt, [a, b].length ≤ sizeLine := fun a b => by rw [sizeLine_eq]; exact (by decide : 2 ≤ 16777216)
  refine se_seq (se_ifE (b := decide (look = 0)) (et_test (ev_op (ev_var rfl) ev_int opv_eqI)) (fun _ => ?_) (fun h0 => se_next ?_))
  · refine se_ret (XE.frz (xe_lst (xa_cons (xe_methL0 (ev_var rfl) (asI _ _ ps ws fs) (fno _ _ _ _ (by decide +kernel)) ea_nil ⟨ps, ws, fs, rfl, rfl⟩ fun p => xa_cons (EvE.xe (EvE.isL (ys := dStrs (ps.map fun x : Str × List Str => x.1)) (ev_lcL (xs := stD ps) (f := fun i => (ps[i]?).map fun y => Dt.str y.1) (e0 rfl) (by rw [hsl]; omega) (fun i y p' hy => ?_)) ?_) (xa_nil ⟨two _ _, fun p' _ => ⟨0, p', _, rfl, rfl, f1 p _ few_pl⟩⟩))))))
    · obtain ⟨z, hz, rfl⟩ := stD_at hy
      exact ⟨_, true, eg_name, et_yes, fun _ => ⟨.str z.1, by rw [hz]; rfl, ev_op (ev_var rfl) ev_int (opv_ixS AsS.tu rfl)⟩, fun h => nomatch h⟩
    · rw [hsl, given_map, dStrs, List.map_map]; rfl
  refine se_seq (se_ifE (b := decide (look = 1)) (et_test (ev_op (ev_var rfl) ev_int opv_eqI)) (fun _ => ?_) (fun h0 => se_next ?_))
  · exact se_ret (XE.frz (xe_lst (xa_cons (xe_methL0 (ev_var rfl) (asI _ _ ps ws fs) (fno _ _ _ _ (by decide +kernel)) ea_nil ⟨ps, ws, fs, rfl, rfl⟩ fun p => xa_cons (EvE.xe (ev_cb (ea_cons (e2 rfl) ea_nil) (ca_list AsS.fr)) (xa_nil ⟨two _ _, fun p' _ => ⟨0, p', _, rfl, rfl, f1 p _ few_fs⟩⟩))))))
  have hplace : ∀ {env : DL.Env} {O : OL}, env[4]? = some (some (.tup [.str x.1, .tup (dStrs x.2)])) → EvE K [] (tOp (rIx K) (tVar 4) (tC (.int 0))) env O (.str x.1) := fun h => ev_op (ev_var h) ev_int (opv_ixS AsS.tu rfl)
  refine se_seq (se_ifE (b := decide (look = 2)) (et_test (ev_op (ev_var rfl) ev_int opv_eqI)) (fun _ => ?_) (fun h0 => se_next ?_))
  · have hwl : (wsD ws).length = ws.length := List.length_map ..
    refine se_ret (XE.frz (xe_lst (xa_cons (xe_methL0 (ev_var rfl) (asI _ _ ps ws fs) (fno _ _ _ _ (by decide +kernel)) (ea_cons (hplace rfl) ea_nil) ⟨ps, ws, fs, x, rfl, hg.p, hxm, rfl⟩ fun p => xa_cons (EvE.xe (EvE.isL (ys := dStrs (nxs ws x.1)) (ev_lcL (xs := wsD ws) (f := fun i => (ws[i]?).bind fun w => if decide (w.1 = x.1) = true then some (Dt.str w.2) else none) (e1 rfl) (by rw [hwl]; omega) (fun i y p' hy => ?_)) ?_) (xa_nil ⟨two _ _, fun p' _ => ⟨0, p', _, rfl, rfl, f1 p _ few_nx⟩⟩))))))
    · obtain ⟨z, hz, rfl⟩ := wsD_at hy
      refine ⟨_, decide (z.1 = x.1), eg_name, et_test (ev_op (ev_op (ev_var rfl) ev_int (opv_ixS AsS.tu rfl)) (hplace rfl) opv_eqS), fun hb => ⟨.str z.2, ?_, ev_op (ev_var rfl) ev_int (opv_ixS AsS.tu rfl)⟩, fun hb => ?_⟩
      · show (ws[i]?).bind _ = _
        rw [hz]; exact if_pos hb
      · show (ws[i]?).bind _ = _
        rw [hz]; exact if_neg (by rw [hb]; decide)
    · rw [hwl, given_filter, nxs, dStrs, List.map_map]; rfl
  have few_mo : Few x.2 := ⟨by have := hgp.2.1; omega, fun a ha => ⟨low_mark (hgp.2.2.1 a ha), (mark_len (hgp.2.2.1 a ha)).2⟩⟩
  refine se_seq (se_ifE (b := decide (look = 3)) (et_test (ev_op (ev_var rfl) ev_int opv_eqI)) (fun _ => ?_) (fun h0 => se_next ?_))
  · exact se_ret (EvE.xe (ev_lst (ea_cons (ev_meth0 (ev_var rfl) (asI _ _ ps ws fs) (fno _ _ _ _ (by decide +kernel)) (ea_cons (hplace rfl) ea_nil) ⟨ps, ws, fs, x, rfl, hg.p, hxm, rfl⟩) (ea_cons (ev_op (ev_var rfl) ev_int (opv_ixS AsS.tu rfl)) ea_nil)) (two _ _)) (f2 _ few_mo))
  · exact se_ret (EvE.xe (ev_lst (ea_cons (ev_meth0 (ev_var rfl) (asI _ _ ps ws fs) (fno _ _ _ _ (by decide +kernel)) ea_nil ⟨ps, ws, fs, rfl, hg, rfl⟩) (ea_cons (ev_call0 (ea_cons (ev_var rfl) ea_nil) ⟨ps, ws, fs, rfl, hg, rfl⟩) ea_nil)) (two _ _)) (f3 _ (low_text hg) (by have := text_len hg; omega)))
end
end K61

namespace K61
open PySem L2 DL
local macro_rules | `(tactic| walk_at "dlisi") => `(tactic| first | exact isi_str_str (.str _) | exact isi_str_list (.str _) | exact isi_str_tuple (.str _) | exact isi_str_int (.str _) | exact isi_str_bool (.str _) | exact isi_str_dict (.str _) | exact isi_list_str (.lst _) | exact isi_list_list (.lst _) | exact isi_list_tuple (.lst _) | exact isi_list_int (.lst _) | exact isi_list_bool (.lst _) | exact isi_list_dict (.lst _) | exact isi_tuple_str (.tup _) | exact isi_tuple_list (.tup _) | exact isi_tuple_tuple (.tup _) | exact isi_tuple_int (.tup _) | exact isi_tuple_bool (.tup _) | exact isi_tuple_dict (.tup _) | exact isi_int_str (.int _) | exact isi_int_list (.int _) | exact isi_int_tuple (.int _) | exact isi_int_int (.int _) | exact isi_int_bool (.int _) | exact isi_int_dict (.int _) | exact isi_bool_str (.bl _) | exact isi_bool_list (.bl _) | exact isi_bool_tuple (.bl _) | exact isi_bool_int (.bl _) | exact isi_bool_bool (.bl _) | exact isi_bool_dict (.bl _) | exact isi_NoneType_str (.non) | exact isi_NoneType_list (.non) | exact isi_NoneType_tuple (.non) | exact isi_NoneType_int (.non) | exact isi_NoneType_bool (.non) | exact isi_NoneType_dict (.non) | exact isiL_str (by assumption) | exact isiL_list (by assumption) | exact isiL_tuple (by assumption) | exact isiL_int (by assumption) | exact isiL_bool (by assumption) | exact isiL_dict (by assumption))
local macro_rules | `(tactic| walk_at "dlside") => `(tactic| first | (with_reducible assumption) | omega | (exact Or.inr ⟨by omega, by omega⟩) | (exact Or.inl ⟨by omega, by omega⟩) | (with_reducible exact AsS.fr) | (with_reducible exact AsL.fr) | (with_reducible exact AsS.tu) | (with_reducible exact AsD.fr) | (rw [sizeLine_eq]; omega) | (rw [sizeLine_eq]; simp only [List.length_cons, List.length_nil]; omega) | (rw [sizeLine_eq]; simp only [Str.length_append]; omega) | (rw [sizeLine_eq]; decide +kernel) | decide)
local macro_rules | `(tactic| walk_at "dlix") => `(tactic| first | (with_reducible assumption) | exact L2.atI_nat (by with_reducible assumption) | rfl)
local macro_rules | `(tactic| walk_at "dlopv") => `(tactic| first | (with_reducible exact opv_addI) | (with_reducible exact opv_subI) | (with_reducible exact opv_gtI) | (with_reducible exact opv_ltI) | (with_reducible exact opv_leI) | (with_reducible exact opv_geI) | (with_reducible exact opv_eqI) | (with_reducible exact opv_neI) | (with_reducible exact opv_eqS) | (with_reducible exact opv_neS) | (with_reducible exact opv_leS) | (with_reducible exact opv_inSign) | (with_reducible exact opv_notInSign) | ((with_reducible apply opv_modI); (walk_at "dlside")) | ((with_reducible apply opv_divI) <;> walk_at "dlside") | ((with_reducible apply opv_mulI); (walk_at "dlside")) | ((with_reducible apply opv_addC); (walk_at "dlside")) | ((with_reducible apply opv_mulS); (walk_at "dlside"); (walk_at "dlside"); (walk_at "dlside")) | ((with_reducible apply opv_addT); (walk_at "dlside")) | ((with_reducible apply opv_ixS); (walk_at "dlside"); (walk_at "dlix")) | ((with_reducible apply opv_ixStr); (walk_at "dlside"); (walk_at "dlix")) | ((with_reducible apply opv_addL); (walk_at "dlside"); (walk_at "dlside"); (walk_at "dlside")) | ((with_reducible apply opv_inS); (walk_at "dlside")) | ((with_reducible apply opv_notInS); (walk_at "dlside")))
local macro_rules | `(tactic| walk_at "dlca") => `(tactic| first | (apply ca_lenS; (walk_at "dlside")) | (apply ca_lenT; (walk_at "dlside")) | exact ca_min2 | exact ca_max2 | (apply ca_list; (walk_at "dlside")) | (apply ca_lenD; (walk_at "dlside")) | (apply ca_listD; (walk_at "dlside")) | exact ca_tupT | (apply ca_tupL; (walk_at "dlside")) | (apply ca_sortedS; (walk_at "dlside"); (walk_at "dlside")) | walk_at "dlisi")
local macro_rules | `(tactic| walk_at "dlme") => `(tactic| first | (apply me_split <;> walk_at "dlside") | exact me_ends | (apply me_join; (walk_at "dlside"); (walk_at "dlside")))
local macro_rules | `(tactic| walk_at "dlev") => `(tactic| first
  | (with_reducible assumption)
  | exact ev_var rfl | exact ev_int | exact ev_str | exact ev_bl | exact ev_non | exact ev_val | (with_reducible exact ea_nil) | (with_reducible exact et_yes)
  | ((with_reducible apply ev_op); (walk_at "dlev"); (walk_at "dlev"); (walk_at "dlopv"))
  | ((with_reducible apply ea_cons); (walk_at "dlev"); (walk_at "dlev"))
  | ((with_reducible apply ev_cb); (walk_at "dlev"); (walk_at "dlca"))
  | ((with_reducible apply ev_bmS); (walk_at "dlev"); (walk_at "dlev"); (walk_at "dlme"))
  | ((with_reducible apply ev_tup); (walk_at "dlev"); (walk_at "dlside"))
  | ((with_reducible apply ev_lst); (walk_at "dlev"); (walk_at "dlside"))
  | ((with_reducible apply et_test); (walk_at "dlev")) | ((with_reducible apply et_B); (walk_at "dlev"))
  | ((with_reducible apply et_not); (walk_at "dlev"))
  | ((with_reducible apply et_or); (walk_at "dlev"); (intro _; walk_at "dlev"))
  | ((with_reducible apply et_and); (walk_at "dlev"); (intro _; walk_at "dlev"))
  | ((with_reducible apply ev_andV); (walk_at "dlev"); (intro _; walk_at "dlev"))
  | ((with_reducible apply ev_orV); (walk_at "dlev"); (intro _; walk_at "dlev"))
  | ((with_reducible apply ev_chain); (walk_at "dlev"); (walk_at "dlev"); (walk_at "dlopv"); (intro _; walk_at "dlev"); (intro _; walk_at "dlopv"))
  | ((with_reducible apply ev_slL); (walk_at "dlev"); (walk_at "dlev"); (walk_at "dlev"); (walk_at "dlside"))
  | ((with_reducible apply ev_slS); (walk_at "dlev"); (walk_at "dlev"); (walk_at "dlev"); (walk_at "dlside"))
  | ((with_reducible apply ev_fstr); (walk_at "dlev")) | (with_reducible exact ej_nil) | ((with_reducible apply ej_cons); (walk_at "dlev"); (walk_at "dlside"); (walk_at "dlev")) | ((with_reducible apply ev_fmtS); (walk_at "dlev"); (walk_at "dlside"))
  | (with_reducible exact eo_none) | ((with_reducible apply eo_some); (walk_at "dlev")) | ((with_reducible apply ev_un); (walk_at "dlev")) | assumption)
local macro_rules | `(tactic| walk_at "dlevb") => `(tactic| refine EvT.is (by walk_at "dlev") ?_)
local macro_rules | `(tactic| walk_at "dlle") => `(tactic| ((iterate 24 (try (first | exact le_nil | refine le_same ?_ | refine le_none ?_))); done))
section
variable {K : PySem.W.Frag} {mg : Str → Option Value} (T : Tx K mg) {E : XK}
theorem turn_at (dr : Int) (h : 0 ≤ dr) : ∃ t : Int, atI [Dt.int 1, .int 2, .int 3] (dr / 5 % 3) = some (.int t) ∧ 1 ≤ t ∧ t ≤ 3 := by
  have h1 : dr / 5 % 3 = 0 ∨ dr / 5 % 3 = 1 ∨ dr / 5 % 3 = 2 := by omega
  rcases h1 with h1 | h1 | h1 <;> rw [h1]
  · exact ⟨1, rfl, by decide, by decide⟩
  · exact ⟨2, rfl, by decide, by decide⟩
  · exact ⟨3, rfl, by decide, by decide⟩
theorem d__law_stands : ∀ m ds O Φ Ψ, p__law_stands T m ds O Φ Ψ → SE K m E (t__law_stands T E) (startE n__law_stands ds) O { nx := fun _ O' => Φ .non O', rt := Φ, xs := Ψ } := by
  rintro m ds O Φ Ψ ⟨rfl, ps, ws, fs, dr, p, hs, rfl, rfl, hg, hd0, hdl, hhl, hho, f⟩
  have two : ∀ a b : Dt, [a, b].length ≤ sizeLine := fun a b => by rw [sizeLine_eq]; exact (by decide : 2 ≤ 16777216)
  obtain ⟨tt, htt, ht1, ht3⟩ := turn_at dr hd0
  refine se_seq (se_forR1p (σT := List Dt) (n := 7) (fun i s => s.length ≤ hs.length + i ∧ ∀ d ∈ s, HeldOk d) (fun _ _ => [some (wD T.World_a ps ws fs), some (ptD ps ws fs), some (.int dr), some (ptr p), none, none]) (fun _ s => [(p, .lst s)]) hs (by walk_at "dlev") (by omega) ⟨Nat.le_refl _, hho⟩ (by walk_at "dlle") rfl mono_se (fun i s hi hP => ?_) (fun s hP => ?_))
  · have hm1 : CMul (i : Int) tt := Or.inr ⟨by omega, by omega⟩
    have three : [Dt.int 1, .int 2, .int 3].length ≤ sizeLine := by rw [sizeLine_eq]; decide
    have harg : EvA K [] (tCons (tVar 0) (tCons (tVar 1) (tCons (tOp rModI (tOp (rAddU K) (tVar 2) (tOp rMulU (tVar 4) (tOp (rIx K) (tLst (tCons (tC (.int 1)) (tCons (tC (.int 2)) (tCons (tC (.int 3)) tNil)))) (tOp rModI (tOp rDivI (tVar 2) (tC (.int 5))) (tC (.int 3)))))) (tC (.int 5))) (tCons (tOp (rAddU K) (tOp rDivI (tVar 2) (tC (.int 15))) (tVar 4)) tNil))))
        ([some (wD T.World_a ps ws fs), some (ptD ps ws fs), some (.int dr), some (ptr p), none, none].set 4 (some (.int (i : Int)))) [(p, .lst s)] [wD T.World_a ps ws fs, ptD ps ws fs, .int ((dr + (i : Int) * tt) % 5), .int (dr / 15 + (i : Int))] := by
      walk_at "dlev"
    refine se_seq (se_asg (XE.e0 (E' := E0) (xe_call (harg.xa ⟨[], [(p, .lst s)], rfl, rfl, rfl, ps, ws, fs, _, _, rfl, hg, Int.emod_nonneg _ (by decide), Int.emod_lt_of_pos _ (by decide), by omega, fun q xs hx => ?_, fun xs hx => ?_, fun x hx hxl => ?_⟩))))
    · -- a list
      show SE K [] E _ _ [(q, OD.lst (dStrs xs)), (p, OD.lst s)] _
      obtain ⟨w1, w2, w3, w4⟩ := show_strs (xs := xs) (fun x hx' => ⟨(hx.2 x hx').1, by have := (hx.2 x hx').2; omega⟩) (by have := hx.1; omega)
      have i0 : ∀ {env : DL.Env} {O : OL}, env[5]? = some (some (.lst [ptr q, .lst (dStrs xs)])) → EvE K [] (tOp (rIx K) (tVar 5) (tC (.int 0))) env O (ptr q) := fun h => ev_op (ev_var h) ev_int (opv_ixS AsS.fr rfl)
      have i1 : ∀ {env : DL.Env} {O : OL}, env[5]? = some (some (.lst [ptr q, .lst (dStrs xs)])) → EvE K [] (tOp (rIx K) (tVar 5) (tC (.int 1))) env O (.lst (dStrs xs)) := fun h => ev_op (ev_var h) ev_int (opv_ixS AsS.fr rfl)
      refine se_seq (se_ifF (EvT.is (et_test (ev_op (ev_cb (ea_cons (i0 rfl) ea_nil) (ca_reprL (ds := dStrs xs) (.inr ⟨q, 0, rfl, rfl⟩) (isPy_strs xs) w1 w2 w3 w4)) (ev_cb (ea_cons (i1 rfl) ea_nil) (ca_repr (isPy_strs xs) w1 w2 w3 w4)) opv_neS)) (by rw [decide_eq_true rfl]; rfl)) (se_next ?_))
      refine se_ifT (et_B (ev_cb (ea_cons (i0 rfl) (ea_cons ev_val ea_nil)) (isiL_list (ds := dStrs xs) (.inr ⟨q, 0, rfl, rfl⟩)))) ?_
      -- with or without another text behind it
      have rest : ∀ ys : List Str, ys.length ≤ 25 → (∀ y ∈ ys, LowC y ∧ y.length ≤ 8) → SE K [] E (tDrop (tBM K "list" rAppend (tVar 3) (tCons (tTup (tCons (tOp (rIx K) (tVar 5) (tC (.int 0))) (tCons (tCB (rRepr K) (tCons (tOp (rIx K) (tVar 5) (tC (.int 0))) tNil)) tNil))) tNil)))
          [some (wD T.World_a ps ws fs), some (ptD ps ws fs), some (.int dr), some (ptr p), some (.int (i : Int)), some (.lst [ptr q, .lst (dStrs xs)])] [(q, .lst (dStrs ys)), (p, .lst s)] (turnD { nx := fun e' O' => SE K [] E (tRet (tC (.bl true))) e' O' { nx := fun _ O' => Φ .non O', rt := Φ, xs := Ψ }, rt := Φ, xs := Ψ } (Wd (fun i s => s.length ≤ hs.length + i ∧ ∀ d ∈ s, HeldOk d) (fun _ _ => [some (wD T.World_a ps ws fs), some (ptD ps ws fs), some (.int dr), some (ptr p), none, none]) (fun _ s => [(p, .lst s)]) (i + 1))) := fun ys hyl hyo => by
        obtain ⟨v1, v2, v3, v4⟩ := show_strs (xs := ys) (fun x hx' => ⟨(hyo x hx').1, by have := (hyo x hx').2; omega⟩) (by omega)
        refine SE.frzHd (i := 5) (p := q) (od := .lst (dStrs ys)) rfl rfl ?_
        show SE K [] E _ [some (wD T.World_a ps ws fs), some (ptD ps ws fs), some (.int dr), some (ptr p), some (.int (i : Int)), some (.lst [.lst (dStrs ys), .lst (dStrs xs)])] [(p, OD.lst s)] _
        have j0 : ∀ {O : OL}, EvE K [] (tOp (rIx K) (tVar 5) (tC (.int 0))) [some (wD T.World_a ps ws fs), some (ptD ps ws fs), some (.int dr), some (ptr p), some (.int (i : Int)), some (.lst [.lst (dStrs ys), .lst (dStrs xs)])] O (.lst (dStrs ys)) := ev_op (ev_var rfl) ev_int (opv_ixS AsS.fr rfl)
        refine se_append (k := 0) (ev_var rfl) rfl (EvE.xe (ev_tup (ea_cons j0 (ea_cons (ev_cb (ea_cons j0 ea_nil) (ca_repr (isPy_strs ys) v1 v2 v3 v4)) ea_nil)) (two _ _)) ⟨0, _, rfl, ?_, s ++ [.tup [.lst (dStrs ys), .str (toPy (.lst (dStrs ys))).shown]], ⟨?_, ?_⟩, by walk_at "dlle", rfl⟩)
        · have := hP.1; rw [sizeLine_eq]; omega
        · have := hP.1; rw [List.length_append, List.length_singleton]; omega
        · intro d hd
          rcases List.mem_append.mp hd with hd | hd
          · exact hP.2 d hd
          · rw [List.mem_singleton.mp hd]; exact ⟨ys, hyl, hyo, rfl⟩
      refine se_seq (se_ifE (b := decide (dr / 3 % 2 = 1)) (by walk_at "dlev") (fun _ => ?_) (fun _ => se_next ?_))
      · refine se_append (k := 0) (i0 rfl) rfl (EvE.xe ev_str ⟨0, _, rfl, ?_, ?_⟩)
        · have := hx.1; rw [dStrs_len, sizeLine_eq]; omega
        · have h1 := rest (xs ++ [("zz" : Str)]) (by have := hx.1; rw [List.length_append]; show xs.length + 1 ≤ 25; omega) (fun y hy => by
            rcases List.mem_append.mp hy with hy | hy
            · exact hx.2 y hy
            · rw [List.mem_singleton.mp hy]; exact ⟨low_lits.2.2.2.2.2.2, by decide +kernel⟩)
          rw [show dStrs (xs ++ [("zz" : Str)]) = dStrs xs ++ [.str "zz"] by rw [dStrs, List.map_append]; rfl] at h1
          exact h1
      · exact rest xs (by have := hx.1; omega) hx.2
    · -- a tuple
      show SE K [] E _ _ [(p, OD.lst s)] _
      obtain ⟨w1, w2, w3, w4⟩ := show_strsT (xs := xs) (fun x hx' => ⟨(hx.2 x hx').1, by have := (hx.2 x hx').2; omega⟩) (by have := hx.1; omega)
      have hpy : isPy (.tup (dStrs xs)) = true := by unfold isPy; exact isPys_strs xs
      have i0 : ∀ {env : DL.Env} {O : OL}, env[5]? = some (some (.lst [.tup (dStrs xs), .tup (dStrs xs)])) → EvE K [] (tOp (rIx K) (tVar 5) (tC (.int 0))) env O (.tup (dStrs xs)) := fun h => ev_op (ev_var h) ev_int (opv_ixS AsS.fr rfl)
      have i1 : ∀ {env : DL.Env} {O : OL}, env[5]? = some (some (.lst [.tup (dStrs xs), .tup (dStrs xs)])) → EvE K [] (tOp (rIx K) (tVar 5) (tC (.int 1))) env O (.tup (dStrs xs)) := fun h => ev_op (ev_var h) ev_int (opv_ixS AsS.fr rfl)
      refine se_seq (se_ifF (EvT.is (et_test (ev_op (ev_cb (ea_cons (i0 rfl) ea_nil) (ca_repr hpy w1 w2 w3 w4)) (ev_cb (ea_cons (i1 rfl) ea_nil) (ca_repr hpy w1 w2 w3 w4)) opv_neS)) (by rw [decide_eq_true rfl]; rfl)) (se_next ?_))
      refine se_ifF (et_B (ev_cb (ea_cons (i0 rfl) (ea_cons ev_val ea_nil)) (isi_tuple_list (.tup _)))) (se_next ⟨s, ⟨by have := hP.1; omega, hP.2⟩, by walk_at "dlle", rfl⟩)
    · -- a text
      show SE K [] E _ _ [(p, OD.lst s)] _
      obtain ⟨w1, w2, w3, w4⟩ := show_str hx (by omega)
      have i0 : ∀ {env : DL.Env} {O : OL}, env[5]? = some (some (.lst [.str x, .str x])) → EvE K [] (tOp (rIx K) (tVar 5) (tC (.int 0))) env O (.str x) := fun h => ev_op (ev_var h) ev_int (opv_ixS AsS.fr rfl)
      have i1 : ∀ {env : DL.Env} {O : OL}, env[5]? = some (some (.lst [.str x, .str x])) → EvE K [] (tOp (rIx K) (tVar 5) (tC (.int 1))) env O (.str x) := fun h => ev_op (ev_var h) ev_int (opv_ixS AsS.fr rfl)
      have hpy : isPy (.str x) = true := by unfold isPy; rfl
      refine se_seq (se_ifF (EvT.is (et_test (ev_op (ev_cb (ea_cons (i0 rfl) ea_nil) (ca_repr hpy w1 w2 w3 w4)) (ev_cb (ea_cons (i1 rfl) ea_nil) (ca_repr hpy w1 w2 w3 w4)) opv_neS)) (by rw [decide_eq_true rfl]; rfl)) (se_next ?_))
      refine se_ifF (et_B (ev_cb (ea_cons (i0 rfl) (ea_cons ev_val ea_nil)) (isi_str_list (.str _)))) (se_next ⟨s, ⟨by have := hP.1; omega, hP.2⟩, by walk_at "dlle", rfl⟩)
  · exact se_ret (EvE.xe ev_bl (f s (by have := hP.1; show s.length ≤ hs.length + 7; exact this) hP.2))
end
end K61

namespace K61
open PySem L2 DL
local macro_rules | `(tactic| walk_at "dlisi") => `(tactic| first | exact isi_str_str (.str _) | exact isi_str_list (.str _) | exact isi_str_tuple (.str _) | exact isi_str_int (.str _) | exact isi_str_bool (.str _) | exact isi_str_dict (.str _) | exact isi_list_str (.lst _) | exact isi_list_list (.lst _) | exact isi_list_tuple (.lst _) | exact isi_list_int (.lst _) | exact isi_list_bool (.lst _) | exact isi_list_dict (.lst _) | exact isi_tuple_str (.tup _) | exact isi_tuple_list (.tup _) | exact isi_tuple_tuple (.tup _) | exact isi_tuple_int (.tup _) | exact isi_tuple_bool (.tup _) | exact isi_tuple_dict (.tup _) | exact isi_int_str (.int _) | exact isi_int_list (.int _) | exact isi_int_tuple (.int _) | exact isi_int_int (.int _) | exact isi_int_bool (.int _) | exact isi_int_dict (.int _) | exact isi_bool_str (.bl _) | exact isi_bool_list (.bl _) | exact isi_bool_tuple (.bl _) | exact isi_bool_int (.bl _) | exact isi_bool_bool (.bl _) | exact isi_bool_dict (.bl _) | exact isi_NoneType_str (.non) | exact isi_NoneType_list (.non) | exact isi_NoneType_tuple (.non) | exact isi_NoneType_int (.non) | exact isi_NoneType_bool (.non) | exact isi_NoneType_dict (.non) | exact isiL_str (by assumption) | exact isiL_list (by assumption) | exact isiL_tuple (by assumption) | exact isiL_int (by assumption) | exact isiL_bool (by assumption) | exact isiL_dict (by assumption))
local macro_rules | `(tactic| walk_at "dlside") => `(tactic| first | (with_reducible assumption) | omega | (exact Or.inr ⟨by omega, by omega⟩) | (exact Or.inl ⟨by omega, by omega⟩) | (with_reducible exact AsS.fr) | (with_reducible exact AsL.fr) | (with_reducible exact AsS.tu) | (with_reducible exact AsD.fr) | (rw [sizeLine_eq]; omega) | (rw [sizeLine_eq]; simp only [List.length_cons, List.length_nil]; omega) | (rw [sizeLine_eq]; simp only [Str.length_append]; omega) | (rw [sizeLine_eq]; decide +kernel) | decide)
local macro_rules | `(tactic| walk_at "dlix") => `(tactic| first | (with_reducible assumption) | exact L2.atI_nat (by with_reducible assumption) | rfl)
local macro_rules | `(tactic| walk_at "dlopv") => `(tactic| first | (with_reducible exact opv_addI) | (with_reducible exact opv_subI) | (with_reducible exact opv_gtI) | (with_reducible exact opv_ltI) | (with_reducible exact opv_leI) | (with_reducible exact opv_geI) | (with_reducible exact opv_eqI) | (with_reducible exact opv_neI) | (with_reducible exact opv_eqS) | (with_reducible exact opv_neS) | (with_reducible exact opv_leS) | (with_reducible exact opv_inSign) | (with_reducible exact opv_notInSign) | ((with_reducible apply opv_modI); (walk_at "dlside")) | ((with_reducible apply opv_divI) <;> walk_at "dlside") | ((with_reducible apply opv_mulI); (walk_at "dlside")) | ((with_reducible apply opv_addC); (walk_at "dlside")) | ((with_reducible apply opv_mulS); (walk_at "dlside"); (walk_at "dlside"); (walk_at "dlside")) | ((with_reducible apply opv_addT); (walk_at "dlside")) | ((with_reducible apply opv_ixS); (walk_at "dlside"); (walk_at "dlix")) | ((with_reducible apply opv_ixStr); (walk_at "dlside"); (walk_at "dlix")) | ((with_reducible apply opv_addL); (walk_at "dlside"); (walk_at "dlside"); (walk_at "dlside")) | ((with_reducible apply opv_inS); (walk_at "dlside")) | ((with_reducible apply opv_notInS); (walk_at "dlside")))
local macro_rules | `(tactic| walk_at "dlca") => `(tactic| first | (apply ca_lenS; (walk_at "dlside")) | (apply ca_lenT; (walk_at "dlside")) | exact ca_min2 | exact ca_max2 | (apply ca_list; (walk_at "dlside")) | (apply ca_lenD; (walk_at "dlside")) | (apply ca_listD; (walk_at "dlside")) | exact ca_tupT | (apply ca_tupL; (walk_at "dlside")) | (apply ca_sortedS; (walk_at "dlside"); (walk_at "dlside")) | walk_at "dlisi")
local macro_rules | `(tactic| walk_at "dlme") => `(tactic| first | (apply me_split <;> walk_at "dlside") | exact me_ends | (apply me_join; (walk_at "dlside"); (walk_at "dlside")))
local macro_rules | `(tactic| walk_at "dlev") => `(tactic| first
  | (with_reducible assumption)
  | exact ev_var rfl | exact ev_int | exact ev_str | exact ev_bl | exact ev_non | exact ev_val | (with_reducible exact ea_nil) | (with_reducible exact et_yes)
  | ((with_reducible apply ev_op); (walk_at "dlev"); (walk_at "dlev"); (walk_at "dlopv"))
  | ((with_reducible apply ea_cons); (walk_at "dlev"); (walk_at "dlev"))
  | ((with_reducible apply ev_cb); (walk_at "dlev"); (walk_at "dlca"))
  | ((with_reducible apply ev_bmS); (walk_at "dlev"); (walk_at "dlev"); (walk_at "dlme"))
  | ((with_reducible apply ev_tup); (walk_at "dlev"); (walk_at "dlside"))
  | ((with_reducible apply ev_lst); (walk_at "dlev"); (walk_at "dlside"))
  | ((with_reducible apply et_test); (walk_at "dlev")) | ((with_reducible apply et_B); (walk_at "dlev"))
  | ((with_reducible apply et_not); (walk_at "dlev"))
  | ((with_reducible apply et_or); (walk_at "dlev"); (intro _; walk_at "dlev"))
  | ((with_reducible apply et_and); (walk_at "dlev"); (intro _; walk_at "dlev"))
  | ((with_reducible apply ev_andV); (walk_at "dlev"); (intro _; walk_at "dlev"))
  | ((with_reducible apply ev_orV); (walk_at "dlev"); (intro _; walk_at "dlev"))
  | ((with_reducible apply ev_chain); (walk_at "dlev"); (walk_at "dlev"); (walk_at "dlopv"); (intro _; walk_at "dlev"); (intro _; walk_at "dlopv"))
  | ((with_reducible apply ev_slL); (walk_at "dlev"); (walk_at "dlev"); (walk_at "dlev"); (walk_at "dlside"))
  | ((with_reducible apply ev_slS); (walk_at "dlev"); (walk_at "dlev"); (walk_at "dlev"); (walk_at "dlside"))
  | ((with_reducible apply ev_fstr); (walk_at "dlev")) | (with_reducible exact ej_nil) | ((with_reducible apply ej_cons); (walk_at "dlev"); (walk_at "dlside"); (walk_at "dlev")) | ((with_reducible apply ev_fmtS); (walk_at "dlev"); (walk_at "dlside"))
  | (with_reducible exact eo_none) | ((with_reducible apply eo_some); (walk_at "dlev")) | ((with_reducible apply ev_un); (walk_at "dlev")) | assumption)
local macro_rules | `(tactic| walk_at "dlevb") => `(tactic| refine EvT.is (by walk_at "dlev") ?_)
local macro_rules | `(tactic| walk_at "dlle") => `(tactic| ((iterate 24 (try (first | exact le_nil | refine le_same ?_ | refine le_none ?_))); done))
section
variable {K : PySem.W.Frag} {mg : Str → Option Value} (T : Tx K mg) {E : XK}
theorem draws_ok (ns : List Int) : ∀ k, Draws (drawsL ns k).2
  | 0 => fun x hx => by cases hx
  | k + 1 => fun x hx => by
    have hx' : x ∈ (drawsL ns k).2 ++ [_] := hx
    rcases List.mem_append.mp hx' with h | h
    · exact draws_ok ns k x h
    · rw [List.mem_singleton.mp h]; exact mix_b _
theorem cutD_any (xs : List Dt) (n : Nat) : cutD xs (some (n : Int)) none = xs.drop n := by
  by_cases h : n ≤ xs.length
  · exact cutD_from xs n h
  · unfold cutD
    rw [HT.sIx_nat, show HT.sIx xs.length xs.length none = xs.length from rfl, Nat.min_eq_right (by omega)]
    rw [List.drop_of_length_le (by omega), List.drop_of_length_le (by omega), List.take_nil]
theorem three_at {C : Addr} {ps ps2 : Pl} {ws ws2 : Wy} {fs fs2 : List Str} (hg : GoodAll ps ws fs) (hg2 : GoodAll ps2 ws2 fs2) (t : Int) (h0 : 0 ≤ t) (h3 : t < 3) :
    ∃ p w f, GoodAll p w f ∧ atI [wD C ps ws fs, wD C ps2 ws2 fs2, wD C ps ws fs] t = some (wD C p w f) ∧ atI [ptD ps ws fs, ptD ps2 ws2 fs2, ptD ps ws fs] t = some (ptD p w f) := by
  have : t = 0 ∨ t = 1 ∨ t = 2 := by omega
  rcases this with rfl | rfl | rfl
  · exact ⟨ps, ws, fs, hg, rfl, rfl⟩
  · exact ⟨ps2, ws2, fs2, hg2, rfl, rfl⟩
  · exact ⟨ps, ws, fs, hg, rfl, rfl⟩
theorem d__law_right_by (hmarks : ∀ s n, s < 2147483629 → n ≤ 4 → Marks ((List.range n).map (mkBy s))) : ∀ m ds O Φ Ψ, p__law_right_by m ds O Φ Ψ → SE K m E (t__law_right_by T E) (startE n__law_right_by ds) O { nx := fun _ O' => Φ .non O', rt := Φ, xs := Ψ } := bodyV (by
  rintro ds d ⟨ns, rfl, rfl⟩
  have hlen : (drawsL ns 50).2.length = 50 := drawsL_len ns 50
  have hdr : Draws (drawsL ns 50).2 := draws_ok ns 50
  refine se_seq (se_asg (EvE.xe (d := .lst (dInts (drawsL ns 50).2)) (ev_call0 (ea_cons (ev_var rfl) (ea_cons ev_int ea_nil)) ⟨ns, 50, rfl, by decide, by decide, rfl⟩) ?_))
  generalize (drawsL ns 50).2 = dd at hlen hdr
  have d0 : atI (dInts dd) 0 = some (.int (dn dd 0)) := dn_at hdr (i := 0) (by omega)
  have d1 : atI (dInts dd) 1 = some (.int (dn dd 1)) := dn_at hdr (i := 1) (by omega)
  have d44 : atI (dInts dd) 44 = some (.int (dn dd 44)) := dn_at hdr (i := 44) (by omega)
  have l0 := dn_lt hdr 0
  have hM := hmarks (dn dd 0) (1 + dn dd 1 % 4) l0 (by omega)
  refine se_seq (se_asg (EvE.xe (d := .lst (dStrs ((List.range (1 + dn dd 1 % 4)).map (mkBy (dn dd 0))))) (EvE.isL (ev_lcR (n := (1 + dn dd 1 % 4 : Nat)) (fun k => some (.str (mkBy (dn dd 0) k))) (ea_cons (EvE.is (by walk_at "dlev") (congrArg Dt.int (by push_cast; rfl))) ea_nil) (by omega) (by omega) (by decide) (fun k p hi => ⟨true, et_yes, fun _ => ⟨_, rfl, ?_⟩, fun h => nomatch h⟩)) (by rw [Int.toNat_natCast, given_range, dStrs, List.map_map]; rfl)) ?_))
  · exact ev_call0 (by walk_at "dlev") ⟨dn dd 0, k, rfl, by omega, by omega, rfl⟩
  generalize ((List.range (1 + dn dd 1 % 4)).map (mkBy (dn dd 0))) = ms at hM
  have hdrop : ∀ n, Draws (dd.drop n) := fun n x hx => hdr x (List.mem_of_mem_drop hx)
  have esl : ∀ (n : Nat) {env : DL.Env} {O : OL}, env[1]? = some (some (.lst (dInts dd))) → EvE K [] (tSl (rSlL K) (tVar 1) (tPart (tC (.int (n : Nat)))) tNoPart) env O (.lst (dInts (dd.drop n))) := fun n env O h =>
    EvE.isL (ev_slL (ev_var h) (eo_some ev_int) eo_none AsL.fr) (by rw [cutD_any, dInts, dInts, List.map_drop])
  refine se_seq (se_asg (XE.e0 (E' := E0) (xe_call (EvA.xa (ea_cons (esl 2 rfl) (ea_cons (ev_var rfl) (ea_cons ev_int ea_nil))) ⟨[], [], rfl, rfl, rfl, dd.drop 2, ms, rfl, by rw [List.length_drop]; omega, hdrop 2, hM, fun ps ws fs hg => ?_⟩))))
  refine se_seq (se_asg (XE.e0 (E' := E0) (xe_call (EvA.xa (ea_cons (esl 22 rfl) (ea_cons (ev_var rfl) (ea_cons ev_int ea_nil))) ⟨[], [], rfl, rfl, rfl, dd.drop 22, ms, rfl, by rw [List.length_drop]; omega, hdrop 22, hM, fun ps2 ws2 fs2 hg2 => ?_⟩))))
  have two : ∀ a b : Dt, [a, b].length ≤ sizeLine := fun a b => by rw [sizeLine_eq]; exact (by decide : 2 ≤ 16777216)
  have three : ∀ a b c : Dt, [a, b, c].length ≤ sizeLine := fun a b c => by rw [sizeLine_eq]; exact (by decide : 3 ≤ 16777216)
  have ix : ∀ {ps ws fs} {i : Nat} {env : DL.Env} {O : OL}, env[i]? = some (some (ptD ps ws fs)) → EvE K [] (tOp (rIx K) (tVar i) (tC (.int 0))) env O (.lst (stD ps)) ∧ EvE K [] (tOp (rIx K) (tVar i) (tC (.int 1))) env O (.lst (wsD ws)) ∧ EvE K [] (tOp (rIx K) (tVar i) (tC (.int 2))) env O (.lst (dStrs fs)) := fun h =>
    ⟨ev_op (ev_var h) ev_int (opv_ixS AsS.fr rfl), ev_op (ev_var h) ev_int (opv_ixS AsS.fr rfl), ev_op (ev_var h) ev_int (opv_ixS AsS.fr rfl)⟩
  refine se_seq (se_asg (XE.frz (xe_lst (xa_cons (xe_list (ix (ps := ps) (ws := ws) (fs := fs) rfl).1 AsS.fr fun a _ => xa_cons (xe_list (ix (ps := ps) (ws := ws) (fs := fs) rfl).2.1 AsS.fr fun b _ => xa_cons (xe_list (ix (ps := ps) (ws := ws) (fs := fs) rfl).2.2 AsS.fr fun c _ => xa_nil ⟨three _ _ _, fun l _ => ⟨0, l, _, rfl, rfl, ?_⟩⟩)))))))
  show SE K [] E _ _ [(c, OD.lst (dStrs fs)), (b, OD.lst (wsD ws)), (a, OD.lst (stD ps))] _
  have hx : ∀ {env : DL.Env} {O : OL}, env[5]? = some (some (.lst [ptr a, ptr b, ptr c])) → EvE K [] (tOp (rIx K) (tVar 5) (tC (.int 0))) env O (ptr a) ∧ EvE K [] (tOp (rIx K) (tVar 5) (tC (.int 1))) env O (ptr b) ∧ EvE K [] (tOp (rIx K) (tVar 5) (tC (.int 2))) env O (ptr c) := fun h =>
    ⟨ev_op (ev_var h) ev_int (opv_ixS AsS.fr rfl), ev_op (ev_var h) ev_int (opv_ixS AsS.fr rfl), ev_op (ev_var h) ev_int (opv_ixS AsS.fr rfl)⟩
  refine se_seq (se_asg (xe_lst (xa_cons (XE.frz (XE.e0 (E' := E0) (xe_make (EvA.xa (ea_cons (hx rfl).1 (ea_cons (hx rfl).2.1 (ea_cons (hx rfl).2.2 ea_nil))) ⟨_, [], (List.append_nil _).symm, fun x _ => ⟨rfl, x, _, _, _, ps, ws, fs, _, rfl, rfl, .inr ⟨a, 2, rfl, rfl⟩, .inr ⟨b, 1, rfl, rfl⟩, .inr ⟨c, 0, rfl, rfl⟩, hg, rfl, 0, x, _, rfl, rfl,
    xa_cons (XE.frz (XE.e0 (E' := E0) (xe_make (EvA.xa (ea_cons (ix (ps := ps2) (ws := ws2) (fs := fs2) rfl).1 (ea_cons (ix (ps := ps2) (ws := ws2) (fs := fs2) rfl).2.1 (ea_cons (ix (ps := ps2) (ws := ws2) (fs := fs2) rfl).2.2 ea_nil))) ⟨_, [], (List.append_nil _).symm, fun x2 _ => ⟨rfl, x2, _, _, _, ps2, ws2, fs2, _, rfl, rfl, AsL.fr, AsL.fr, AsL.fr, hg2, rfl, 0, x2, _, rfl, rfl, xa_nil ⟨two _ _, fun w _ => ?_⟩⟩⟩))))⟩⟩)))))))
  show SE K [] E _ _ [(w, OD.lst [wD T.World_a ps ws fs, wD T.World_a ps2 ws2 fs2]), (c, OD.lst (dStrs fs)), (b, OD.lst (wsD ws)), (a, OD.lst (stD ps))] _
  have hpn := hg.p.len; have hwn := hg.w.tot; have hfn := hg.f.ne
  refine se_seq (se_forL1 (σT := List Dt × List Dt × List Dt) (xs := [ptr a, ptr b, ptr c]) (fun i s => s.1.length ≤ 100 + i ∧ s.2.1.length ≤ 100 + i ∧ s.2.2.length ≤ 100 + i) (fun _ _ => [some (.lst (dInts ns)), some (.lst (dInts dd)), some (.lst (dStrs ms)), some (ptD ps ws fs), some (ptD ps2 ws2 fs2), some (.lst [ptr a, ptr b, ptr c]), some (ptr w), none, none, none, none, none, none])
    (fun _ s => [(w, .lst [wD T.World_a ps ws fs, wD T.World_a ps2 ws2 fs2]), (c, .lst s.2.2), (b, .lst s.2.1), (a, .lst s.1)]) (stD ps, wsD ws, dStrs fs) (ev_var rfl) ⟨by show (stD ps).length ≤ 100; rw [stD, List.length_map]; omega, by show (wsD ws).length ≤ 100; rw [wsD, List.length_map]; omega, by show (dStrs fs).length ≤ 100; rw [List.length_map]; omega⟩ (by walk_at "dlle") rfl mono_se (fun i x s hx' hP => ?_) (fun s _ => ?_))
  · have hi : i < 3 := (List.getElem?_eq_some_iff.mp hx').1
    have hz : ∀ n : Nat, n ≤ 102 → n < sizeLine := fun n h => by rw [sizeLine_eq]; omega
    have : i = 0 ∨ i = 1 ∨ i = 2 := by omega
    obtain ⟨q1, q2, q3⟩ := hP
    rcases this with rfl | rfl | rfl
    · cases hx'
      refine se_seq (se_append (k := 3) (ev_var rfl) rfl (EvE.xe ev_str ⟨3, _, rfl, hz _ (by omega), ?_⟩))
      exact se_reverse (k := 3) (ev_var rfl) rfl ⟨((s.1 ++ [Dt.str "zz"]).reverse, s.2.1, s.2.2), ⟨by show (s.1 ++ [_]).reverse.length ≤ _; rw [List.length_reverse, List.length_append, List.length_singleton]; omega, by show s.2.1.length ≤ _; omega, by show s.2.2.length ≤ _; omega⟩, by walk_at "dlle", rfl⟩
    · cases hx'
      refine se_seq (se_append (k := 2) (ev_var rfl) rfl (EvE.xe ev_str ⟨2, _, rfl, hz _ (by omega), ?_⟩))
      exact se_reverse (k := 2) (ev_var rfl) rfl ⟨(s.1, (s.2.1 ++ [Dt.str "zz"]).reverse, s.2.2), ⟨by show s.1.length ≤ _; omega, by show (s.2.1 ++ [_]).reverse.length ≤ _; rw [List.length_reverse, List.length_append, List.length_singleton]; omega, by show s.2.2.length ≤ _; omega⟩, by walk_at "dlle", rfl⟩
    · cases hx'
      refine se_seq (se_append (k := 1) (ev_var rfl) rfl (EvE.xe ev_str ⟨1, _, rfl, hz _ (by omega), ?_⟩))
      exact se_reverse (k := 1) (ev_var rfl) rfl ⟨(s.1, s.2.1, (s.2.2 ++ [Dt.str "zz"]).reverse), ⟨by show s.1.length ≤ _; omega, by show s.2.1.length ≤ _; omega, by show (s.2.2 ++ [_]).reverse.length ≤ _; rw [List.length_reverse, List.length_append, List.length_singleton]; omega⟩, by walk_at "dlle", rfl⟩
  · refine SE.dropO (k := 1) (by show 1 < 4; decide) (SE.dropO (k := 1) (by show 1 < 3; decide) (SE.dropO (k := 1) (by show 1 < 2; decide) ?_))
    show SE K [] E _ _ [(w, OD.lst [wD T.World_a ps ws fs, wD T.World_a ps2 ws2 fs2])] _
    refine se_seq (se_append (k := 0) (ev_var rfl) rfl (XE.e0 (E' := E0) (xe_call (EvA.xa (ea_cons (ev_meth0 (ev_op (ev_var rfl) ev_int (opv_ixS (AsS.own 0 rfl) rfl)) (asI _ _ ps ws fs) (fno _ _ _ _ (by decide +kernel)) ea_nil ⟨ps, ws, fs, rfl, hg, rfl⟩) ea_nil) ⟨[], _, rfl, rfl, ps, ws, fs, rfl, rfl, hg, 0, _, rfl, by rw [sizeLine_eq]; exact (by decide : 2 < 16777216), ?_⟩))))
    show SE K [] E _ _ [(w, OD.lst [wD T.World_a ps ws fs, wD T.World_a ps2 ws2 fs2, wD T.World_a ps ws fs])] _
    refine se_seq (se_asg (xe_lst (xa_nil ⟨by decide, fun h _ => ?_⟩)))
    refine se_seq (se_forR1p (σT := List Dt) (n := 4) (fun i s => s.length ≤ 7 * i ∧ ∀ d ∈ s, HeldOk d) (fun _ _ => [some (.lst (dInts ns)), some (.lst (dInts dd)), some (.lst (dStrs ms)), some (ptD ps ws fs), some (ptD ps2 ws2 fs2), some (.lst [ptr a, ptr b, ptr c]), some (ptr w), none, some (ptr h), none, none, none, none])
      (fun _ s => [(h, .lst s), (w, .lst [wD T.World_a ps ws fs, wD T.World_a ps2 ws2 fs2, wD T.World_a ps ws fs])]) [] (by walk_at "dlev") (by omega) ⟨Nat.le_refl _, fun d hd => nomatch hd⟩ (by walk_at "dlle") rfl mono_se (fun i s hi hP => ?_) (fun s hP => ?_))
    · refine se_seq (se_asg (EvE.xe (by walk_at "dlev") ?_))
      obtain ⟨pX, wX, fX, hgX, hX1, hX2⟩ := three_at (C := T.World_a) hg hg2 (((i : Int) + (dn dd 44 : Nat)) % 3) (Int.emod_nonneg _ (by decide)) (Int.emod_lt_of_pos _ (by decide))
      have dk : atI (dInts dd) (45 + (i : Int)) = some (.int (dn dd (45 + i))) := by
        rw [show (45 : Int) + i = ((45 + i : Nat) : Int) by omega]; exact dn_at hdr (by omega)
      have ldk := dn_lt hdr (45 + i)
      have t3 := three (ptD ps ws fs) (ptD ps2 ws2 fs2) (ptD ps ws fs)
      refine se_if (xt_notB (XE.e0 (E' := E0) (xe_call (EvA.xa (ea_cons (ev_op (ev_var rfl) (ev_var rfl) (opv_ixS (AsS.own 1 rfl) hX1)) (ea_cons (ev_op (ev_lst (ea_cons (ev_var rfl) (ea_cons (ev_var rfl) (ea_cons (ev_var rfl) ea_nil))) t3) (ev_var rfl) (opv_ixS AsS.fr hX2)) (ea_cons (ev_op (ev_var rfl) (ev_op ev_int (ev_var rfl) opv_addI) (opv_ixS AsS.fr dk)) (ea_cons (ev_var rfl) ea_nil)))) ⟨[(h, .lst s)], _, rfl, rfl, pX, wX, fX, _, h, s, rfl, rfl, hgX, by omega, by omega, by have := hP.1; omega, hP.2, fun hs' h1 h2 => ⟨true, rfl, (fun z => nomatch z), fun _ => se_next ⟨hs', ⟨by have := hP.1; omega, h2⟩, by walk_at "dlle", rfl⟩⟩⟩))))
    · refine SE.dropO (k := 1) (by show 1 < 2; decide) ?_
      show SE K [] E _ _ [(h, OD.lst s)] _
      refine SE.frz (k := 0) (p := h) (env' := [none, none, none, none, none, none, none, none, some (.lst s), none, none, none, none]) rfl (fun j d' hj => ?_) rfl ?_
      · rcases j with _ | _ | _ | _ | _ | _ | _ | _ | _ | _ | _ | _ | _ | _
        all_goals first | (cases hj; exact Or.inr ⟨rfl, rfl⟩) | cases hj
      · have hsn : s.length ≤ 28 := hP.1
        refine se_ret (EvE.xe (EvE.is (ev_cb (ea_cons (EvE.isL (ys := ((List.range s.length).map fun _ => true).map Dt.bl) (ev_lcL (xs := s) (f := fun _ => some (.bl true)) (ev_var rfl) (by omega) (fun i x p hx => ?_)) ?_) ea_nil) (ca_all AsL.fr)) ?_) ⟨rfl, rfl⟩)
        · obtain ⟨ys, hy1, hy2, rfl⟩ := hP.2 x (List.mem_of_getElem? hx)
          obtain ⟨v1, v2, v3, v4⟩ := show_strs (xs := ys) (fun x hx' => ⟨(hy2 x hx').1, by have := (hy2 x hx').2; omega⟩) (by omega)
          exact ⟨_, true, eg_tup2 (by decide), et_yes, fun _ => ⟨_, rfl, EvE.is (ev_op (ev_cb (ea_cons (ev_var rfl) ea_nil) (ca_repr (isPy_strs ys) v1 v2 v3 v4)) (ev_var rfl) opv_eqS) (by rw [decide_eq_true rfl])⟩, fun h => nomatch h⟩
        · rw [given_range, List.map_map]; rfl
        · rw [List.all_map]
          congr 1
          rw [List.all_eq_true]; intro _ _; rfl)
theorem d_law : ∀ m ds O Φ Ψ, p_law m ds O Φ Ψ → SE K m E (t_law T E) (startE n_law ds) O { nx := fun _ O' => Φ .non O', rt := Φ, xs := Ψ } := bodyV (by
  rintro ds d ⟨ns, rfl, hn, rfl⟩
  have hl := dInts_len ns
  have e1 : EvE K [] (tSl (rSlL K) (tVar 0) (tPart (tC (.int 1))) tNoPart) (startE n_law [.lst (dInts ns)]) [] (.lst (dInts (ns.drop 1))) := EvE.isL (ev_slL (ev_var rfl) (eo_some ev_int) eo_none AsL.fr) (by
    rw [show (1 : Int) = ((1 : Nat) : Int) from rfl, cutD_any, dInts, dInts, List.map_drop])
  have hz : (dInts (ns.drop 1)).length + [Dt.int (7 + ((dInts ns).length : Nat))].length ≤ sizeLine := by
    rw [dInts_len, List.length_drop, List.length_singleton, sizeLine_eq]; omega
  have h1 : [Dt.int (7 + ((dInts ns).length : Nat))].length ≤ sizeLine := by rw [sizeLine_eq]; exact (by decide : 1 ≤ 16777216)
  have e2 : EvE K [] (tOp (rAddU K) (tSl (rSlL K) (tVar 0) (tPart (tC (.int 1))) tNoPart) (tLst (tCons (tOp (rAddU K) (tC (.int 7)) (tCB (rLen K) (tCons (tVar 0) tNil))) tNil))) (startE n_law [.lst (dInts ns)]) [] (.lst (dInts (ns.drop 1 ++ [7 + ((ns.length : Nat) : Int)]))) := EvE.isL (ev_op e1 (ev_lst (ea_cons (ev_op ev_int (ev_cb (ea_cons (ev_var rfl) ea_nil) (ca_lenS AsS.fr)) opv_addI) ea_nil) h1) (opv_addL AsL.fr AsL.fr hz)) (by rw [hl, dInts, dInts, List.map_append]; rfl)
  have h3 : ∀ a b c : Dt, [a, b, c].length ≤ sizeLine := fun a b c => by rw [sizeLine_eq]; exact (by decide : 3 ≤ 16777216)
  refine se_seq (se_forL1 (σT := Unit) (xs := [.lst (dInts ns), .lst (dInts (ns.drop 1 ++ [7 + ((ns.length : Nat) : Int)])), .lst (dInts ns)]) (fun _ _ => True) (fun _ _ => [some (.lst (dInts ns)), none]) (fun _ _ => []) () (ev_lst (ea_cons (ev_var rfl) (ea_cons e2 (ea_cons (ev_var rfl) ea_nil))) (h3 _ _ _)) trivial (by walk_at "dlle") rfl mono_se (fun i x u hx _ => ?_) (fun u _ => ?_))
  · have hx' : ∃ ms : List Int, x = .lst (dInts ms) := by
      have hi : i < 3 := (List.getElem?_eq_some_iff.mp hx).1
      have : i = 0 ∨ i = 1 ∨ i = 2 := by omega
      rcases this with rfl | rfl | rfl <;> cases hx <;> exact ⟨_, rfl⟩
    obtain ⟨ms, rfl⟩ := hx'
    exact se_ifF (EvT.is (et_not (et_B (ev_call0 (ea_cons (ev_var rfl) ea_nil) ⟨ms, rfl, rfl⟩))) (by rfl)) (se_next ⟨(), trivial, by walk_at "dlle", rfl⟩)
  · exact se_ret (EvE.xe ev_bl ⟨rfl, rfl⟩))
end
end K61

namespace K61
open PySem L2 DL
/-! the law's marks are marks, and different ones -/
def keptX : List Str := ["yes", "no", "not", "and", "or", "then", "until", "since", "frees", "held", "next", "before", "early", "soon", "ever", "once", "sofar", "again", "settles"]
theorem kept_eq : keptL = keptX := by decide +kernel
theorem small_in : ∀ i, i < 26 → 97 + i ∈ smallT.cps.toList := by decide +kernel
theorem small_no0 : (48 : Nat) ∉ smallT.cps.toList := by decide +kernel
theorem kept_no0 : ∀ x ∈ keptX, (48 : Nat) ∉ x.cps.toList ∧ x.length ≤ 7 := by decide +kernel
theorem markB_of {x : Str} (h1 : 1 ≤ x.length) (h8 : x.length ≤ 8) (h : x.cps.toList.headD 0 ∈ smallT.cps.toList) (ha : ∀ c ∈ x.cps.toList, c ∈ smallT.cps.toList ∨ c ∈ figT.cps.toList) (hk : x ∉ keptL) : markB x = true := by
  unfold markB
  rw [decide_eq_true (by omega), decide_eq_true (by omega), decide_eq_true h, decide_eq_false hk]
  simp only [Bool.and_self, Bool.not_true, Bool.or_self, Bool.not_false, Bool.true_and, Bool.and_true, List.all_eq_true, Bool.or_eq_true, decide_eq_true_eq]
  exact ha
theorem rep_mark : ∀ c, c < 26 → ∀ k, k < 8 → markB (repS (let1 c) (1 + k)) = true := by
  intro c hc k hk
  have e : (repS (let1 c) (1 + k)).cps.toList = List.replicate (1 + k) (97 + c) := by
    show (List.replicate (1 + k) [97 + c % 26]).flatten.toArray.toList = _
    rw [Nat.mod_eq_of_lt hc]
    have : ∀ n, (List.replicate n [97 + c]).flatten = List.replicate n (97 + c) := by
      intro n
      induction n with
      | zero => rfl
      | succ n ih => rw [List.replicate_succ, List.flatten_cons, ih]; rfl
    rw [this]
  have el : (repS (let1 c) (1 + k)).length = 1 + k := by rw [repS_len]; show 1 * (1 + k) = _; omega
  refine markB_of (by omega) (by omega) ?_ ?_ ?_
  · rw [e, Nat.add_comm, List.replicate_succ]; exact small_in c hc
  · intro d hd
    rw [e] at hd
    rw [(List.mem_replicate.mp hd).2]
    exact .inl (small_in c hc)
  · rw [kept_eq]
    intro z
    have key : ∀ x ∈ keptX, 2 ≤ x.length ∧ x.cps.toList[0]? ≠ x.cps.toList[1]? := by decide +kernel
    obtain ⟨h1, h2⟩ := key _ z
    rw [e] at h2
    rw [el] at h1
    apply h2
    rw [List.getElem?_replicate, List.getElem?_replicate, if_pos (by omega), if_pos (by omega)]
/-- the signs of a loop's mark -/
def sgn (s k i : Nat) : Nat := if i = s / 4 % 7 then 97 + (s / 224 + k) % 26 else 97 + (s / 7 + i * (1 + s % 5)) % 26
theorem mkLoop_cps (s k : Nat) : ∀ t, (mkLoop s k t).cps.toList = (List.range t).map (sgn s k)
  | 0 => by
    show ("" : Str).cps.toList = []
    decide +kernel
  | t + 1 => by
    unfold mkLoop
    rw [cps_app, mkLoop_cps s k t, List.range_succ, List.map_append]
    congr 1
    unfold sgn
    show (if t = s / 4 % 7 then let1 (s / 224 + k) else let1 (s / 7 + t * (1 + s % 5))).cps.toList = [if t = s / 4 % 7 then _ else _]
    split <;> rfl
theorem sgn_in (s k i : Nat) : sgn s k i ∈ smallT.cps.toList := by
  unfold sgn
  split <;> exact small_in _ (Nat.mod_lt _ (by decide))
def nLen (s : Nat) : Nat := s / 4 % 7 + 1 + s / 28 % (8 - s / 4 % 7)
theorem nLen_b (s : Nat) : s / 4 % 7 < nLen s ∧ nLen s ≤ 8 := by
  have h1 := Nat.mod_lt (s / 4) (show 0 < 7 by decide)
  have h2 := Nat.mod_lt (s / 28) (show 0 < 8 - s / 4 % 7 by omega)
  unfold nLen
  omega
theorem loop_sm {s k : Nat} : ∀ c ∈ (mkLoop s k (nLen s)).cps.toList, c ∈ smallT.cps.toList := by
  intro c hc
  rw [mkLoop_cps] at hc
  obtain ⟨i, _, rfl⟩ := List.mem_map.mp hc
  exact sgn_in s k i
theorem loop_hd {s k : Nat} : ∃ c r, (mkLoop s k (nLen s)).cps.toList = c :: r ∧ c ∈ smallT.cps.toList := by
  have hb := nLen_b s
  have e := mkLoop_cps s k (nLen s)
  obtain ⟨n, hn⟩ : ∃ n, nLen s = n + 1 := ⟨nLen s - 1, by omega⟩
  rw [hn, List.range_succ_eq_map, List.map_cons] at e
  exact ⟨_, _, by rw [hn]; exact e, sgn_in s k 0⟩
theorem loop_inj {s k k' : Nat} (hk : k ≤ 7) (hk' : k' ≤ 7) (h : mkLoop s k (nLen s) = mkLoop s k' (nLen s)) : k = k' := by
  have e := congrArg (fun x : Str => x.cps.toList) h
  simp only [mkLoop_cps] at e
  have hb := nLen_b s
  have e2 := congrArg (fun l : List Nat => l[s / 4 % 7]?) e
  simp only [List.getElem?_map, List.getElem?_range hb.1, Option.map_some] at e2
  have e3 := Option.some.inj e2
  unfold sgn at e3
  rw [if_pos rfl, if_pos rfl] at e3
  omega
theorem cut7 {x : Str} (h : x.length ≤ 7) : cutS x none (some 7) = x := by
  refine str_ext ?_
  unfold cutS
  rw [show HT.sIx x.length 0 none = 0 from rfl, show (some 7 : Option Int) = some ((7 : Nat) : Int) from rfl, HT.sIx_nat, List.drop_zero, Nat.sub_zero, Nat.min_eq_right h]
  rw [List.take_of_length_le (by rw [Array.length_toList]; exact Nat.le_refl _)]
/-- the three ways of a mark -/
theorem mkBy_cases (s k : Nat) (hk : k ≤ 7) : (s % 4 = 0 ∧ mkBy s k = repS (let1 (s / 4 % 26)) (1 + k)) ∨ (¬ s % 4 = 0 ∧ mkLoop s k (nLen s) ∈ keptX ∧ mkBy s k = mkLoop s k (nLen s) ++ "0") ∨ (¬ s % 4 = 0 ∧ mkLoop s k (nLen s) ∉ keptX ∧ mkBy s k = mkLoop s k (nLen s)) := by
  by_cases h4 : s % 4 = 0
  · refine .inl ⟨h4, ?_⟩
    unfold mkBy
    rw [if_pos h4]
    have : let1 (s / 4) = let1 (s / 4 % 26) := by unfold let1; rw [Nat.mod_mod]
    rw [this]
  · by_cases hx : mkLoop s k (nLen s) ∈ keptX
    · refine .inr (.inl ⟨h4, hx, ?_⟩)
      have : mkBy s k = (if mkLoop s k (nLen s) ∈ keptL then cutS (mkLoop s k (nLen s)) none (some 7) ++ "0" else mkLoop s k (nLen s)) := by unfold mkBy; rw [if_neg h4]; rfl
      rw [this, kept_eq, if_pos hx, cut7 (kept_no0 _ hx).2]
    · refine .inr (.inr ⟨h4, hx, ?_⟩)
      have : mkBy s k = (if mkLoop s k (nLen s) ∈ keptL then cutS (mkLoop s k (nLen s)) none (some 7) ++ "0" else mkLoop s k (nLen s)) := by unfold mkBy; rw [if_neg h4]; rfl
      rw [this, kept_eq, if_neg hx]
theorem zero_cps : ("0" : Str).cps.toList = [48] := by decide +kernel
theorem fig0 : (48 : Nat) ∈ figT.cps.toList := by decide +kernel
theorem mkBy_mark (s k : Nat) (hk : k ≤ 7) : markB (mkBy s k) = true := by
  have hb := nLen_b s
  have hl := mkLoop_len s k (nLen s)
  obtain ⟨c, r, hc, hcs⟩ := loop_hd (s := s) (k := k)
  rcases mkBy_cases s k hk with ⟨_, e⟩ | ⟨_, hx, e⟩ | ⟨_, hx, e⟩
  · rw [e]; exact rep_mark _ (Nat.mod_lt _ (by decide)) k (by omega)
  · have h7 := (kept_no0 _ hx).2
    have l0 : ("0" : Str).length = 1 := by decide +kernel
    rw [e]
    refine markB_of (by rw [Str.length_append]; omega) (by rw [Str.length_append]; omega) ?_ ?_ ?_
    · rw [cps_app, hc]; exact hcs
    · intro d hd
      rw [cps_app, zero_cps] at hd
      rcases List.mem_append.mp hd with hd | hd
      · exact .inl (loop_sm d hd)
      · rw [List.mem_singleton.mp hd]; exact .inr fig0
    · rw [kept_eq]
      intro z
      refine (kept_no0 _ z).1 ?_
      rw [cps_app, zero_cps]; simp
  · rw [e]
    refine markB_of (by omega) (by omega) ?_ ?_ (by rw [kept_eq]; exact hx)
    · rw [hc]; exact hcs
    · exact fun d hd => .inl (loop_sm d hd)
theorem app_inj {x y z : Str} (h : x ++ z = y ++ z) : x = y := by
  have e := congrArg (fun w : Str => w.cps.toList) h
  simp only [cps_app] at e
  exact str_ext (List.append_cancel_right e)
theorem no0 (s k : Nat) : (48 : Nat) ∉ (mkLoop s k (nLen s)).cps.toList := fun h => small_no0 (loop_sm _ h)
theorem mkBy_inj (s : Nat) {k k' : Nat} (hk : k ≤ 7) (hk' : k' ≤ 7) (h : mkBy s k = mkBy s k') : k = k' := by
  have z0 : ∀ j, (48 : Nat) ∈ (mkLoop s j (nLen s) ++ "0").cps.toList := fun j => by rw [cps_app, zero_cps]; simp
  rcases mkBy_cases s k hk with ⟨h4, e⟩ | ⟨h4, hx, e⟩ | ⟨h4, hx, e⟩ <;> rcases mkBy_cases s k' hk' with ⟨h4', e'⟩ | ⟨h4', hx', e'⟩ | ⟨h4', hx', e'⟩
  · rw [e, e'] at h
    have := congrArg Str.length h
    rw [repS_len, repS_len] at this
    have h1 : (let1 (s / 4 % 26)).length = 1 := rfl
    rw [h1] at this
    omega
  · exact absurd h4 h4'
  · exact absurd h4 h4'
  · exact absurd h4' h4
  · rw [e, e'] at h; exact loop_inj hk hk' (app_inj h)
  · rw [e, e'] at h; exact absurd (by rw [← h]; exact z0 k) (no0 s k')
  · exact absurd h4' h4
  · rw [e, e'] at h; exact absurd (by rw [h]; exact z0 k') (no0 s k)
  · rw [e, e'] at h; exact loop_inj hk hk' h
theorem nodup_map {α β : Type} {f : α → β} {xs : List α} (h : xs.Nodup) (hf : ∀ a ∈ xs, ∀ b ∈ xs, f a = f b → a = b) : (xs.map f).Nodup :=
  List.pairwise_map.mpr (List.Pairwise.imp_of_mem (fun {a b} ha hb q z => q (hf a ha b hb z)) h)
theorem marks_all (s n : Nat) : s < 2147483629 → n ≤ 4 → Marks ((List.range n).map (mkBy s)) := fun _ hn =>
  ⟨nodup_map List.nodup_range fun a ha b hb e => mkBy_inj s (by have := List.mem_range.mp ha; omega) (by have := List.mem_range.mp hb; omega) e, by rw [List.length_map, List.length_range]; exact hn, fun x hx => by
    obtain ⟨k, hk, rfl⟩ := List.mem_map.mp hx
    exact mkBy_mark s k (by have := List.mem_range.mp hk; omega)⟩
theorem pick_sub {ms : List Str} {dr : Nat} : ∀ x ∈ pick ms dr, x ∈ ms := by
  intro x hx
  obtain ⟨i, hi, rfl⟩ := List.mem_map.mp hx
  have := List.mem_range.mp (List.mem_filter.mp hi).1
  rw [List.getD_eq_getElem?_getD, List.getElem?_eq_getElem this]
  exact List.getElem_mem this
theorem pick_nd {ms : List Str} (h : ms.Nodup) (dr : Nat) : (pick ms dr).Nodup := by
  refine nodup_map (List.Pairwise.filter _ List.nodup_range) fun a ha b hb e => ?_
  have h1 := List.mem_range.mp (List.mem_filter.mp ha).1
  have h2 := List.mem_range.mp (List.mem_filter.mp hb).1
  simp only [List.getD_eq_getElem?_getD, List.getElem?_eq_getElem h1, List.getElem?_eq_getElem h2, Option.getD_some] at e
  exact (List.getElem_inj h).mp e
theorem pick_mom {ms : List Str} (h : Marks ms) (dr : Nat) : Mom (srtS (pick ms dr)) := by
  have hp := srtS_perm (pick ms dr)
  refine ⟨?_, fun x hx => h.2.2 x (pick_sub x (hp.mem_iff.mp hx)), ?_⟩
  · rw [hp.length_eq]
    unfold pick
    rw [List.length_map]
    have := List.length_filter_le (fun i => decide (dr / 2 ^ i % 2 = 1)) (List.range ms.length)
    rw [List.length_range] at this
    have := h.2.1
    omega
  · have nd : (srtS (pick ms dr)).Nodup := hp.nodup_iff.mpr (pick_nd h.1 dr)
    refine ((srtS_pw (pick ms dr)).and nd).imp fun {a b} ⟨h1, h2⟩ => ?_
    cases q : leS b a with
    | false => rfl
    | true => exact absurd (leS_anti h1 q) h2
theorem one_of {α : Type} {g : Nat → List α} {k0 : Nat} : ∀ n, k0 < n → (∀ k, k < n → k ≠ k0 → g k = []) → (List.range n).flatMap g = g k0
  | 0, h, _ => absurd h (by omega)
  | n + 1, h, hg => by
    rw [List.range_succ, List.flatMap_append, List.flatMap_singleton]
    by_cases e : k0 = n
    · subst e
      have : (List.range k0).flatMap g = [] := by
        rw [List.flatMap_eq_nil_iff]
        intro k hk
        have := List.mem_range.mp hk
        exact hg k (by omega) (by omega)
      rw [this]; rfl
    · rw [one_of n (by omega) fun k hk => hg k (by omega), hg n (by omega) (by omega), List.append_nil]
theorem mod_inj {n a i j : Nat} (hi : i < n) (hj : j < n) (h : (a + i) % n = (a + j) % n) : i = j := by
  have hn : 0 < n := by omega
  rw [Nat.add_mod, Nat.add_mod a j] at h
  have ha := Nat.mod_lt a hn
  rw [Nat.mod_eq_of_lt hi, Nat.mod_eq_of_lt hj] at h
  generalize a % n = b at ha h
  by_cases h1 : b + i < n <;> by_cases h2 : b + j < n
  · rw [Nat.mod_eq_of_lt h1, Nat.mod_eq_of_lt h2] at h; omega
  · rw [Nat.mod_eq_of_lt h1, Nat.mod_eq_sub_mod (by omega), Nat.mod_eq_of_lt (by omega)] at h; omega
  · rw [Nat.mod_eq_of_lt h2, Nat.mod_eq_sub_mod (by omega), Nat.mod_eq_of_lt (by omega)] at h; omega
  · rw [Nat.mod_eq_sub_mod (by omega), Nat.mod_eq_of_lt (by omega), Nat.mod_eq_sub_mod (a := b + j) (by omega), Nat.mod_eq_of_lt (by omega)] at h; omega
theorem good_all (dd : List Int) (ms : List Str) (_ : Draws dd) (hm : Marks ms) : GoodAll (lPs dd ms) (lWs dd) (lFs dd) := by
  have hn8 : 1 ≤ many dd ∧ many dd ≤ 8 := by unfold many; omega
  generalize hn : many dd = n at hn8
  have e1 : (lPs dd ms).map (·.1) = (List.range n).map (plc dd) := by
    unfold lPs
    rw [List.map_map, hn]; rfl
  have inj : ∀ {i j : Nat}, i < n → j < n → plc dd i = plc dd j → i = j := fun hi hj e => mkBy_inj _ (by omega) (by omega) e
  have pm : ∀ i, i < n → plc dd i ∈ (lPs dd ms).map (·.1) := fun i hi => by rw [e1]; exact List.mem_map.mpr ⟨i, List.mem_range.mpr hi, rfl⟩
  have lt : ∀ a, a % n < n := fun a => Nat.mod_lt _ (by omega)
  have gp : GoodP (lPs dd ms) := by
    refine ⟨?_, ?_, fun x hx => ?_⟩
    · rw [e1]; exact nodup_map List.nodup_range fun a ha b hb => inj (List.mem_range.mp ha) (List.mem_range.mp hb)
    · unfold lPs; rw [List.length_map, List.length_range, hn]; exact hn8
    · unfold lPs at hx
      obtain ⟨k, hk, rfl⟩ := List.mem_map.mp hx
      have := List.mem_range.mp hk
      exact ⟨mkBy_mark _ k (by omega), pick_mom hm _⟩
  have w1 : ∀ k, lWs1 dd k = (List.range (1 + dn dd (10 + k) % min 3 n)).map fun j => (plc dd ((k + dn dd 18) % n), plc dd ((dn dd (10 + k) / 3 + j) % n)) := fun k => by unfold lWs1; rw [hn]
  have wl : ∀ k, 1 ≤ (lWs1 dd k).length ∧ (lWs1 dd k).length ≤ min 3 n := fun k => by
    rw [w1, List.length_map, List.length_range]
    have := Nat.mod_lt (dn dd (10 + k)) (show 0 < min 3 n by omega)
    omega
  have wmem : ∀ {k w}, w ∈ lWs1 dd k → w.1 = plc dd ((k + dn dd 18) % n) ∧ ∃ j, j < min 3 n ∧ w.2 = plc dd ((dn dd (10 + k) / 3 + j) % n) := fun {k w} h => by
    rw [w1] at h
    obtain ⟨j, hj, rfl⟩ := List.mem_map.mp h
    have h1 := List.mem_range.mp hj
    have := Nat.mod_lt (dn dd (10 + k)) (show 0 < min 3 n by omega)
    exact ⟨rfl, j, by omega, rfl⟩
  refine ⟨gp, ⟨?_, fun w hw => ?_, fun x hx => ?_, ?_⟩, ⟨?_, ?_, fun f hf => ?_⟩⟩
  · unfold lWs
    rw [hn]
    refine List.pairwise_flatMap.mpr ?_
    refine ⟨fun k hk => ?_, ?_⟩
    · rw [w1]
      refine nodup_map List.nodup_range fun a ha b hb e => ?_
      have h1 := List.mem_range.mp ha
      have h2 := List.mem_range.mp hb
      have h3 := Nat.mod_lt (dn dd (10 + k)) (show 0 < min 3 n by omega)
      exact mod_inj (n := n) (by omega) (by omega) (inj (lt _) (lt _) (Prod.mk.inj e).2)
    · refine List.Pairwise.imp_of_mem (fun {a b} ha hb hab => ?_) List.nodup_range
      intro w h1 w' h2 hww
      subst hww
      have e3 := (wmem h1).1.symm.trans (wmem h2).1
      have e4 := inj (lt _) (lt _) e3
      rw [Nat.add_comm a, Nat.add_comm b] at e4
      exact hab (mod_inj (List.mem_range.mp ha) (List.mem_range.mp hb) e4)
  · unfold lWs at hw
    obtain ⟨k, _, hk⟩ := List.mem_flatMap.mp hw
    obtain ⟨h1, j, _, h2⟩ := wmem hk
    rw [h1, h2]
    exact ⟨pm _ (lt _), pm _ (lt _)⟩
  · have hx' : x.1 ∈ (lPs dd ms).map (·.1) := List.mem_map.mpr ⟨x, hx, rfl⟩
    rw [e1] at hx'
    obtain ⟨i, hi, e⟩ := List.mem_map.mp hx'
    have hi' := List.mem_range.mp hi
    -- the turn that leads from this place
    obtain ⟨k0, hk0, hk⟩ : ∃ k0, k0 < n ∧ (k0 + dn dd 18) % n = i := by
      refine ⟨(i + (n - dn dd 18 % n)) % n, lt _, ?_⟩
      have h1 := lt (dn dd 18)
      rw [Nat.mod_add_mod]
      have h2 : i + (n - dn dd 18 % n) + dn dd 18 = i + n * (1 + dn dd 18 / n) := by
        have := Nat.div_add_mod (dn dd 18) n
        rw [Nat.mul_add, Nat.mul_one]
        omega
      rw [h2, Nat.add_mul_mod_self_left, Nat.mod_eq_of_lt hi']
    have hf : nxs (lWs dd) x.1 = (lWs1 dd k0).map (·.2) := by
      unfold nxs lWs
      rw [hn, List.filter_flatMap, one_of (k0 := k0) n hk0 (fun k hkn hne => ?_)]
      · congr 1
        rw [List.filter_eq_self]
        intro w hw
        rw [decide_eq_true_eq, (wmem hw).1, hk, e]
      · rw [List.filter_eq_nil_iff]
        intro w hw z
        rw [decide_eq_true_eq, (wmem hw).1, ← e] at z
        have e4 := inj (lt _) hi' z
        rw [← hk, Nat.add_comm k, Nat.add_comm k0] at e4
        exact hne (mod_inj hkn hk0 e4)
    rw [hf, List.length_map]
    have := wl k0
    omega
  · have key : ∀ m, ((List.range m).flatMap (lWs1 dd)).length ≤ 3 * m := by
      intro m
      induction m with
      | zero => exact Nat.le_refl _
      | succ m ih =>
        rw [List.range_succ, List.flatMap_append, List.length_append, List.flatMap_singleton]
        have := wl m
        omega
    unfold lWs
    have := key (many dd)
    rw [hn] at this ⊢
    omega
  · unfold lFs
    rw [hn]
    refine nodup_map List.nodup_range fun a ha b hb e => ?_
    have h1 := List.mem_range.mp ha
    have h2 := List.mem_range.mp hb
    have h3 := lt (dn dd 19 % 9)
    exact mod_inj (n := n) (by omega) (by omega) (inj (lt _) (lt _) e)
  · unfold lFs
    rw [List.length_map, List.length_range, hn]
    have h3 := lt (dn dd 19 % 9)
    omega
  · unfold lFs at hf
    rw [hn] at hf
    obtain ⟨j, _, rfl⟩ := List.mem_map.mp hf
    exact pm _ (lt _)
end K61

namespace K61
open PySem PySem.Spec PyProof.Rows L2 DL
section
variable {P : Program} {w : World} {K : PySem.W.Frag} {mg : Str → Option Value} {base : Heap}
theorem ok_kept_words (T : Tx K mg)  : FnOk P w K mg base CX0 lv_kept_words T.kept_words_a T.kept_words_d [] (sp_kept_words T) :=
  T.kept_words_F.ok sc_kept_words (fun vs H Q E h => sp_len (n := 0) (fun m ds O Φ Ψ h => by obtain ⟨_, _, ⟨rfl, _⟩, _⟩ := h; rfl) vs H Q E h) (fun cdv A outer s H vs Q E hr h => ⟨t_kept_words T E, w_kept_words T  hr, body_ok h (d_kept_words T)⟩)
theorem ok_is_mark (T : Tx K mg) (h_kept_words : FnOk P w K mg base CX0 lv_kept_words T.kept_words_a T.kept_words_d [] (sp_kept_words T)) : FnOk P w K mg base CX0 lv_is_mark T.is_mark_a T.is_mark_d ["thing"] (sp_is_mark T) :=
  T.is_mark_F.ok sc_is_mark (fun vs H Q E h => sp_len (n := 1) (fun m ds O Φ Ψ h => by obtain ⟨_, _, ⟨_, rfl, _⟩, _⟩ := h; rfl) vs H Q E h) (fun cdv A outer s H vs Q E hr h => ⟨t_is_mark T E, w_is_mark T (h_kept_words := h_kept_words) hr, body_ok h (d_is_mark T)⟩)
theorem ok_is_moment (T : Tx K mg) (h_is_mark : FnOk P w K mg base CX0 lv_is_mark T.is_mark_a T.is_mark_d ["thing"] (sp_is_mark T)) : FnOk P w K mg base CX0 lv_is_moment T.is_moment_a T.is_moment_d ["thing"] (sp_is_moment T) :=
  T.is_moment_F.ok sc_is_moment (fun vs H Q E h => sp_len (n := 1) (fun m ds O Φ Ψ h => by obtain ⟨_, _, ⟨_, rfl, _⟩, _⟩ := h; rfl) vs H Q E h) (fun cdv A outer s H vs Q E hr h => ⟨t_is_moment T E, w_is_moment T (h_is_mark := h_is_mark) hr, body_ok h (d_is_moment T)⟩)
theorem ok_is_pair (T : Tx K mg)  : FnOk P w K mg base CX0 lv_is_pair T.is_pair_a T.is_pair_d ["thing"] (sp_is_pair T) :=
  T.is_pair_F.ok sc_is_pair (fun vs H Q E h => sp_len (n := 1) (fun m ds O Φ Ψ h => by obtain ⟨_, _, ⟨_, _, rfl, _⟩, _⟩ := h; rfl) vs H Q E h) (fun cdv A outer s H vs Q E hr h => ⟨t_is_pair T E, w_is_pair T  hr, body_ok h (d_is_pair T)⟩)
theorem ok_placed (T : Tx K mg) (h_is_pair : FnOk P w K mg base CX0 lv_is_pair T.is_pair_a T.is_pair_d ["thing"] (sp_is_pair T)) (h_is_mark : FnOk P w K mg base CX0 lv_is_mark T.is_mark_a T.is_mark_d ["thing"] (sp_is_mark T)) (h_is_moment : FnOk P w K mg base CX0 lv_is_moment T.is_moment_a T.is_moment_d ["thing"] (sp_is_moment T)) : FnOk P w K mg base CX0 lv_placed T.placed_a T.placed_d ["states"] (sp_placed T) :=
  T.placed_F.ok sc_placed (fun vs H Q E h => sp_len (n := 1) (fun m ds O Φ Ψ h => by obtain ⟨_, _, _, rfl, _⟩ := h; rfl) vs H Q E h) (fun cdv A outer s H vs Q E hr h => ⟨t_placed T E, w_placed T (h_is_pair := h_is_pair) (h_is_mark := h_is_mark) (h_is_moment := h_is_moment) hr, body_ok h (d_placed T)⟩)
theorem ok_stepped (T : Tx K mg) (h_is_pair : FnOk P w K mg base CX0 lv_is_pair T.is_pair_a T.is_pair_d ["thing"] (sp_is_pair T)) (h_is_mark : FnOk P w K mg base CX0 lv_is_mark T.is_mark_a T.is_mark_d ["thing"] (sp_is_mark T)) : FnOk P w K mg base CX0 lv_stepped T.stepped_a T.stepped_d ["marks_at", "steps"] (sp_stepped T) :=
  T.stepped_F.ok sc_stepped (fun vs H Q E h => sp_len (n := 2) (fun m ds O Φ Ψ h => by obtain ⟨_, _, _, _, rfl, _⟩ := h; rfl) vs H Q E h) (fun cdv A outer s H vs Q E hr h => ⟨t_stepped T E, w_stepped T (h_is_pair := h_is_pair) (h_is_mark := h_is_mark) hr, body_ok h (d_stepped T)⟩)
theorem ok_need_starts (T : Tx K mg) (h_is_mark : FnOk P w K mg base CX0 lv_is_mark T.is_mark_a T.is_mark_d ["thing"] (sp_is_mark T)) : FnOk P w K mg base CX0 lv_need_starts T.need_starts_a T.need_starts_d ["marks_at", "starts"] (sp_need_starts T) :=
  T.need_starts_F.ok sc_need_starts (fun vs H Q E h => sp_len (n := 2) (fun m ds O Φ Ψ h => by obtain ⟨_, _, _, _, rfl, _⟩ := h; rfl) vs H Q E h) (fun cdv A outer s H vs Q E hr h => ⟨t_need_starts T E, w_need_starts T (h_is_mark := h_is_mark) hr, body_ok h (d_need_starts T)⟩)
theorem ok_World_init (T : Tx K mg) (h_placed : FnOk P w K mg base CX0 lv_placed T.placed_a T.placed_d ["states"] (sp_placed T)) (h_stepped : FnOk P w K mg base CX0 lv_stepped T.stepped_a T.stepped_d ["marks_at", "steps"] (sp_stepped T)) (h_need_starts : FnOk P w K mg base CX0 lv_need_starts T.need_starts_a T.need_starts_d ["marks_at", "starts"] (sp_need_starts T)) : FnOk P w K mg base CX0 lv_World_init T.World_init_a T.World_init_d ["self", "states", "steps", "starts"] (sp_World_init T) :=
  T.World_init_F.ok sc_World_init (fun vs H Q E h => sp_len (n := 4) (fun m ds O Φ Ψ h => by obtain ⟨_, _, _, _, _, _, _, _, _, rfl, _⟩ := h; rfl) vs H Q E h) (fun cdv A outer s H vs Q E hr h => ⟨t_World_init T E, w_World_init T (h_placed := h_placed) (h_stepped := h_stepped) (h_need_starts := h_need_starts) hr, body_ok h (d_World_init T)⟩)
theorem ok_World_need (T : Tx K mg) (h_is_mark : FnOk P w K mg base CX0 lv_is_mark T.is_mark_a T.is_mark_d ["thing"] (sp_is_mark T)) : FnOk P w K mg base CX0 lv_World_need T.World_need_a T.World_need_d ["self", "place"] (sp_World_need T) :=
  T.World_need_F.ok sc_World_need (fun vs H Q E h => sp_len (n := 2) (fun m ds O Φ Ψ h => by obtain ⟨_, _, ⟨_, _, _, _, rfl, _⟩, _⟩ := h; rfl) vs H Q E h) (fun cdv A outer s H vs Q E hr h => ⟨t_World_need T E, w_World_need T (h_is_mark := h_is_mark) hr, body_ok h (d_World_need T)⟩)
theorem ok_World_places (T : Tx K mg)  : FnOk P w K mg base CX0 lv_World_places T.World_places_a T.World_places_d ["self"] (sp_World_places T) :=
  T.World_places_F.ok sc_World_places (fun vs H Q E h => sp_len (n := 1) (fun m ds O Φ Ψ h => by obtain ⟨_, _, ⟨_, _, _, rfl, _⟩, _⟩ := h; rfl) vs H Q E h) (fun cdv A outer s H vs Q E hr h => ⟨t_World_places T E, w_World_places T  hr, body_ok h (d_World_places T)⟩)
theorem ok_World_moment_of (T : Tx K mg) (h_World_need : FnOk P w K mg base CX0 lv_World_need T.World_need_a T.World_need_d ["self", "place"] (sp_World_need T)) : FnOk P w K mg base CX0 lv_World_moment_of T.World_moment_of_a T.World_moment_of_d ["self", "place"] (sp_World_moment_of T) :=
  T.World_moment_of_F.ok sc_World_moment_of (fun vs H Q E h => sp_len (n := 2) (fun m ds O Φ Ψ h => by obtain ⟨_, _, ⟨_, _, _, _, rfl, _⟩, _⟩ := h; rfl) vs H Q E h) (fun cdv A outer s H vs Q E hr h => ⟨t_World_moment_of T E, w_World_moment_of T (h_World_need := h_World_need) hr, body_ok h (d_World_moment_of T)⟩)
theorem ok_World_nexts (T : Tx K mg) (h_World_need : FnOk P w K mg base CX0 lv_World_need T.World_need_a T.World_need_d ["self", "place"] (sp_World_need T)) : FnOk P w K mg base CX0 lv_World_nexts T.World_nexts_a T.World_nexts_d ["self", "place"] (sp_World_nexts T) :=
  T.World_nexts_F.ok sc_World_nexts (fun vs H Q E h => sp_len (n := 2) (fun m ds O Φ Ψ h => by obtain ⟨_, _, ⟨_, _, _, _, rfl, _⟩, _⟩ := h; rfl) vs H Q E h) (fun cdv A outer s H vs Q E hr h => ⟨t_World_nexts T E, w_World_nexts T (h_World_need := h_World_need) hr, body_ok h (d_World_nexts T)⟩)
theorem ok_World_begins (T : Tx K mg)  : FnOk P w K mg base CX0 lv_World_begins T.World_begins_a T.World_begins_d ["self"] (sp_World_begins T) :=
  T.World_begins_F.ok sc_World_begins (fun vs H Q E h => sp_len (n := 1) (fun m ds O Φ Ψ h => by obtain ⟨_, _, ⟨_, _, _, rfl, _⟩, _⟩ := h; rfl) vs H Q E h) (fun cdv A outer s H vs Q E hr h => ⟨t_World_begins T E, w_World_begins T  hr, body_ok h (d_World_begins T)⟩)
theorem ok_World_written (T : Tx K mg)  : FnOk P w K mg base CX0 lv_World_written T.World_written_a T.World_written_d ["self"] (sp_World_written T) :=
  T.World_written_F.ok sc_World_written (fun vs H Q E h => sp_len (n := 1) (fun m ds O Φ Ψ h => by obtain ⟨_, _, ⟨_, _, _, rfl, _⟩, _⟩ := h; rfl) vs H Q E h) (fun cdv A outer s H vs Q E hr h => ⟨t_World_written T E, w_World_written T  hr, body_ok h (d_World_written T)⟩)
theorem ok_state_of (T : Tx K mg)  : FnOk P w K mg base CX0 lv_state_of T.state_of_a T.state_of_d ["words"] (sp_state_of T) :=
  T.state_of_F.ok sc_state_of (fun vs H Q E h => sp_len (n := 1) (fun m ds O Φ Ψ h => by obtain ⟨_, _, ⟨_, rfl, _⟩, _⟩ := h; rfl) vs H Q E h) (fun cdv A outer s H vs Q E hr h => ⟨t_state_of T E, w_state_of T  hr, body_ok h (d_state_of T)⟩)
theorem ok_read_world (T : Tx K mg) (h_state_of : FnOk P w K mg base CX0 lv_state_of T.state_of_a T.state_of_d ["words"] (sp_state_of T)) (h_World_init : FnOk P w K mg base CX0 lv_World_init T.World_init_a T.World_init_d ["self", "states", "steps", "starts"] (sp_World_init T)) : FnOk P w K mg base CX0 lv_read_world T.read_world_a T.read_world_d ["text"] (sp_read_world T) :=
  T.read_world_F.ok sc_read_world (fun vs H Q E h => sp_len (n := 1) (fun m ds O Φ Ψ h => by obtain ⟨_, _, _, _, rfl, _⟩ := h; rfl) vs H Q E h) (fun cdv A outer s H vs Q E hr h => ⟨t_read_world T E, w_read_world T (h_state_of := h_state_of) (h_World_init := h_World_init) hr, body_ok h (d_read_world T)⟩)
theorem ok__law_draws (T : Tx K mg)  : FnOk P w K mg base CX0 lv__law_draws T._law_draws_a T._law_draws_d ["_law_script", "_law_many"] (sp__law_draws T) :=
  T._law_draws_F.ok sc__law_draws (fun vs H Q E h => sp_len (n := 2) (fun m ds O Φ Ψ h => by obtain ⟨_, _, ⟨_, _, rfl, _⟩, _⟩ := h; rfl) vs H Q E h) (fun cdv A outer s H vs Q E hr h => ⟨t__law_draws T E, w__law_draws T  hr, body_ok h (d__law_draws T)⟩)
theorem ok__law_mark_by (T : Tx K mg)  : FnOk P w K mg base CX0 lv__law_mark_by T._law_mark_by_a T._law_mark_by_d ["_law_shape", "_law_k"] (sp__law_mark_by T) :=
  T._law_mark_by_F.ok sc__law_mark_by (fun vs H Q E h => sp_len (n := 2) (fun m ds O Φ Ψ h => by obtain ⟨_, _, ⟨_, _, rfl, _⟩, _⟩ := h; rfl) vs H Q E h) (fun cdv A outer s H vs Q E hr h => ⟨t__law_mark_by T E, w__law_mark_by T  hr, body_ok h (d__law_mark_by T)⟩)
theorem ok__law_moment (T : Tx K mg)  : FnOk P w K mg base CX0 lv__law_moment T._law_moment_a T._law_moment_d ["_law_marks", "_law_draw"] (sp__law_moment T) :=
  T._law_moment_F.ok sc__law_moment (fun vs H Q E h => sp_len (n := 2) (fun m ds O Φ Ψ h => by obtain ⟨_, _, ⟨_, _, rfl, _⟩, _⟩ := h; rfl) vs H Q E h) (fun cdv A outer s H vs Q E hr h => ⟨t__law_moment T E, w__law_moment T  hr, body_ok h (d__law_moment T)⟩)
theorem ok__law_world (T : Tx K mg) (h__law_mark_by : FnOk P w K mg base CX0 lv__law_mark_by T._law_mark_by_a T._law_mark_by_d ["_law_shape", "_law_k"] (sp__law_mark_by T)) (h__law_moment : FnOk P w K mg base CX0 lv__law_moment T._law_moment_a T._law_moment_d ["_law_marks", "_law_draw"] (sp__law_moment T)) : FnOk P w K mg base CX0 lv__law_world T._law_world_a T._law_world_d ["_law_draws_here", "_law_marks", "_law_most"] (sp__law_world T) :=
  T._law_world_F.ok sc__law_world (fun vs H Q E h => sp_len (n := 3) (fun m ds O Φ Ψ h => by obtain ⟨_, _, _, _, rfl, _⟩ := h; rfl) vs H Q E h) (fun cdv A outer s H vs Q E hr h => ⟨t__law_world T E, w__law_world T (h__law_mark_by := h__law_mark_by) (h__law_moment := h__law_moment) hr, body_ok h (d__law_world T good_all)⟩)
theorem ok__law_text (T : Tx K mg)  : FnOk P w K mg base CX0 lv__law_text T._law_text_a T._law_text_d ["_law_parts"] (sp__law_text T) :=
  T._law_text_F.ok sc__law_text (fun vs H Q E h => sp_len (n := 1) (fun m ds O Φ Ψ h => by obtain ⟨_, _, ⟨_, _, _, rfl, _⟩, _⟩ := h; rfl) vs H Q E h) (fun cdv A outer s H vs Q E hr h => ⟨t__law_text T E, w__law_text T  hr, body_ok h (d__law_text T)⟩)
theorem ok__law_looked (T : Tx K mg) (h_World_places : FnOk P w K mg base CX0 lv_World_places T.World_places_a T.World_places_d ["self"] (sp_World_places T)) (h_World_begins : FnOk P w K mg base CX0 lv_World_begins T.World_begins_a T.World_begins_d ["self"] (sp_World_begins T)) (h_World_nexts : FnOk P w K mg base CX0 lv_World_nexts T.World_nexts_a T.World_nexts_d ["self", "place"] (sp_World_nexts T)) (h_World_moment_of : FnOk P w K mg base CX0 lv_World_moment_of T.World_moment_of_a T.World_moment_of_d ["self", "place"] (sp_World_moment_of T)) (h__law_text : FnOk P w K mg base CX0 lv__law_text T._law_text_a T._law_text_d ["_law_parts"] (sp__law_text T)) (h_World_written : FnOk P w K mg base CX0 lv_World_written T.World_written_a T.World_written_d ["self"] (sp_World_written T)) : FnOk P w K mg base CX0 lv__law_looked T._law_looked_a T._law_looked_d ["_law_world_here", "_law_parts", "_law_look", "_law_draw"] (sp__law_looked T) :=
  T._law_looked_F.ok sc__law_looked (fun vs H Q E h => sp_len (n := 4) (fun m ds O Φ Ψ h => by obtain ⟨_, _, _, _, _, _, _, rfl, _⟩ := h; rfl) vs H Q E h) (fun cdv A outer s H vs Q E hr h => ⟨t__law_looked T E, w__law_looked T (h_World_places := h_World_places) (h_World_begins := h_World_begins) (h_World_nexts := h_World_nexts) (h_World_moment_of := h_World_moment_of) (h__law_text := h__law_text) (h_World_written := h_World_written) hr, body_ok h (d__law_looked T)⟩)
theorem ok__law_stands (T : Tx K mg) (h__law_looked : FnOk P w K mg base CX0 lv__law_looked T._law_looked_a T._law_looked_d ["_law_world_here", "_law_parts", "_law_look", "_law_draw"] (sp__law_looked T)) : FnG P w K mg base CX0 lv__law_stands T._law_stands_a T._law_stands_d ["_law_world_here", "_law_parts", "_law_draw", "_law_held"] (sp__law_stands T) :=
  fnG_of T._law_stands_F sc__law_stands (fun vs H Q E h => sp_len (n := 4) (fun m ds O Φ Ψ h => by obtain ⟨_, _, _, _, _, _, _, rfl, _⟩ := h; rfl) vs H Q E h) (fun cdv A outer s H vs Q E gd hr h => ⟨t__law_stands T E, (w__law_stands T (h__law_looked := h__law_looked) gd hr).nox, body_ok h (d__law_stands T)⟩)
theorem ok__law_right_by (T : Tx K mg) (h__law_draws : FnOk P w K mg base CX0 lv__law_draws T._law_draws_a T._law_draws_d ["_law_script", "_law_many"] (sp__law_draws T)) (h__law_mark_by : FnOk P w K mg base CX0 lv__law_mark_by T._law_mark_by_a T._law_mark_by_d ["_law_shape", "_law_k"] (sp__law_mark_by T)) (h__law_world : FnOk P w K mg base CX0 lv__law_world T._law_world_a T._law_world_d ["_law_draws_here", "_law_marks", "_law_most"] (sp__law_world T)) (h_World_init : FnOk P w K mg base CX0 lv_World_init T.World_init_a T.World_init_d ["self", "states", "steps", "starts"] (sp_World_init T)) (h_read_world : FnOk P w K mg base CX0 lv_read_world T.read_world_a T.read_world_d ["text"] (sp_read_world T)) (h_World_written : FnOk P w K mg base CX0 lv_World_written T.World_written_a T.World_written_d ["self"] (sp_World_written T)) (h__law_stands : FnG P w K mg base CX0 lv__law_stands T._law_stands_a T._law_stands_d ["_law_world_here", "_law_parts", "_law_draw", "_law_held"] (sp__law_stands T)) : FnG P w K mg base CX0 lv__law_right_by T._law_right_by_a T._law_right_by_d ["_law_script"] (sp__law_right_by T) :=
  fnG_of T._law_right_by_F sc__law_right_by (fun vs H Q E h => sp_len (n := 1) (fun m ds O Φ Ψ h => by obtain ⟨_, _, ⟨_, rfl, _⟩, _⟩ := h; rfl) vs H Q E h) (fun cdv A outer s H vs Q E gd hr h => ⟨t__law_right_by T E, (w__law_right_by T (h__law_draws := h__law_draws) (h__law_mark_by := h__law_mark_by) (h__law_world := h__law_world) (h_World_init := h_World_init) (h_read_world := h_read_world) (h_World_written := h_World_written) (h__law_stands := h__law_stands) gd hr).nox, body_ok h (d__law_right_by T marks_all)⟩)
theorem ok_law (T : Tx K mg) (h__law_right_by : FnG P w K mg base CX0 lv__law_right_by T._law_right_by_a T._law_right_by_d ["_law_script"] (sp__law_right_by T)) : FnG P w K mg base CX0 lv_law T.law_a T.law_d ["_law_script"] (sp_law T) :=
  fnG_of T.law_F sc_law (fun vs H Q E h => sp_len (n := 1) (fun m ds O Φ Ψ h => by obtain ⟨_, _, ⟨_, rfl, _⟩, _⟩ := h; rfl) vs H Q E h) (fun cdv A outer s H vs Q E gd hr h => ⟨t_law T E, (w_law T (h__law_right_by := h__law_right_by) gd hr).nox, body_ok h (d_law T)⟩)
theorem ok_all (T : Tx K mg) : FnG P w K mg base CX0 lv_law T.law_a T.law_d ["_law_script"] (sp_law T) := by
  have h_kept_words : FnOk P w K mg base CX0 lv_kept_words T.kept_words_a T.kept_words_d [] (sp_kept_words T) := ok_kept_words T 
  have h_is_mark : FnOk P w K mg base CX0 lv_is_mark T.is_mark_a T.is_mark_d ["thing"] (sp_is_mark T) := ok_is_mark T h_kept_words
  have h_is_moment : FnOk P w K mg base CX0 lv_is_moment T.is_moment_a T.is_moment_d ["thing"] (sp_is_moment T) := ok_is_moment T h_is_mark
  have h_is_pair : FnOk P w K mg base CX0 lv_is_pair T.is_pair_a T.is_pair_d ["thing"] (sp_is_pair T) := ok_is_pair T 
  have h_placed : FnOk P w K mg base CX0 lv_placed T.placed_a T.placed_d ["states"] (sp_placed T) := ok_placed T h_is_pair h_is_mark h_is_moment
  have h_stepped : FnOk P w K mg base CX0 lv_stepped T.stepped_a T.stepped_d ["marks_at", "steps"] (sp_stepped T) := ok_stepped T h_is_pair h_is_mark
  have h_need_starts : FnOk P w K mg base CX0 lv_need_starts T.need_starts_a T.need_starts_d ["marks_at", "starts"] (sp_need_starts T) := ok_need_starts T h_is_mark
  have h_World_init : FnOk P w K mg base CX0 lv_World_init T.World_init_a T.World_init_d ["self", "states", "steps", "starts"] (sp_World_init T) := ok_World_init T h_placed h_stepped h_need_starts
  have h_World_need : FnOk P w K mg base CX0 lv_World_need T.World_need_a T.World_need_d ["self", "place"] (sp_World_need T) := ok_World_need T h_is_mark
  have h_World_places : FnOk P w K mg base CX0 lv_World_places T.World_places_a T.World_places_d ["self"] (sp_World_places T) := ok_World_places T 
  have h_World_moment_of : FnOk P w K mg base CX0 lv_World_moment_of T.World_moment_of_a T.World_moment_of_d ["self", "place"] (sp_World_moment_of T) := ok_World_moment_of T h_World_need
  have h_World_nexts : FnOk P w K mg base CX0 lv_World_nexts T.World_nexts_a T.World_nexts_d ["self", "place"] (sp_World_nexts T) := ok_World_nexts T h_World_need
  have h_World_begins : FnOk P w K mg base CX0 lv_World_begins T.World_begins_a T.World_begins_d ["self"] (sp_World_begins T) := ok_World_begins T 
  have h_World_written : FnOk P w K mg base CX0 lv_World_written T.World_written_a T.World_written_d ["self"] (sp_World_written T) := ok_World_written T 
  have h_state_of : FnOk P w K mg base CX0 lv_state_of T.state_of_a T.state_of_d ["words"] (sp_state_of T) := ok_state_of T 
  have h_read_world : FnOk P w K mg base CX0 lv_read_world T.read_world_a T.read_world_d ["text"] (sp_read_world T) := ok_read_world T h_state_of h_World_init
  have h__law_draws : FnOk P w K mg base CX0 lv__law_draws T._law_draws_a T._law_draws_d ["_law_script", "_law_many"] (sp__law_draws T) := ok__law_draws T 
  have h__law_mark_by : FnOk P w K mg base CX0 lv__law_mark_by T._law_mark_by_a T._law_mark_by_d ["_law_shape", "_law_k"] (sp__law_mark_by T) := ok__law_mark_by T 
  have h__law_moment : FnOk P w K mg base CX0 lv__law_moment T._law_moment_a T._law_moment_d ["_law_marks", "_law_draw"] (sp__law_moment T) := ok__law_moment T 
  have h__law_world : FnOk P w K mg base CX0 lv__law_world T._law_world_a T._law_world_d ["_law_draws_here", "_law_marks", "_law_most"] (sp__law_world T) := ok__law_world T h__law_mark_by h__law_moment
  have h__law_text : FnOk P w K mg base CX0 lv__law_text T._law_text_a T._law_text_d ["_law_parts"] (sp__law_text T) := ok__law_text T 
  have h__law_looked : FnOk P w K mg base CX0 lv__law_looked T._law_looked_a T._law_looked_d ["_law_world_here", "_law_parts", "_law_look", "_law_draw"] (sp__law_looked T) := ok__law_looked T h_World_places h_World_begins h_World_nexts h_World_moment_of h__law_text h_World_written
  have h__law_stands : FnG P w K mg base CX0 lv__law_stands T._law_stands_a T._law_stands_d ["_law_world_here", "_law_parts", "_law_draw", "_law_held"] (sp__law_stands T) := ok__law_stands T h__law_looked
  have h__law_right_by : FnG P w K mg base CX0 lv__law_right_by T._law_right_by_a T._law_right_by_d ["_law_script"] (sp__law_right_by T) := ok__law_right_by T h__law_draws h__law_mark_by h__law_world h_World_init h_read_world h_World_written h__law_stands
  have h_law : FnG P w K mg base CX0 lv_law T.law_a T.law_d ["_law_script"] (sp_law T) := ok_law T h__law_right_by
  exact h_law
end
theorem all_mk {l : PySem.W.OpenLaw} {w : World} {K : PySem.W.Frag} {h : Heap} {mg : Str → Option Value} {fa World_a kept_words_a is_mark_a is_moment_a is_pair_a placed_a stepped_a need_starts_a World_init_a World_need_a World_places_a World_moment_of_a World_nexts_a World_begins_a World_written_a state_of_a read_world_a _law_draws_a _law_mark_by_a _law_moment_a _law_world_a _law_text_a _law_looked_a _law_stands_a _law_right_by_a law_a : Addr} (X : K.In h) (G : h.Ns mainGlobals mg) (hfa : mg "law" = some (.ref fa))
    {SMALL_t : Tok}    {FIGURES_t : Tok}    {MOST_SIGNS_t : Tok}    {MOST_MARKS_t : Tok}    {MOST_PLACES_t : Tok}    {MOST_STEPS_t : Tok}    {oc_kept_words : Value}    {kV_kept_words : Value}    {dc_kept_words : Value}    {pm_kept_words : Value}    {cd_kept_words : Value}    {ct_kept_words : Value}    {od_kept_words : Option Addr}    {an_kept_words : Option Addr}    {sl_kept_words : Array (Option Value)}    {oc_is_mark : Value}    {kV_is_mark : Value}    {dc_is_mark : Value}    {pm_is_mark : Value}    {cd_is_mark : Value}    {ct_is_mark : Value}    {od_is_mark : Option Addr}    {an_is_mark : Option Addr}    {sl_is_mark : Array (Option Value)}    {oc_is_moment : Value}    {kV_is_moment : Value}    {dc_is_moment : Value}    {pm_is_moment : Value}    {cd_is_moment : Value}    {ct_is_moment : Value}    {od_is_moment : Option Addr}    {an_is_moment : Option Addr}    {sl_is_moment : Array (Option Value)}    {oc_is_pair : Value}    {kV_is_pair : Value}    {dc_is_pair : Value}    {pm_is_pair : Value}    {cd_is_pair : Value}    {ct_is_pair : Value}    {od_is_pair : Option Addr}    {an_is_pair : Option Addr}    {sl_is_pair : Array (Option Value)}    {oc_placed : Value}    {kV_placed : Value}    {dc_placed : Value}    {pm_placed : Value}    {cd_placed : Value}    {ct_placed : Value}    {od_placed : Option Addr}    {an_placed : Option Addr}    {sl_placed : Array (Option Value)}    {oc_stepped : Value}    {kV_stepped : Value}    {dc_stepped : Value}    {pm_stepped : Value}    {cd_stepped : Value}    {ct_stepped : Value}    {od_stepped : Option Addr}    {an_stepped : Option Addr}    {sl_stepped : Array (Option Value)}    {oc_need_starts : Value}    {kV_need_starts : Value}    {dc_need_starts : Value}    {pm_need_starts : Value}    {cd_need_starts : Value}    {ct_need_starts : Value}    {od_need_starts : Option Addr}    {an_need_starts : Option Addr}    {sl_need_starts : Array (Option Value)}    {oc_World_init : Value}    {kV_World_init : Value}    {dc_World_init : Value}    {pm_World_init : Value}    {cd_World_init : Value}    {ct_World_init : Value}    {od_World_init : Option Addr}    {an_World_init : Option Addr}    {sl_World_init : Array (Option Value)}    {oc_World_need : Value}    {kV_World_need : Value}    {dc_World_need : Value}    {pm_World_need : Value}    {cd_World_need : Value}    {ct_World_need : Value}    {od_World_need : Option Addr}    {an_World_need : Option Addr}    {sl_World_need : Array (Option Value)}    {oc_World_places : Value}    {kV_World_places : Value}    {dc_World_places : Value}    {pm_World_places : Value}    {cd_World_places : Value}    {ct_World_places : Value}    {od_World_places : Option Addr}    {an_World_places : Option Addr}    {sl_World_places : Array (Option Value)}    {oc_World_moment_of : Value}    {kV_World_moment_of : Value}    {dc_World_moment_of : Value}    {pm_World_moment_of : Value}    {cd_World_moment_of : Value}    {ct_World_moment_of : Value}    {od_World_moment_of : Option Addr}    {an_World_moment_of : Option Addr}    {sl_World_moment_of : Array (Option Value)}    {oc_World_nexts : Value}    {kV_World_nexts : Value}    {dc_World_nexts : Value}    {pm_World_nexts : Value}    {cd_World_nexts : Value}    {ct_World_nexts : Value}    {od_World_nexts : Option Addr}    {an_World_nexts : Option Addr}    {sl_World_nexts : Array (Option Value)}    {oc_World_begins : Value}    {kV_World_begins : Value}    {dc_World_begins : Value}    {pm_World_begins : Value}    {cd_World_begins : Value}    {ct_World_begins : Value}    {od_World_begins : Option Addr}    {an_World_begins : Option Addr}    {sl_World_begins : Array (Option Value)}    {oc_World_written : Value}    {kV_World_written : Value}    {dc_World_written : Value}    {pm_World_written : Value}    {cd_World_written : Value}    {ct_World_written : Value}    {od_World_written : Option Addr}    {an_World_written : Option Addr}    {sl_World_written : Array (Option Value)}    {oc_state_of : Value}    {kV_state_of : Value}    {dc_state_of : Value}    {pm_state_of : Value}    {cd_state_of : Value}    {ct_state_of : Value}    {od_state_of : Option Addr}    {an_state_of : Option Addr}    {sl_state_of : Array (Option Value)}    {oc_read_world : Value}    {kV_read_world : Value}    {dc_read_world : Value}    {pm_read_world : Value}    {cd_read_world : Value}    {ct_read_world : Value}    {od_read_world : Option Addr}    {an_read_world : Option Addr}    {sl_read_world : Array (Option Value)}    {oc__law_draws : Value}    {kV__law_draws : Value}    {dc__law_draws : Value}    {pm__law_draws : Value}    {cd__law_draws : Value}    {ct__law_draws : Value}    {od__law_draws : Option Addr}    {an__law_draws : Option Addr}    {sl__law_draws : Array (Option Value)}    {oc__law_mark_by : Value}    {kV__law_mark_by : Value}    {dc__law_mark_by : Value}    {pm__law_mark_by : Value}    {cd__law_mark_by : Value}    {ct__law_mark_by : Value}    {od__law_mark_by : Option Addr}    {an__law_mark_by : Option Addr}    {sl__law_mark_by : Array (Option Value)}    {oc__law_moment : Value}    {kV__law_moment : Value}    {dc__law_moment : Value}    {pm__law_moment : Value}    {cd__law_moment : Value}    {ct__law_moment : Value}    {od__law_moment : Option Addr}    {an__law_moment : Option Addr}    {sl__law_moment : Array (Option Value)}    {oc__law_world : Value}    {kV__law_world : Value}    {dc__law_world : Value}    {pm__law_world : Value}    {cd__law_world : Value}    {ct__law_world : Value}    {od__law_world : Option Addr}    {an__law_world : Option Addr}    {sl__law_world : Array (Option Value)}    {oc__law_text : Value}    {kV__law_text : Value}    {dc__law_text : Value}    {pm__law_text : Value}    {cd__law_text : Value}    {ct__law_text : Value}    {od__law_text : Option Addr}    {an__law_text : Option Addr}    {sl__law_text : Array (Option Value)}    {oc__law_looked : Value}    {kV__law_looked : Value}    {dc__law_looked : Value}    {pm__law_looked : Value}    {cd__law_looked : Value}    {ct__law_looked : Value}    {od__law_looked : Option Addr}    {an__law_looked : Option Addr}    {sl__law_looked : Array (Option Value)}    {oc__law_stands : Value}    {kV__law_stands : Value}    {dc__law_stands : Value}    {pm__law_stands : Value}    {cd__law_stands : Value}    {ct__law_stands : Value}    {od__law_stands : Option Addr}    {an__law_stands : Option Addr}    {sl__law_stands : Array (Option Value)}    {oc__law_right_by : Value}    {kV__law_right_by : Value}    {dc__law_right_by : Value}    {pm__law_right_by : Value}    {cd__law_right_by : Value}    {ct__law_right_by : Value}    {od__law_right_by : Option Addr}    {an__law_right_by : Option Addr}    {sl__law_right_by : Array (Option Value)}    {oc_law : Value}    {kV_law : Value}    {dc_law : Value}    {pm_law : Value}    {cd_law : Value}    {ct_law : Value}    {od_law : Option Addr}    {an_law : Option Addr}    {sl_law : Array (Option Value)}
    (gC_World : PySem.W.nsIn K mainGlobals "World" = some (some (.ref World_a)))
    (pgC_World : PySem.W.plainGet K World_a Str.empty = true)
    (hdC_World : PySem.W.hasDictIn K World_a = true)
    (poC_World : PySem.W.plainOver K World_a = true)
    (saC_World : PySem.W.findIn K (.ref World_a) "__setattr__" = some (some (.builtin "object.__setattr__")))
    (mkC_World : PySem.W.makesIn K World_a = true)
    (kC_World : PySem.W.keepIn K (.ref World_a) = true)
    (nC_World_marks_at : PySem.W.findIn K (.ref World_a) "marks_at" = some none)
    (nC_World_behind : PySem.W.findIn K (.ref World_a) "behind" = some none)
    (nC_World_ways : PySem.W.findIn K (.ref World_a) "ways" = some none)
    (nC_World_firsts : PySem.W.findIn K (.ref World_a) "firsts" = some none)
    (cC_SMALL : PySem.W.nsIn K mainGlobals "SMALL" = some (some (.str "abcdefghijklmnopqrstuvwxyz" SMALL_t)))
    (cC_FIGURES : PySem.W.nsIn K mainGlobals "FIGURES" = some (some (.str "0123456789" FIGURES_t)))
    (cC_MOST_SIGNS : PySem.W.nsIn K mainGlobals "MOST_SIGNS" = some (some (.int 8 MOST_SIGNS_t)))
    (cC_MOST_MARKS : PySem.W.nsIn K mainGlobals "MOST_MARKS" = some (some (.int 12 MOST_MARKS_t)))
    (cC_MOST_PLACES : PySem.W.nsIn K mainGlobals "MOST_PLACES" = some (some (.int 8 MOST_PLACES_t)))
    (cC_MOST_STEPS : PySem.W.nsIn K mainGlobals "MOST_STEPS" = some (some (.int 3 MOST_STEPS_t)))
    (a_kept_words : PySem.W.nsIn K mainGlobals "kept_words" = some (some (.ref kept_words_a)))
    (l_kept_words : K.lookup kept_words_a = some ⟨oc_kept_words, od_kept_words, .func (PySem.W.fnOf "kept_words" "kept_words" (defArgs s_kept_words) (defBody s_kept_words) (defScope s_kept_words) .none kV_kept_words dc_kept_words pm_kept_words an_kept_words cd_kept_words ct_kept_words), sl_kept_words⟩)
    (c_kept_words : PySem.W.codeIn K cd_kept_words "kept_words" = true)
    (k_kept_words : PySem.W.keepIn K (.ref kept_words_a) = true)
    (a_is_mark : PySem.W.nsIn K mainGlobals "is_mark" = some (some (.ref is_mark_a)))
    (l_is_mark : K.lookup is_mark_a = some ⟨oc_is_mark, od_is_mark, .func (PySem.W.fnOf "is_mark" "is_mark" (defArgs s_is_mark) (defBody s_is_mark) (defScope s_is_mark) .none kV_is_mark dc_is_mark pm_is_mark an_is_mark cd_is_mark ct_is_mark), sl_is_mark⟩)
    (c_is_mark : PySem.W.codeIn K cd_is_mark "is_mark" = true)
    (k_is_mark : PySem.W.keepIn K (.ref is_mark_a) = true)
    (a_is_moment : PySem.W.nsIn K mainGlobals "is_moment" = some (some (.ref is_moment_a)))
    (l_is_moment : K.lookup is_moment_a = some ⟨oc_is_moment, od_is_moment, .func (PySem.W.fnOf "is_moment" "is_moment" (defArgs s_is_moment) (defBody s_is_moment) (defScope s_is_moment) .none kV_is_moment dc_is_moment pm_is_moment an_is_moment cd_is_moment ct_is_moment), sl_is_moment⟩)
    (c_is_moment : PySem.W.codeIn K cd_is_moment "is_moment" = true)
    (k_is_moment : PySem.W.keepIn K (.ref is_moment_a) = true)
    (a_is_pair : PySem.W.nsIn K mainGlobals "is_pair" = some (some (.ref is_pair_a)))
    (l_is_pair : K.lookup is_pair_a = some ⟨oc_is_pair, od_is_pair, .func (PySem.W.fnOf "is_pair" "is_pair" (defArgs s_is_pair) (defBody s_is_pair) (defScope s_is_pair) .none kV_is_pair dc_is_pair pm_is_pair an_is_pair cd_is_pair ct_is_pair), sl_is_pair⟩)
    (c_is_pair : PySem.W.codeIn K cd_is_pair "is_pair" = true)
    (k_is_pair : PySem.W.keepIn K (.ref is_pair_a) = true)
    (a_placed : PySem.W.nsIn K mainGlobals "placed" = some (some (.ref placed_a)))
    (l_placed : K.lookup placed_a = some ⟨oc_placed, od_placed, .func (PySem.W.fnOf "placed" "placed" (defArgs s_placed) (defBody s_placed) (defScope s_placed) .none kV_placed dc_placed pm_placed an_placed cd_placed ct_placed), sl_placed⟩)
    (c_placed : PySem.W.codeIn K cd_placed "placed" = true)
    (k_placed : PySem.W.keepIn K (.ref placed_a) = true)
    (a_stepped : PySem.W.nsIn K mainGlobals "stepped" = some (some (.ref stepped_a)))
    (l_stepped : K.lookup stepped_a = some ⟨oc_stepped, od_stepped, .func (PySem.W.fnOf "stepped" "stepped" (defArgs s_stepped) (defBody s_stepped) (defScope s_stepped) .none kV_stepped dc_stepped pm_stepped an_stepped cd_stepped ct_stepped), sl_stepped⟩)
    (c_stepped : PySem.W.codeIn K cd_stepped "stepped" = true)
    (k_stepped : PySem.W.keepIn K (.ref stepped_a) = true)
    (a_need_starts : PySem.W.nsIn K mainGlobals "need_starts" = some (some (.ref need_starts_a)))
    (l_need_starts : K.lookup need_starts_a = some ⟨oc_need_starts, od_need_starts, .func (PySem.W.fnOf "need_starts" "need_starts" (defArgs s_need_starts) (defBody s_need_starts) (defScope s_need_starts) .none kV_need_starts dc_need_starts pm_need_starts an_need_starts cd_need_starts ct_need_starts), sl_need_starts⟩)
    (c_need_starts : PySem.W.codeIn K cd_need_starts "need_starts" = true)
    (k_need_starts : PySem.W.keepIn K (.ref need_starts_a) = true)
    (a_World_init : PySem.W.findIn K (.ref World_a) "__init__" = some (some (.ref World_init_a)))
    (i_World_init : PySem.W.isFn K (.ref World_init_a) = true)
    (l_World_init : K.lookup World_init_a = some ⟨oc_World_init, od_World_init, .func (PySem.W.fnOf "__init__" "World.__init__" (defArgs s_World_init) (defBody s_World_init) (defScope s_World_init) .none kV_World_init dc_World_init pm_World_init an_World_init cd_World_init ct_World_init), sl_World_init⟩)
    (c_World_init : PySem.W.codeIn K cd_World_init "World.__init__" = true)
    (k_World_init : PySem.W.keepIn K (.ref World_init_a) = true)
    (a_World_need : PySem.W.findIn K (.ref World_a) "need" = some (some (.ref World_need_a)))
    (i_World_need : PySem.W.isFn K (.ref World_need_a) = true)
    (l_World_need : K.lookup World_need_a = some ⟨oc_World_need, od_World_need, .func (PySem.W.fnOf "need" "World.need" (defArgs s_World_need) (defBody s_World_need) (defScope s_World_need) .none kV_World_need dc_World_need pm_World_need an_World_need cd_World_need ct_World_need), sl_World_need⟩)
    (c_World_need : PySem.W.codeIn K cd_World_need "World.need" = true)
    (k_World_need : PySem.W.keepIn K (.ref World_need_a) = true)
    (a_World_places : PySem.W.findIn K (.ref World_a) "places" = some (some (.ref World_places_a)))
    (i_World_places : PySem.W.isFn K (.ref World_places_a) = true)
    (l_World_places : K.lookup World_places_a = some ⟨oc_World_places, od_World_places, .func (PySem.W.fnOf "places" "World.places" (defArgs s_World_places) (defBody s_World_places) (defScope s_World_places) .none kV_World_places dc_World_places pm_World_places an_World_places cd_World_places ct_World_places), sl_World_places⟩)
    (c_World_places : PySem.W.codeIn K cd_World_places "World.places" = true)
    (k_World_places : PySem.W.keepIn K (.ref World_places_a) = true)
    (a_World_moment_of : PySem.W.findIn K (.ref World_a) "moment_of" = some (some (.ref World_moment_of_a)))
    (i_World_moment_of : PySem.W.isFn K (.ref World_moment_of_a) = true)
    (l_World_moment_of : K.lookup World_moment_of_a = some ⟨oc_World_moment_of, od_World_moment_of, .func (PySem.W.fnOf "moment_of" "World.moment_of" (defArgs s_World_moment_of) (defBody s_World_moment_of) (defScope s_World_moment_of) .none kV_World_moment_of dc_World_moment_of pm_World_moment_of an_World_moment_of cd_World_moment_of ct_World_moment_of), sl_World_moment_of⟩)
    (c_World_moment_of : PySem.W.codeIn K cd_World_moment_of "World.moment_of" = true)
    (k_World_moment_of : PySem.W.keepIn K (.ref World_moment_of_a) = true)
    (a_World_nexts : PySem.W.findIn K (.ref World_a) "nexts" = some (some (.ref World_nexts_a)))
    (i_World_nexts : PySem.W.isFn K (.ref World_nexts_a) = true)
    (l_World_nexts : K.lookup World_nexts_a = some ⟨oc_World_nexts, od_World_nexts, .func (PySem.W.fnOf "nexts" "World.nexts" (defArgs s_World_nexts) (defBody s_World_nexts) (defScope s_World_nexts) .none kV_World_nexts dc_World_nexts pm_World_nexts an_World_nexts cd_World_nexts ct_World_nexts), sl_World_nexts⟩)
    (c_World_nexts : PySem.W.codeIn K cd_World_nexts "World.nexts" = true)
    (k_World_nexts : PySem.W.keepIn K (.ref World_nexts_a) = true)
    (a_World_begins : PySem.W.findIn K (.ref World_a) "begins" = some (some (.ref World_begins_a)))
    (i_World_begins : PySem.W.isFn K (.ref World_begins_a) = true)
    (l_World_begins : K.lookup World_begins_a = some ⟨oc_World_begins, od_World_begins, .func (PySem.W.fnOf "begins" "World.begins" (defArgs s_World_begins) (defBody s_World_begins) (defScope s_World_begins) .none kV_World_begins dc_World_begins pm_World_begins an_World_begins cd_World_begins ct_World_begins), sl_World_begins⟩)
    (c_World_begins : PySem.W.codeIn K cd_World_begins "World.begins" = true)
    (k_World_begins : PySem.W.keepIn K (.ref World_begins_a) = true)
    (a_World_written : PySem.W.findIn K (.ref World_a) "written" = some (some (.ref World_written_a)))
    (i_World_written : PySem.W.isFn K (.ref World_written_a) = true)
    (l_World_written : K.lookup World_written_a = some ⟨oc_World_written, od_World_written, .func (PySem.W.fnOf "written" "World.written" (defArgs s_World_written) (defBody s_World_written) (defScope s_World_written) .none kV_World_written dc_World_written pm_World_written an_World_written cd_World_written ct_World_written), sl_World_written⟩)
    (c_World_written : PySem.W.codeIn K cd_World_written "World.written" = true)
    (k_World_written : PySem.W.keepIn K (.ref World_written_a) = true)
    (a_state_of : PySem.W.nsIn K mainGlobals "state_of" = some (some (.ref state_of_a)))
    (l_state_of : K.lookup state_of_a = some ⟨oc_state_of, od_state_of, .func (PySem.W.fnOf "state_of" "state_of" (defArgs s_state_of) (defBody s_state_of) (defScope s_state_of) .none kV_state_of dc_state_of pm_state_of an_state_of cd_state_of ct_state_of), sl_state_of⟩)
    (c_state_of : PySem.W.codeIn K cd_state_of "state_of" = true)
    (k_state_of : PySem.W.keepIn K (.ref state_of_a) = true)
    (a_read_world : PySem.W.nsIn K mainGlobals "read_world" = some (some (.ref read_world_a)))
    (l_read_world : K.lookup read_world_a = some ⟨oc_read_world, od_read_world, .func (PySem.W.fnOf "read_world" "read_world" (defArgs s_read_world) (defBody s_read_world) (defScope s_read_world) .none kV_read_world dc_read_world pm_read_world an_read_world cd_read_world ct_read_world), sl_read_world⟩)
    (c_read_world : PySem.W.codeIn K cd_read_world "read_world" = true)
    (k_read_world : PySem.W.keepIn K (.ref read_world_a) = true)
    (a__law_draws : PySem.W.nsIn K mainGlobals "_law_draws" = some (some (.ref _law_draws_a)))
    (l__law_draws : K.lookup _law_draws_a = some ⟨oc__law_draws, od__law_draws, .func (PySem.W.fnOf "_law_draws" "_law_draws" (defArgs s__law_draws) (defBody s__law_draws) (defScope s__law_draws) .none kV__law_draws dc__law_draws pm__law_draws an__law_draws cd__law_draws ct__law_draws), sl__law_draws⟩)
    (c__law_draws : PySem.W.codeIn K cd__law_draws "_law_draws" = true)
    (k__law_draws : PySem.W.keepIn K (.ref _law_draws_a) = true)
    (a__law_mark_by : PySem.W.nsIn K mainGlobals "_law_mark_by" = some (some (.ref _law_mark_by_a)))
    (l__law_mark_by : K.lookup _law_mark_by_a = some ⟨oc__law_mark_by, od__law_mark_by, .func (PySem.W.fnOf "_law_mark_by" "_law_mark_by" (defArgs s__law_mark_by) (defBody s__law_mark_by) (defScope s__law_mark_by) .none kV__law_mark_by dc__law_mark_by pm__law_mark_by an__law_mark_by cd__law_mark_by ct__law_mark_by), sl__law_mark_by⟩)
    (c__law_mark_by : PySem.W.codeIn K cd__law_mark_by "_law_mark_by" = true)
    (k__law_mark_by : PySem.W.keepIn K (.ref _law_mark_by_a) = true)
    (a__law_moment : PySem.W.nsIn K mainGlobals "_law_moment" = some (some (.ref _law_moment_a)))
    (l__law_moment : K.lookup _law_moment_a = some ⟨oc__law_moment, od__law_moment, .func (PySem.W.fnOf "_law_moment" "_law_moment" (defArgs s__law_moment) (defBody s__law_moment) (defScope s__law_moment) .none kV__law_moment dc__law_moment pm__law_moment an__law_moment cd__law_moment ct__law_moment), sl__law_moment⟩)
    (c__law_moment : PySem.W.codeIn K cd__law_moment "_law_moment" = true)
    (k__law_moment : PySem.W.keepIn K (.ref _law_moment_a) = true)
    (a__law_world : PySem.W.nsIn K mainGlobals "_law_world" = some (some (.ref _law_world_a)))
    (l__law_world : K.lookup _law_world_a = some ⟨oc__law_world, od__law_world, .func (PySem.W.fnOf "_law_world" "_law_world" (defArgs s__law_world) (defBody s__law_world) (defScope s__law_world) .none kV__law_world dc__law_world pm__law_world an__law_world cd__law_world ct__law_world), sl__law_world⟩)
    (c__law_world : PySem.W.codeIn K cd__law_world "_law_world" = true)
    (k__law_world : PySem.W.keepIn K (.ref _law_world_a) = true)
    (a__law_text : PySem.W.nsIn K mainGlobals "_law_text" = some (some (.ref _law_text_a)))
    (l__law_text : K.lookup _law_text_a = some ⟨oc__law_text, od__law_text, .func (PySem.W.fnOf "_law_text" "_law_text" (defArgs s__law_text) (defBody s__law_text) (defScope s__law_text) .none kV__law_text dc__law_text pm__law_text an__law_text cd__law_text ct__law_text), sl__law_text⟩)
    (c__law_text : PySem.W.codeIn K cd__law_text "_law_text" = true)
    (k__law_text : PySem.W.keepIn K (.ref _law_text_a) = true)
    (a__law_looked : PySem.W.nsIn K mainGlobals "_law_looked" = some (some (.ref _law_looked_a)))
    (l__law_looked : K.lookup _law_looked_a = some ⟨oc__law_looked, od__law_looked, .func (PySem.W.fnOf "_law_looked" "_law_looked" (defArgs s__law_looked) (defBody s__law_looked) (defScope s__law_looked) .none kV__law_looked dc__law_looked pm__law_looked an__law_looked cd__law_looked ct__law_looked), sl__law_looked⟩)
    (c__law_looked : PySem.W.codeIn K cd__law_looked "_law_looked" = true)
    (k__law_looked : PySem.W.keepIn K (.ref _law_looked_a) = true)
    (a__law_stands : PySem.W.nsIn K mainGlobals "_law_stands" = some (some (.ref _law_stands_a)))
    (l__law_stands : K.lookup _law_stands_a = some ⟨oc__law_stands, od__law_stands, .func (PySem.W.fnOf "_law_stands" "_law_stands" (defArgs s__law_stands) (defBody s__law_stands) (defScope s__law_stands) .none kV__law_stands dc__law_stands pm__law_stands an__law_stands cd__law_stands ct__law_stands), sl__law_stands⟩)
    (c__law_stands : PySem.W.codeIn K cd__law_stands "_law_stands" = true)
    (k__law_stands : PySem.W.keepIn K (.ref _law_stands_a) = true)
    (a__law_right_by : PySem.W.nsIn K mainGlobals "_law_right_by" = some (some (.ref _law_right_by_a)))
    (l__law_right_by : K.lookup _law_right_by_a = some ⟨oc__law_right_by, od__law_right_by, .func (PySem.W.fnOf "_law_right_by" "_law_right_by" (defArgs s__law_right_by) (defBody s__law_right_by) (defScope s__law_right_by) .none kV__law_right_by dc__law_right_by pm__law_right_by an__law_right_by cd__law_right_by ct__law_right_by), sl__law_right_by⟩)
    (c__law_right_by : PySem.W.codeIn K cd__law_right_by "_law_right_by" = true)
    (k__law_right_by : PySem.W.keepIn K (.ref _law_right_by_a) = true)
    (a_law : PySem.W.nsIn K mainGlobals "law" = some (some (.ref law_a)))
    (l_law : K.lookup law_a = some ⟨oc_law, od_law, .func (PySem.W.fnOf "law" "law" (defArgs s_law) (defBody s_law) (defScope s_law) .none kV_law dc_law pm_law an_law cd_law ct_law), sl_law⟩)
    (c_law : PySem.W.codeIn K cd_law "law" = true)
    (k_law : PySem.W.keepIn K (.ref law_a) = true)
    (z_len : PySem.W.nsIn K mainGlobals "len" = some none)
    (z_range : PySem.W.nsIn K mainGlobals "range" = some none)
    (z_isinstance : PySem.W.nsIn K mainGlobals "isinstance" = some none)
    (z_list : PySem.W.nsIn K mainGlobals "list" = some none)
    (z_tuple : PySem.W.nsIn K mainGlobals "tuple" = some none)
    (z_sorted : PySem.W.nsIn K mainGlobals "sorted" = some none)
    (z_min : PySem.W.nsIn K mainGlobals "min" = some none)
    (z_all : PySem.W.nsIn K mainGlobals "all" = some none)
    (z_str : PySem.W.nsIn K mainGlobals "str" = some none)
    (z_dict : PySem.W.nsIn K mainGlobals "dict" = some none)
    (z_repr : PySem.W.nsIn K mainGlobals "repr" = some none)
    : ∃ fd : FuncData, (∀ (s : Shared) (v : Value), BindsTo s fd ⟨[v], []⟩ [("_law_script", v)]) ∧ ∀ base : Heap, K.In base → base.Ns mainGlobals mg → FnG l.prog w K mg base CX0 lv_law fa fd ["_law_script"] (spO K p_law) := by
  have e := hfa.symm.trans (PySem.W.mg_of X G a_law)
  cases e
  let T : Tx K mg := { World_a := World_a, World_g := PySem.W.mg_of X G gC_World, World_cl := ⟨pgC_World, hdC_World, poC_World, saC_World⟩, World_n_marks_at := nC_World_marks_at, World_n_behind := nC_World_behind, World_n_ways := nC_World_ways, World_n_firsts := nC_World_firsts, SMALL_t := SMALL_t, c_SMALL := PySem.W.mg_of X G cC_SMALL, FIGURES_t := FIGURES_t, c_FIGURES := PySem.W.mg_of X G cC_FIGURES, MOST_SIGNS_t := MOST_SIGNS_t, c_MOST_SIGNS := PySem.W.mg_of X G cC_MOST_SIGNS, MOST_MARKS_t := MOST_MARKS_t, c_MOST_MARKS := PySem.W.mg_of X G cC_MOST_MARKS, MOST_PLACES_t := MOST_PLACES_t, c_MOST_PLACES := PySem.W.mg_of X G cC_MOST_PLACES, MOST_STEPS_t := MOST_STEPS_t, c_MOST_STEPS := PySem.W.mg_of X G cC_MOST_STEPS, kept_words_a := kept_words_a, kept_words_d := (PySem.W.fnOf "kept_words" "kept_words" (defArgs s_kept_words) (defBody s_kept_words) (defScope s_kept_words) .none kV_kept_words dc_kept_words pm_kept_words an_kept_words cd_kept_words ct_kept_words), kept_words_F := fun_mk (st := s_kept_words) l_kept_words c_kept_words k_kept_words, kept_words_b := (fun_mk (st := s_kept_words) l_kept_words c_kept_words k_kept_words).binds (ps := []) fun _ _ _ _ _ _ us hl => match us, hl with | [], _ => rfl, kept_words_g := PySem.W.mg_of X G a_kept_words, is_mark_a := is_mark_a, is_mark_d := (PySem.W.fnOf "is_mark" "is_mark" (defArgs s_is_mark) (defBody s_is_mark) (defScope s_is_mark) .none kV_is_mark dc_is_mark pm_is_mark an_is_mark cd_is_mark ct_is_mark), is_mark_F := fun_mk (st := s_is_mark) l_is_mark c_is_mark k_is_mark, is_mark_b := (fun_mk (st := s_is_mark) l_is_mark c_is_mark k_is_mark).binds (ps := ["thing"]) fun _ _ _ _ _ _ us hl => match us, hl with | [_], _ => rfl, is_mark_g := PySem.W.mg_of X G a_is_mark, is_moment_a := is_moment_a, is_moment_d := (PySem.W.fnOf "is_moment" "is_moment" (defArgs s_is_moment) (defBody s_is_moment) (defScope s_is_moment) .none kV_is_moment dc_is_moment pm_is_moment an_is_moment cd_is_moment ct_is_moment), is_moment_F := fun_mk (st := s_is_moment) l_is_moment c_is_moment k_is_moment, is_moment_b := (fun_mk (st := s_is_moment) l_is_moment c_is_moment k_is_moment).binds (ps := ["thing"]) fun _ _ _ _ _ _ us hl => match us, hl with | [_], _ => rfl, is_moment_g := PySem.W.mg_of X G a_is_moment, is_pair_a := is_pair_a, is_pair_d := (PySem.W.fnOf "is_pair" "is_pair" (defArgs s_is_pair) (defBody s_is_pair) (defScope s_is_pair) .none kV_is_pair dc_is_pair pm_is_pair an_is_pair cd_is_pair ct_is_pair), is_pair_F := fun_mk (st := s_is_pair) l_is_pair c_is_pair k_is_pair, is_pair_b := (fun_mk (st := s_is_pair) l_is_pair c_is_pair k_is_pair).binds (ps := ["thing"]) fun _ _ _ _ _ _ us hl => match us, hl with | [_], _ => rfl, is_pair_g := PySem.W.mg_of X G a_is_pair, placed_a := placed_a, placed_d := (PySem.W.fnOf "placed" "placed" (defArgs s_placed) (defBody s_placed) (defScope s_placed) .none kV_placed dc_placed pm_placed an_placed cd_placed ct_placed), placed_F := fun_mk (st := s_placed) l_placed c_placed k_placed, placed_b := (fun_mk (st := s_placed) l_placed c_placed k_placed).binds (ps := ["states"]) fun _ _ _ _ _ _ us hl => match us, hl with | [_], _ => rfl, placed_g := PySem.W.mg_of X G a_placed, stepped_a := stepped_a, stepped_d := (PySem.W.fnOf "stepped" "stepped" (defArgs s_stepped) (defBody s_stepped) (defScope s_stepped) .none kV_stepped dc_stepped pm_stepped an_stepped cd_stepped ct_stepped), stepped_F := fun_mk (st := s_stepped) l_stepped c_stepped k_stepped, stepped_b := (fun_mk (st := s_stepped) l_stepped c_stepped k_stepped).binds (ps := ["marks_at", "steps"]) fun _ _ _ _ _ _ us hl => match us, hl with | [_, _], _ => rfl, stepped_g := PySem.W.mg_of X G a_stepped, need_starts_a := need_starts_a, need_starts_d := (PySem.W.fnOf "need_starts" "need_starts" (defArgs s_need_starts) (defBody s_need_starts) (defScope s_need_starts) .none kV_need_starts dc_need_starts pm_need_starts an_need_starts cd_need_starts ct_need_starts), need_starts_F := fun_mk (st := s_need_starts) l_need_starts c_need_starts k_need_starts, need_starts_b := (fun_mk (st := s_need_starts) l_need_starts c_need_starts k_need_starts).binds (ps := ["marks_at", "starts"]) fun _ _ _ _ _ _ us hl => match us, hl with | [_, _], _ => rfl, need_starts_g := PySem.W.mg_of X G a_need_starts, World_init_a := World_init_a, World_init_d := (PySem.W.fnOf "__init__" "World.__init__" (defArgs s_World_init) (defBody s_World_init) (defScope s_World_init) .none kV_World_init dc_World_init pm_World_init an_World_init cd_World_init ct_World_init), World_init_F := fun_mk (st := s_World_init) l_World_init c_World_init k_World_init, World_init_b := (fun_mk (st := s_World_init) l_World_init c_World_init k_World_init).binds (ps := ["self", "states", "steps", "starts"]) fun _ _ _ _ _ _ us hl => match us, hl with | [_, _, _, _], _ => rfl, World_mk := ⟨mkC_World, a_World_init, i_World_init, kC_World⟩, World_need_a := World_need_a, World_need_d := (PySem.W.fnOf "need" "World.need" (defArgs s_World_need) (defBody s_World_need) (defScope s_World_need) .none kV_World_need dc_World_need pm_World_need an_World_need cd_World_need ct_World_need), World_need_F := fun_mk (st := s_World_need) l_World_need c_World_need k_World_need, World_need_b := (fun_mk (st := s_World_need) l_World_need c_World_need k_World_need).binds (ps := ["self", "place"]) fun _ _ _ _ _ _ us hl => match us, hl with | [_, _], _ => rfl, World_need_m := ⟨a_World_need, i_World_need, k_World_need⟩, World_places_a := World_places_a, World_places_d := (PySem.W.fnOf "places" "World.places" (defArgs s_World_places) (defBody s_World_places) (defScope s_World_places) .none kV_World_places dc_World_places pm_World_places an_World_places cd_World_places ct_World_places), World_places_F := fun_mk (st := s_World_places) l_World_places c_World_places k_World_places, World_places_b := (fun_mk (st := s_World_places) l_World_places c_World_places k_World_places).binds (ps := ["self"]) fun _ _ _ _ _ _ us hl => match us, hl with | [_], _ => rfl, World_places_m := ⟨a_World_places, i_World_places, k_World_places⟩, World_moment_of_a := World_moment_of_a, World_moment_of_d := (PySem.W.fnOf "moment_of" "World.moment_of" (defArgs s_World_moment_of) (defBody s_World_moment_of) (defScope s_World_moment_of) .none kV_World_moment_of dc_World_moment_of pm_World_moment_of an_World_moment_of cd_World_moment_of ct_World_moment_of), World_moment_of_F := fun_mk (st := s_World_moment_of) l_World_moment_of c_World_moment_of k_World_moment_of, World_moment_of_b := (fun_mk (st := s_World_moment_of) l_World_moment_of c_World_moment_of k_World_moment_of).binds (ps := ["self", "place"]) fun _ _ _ _ _ _ us hl => match us, hl with | [_, _], _ => rfl, World_moment_of_m := ⟨a_World_moment_of, i_World_moment_of, k_World_moment_of⟩, World_nexts_a := World_nexts_a, World_nexts_d := (PySem.W.fnOf "nexts" "World.nexts" (defArgs s_World_nexts) (defBody s_World_nexts) (defScope s_World_nexts) .none kV_World_nexts dc_World_nexts pm_World_nexts an_World_nexts cd_World_nexts ct_World_nexts), World_nexts_F := fun_mk (st := s_World_nexts) l_World_nexts c_World_nexts k_World_nexts, World_nexts_b := (fun_mk (st := s_World_nexts) l_World_nexts c_World_nexts k_World_nexts).binds (ps := ["self", "place"]) fun _ _ _ _ _ _ us hl => match us, hl with | [_, _], _ => rfl, World_nexts_m := ⟨a_World_nexts, i_World_nexts, k_World_nexts⟩, World_begins_a := World_begins_a, World_begins_d := (PySem.W.fnOf "begins" "World.begins" (defArgs s_World_begins) (defBody s_World_begins) (defScope s_World_begins) .none kV_World_begins dc_World_begins pm_World_begins an_World_begins cd_World_begins ct_World_begins), World_begins_F := fun_mk (st := s_World_begins) l_World_begins c_World_begins k_World_begins, World_begins_b := (fun_mk (st := s_World_begins) l_World_begins c_World_begins k_World_begins).binds (ps := ["self"]) fun _ _ _ _ _ _ us hl => match us, hl with | [_], _ => rfl, World_begins_m := ⟨a_World_begins, i_World_begins, k_World_begins⟩, World_written_a := World_written_a, World_written_d := (PySem.W.fnOf "written" "World.written" (defArgs s_World_written) (defBody s_World_written) (defScope s_World_written) .none kV_World_written dc_World_written pm_World_written an_World_written cd_World_written ct_World_written), World_written_F := fun_mk (st := s_World_written) l_World_written c_World_written k_World_written, World_written_b := (fun_mk (st := s_World_written) l_World_written c_World_written k_World_written).binds (ps := ["self"]) fun _ _ _ _ _ _ us hl => match us, hl with | [_], _ => rfl, World_written_m := ⟨a_World_written, i_World_written, k_World_written⟩, state_of_a := state_of_a, state_of_d := (PySem.W.fnOf "state_of" "state_of" (defArgs s_state_of) (defBody s_state_of) (defScope s_state_of) .none kV_state_of dc_state_of pm_state_of an_state_of cd_state_of ct_state_of), state_of_F := fun_mk (st := s_state_of) l_state_of c_state_of k_state_of, state_of_b := (fun_mk (st := s_state_of) l_state_of c_state_of k_state_of).binds (ps := ["words"]) fun _ _ _ _ _ _ us hl => match us, hl with | [_], _ => rfl, state_of_g := PySem.W.mg_of X G a_state_of, read_world_a := read_world_a, read_world_d := (PySem.W.fnOf "read_world" "read_world" (defArgs s_read_world) (defBody s_read_world) (defScope s_read_world) .none kV_read_world dc_read_world pm_read_world an_read_world cd_read_world ct_read_world), read_world_F := fun_mk (st := s_read_world) l_read_world c_read_world k_read_world, read_world_b := (fun_mk (st := s_read_world) l_read_world c_read_world k_read_world).binds (ps := ["text"]) fun _ _ _ _ _ _ us hl => match us, hl with | [_], _ => rfl, read_world_g := PySem.W.mg_of X G a_read_world, _law_draws_a := _law_draws_a, _law_draws_d := (PySem.W.fnOf "_law_draws" "_law_draws" (defArgs s__law_draws) (defBody s__law_draws) (defScope s__law_draws) .none kV__law_draws dc__law_draws pm__law_draws an__law_draws cd__law_draws ct__law_draws), _law_draws_F := fun_mk (st := s__law_draws) l__law_draws c__law_draws k__law_draws, _law_draws_b := (fun_mk (st := s__law_draws) l__law_draws c__law_draws k__law_draws).binds (ps := ["_law_script", "_law_many"]) fun _ _ _ _ _ _ us hl => match us, hl with | [_, _], _ => rfl, _law_draws_g := PySem.W.mg_of X G a__law_draws, _law_mark_by_a := _law_mark_by_a, _law_mark_by_d := (PySem.W.fnOf "_law_mark_by" "_law_mark_by" (defArgs s__law_mark_by) (defBody s__law_mark_by) (defScope s__law_mark_by) .none kV__law_mark_by dc__law_mark_by pm__law_mark_by an__law_mark_by cd__law_mark_by ct__law_mark_by), _law_mark_by_F := fun_mk (st := s__law_mark_by) l__law_mark_by c__law_mark_by k__law_mark_by, _law_mark_by_b := (fun_mk (st := s__law_mark_by) l__law_mark_by c__law_mark_by k__law_mark_by).binds (ps := ["_law_shape", "_law_k"]) fun _ _ _ _ _ _ us hl => match us, hl with | [_, _], _ => rfl, _law_mark_by_g := PySem.W.mg_of X G a__law_mark_by, _law_moment_a := _law_moment_a, _law_moment_d := (PySem.W.fnOf "_law_moment" "_law_moment" (defArgs s__law_moment) (defBody s__law_moment) (defScope s__law_moment) .none kV__law_moment dc__law_moment pm__law_moment an__law_moment cd__law_moment ct__law_moment), _law_moment_F := fun_mk (st := s__law_moment) l__law_moment c__law_moment k__law_moment, _law_moment_b := (fun_mk (st := s__law_moment) l__law_moment c__law_moment k__law_moment).binds (ps := ["_law_marks", "_law_draw"]) fun _ _ _ _ _ _ us hl => match us, hl with | [_, _], _ => rfl, _law_moment_g := PySem.W.mg_of X G a__law_moment, _law_world_a := _law_world_a, _law_world_d := (PySem.W.fnOf "_law_world" "_law_world" (defArgs s__law_world) (defBody s__law_world) (defScope s__law_world) .none kV__law_world dc__law_world pm__law_world an__law_world cd__law_world ct__law_world), _law_world_F := fun_mk (st := s__law_world) l__law_world c__law_world k__law_world, _law_world_b := (fun_mk (st := s__law_world) l__law_world c__law_world k__law_world).binds (ps := ["_law_draws_here", "_law_marks", "_law_most"]) fun _ _ _ _ _ _ us hl => match us, hl with | [_, _, _], _ => rfl, _law_world_g := PySem.W.mg_of X G a__law_world, _law_text_a := _law_text_a, _law_text_d := (PySem.W.fnOf "_law_text" "_law_text" (defArgs s__law_text) (defBody s__law_text) (defScope s__law_text) .none kV__law_text dc__law_text pm__law_text an__law_text cd__law_text ct__law_text), _law_text_F := fun_mk (st := s__law_text) l__law_text c__law_text k__law_text, _law_text_b := (fun_mk (st := s__law_text) l__law_text c__law_text k__law_text).binds (ps := ["_law_parts"]) fun _ _ _ _ _ _ us hl => match us, hl with | [_], _ => rfl, _law_text_g := PySem.W.mg_of X G a__law_text, _law_looked_a := _law_looked_a, _law_looked_d := (PySem.W.fnOf "_law_looked" "_law_looked" (defArgs s__law_looked) (defBody s__law_looked) (defScope s__law_looked) .none kV__law_looked dc__law_looked pm__law_looked an__law_looked cd__law_looked ct__law_looked), _law_looked_F := fun_mk (st := s__law_looked) l__law_looked c__law_looked k__law_looked, _law_looked_b := (fun_mk (st := s__law_looked) l__law_looked c__law_looked k__law_looked).binds (ps := ["_law_world_here", "_law_parts", "_law_look", "_law_draw"]) fun _ _ _ _ _ _ us hl => match us, hl with | [_, _, _, _], _ => rfl, _law_looked_g := PySem.W.mg_of X G a__law_looked, _law_stands_a := _law_stands_a, _law_stands_d := (PySem.W.fnOf "_law_stands" "_law_stands" (defArgs s__law_stands) (defBody s__law_stands) (defScope s__law_stands) .none kV__law_stands dc__law_stands pm__law_stands an__law_stands cd__law_stands ct__law_stands), _law_stands_F := fun_mk (st := s__law_stands) l__law_stands c__law_stands k__law_stands, _law_stands_b := (fun_mk (st := s__law_stands) l__law_stands c__law_stands k__law_stands).binds (ps := ["_law_world_here", "_law_parts", "_law_draw", "_law_held"]) fun _ _ _ _ _ _ us hl => match us, hl with | [_, _, _, _], _ => rfl, _law_stands_g := PySem.W.mg_of X G a__law_stands, _law_right_by_a := _law_right_by_a, _law_right_by_d := (PySem.W.fnOf "_law_right_by" "_law_right_by" (defArgs s__law_right_by) (defBody s__law_right_by) (defScope s__law_right_by) .none kV__law_right_by dc__law_right_by pm__law_right_by an__law_right_by cd__law_right_by ct__law_right_by), _law_right_by_F := fun_mk (st := s__law_right_by) l__law_right_by c__law_right_by k__law_right_by, _law_right_by_b := (fun_mk (st := s__law_right_by) l__law_right_by c__law_right_by k__law_right_by).binds (ps := ["_law_script"]) fun _ _ _ _ _ _ us hl => match us, hl with | [_], _ => rfl, _law_right_by_g := PySem.W.mg_of X G a__law_right_by, law_a := fa, law_d := (PySem.W.fnOf "law" "law" (defArgs s_law) (defBody s_law) (defScope s_law) .none kV_law dc_law pm_law an_law cd_law ct_law), law_F := fun_mk (st := s_law) l_law c_law k_law, law_b := (fun_mk (st := s_law) l_law c_law k_law).binds (ps := ["_law_script"]) fun _ _ _ _ _ _ us hl => match us, hl with | [_], _ => rfl, law_g := PySem.W.mg_of X G a_law, z_len := PySem.W.mg_none_of X G z_len, z_range := PySem.W.mg_none_of X G z_range, z_isinstance := PySem.W.mg_none_of X G z_isinstance, z_list := PySem.W.mg_none_of X G z_list, z_tuple := PySem.W.mg_none_of X G z_tuple, z_sorted := PySem.W.mg_none_of X G z_sorted, z_min := PySem.W.mg_none_of X G z_min, z_all := PySem.W.mg_none_of X G z_all, z_str := PySem.W.mg_none_of X G z_str, z_dict := PySem.W.mg_none_of X G z_dict, z_repr := PySem.W.mg_none_of X G z_repr }
  exact ⟨(PySem.W.fnOf "law" "law" (defArgs s_law) (defBody s_law) (defScope s_law) .none kV_law dc_law pm_law an_law cd_law ct_law), fun s v => .of_eq rfl, fun base _ _ => ok_all T⟩
theorem start {K : PySem.W.Frag} {H : Hp} {a : Addr} {ns : List Int} (hl : ns.length ≤ 63) (only : Only H) (sq : SqL K H a (ns.map V.int)) : spO K p_law [.ref a] H (fun v _ => v = .bl true) E0 := by
  obtain ⟨G, at0, r⟩ := at_only only sq
  refine ⟨[], G, [], _, fun d _ => d = .bl true, fun _ _ => False, at0, r, ⟨rfl, .bl true, ⟨ns, rfl, by omega, rfl⟩, rfl, rfl⟩, fun v d G' O' H' _ rv e => ?_, fun _ _ _ _ _ f => f.elim⟩
  subst e
  cases rv
  rfl
end K61
open PySem PySem.W PyProof.Rows in
set_option maxRecDepth 100000 in
set_option maxHeartbeats 0 in
theorem PySem.Challenge.cw_everwalk_k61_worlds_told_holds : PySem.Challenge.rw_everwalk_k61_worlds_told.Holds := by
  w_on; o_law; k_head; (case hw => w_witness2)
  k_fill
  refine DL.walkG (l := PySem.Challenge.rw_everwalk_k61_worlds_told) (n := 63) (k := K61.lv_law) (x := "_law_script") (sp := fun K => DL.spO K K61.p_law) rfl (by rw [sizeLine_eq]; decide) rfl ⟨rfl, by decide, by decide⟩ (fun w h Y => PySem.W.kIn_of Y) ?F (fun K H a ns hl only sq => K61.start hl only sq)
  case F =>
    intro w mg fa h KX G hmg
    refine' K61.all_mk KX G hmg ?gC_World ?pgC_World ?hdC_World ?poC_World ?saC_World ?mkC_World ?kC_World ?nC_World_marks_at ?nC_World_behind ?nC_World_ways ?nC_World_firsts ?cC_SMALL ?cC_FIGURES ?cC_MOST_SIGNS ?cC_MOST_MARKS ?cC_MOST_PLACES ?cC_MOST_STEPS ?a_kept_words ?l_kept_words ?c_kept_words ?k_kept_words ?a_is_mark ?l_is_mark ?c_is_mark ?k_is_mark ?a_is_moment ?l_is_moment ?c_is_moment ?k_is_moment ?a_is_pair ?l_is_pair ?c_is_pair ?k_is_pair ?a_placed ?l_placed ?c_placed ?k_placed ?a_stepped ?l_stepped ?c_stepped ?k_stepped ?a_need_starts ?l_need_starts ?c_need_starts ?k_need_starts ?a_World_init ?i_World_init ?l_World_init ?c_World_init ?k_World_init ?a_World_need ?i_World_need ?l_World_need ?c_World_need ?k_World_need ?a_World_places ?i_World_places ?l_World_places ?c_World_places ?k_World_places ?a_World_moment_of ?i_World_moment_of ?l_World_moment_of ?c_World_moment_of ?k_World_moment_of ?a_World_nexts ?i_World_nexts ?l_World_nexts ?c_World_nexts ?k_World_nexts ?a_World_begins ?i_World_begins ?l_World_begins ?c_World_begins ?k_World_begins ?a_World_written ?i_World_written ?l_World_written ?c_World_written ?k_World_written ?a_state_of ?l_state_of ?c_state_of ?k_state_of ?a_read_world ?l_read_world ?c_read_world ?k_read_world ?a__law_draws ?l__law_draws ?c__law_draws ?k__law_draws ?a__law_mark_by ?l__law_mark_by ?c__law_mark_by ?k__law_mark_by ?a__law_moment ?l__law_moment ?c__law_moment ?k__law_moment ?a__law_world ?l__law_world ?c__law_world ?k__law_world ?a__law_text ?l__law_text ?c__law_text ?k__law_text ?a__law_looked ?l__law_looked ?c__law_looked ?k__law_looked ?a__law_stands ?l__law_stands ?c__law_stands ?k__law_stands ?a__law_right_by ?l__law_right_by ?c__law_right_by ?k__law_right_by ?a_law ?l_law ?c_law ?k_law ?z_len ?z_range ?z_isinstance ?z_list ?z_tuple ?z_sorted ?z_min ?z_all ?z_str ?z_dict ?z_repr
    (case gC_World => k_is)
    (case pgC_World => k_is)
    (case hdC_World => k_is)
    (case poC_World => k_is)
    (case saC_World => k_is)
    (case mkC_World => k_is)
    (case kC_World => k_is)
    (case nC_World_marks_at => k_is)
    (case nC_World_behind => k_is)
    (case nC_World_ways => k_is)
    (case nC_World_firsts => k_is)
    (case cC_SMALL => k_is)
    (case cC_FIGURES => k_is)
    (case cC_MOST_SIGNS => k_is)
    (case cC_MOST_MARKS => k_is)
    (case cC_MOST_PLACES => k_is)
    (case cC_MOST_STEPS => k_is)
    (case a_kept_words => k_is)
    (case l_kept_words => k_is)
    (case c_kept_words => k_is)
    (case k_kept_words => k_is)
    (case a_is_mark => k_is)
    (case l_is_mark => k_is)
    (case c_is_mark => k_is)
    (case k_is_mark => k_is)
    (case a_is_moment => k_is)
    (case l_is_moment => k_is)
    (case c_is_moment => k_is)
    (case k_is_moment => k_is)
    (case a_is_pair => k_is)
    (case l_is_pair => k_is)
    (case c_is_pair => k_is)
    (case k_is_pair => k_is)
    (case a_placed => k_is)
    (case l_placed => k_is)
    (case c_placed => k_is)
    (case k_placed => k_is)
    (case a_stepped => k_is)
    (case l_stepped => k_is)
    (case c_stepped => k_is)
    (case k_stepped => k_is)
    (case a_need_starts => k_is)
    (case l_need_starts => k_is)
    (case c_need_starts => k_is)
    (case k_need_starts => k_is)
    (case a_World_init => k_is)
    (case i_World_init => k_is)
    (case l_World_init => k_is)
    (case c_World_init => k_is)
    (case k_World_init => k_is)
    (case a_World_need => k_is)
    (case i_World_need => k_is)
    (case l_World_need => k_is)
    (case c_World_need => k_is)
    (case k_World_need => k_is)
    (case a_World_places => k_is)
    (case i_World_places => k_is)
    (case l_World_places => k_is)
    (case c_World_places => k_is)
    (case k_World_places => k_is)
    (case a_World_moment_of => k_is)
    (case i_World_moment_of => k_is)
    (case l_World_moment_of => k_is)
    (case c_World_moment_of => k_is)
    (case k_World_moment_of => k_is)
    (case a_World_nexts => k_is)
    (case i_World_nexts => k_is)
    (case l_World_nexts => k_is)
    (case c_World_nexts => k_is)
    (case k_World_nexts => k_is)
    (case a_World_begins => k_is)
    (case i_World_begins => k_is)
    (case l_World_begins => k_is)
    (case c_World_begins => k_is)
    (case k_World_begins => k_is)
    (case a_World_written => k_is)
    (case i_World_written => k_is)
    (case l_World_written => k_is)
    (case c_World_written => k_is)
    (case k_World_written => k_is)
    (case a_state_of => k_is)
    (case l_state_of => k_is)
    (case c_state_of => k_is)
    (case k_state_of => k_is)
    (case a_read_world => k_is)
    (case l_read_world => k_is)
    (case c_read_world => k_is)
    (case k_read_world => k_is)
    (case a__law_draws => k_is)
    (case l__law_draws => k_is)
    (case c__law_draws => k_is)
    (case k__law_draws => k_is)
    (case a__law_mark_by => k_is)
    (case l__law_mark_by => k_is)
    (case c__law_mark_by => k_is)
    (case k__law_mark_by => k_is)
    (case a__law_moment => k_is)
    (case l__law_moment => k_is)
    (case c__law_moment => k_is)
    (case k__law_moment => k_is)
    (case a__law_world => k_is)
    (case l__law_world => k_is)
    (case c__law_world => k_is)
    (case k__law_world => k_is)
    (case a__law_text => k_is)
    (case l__law_text => k_is)
    (case c__law_text => k_is)
    (case k__law_text => k_is)
    (case a__law_looked => k_is)
    (case l__law_looked => k_is)
    (case c__law_looked => k_is)
    (case k__law_looked => k_is)
    (case a__law_stands => k_is)
    (case l__law_stands => k_is)
    (case c__law_stands => k_is)
    (case k__law_stands => k_is)
    (case a__law_right_by => k_is)
    (case l__law_right_by => k_is)
    (case c__law_right_by => k_is)
    (case k__law_right_by => k_is)
    (case a_law => k_is)
    (case l_law => k_is)
    (case c_law => k_is)
    (case k_law => k_is)
    (case z_len => k_is)
    (case z_range => k_is)
    (case z_isinstance => k_is)
    (case z_list => k_is)
    (case z_tuple => k_is)
    (case z_sorted => k_is)
    (case z_min => k_is)
    (case z_all => k_is)
    (case z_str => k_is)
    (case z_dict => k_is)
    (case z_repr => k_is)

