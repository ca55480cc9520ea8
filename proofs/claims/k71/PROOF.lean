import PyProof.Rows.All
import Wide.All
import OpenK.AllK
import Wide.FinOn
import HandS.ForMost
import HandS.Deep
import HandS.TupAny
import HandS.Conv
import HandS.SortInts
import HandS.SetFor
import HandS.IsInst
import HandS.WideBits
import PyProof.ReprBulk
import PyProof.ReprRoads
import HandS.Defaults
import HandS.Style
import HandS.Flow
import HandS.HeadHook2
import KE.GoesMore
import KE.GoesEnum
import KE.GoesZip
import HandS.Zip
import HandS.Flt
import HandS.Ends
import HandS.HeadEnd
import KE.KStateDown
import Lean
import HandS.Head0
import HandS.Head1
import HandS.Head2
import HandS.HeadHook1
import PySem.Challenge.RW_standingout_k71_whole_floors_against_bou
set_option Elab.async false
set_option linter.all false
set_option maxRecDepth 100000
set_option maxHeartbeats 0
namespace Fw
open PySem PySem.Spec PyProof.Rows L2
abbrev Dt := PyData
/-! data at a value, in tracked cells alone -/
mutual
inductive Dq (H : Hp) : V → Dt → Prop
  | non : Dq H .non .none
  | bl (b : Bool) : Dq H (.bl b) (.bool b)
  | int (i : Int) : Dq H (.int i) (.int i)
  | str (x : Str) : Dq H (.str x) (.str x)
  | lst {a : Addr} {xs : List V} {ds : List Dt} : H a = some (.lst xs) → DqAll H xs ds → Dq H (.ref a) (.list ds)
  | tup {a : Addr} {xs : List V} {ds : List Dt} : H a = some (.tup xs) → DqAll H xs ds → Dq H (.ref a) (.tuple ds)
inductive DqAll (H : Hp) : List V → List Dt → Prop
  | nil : DqAll H [] []
  | cons {v : V} {vs : List V} {d : Dt} {ds : List Dt} : Dq H v d → DqAll H vs ds → DqAll H (v :: vs) (d :: ds)
end
section
variable {K : PySem.W.Frag} {H : Hp}
mutual
theorem Dq.dp : ∀ {v : V} {d : Dt}, Dq H v d → Dp K H v d
  | _, _, .non => .non
  | _, _, .bl b => .bl b
  | _, _, .int i => .int i
  | _, _, .str x => .str x
  | _, _, .lst h t => .lst (SqL.of h) (DqAll.dp t)
  | _, _, .tup h t => .tup (SqT.of h) (DqAll.dp t)
theorem DqAll.dp : ∀ {vs : List V} {ds : List Dt}, DqAll H vs ds → DpAll K H vs ds
  | _, _, .nil => .nil
  | _, _, .cons h t => .cons h.dp t.dp
end
end
section
variable {G H G' H' : Hp}
mutual
theorem dq_mono (e : Same H H') : ∀ {v : V} {d : Dt}, Dq H v d → Dq H' v d
  | _, _, .non => .non
  | _, _, .bl b => .bl b
  | _, _, .int i => .int i
  | _, _, .str x => .str x
  | _, _, .lst h t => .lst (e _ _ h) (dqAll_mono e t)
  | _, _, .tup h t => .tup (e _ _ h) (dqAll_mono e t)
theorem dqAll_mono (e : Same H H') : ∀ {vs : List V} {ds : List Dt}, DqAll H vs ds → DqAll H' vs ds
  | _, _, .nil => .nil
  | _, _, .cons h t => .cons (dq_mono e h) (dqAll_mono e t)
end
theorem DqAll.length : ∀ {vs : List V} {ds : List Dt}, DqAll H vs ds → vs.length = ds.length
  | _, _, .nil => rfl
  | _, _, .cons _ t => by rw [List.length_cons, List.length_cons, DqAll.length t]
theorem DqAll.get : ∀ {vs : List V} {ds : List Dt} {i : Nat} {d : Dt}, DqAll H vs ds → ds[i]? = some d → ∃ v, vs[i]? = some v ∧ Dq H v d
  | _, _, _, _, .nil, e => by simp at e
  | _, _, 0, _, .cons h _, e => by simp at e; subst e; exact ⟨_, rfl, h⟩
  | _, _, i + 1, _, .cons _ t, e => by
    obtain ⟨v, h1, h2⟩ := DqAll.get (i := i) t (by simpa using e)
    exact ⟨v, by simpa using h1, h2⟩
theorem DqAll.getV : ∀ {vs : List V} {ds : List Dt} {i : Nat} {v : V}, DqAll H vs ds → vs[i]? = some v → ∃ d, ds[i]? = some d ∧ Dq H v d
  | _, _, _, _, .nil, e => by simp at e
  | _, _, 0, _, .cons h _, e => by simp at e; subst e; exact ⟨_, rfl, h⟩
  | _, _, i + 1, _, .cons _ t, e => by
    obtain ⟨v, h1, h2⟩ := DqAll.getV (i := i) t (by simpa using e)
    exact ⟨v, by simpa using h1, h2⟩
theorem DqAll.append : ∀ {vs ws : List V} {ds es : List Dt}, DqAll H vs ds → DqAll H ws es → DqAll H (vs ++ ws) (ds ++ es)
  | _, _, _, _, .nil, q => q
  | _, _, _, _, .cons h t, q => .cons h (DqAll.append t q)
theorem DqAll.take : ∀ {vs : List V} {ds : List Dt} (n : Nat), DqAll H vs ds → DqAll H (vs.take n) (ds.take n)
  | _, _, 0, _ => by simp; exact .nil
  | _, _, n + 1, .nil => by simp; exact .nil
  | _, _, n + 1, .cons h t => by simp only [List.take_succ_cons]; exact .cons h (DqAll.take n t)
theorem DqAll.drop : ∀ {vs : List V} {ds : List Dt} (n : Nat), DqAll H vs ds → DqAll H (vs.drop n) (ds.drop n)
  | _, _, 0, q => q
  | _, _, n + 1, .nil => by simp; exact .nil
  | _, _, n + 1, .cons h t => by simp only [List.drop_succ_cons]; exact DqAll.drop n t
theorem DqAll.one {v : V} {d : Dt} (h : Dq H v d) : DqAll H [v] [d] := .cons h .nil
theorem DqAll.ints : ∀ (ns : List Int), DqAll H (ns.map V.int) (ns.map PyData.int)
  | [] => .nil
  | n :: r => .cons (.int n) (DqAll.ints r)
theorem DqAll.to_ints : ∀ {vs : List V} {ns : List Int}, DqAll H vs (ns.map PyData.int) → vs = ns.map V.int
  | _, [], .nil => rfl
  | _, n :: r, .cons h t => by
    cases h
    rw [List.map_cons, DqAll.to_ints t]
theorem DqAll.reverse : ∀ {vs : List V} {ds : List Dt}, DqAll H vs ds → DqAll H vs.reverse ds.reverse
  | _, _, .nil => .nil
  | _, _, .cons h t => by
    rw [List.reverse_cons, List.reverse_cons]
    exact DqAll.append (DqAll.reverse t) (DqAll.one h)
/-! ### owned trees -/
inductive OT where
  | lf (d : Dt)
  | nd (xs : List OT)
mutual
def OT.d : OT → Dt
  | .lf d => d
  | .nd xs => .list (OT.ds xs)
def OT.ds : List OT → List Dt
  | [] => []
  | x :: r => x.d :: OT.ds r
end
mutual
inductive OwnT (G H : Hp) : V → OT → List Addr → Prop
  | lf {v : V} {d : Dt} : Dq G v d → OwnT G H v (.lf d) []
  | nd {p : Addr} {vs : List V} {ts : List OT} {as : List Addr} : H p = some (.lst vs) → OwnTs G H vs ts as → OwnT G H (.ref p) (.nd ts) (p :: as)
inductive OwnTs (G H : Hp) : List V → List OT → List Addr → Prop
  | nil : OwnTs G H [] [] []
  | cons {v : V} {vs : List V} {t : OT} {ts : List OT} {as bs : List Addr} : OwnT G H v t as → OwnTs G H vs ts bs → OwnTs G H (v :: vs) (t :: ts) (as ++ bs)
end
mutual
theorem OwnT.mono (e : Same G G') : ∀ {v : V} {t : OT} {as : List Addr}, OwnT G H v t as → (∀ a ∈ as, H' a = H a) → OwnT G' H' v t as
  | _, _, _, .lf h, _ => .lf (dq_mono e h)
  | _, _, _, .nd h t, k => .nd ((k _ List.mem_cons_self).trans h) (OwnTs.mono e t fun a ha => k a (List.mem_cons_of_mem _ ha))
theorem OwnTs.mono (e : Same G G') : ∀ {vs : List V} {ts : List OT} {as : List Addr}, OwnTs G H vs ts as → (∀ a ∈ as, H' a = H a) → OwnTs G' H' vs ts as
  | _, _, _, .nil, _ => .nil
  | _, _, _, .cons h t, k => .cons (OwnT.mono e h fun a ha => k a (List.mem_append_left _ ha)) (OwnTs.mono e t fun a ha => k a (List.mem_append_right _ ha))
end
mutual
theorem OwnT.there : ∀ {v : V} {t : OT} {as : List Addr}, OwnT G H v t as → ∀ a ∈ as, ∃ o, H a = some o
  | _, _, _, .lf h, _, ha => by cases ha
  | _, _, _, .nd h t, a, ha => by
    rcases List.mem_cons.mp ha with e | ha
    · exact ⟨_, e ▸ h⟩
    · exact OwnTs.there t a ha
theorem OwnTs.there : ∀ {vs : List V} {ts : List OT} {as : List Addr}, OwnTs G H vs ts as → ∀ a ∈ as, ∃ o, H a = some o
  | _, _, _, .nil, _, ha => by cases ha
  | _, _, _, .cons h t, a, ha => by
    rcases List.mem_append.mp ha with ha | ha
    · exact OwnT.there h a ha
    · exact OwnTs.there t a ha
end
/-- the frozen view with some owned cells -/
def Vw (G H : Hp) (as : List Addr) : Hp := fun a => if a ∈ as then H a else G a
theorem vw_in {as : List Addr} {a : Addr} (h : a ∈ as) : Vw G H as a = H a := if_pos h
theorem vw_out {as : List Addr} {a : Addr} (h : a ∉ as) : Vw G H as a = G a := if_neg h
theorem vw_le (e : Same G H) (as : List Addr) : Same G (Vw G H as) := fun a o h => by
  by_cases ha : a ∈ as
  · rw [vw_in ha]; exact e a o h
  · rw [vw_out ha]; exact h
theorem vw_sub (e : Same G H) (as : List Addr) : Same (Vw G H as) H := fun a o h => by
  by_cases ha : a ∈ as
  · rw [vw_in ha] at h; exact h
  · rw [vw_out ha] at h; exact e a o h
theorem vw_mono (e : Same G H) {as bs : List Addr} (h : ∀ a ∈ as, a ∈ bs) : Same (Vw G H as) (Vw G H bs) := fun a o q => by
  by_cases hb : a ∈ bs
  · rw [vw_in hb]; exact vw_sub e as a o q
  · rw [vw_out hb]
    rw [vw_out fun z => hb (h a z)] at q
    exact q
mutual
theorem OwnT.dp (e : Same G H) : ∀ {v : V} {t : OT} {as : List Addr}, OwnT G H v t as → Dq (Vw G H as) v t.d
  | _, _, _, .lf h => by rw [OT.d]; exact dq_mono (vw_le e _) h
  | _, _, _, .nd h t => by
    rw [OT.d]
    refine .lst ((vw_in List.mem_cons_self).trans h) (dqAll_mono (vw_mono e fun a ha => List.mem_cons_of_mem _ ha) (OwnTs.dp e t))
theorem OwnTs.dp (e : Same G H) : ∀ {vs : List V} {ts : List OT} {as : List Addr}, OwnTs G H vs ts as → DqAll (Vw G H as) vs (OT.ds ts)
  | _, _, _, .nil => by rw [OT.ds]; exact .nil
  | _, _, _, .cons h t => by
    rw [OT.ds]
    exact .cons (dq_mono (vw_mono e fun a ha => List.mem_append_left _ ha) (OwnT.dp e h)) (dqAll_mono (vw_mono e fun a ha => List.mem_append_right _ ha) (OwnTs.dp e t))
end
theorem OwnTs.length : ∀ {vs : List V} {ts : List OT} {as : List Addr}, OwnTs G H vs ts as → vs.length = ts.length
  | _, _, _, .nil => rfl
  | _, _, _, .cons _ t => by rw [List.length_cons, List.length_cons, OwnTs.length t]
/-- all leaves: the items, frozen -/
def leafs : List OT → Option (List Dt)
  | [] => some []
  | .lf d :: r => (leafs r).map (d :: ·)
  | .nd _ :: _ => none
theorem OwnTs.leafs : ∀ {vs : List V} {ts : List OT} {as : List Addr} {ds : List Dt}, OwnTs G H vs ts as → Fw.leafs ts = some ds → as = [] ∧ DqAll G vs ds
  | _, _, _, _, .nil, e => by
    cases e
    exact ⟨rfl, DqAll.nil⟩
  | _, _, _, _, .cons (.lf h) t, e => by
    rw [Fw.leafs] at e
    obtain ⟨r, e1, e2⟩ := Option.map_eq_some_iff.mp e
    subst e2
    obtain ⟨q1, q2⟩ := OwnTs.leafs t e1
    exact ⟨by rw [q1]; rfl, .cons h q2⟩
  | _, _, _, _, .cons (.nd _ _) t, e => by
    rw [Fw.leafs] at e
    cases e
theorem OwnTs.of_dp : ∀ {vs : List V} {ds : List Dt}, DqAll G vs ds → OwnTs G H vs (ds.map OT.lf) []
  | _, _, .nil => .nil
  | _, _, .cons h t => OwnTs.cons (as := []) (.lf h) (OwnTs.of_dp t)
theorem leafs_map : ∀ (ds : List Dt), leafs (ds.map OT.lf) = some ds
  | [] => rfl
  | d :: r => by
    rw [List.map_cons, Fw.leafs, leafs_map r]
    rfl
theorem ds_map : ∀ (ds : List Dt), OT.ds (ds.map OT.lf) = ds
  | [] => by rw [List.map_nil, OT.ds]
  | d :: r => by rw [List.map_cons, OT.ds, ds_map r, OT.d]
end
/-! ### slots -/
inductive Sl where
  | un
  | v (t : OT)
  | dk (kvs : List (Key × Dt))
  | dt (kvs : List (List Key × Dt))
  | scr (ns : List Int)
def KvOk {κ : Type} (G : Hp) : List (κ × V) → List (κ × Dt) → Prop := Paired fun (p : κ × V) (q : κ × Dt) => p.1 = q.1 ∧ Dq G p.2 q.2
inductive SlOk (K : PySem.W.Frag) (G H : Hp) : Option V → Sl → List Addr → Prop
  | un {o : Option V} : SlOk K G H o .un []
  | v {v : V} {t : OT} {as : List Addr} : OwnT G H v t as → SlOk K G H (some v) (.v t) as
  | dk {p : Addr} {kvs : List (Key × V)} {ds : List (Key × Dt)} : H p = some (.dK kvs) → KvOk G kvs ds → SlOk K G H (some (.ref p)) (.dk ds) [p]
  | dt {p : Addr} {kvs : List (List Key × V)} {ds : List (List Key × Dt)} : H p = some (.dT kvs) → KvOk G kvs ds → SlOk K G H (some (.ref p)) (.dt ds) [p]
  | scr {a : Addr} {ns : List Int} : SqL K G a (ns.map V.int) → SlOk K G H (some (.ref a)) (.scr ns) []
inductive EnvL (K : PySem.W.Frag) (G H : Hp) : List (Option V) → List Sl → List (List Addr) → Prop
  | nil : EnvL K G H [] [] []
  | cons {o : Option V} {σ : List (Option V)} {s : Sl} {env : List Sl} {as : List Addr} {Os : List (List Addr)} : SlOk K G H o s as → EnvL K G H σ env Os → EnvL K G H (o :: σ) (s :: env) (as :: Os)
section
variable {K : PySem.W.Frag} {G H G' H' : Hp}
theorem KvOk.mono {κ : Type} (e : Same G G') {kvs : List (κ × V)} {ds : List (κ × Dt)} (h : KvOk G kvs ds) : KvOk G' kvs ds :=
  Paired.mapP h fun _ _ q => ⟨q.1, dq_mono e q.2⟩
theorem SlOk.mono (e : Same G G') {o : Option V} {s : Sl} {as : List Addr} (h : SlOk K G H o s as) (k : ∀ a ∈ as, H' a = H a) : SlOk K G' H' o s as := by
  cases h with
  | un => exact .un
  | v h => exact .v (h.mono e k)
  | dk h q => exact .dk ((k _ List.mem_cons_self).trans h) (q.mono e)
  | dt h q => exact .dt ((k _ List.mem_cons_self).trans h) (q.mono e)
  | scr h => exact .scr (e.seq h)
theorem SlOk.there {o : Option V} {s : Sl} {as : List Addr} (h : SlOk K G H o s as) : ∀ a ∈ as, ∃ u, H a = some u := by
  cases h with
  | un => intro a ha; cases ha
  | v h => exact h.there
  | dk h q => intro a ha; cases List.mem_singleton.mp ha; exact ⟨_, h⟩
  | dt h q => intro a ha; cases List.mem_singleton.mp ha; exact ⟨_, h⟩
  | scr h => intro a ha; cases ha
theorem EnvL.mono (e : Same G G') : ∀ {σ : List (Option V)} {env : List Sl} {Os : List (List Addr)}, EnvL K G H σ env Os → (∀ a ∈ Os.flatten, H' a = H a) → EnvL K G' H' σ env Os
  | _, _, _, .nil, _ => .nil
  | _, _, _, .cons h t, k => .cons (h.mono e fun a ha => k a (List.mem_append_left _ ha)) (t.mono e fun a ha => k a (List.mem_append_right _ ha))
theorem EnvL.there : ∀ {σ : List (Option V)} {env : List Sl} {Os : List (List Addr)}, EnvL K G H σ env Os → ∀ a ∈ Os.flatten, ∃ u, H a = some u
  | _, _, _, .nil, a, ha => by cases ha
  | _, _, _, .cons h t, a, ha => by
    rcases List.mem_append.mp ha with z | z
    · exact h.there a z
    · exact t.there a z
theorem EnvL.get : ∀ {σ : List (Option V)} {env : List Sl} {Os : List (List Addr)} {i : Nat} {s : Sl}, EnvL K G H σ env Os → env[i]? = some s → ∃ o as, σ[i]? = some o ∧ Os[i]? = some as ∧ SlOk K G H o s as
  | _, _, _, _, _, .nil, e => by simp at e
  | _, _, _, 0, _, .cons h t, e => by simp at e; subst e; exact ⟨_, _, rfl, rfl, h⟩
  | _, _, _, i + 1, _, .cons h t, e => by
    obtain ⟨o, as, h1, h2, h3⟩ := EnvL.get (i := i) t (by simpa using e)
    exact ⟨o, as, by simpa using h1, by simpa using h2, h3⟩
theorem EnvL.len : ∀ {σ : List (Option V)} {env : List Sl} {Os : List (List Addr)}, EnvL K G H σ env Os → σ.length = env.length ∧ Os.length = env.length
  | _, _, _, .nil => ⟨rfl, rfl⟩
  | _, _, _, .cons h t => by
    obtain ⟨h1, h2⟩ := t.len
    simp only [List.length_cons, h1, h2, and_self]
theorem EnvL.set {o : Option V} {s : Sl} {as : List Addr} (q : SlOk K G H o s as) : ∀ {σ : List (Option V)} {env : List Sl} {Os : List (List Addr)} (i : Nat), EnvL K G H σ env Os → EnvL K G H (σ.set i o) (env.set i s) (Os.set i as)
  | _, _, _, _, .nil => .nil
  | _, _, _, 0, .cons h t => .cons q t
  | _, _, _, i + 1, .cons h t => .cons h (EnvL.set q i t)
theorem mem_flatten_set {Os : List (List Addr)} {i : Nat} {as : List Addr} {a : Addr} (h : a ∈ (Os.set i as).flatten) : a ∈ as ∨ a ∈ Os.flatten := by
  induction Os generalizing i with
  | nil => simp at h
  | cons b r ih =>
    cases i with
    | zero =>
      simp only [List.set_cons_zero, List.flatten_cons, List.mem_append] at h ⊢
      rcases h with h | h
      · exact .inl h
      · exact .inr (.inr h)
    | succ i =>
      simp only [List.set_cons_succ, List.flatten_cons, List.mem_append] at h ⊢
      rcases h with h | h
      · exact .inr (.inl h)
      · rcases ih h with z | z
        · exact .inl z
        · exact .inr (.inr z)
/-- other slots' cells -/
theorem nodup_set {Os : List (List Addr)} {as : List Addr} (h1 : Os.flatten.Nodup) (h2 : as.Nodup) : ∀ {i : Nat}, (∀ a ∈ as, a ∈ Os.flatten → ∃ bs, Os[i]? = some bs ∧ a ∈ bs) → (Os.set i as).flatten.Nodup := by
  induction Os with
  | nil => intro i _; simp
  | cons b r ih =>
    intro i h
    simp only [List.flatten_cons] at h1 h
    obtain ⟨n1, n2, n3⟩ := List.nodup_append.mp h1
    cases i with
    | zero =>
      simp only [List.set_cons_zero, List.flatten_cons]
      refine List.nodup_append.mpr ⟨h2, n2, fun x hx y hy e => ?_⟩
      subst e
      obtain ⟨bs, e1, hb⟩ := h x hx (List.mem_append_right _ hy)
      simp at e1
      subst e1
      exact n3 x hb x hy rfl
    | succ i =>
      simp only [List.set_cons_succ, List.flatten_cons]
      refine List.nodup_append.mpr ⟨n1, ih n2 (fun a ha hm => ?_), fun x hx y hy e => ?_⟩
      · obtain ⟨bs, e1, hb⟩ := h a ha (List.mem_append_right _ hm)
        exact ⟨bs, by simpa using e1, hb⟩
      · subst e
        rcases mem_flatten_set hy with z | z
        · obtain ⟨bs, e1, hb⟩ := h x z (List.mem_append_left _ hx)
          have e1 : r[i]? = some bs := by simpa using e1
          exact n3 x hx x (List.mem_flatten.mpr ⟨bs, List.mem_of_getElem? e1, hb⟩) rfl
        · exact n3 x hx x z rfl
theorem set_get_self {α : Type} {l : List α} {i : Nat} {a : α} (h : l[i]? = some a) : l.set i a = l := by
  induction l generalizing i with
  | nil => rfl
  | cons b r ih =>
    cases i with
    | zero => simp at h; subst h; rfl
    | succ i => simp at h; rw [List.set_cons_succ, ih h]
end
/-! ### the frame's state -/
structure Frm (K : PySem.W.Frag) (G H : Hp) (σ : L2.St) (env : List Sl) (Os : List (List Addr)) : Prop where
  le : Same G H
  env : EnvL K G H σ env Os
  nd : Os.flatten.Nodup
  out : ∀ a ∈ Os.flatten, G a = none
/-- what a step may do -/
structure Ext (G H G' H' : Hp) (O O' : List Addr) : Prop where
  g : Same G G'
  h : ∀ a o, a ∉ O → H a = some o → H' a = some o
  o : ∀ a ∈ O', a ∈ O ∨ H a = none
  f : ∀ a o, G' a = some o → G a = some o ∨ a ∈ O ∨ H a = none
section
variable {K : PySem.W.Frag} {G H G' H' G2 H2 : Hp} {σ σ' : L2.St} {env env' : List Sl} {Os Os' : List (List Addr)} {O O' O2 A : List Addr}
theorem Ext.refl (O : List Addr) : Ext G H G H O O := ⟨fun _ _ h => h, fun _ _ _ h => h, fun _ h => .inl h, fun _ _ h => .inl h⟩
theorem Ext.trans (a : Ext G H G' H' O O') (b : Ext G' H' G2 H2 O' O2) : Ext G H G2 H2 O O2 := by
  have old : ∀ c, c ∈ O' → c ∈ O ∨ H c = none := a.o
  have free : ∀ c, H' c = none → c ∈ O ∨ H c = none := fun c hc => by
    by_cases hO : c ∈ O
    · exact .inl hO
    · cases q : H c with
      | none => exact .inr rfl
      | some u =>
        have := a.h c u hO q
        rw [hc] at this; cases this
  refine ⟨a.g.trans b.g, fun c o hO h => ?_, fun c hc => ?_, fun c o h => ?_⟩
  · refine b.h c o (fun z => ?_) (a.h c o hO h)
    rcases old c z with z | z
    · exact hO z
    · rw [h] at z; cases z
  · rcases b.o c hc with z | z
    · exact old c z
    · exact free c z
  · rcases b.f c o h with z | z | z
    · exact a.f c o z
    · exact .inr (old c z)
    · exact .inr (free c z)
/-- a step beside temporaries A -/
theorem Ext.side (a : Ext G H G' H' O (A ++ O')) (hA : ∀ c ∈ A, ∃ u, H' c = some u) (hd : ∀ c ∈ A, c ∉ O') (b : Ext G' H' G2 H2 O' O2) : Ext G H G2 H2 O (A ++ O2) ∧ (∀ c ∈ A, H2 c = H' c) ∧ (∀ c ∈ A, c ∉ O2) := by
  have a' : Ext G H G' H' O O' := ⟨a.g, a.h, fun c hc => a.o c (List.mem_append_right _ hc), a.f⟩
  have c := a'.trans b
  refine ⟨⟨c.g, c.h, fun x hx => ?_, c.f⟩, fun x hx => ?_, fun x hx hx2 => ?_⟩
  · rcases List.mem_append.mp hx with z | z
    · exact a.o x (List.mem_append_left _ z)
    · exact c.o x z
  · obtain ⟨u, hu⟩ := hA x hx
    rw [hu]
    exact b.h x u (hd x hx) hu
  · rcases b.o x hx2 with z | z
    · exact hd x hx z
    · obtain ⟨u, hu⟩ := hA x hx
      rw [hu] at z; cases z
theorem Ext.sub {O3 : List Addr} (a : Ext G H G' H' O O') (h : ∀ c ∈ O3, c ∈ O') : Ext G H G' H' O O3 := ⟨a.g, a.h, fun c hc => a.o c (h c hc), a.f⟩
/-- only growth -/
structure Grow (G H G' H' : Hp) : Prop where
  g : Same G G'
  h : Same H H'
  le : Same G' H'
  f : ∀ a o, G' a = some o → G a = some o ∨ H a = none
theorem Grow.refl (le : Same G H) : Grow G H G H := ⟨fun _ _ h => h, fun _ _ h => h, le, fun _ _ h => .inl h⟩
theorem Grow.trans (a : Grow G H G' H') (b : Grow G' H' G2 H2) : Grow G H G2 H2 := ⟨a.g.trans b.g, a.h.trans b.h, b.le, fun c o h => by
  rcases b.f c o h with z | z
  · exact a.f c o z
  · exact .inr (a.h.free z)⟩
theorem Grow.ext (a : Grow G H G' H') (O : List Addr) : Ext G H G' H' O O := ⟨a.g, fun c o _ h => a.h c o h, fun c h => .inl h, fun c o h => (a.f c o h).imp id .inr⟩
theorem Frm.grow (F : Frm K G H σ env Os) (a : Grow G H G' H') : Frm K G' H' σ env Os := by
  refine ⟨a.le, F.env.mono a.g fun c hc => ?_, F.nd, fun c hc => ?_⟩
  · obtain ⟨u, hu⟩ := F.env.there c hc
    rw [hu]; exact a.h c u hu
  · cases q : G' c with
    | none => rfl
    | some u =>
      rcases a.f c u q with z | z
      · rw [F.out c hc] at z; cases z
      · obtain ⟨w, hw⟩ := F.env.there c hc
        rw [hw] at z; cases z
end
end Fw
namespace Fw
open PySem PySem.Spec PyProof.Rows L2
/-! ### readings -/
abbrev Gd := List Sl → Option Dt
def PostD (G H : Hp) (d : Dt) (Q : VK) : Prop := ∀ v G' H', Grow G H G' H' → Dq G' v d → Q v H'
def PostK (G H : Hp) (O : List Addr) (d : Dt) (Q : VK) : Prop := ∀ v G' H', Grow G H G' H' → Dq (Vw G' H' O) v d → Q v H'
def PostF (G H : Hp) (ds : List Dt) (Q : VK) : Prop := ∀ p vs G' H', Grow G H G' H' → H p = none → G' p = none → H' p = some (.lst vs) → DqAll G' vs ds → Q (.ref p) H'
def PostL (G H : Hp) (ds : List Dt) (Q : VK) : Prop := ∀ p vs G' H', Grow G H G' H' → H' p = some (.lst vs) → DqAll G' vs ds → Q (.ref p) H'
def PostDs (G H : Hp) (ds : List Dt) (Q : List V → Hp → Prop) : Prop := ∀ vs G' H', Grow G H G' H' → DqAll G' vs ds → Q vs H'
def PostKs (G H : Hp) (O : List Addr) (ds : List Dt) (Q : List V → Hp → Prop) : Prop := ∀ vs G' H', Grow G H G' H' → DqAll (Vw G' H' O) vs ds → Q vs H'
def PostB (G H : Hp) (b : Bool) (Q : Bool → Hp → Prop) : Prop := ∀ G' H', Grow G H G' H' → Q b H'
/-- a value, frozen -/
def tPV (K : PySem.W.Frag) (g : Gd) : TE := fun σ H Q => ∃ G env Os d, Frm K G H σ env Os ∧ g env = some d ∧ PostD G H d Q
/-- a value looked at -/
def tPK (K : PySem.W.Frag) (g : Gd) : TE := fun σ H Q => ∃ G env Os d, Frm K G H σ env Os ∧ g env = some d ∧ PostK G H Os.flatten d Q
/-- a new list -/
def tFL (K : PySem.W.Frag) (g : List Sl → Option (List Dt)) : TE := fun σ H Q => ∃ G env Os ds, Frm K G H σ env Os ∧ g env = some ds ∧ PostF G H ds Q
/-- a list looked at, its items frozen -/
def tLS (K : PySem.W.Frag) (g : List Sl → Option (List Dt)) : TE := fun σ H Q => ∃ G env Os ds, Frm K G H σ env Os ∧ g env = some ds ∧ PostL G H ds Q
def tPVs (K : PySem.W.Frag) (g : List Sl → Option (List Dt)) : TA := fun σ H Q => ∃ G env Os ds, Frm K G H σ env Os ∧ g env = some ds ∧ PostDs G H ds Q
def tPKs (K : PySem.W.Frag) (g : List Sl → Option (List Dt)) : TA := fun σ H Q => ∃ G env Os ds, Frm K G H σ env Os ∧ g env = some ds ∧ PostKs G H Os.flatten ds Q
def tTV (K : PySem.W.Frag) (g : List Sl → Option Bool) : TT := fun σ H Q => ∃ G env Os b, Frm K G H σ env Os ∧ g env = some b ∧ PostB G H b Q
theorem pe_imp {X : Cx} {e : Expr} {t t' : TE} (h : PE X e t) (k : ∀ σ H Q, t' σ H Q → t σ H Q) : PE X e t' := ⟨fun pins s σ H Q I q => h.run pins s σ H Q I (k σ H Q q)⟩
theorem pt_imp {X : Cx} {e : Expr} {t t' : TT} (h : PT X e t) (k : ∀ σ H Q, t' σ H Q → t σ H Q) : PT X e t' := ⟨fun pins s σ H Q I q => h.run pins s σ H Q I (k σ H Q q)⟩
theorem pw_imp {X : Cx} {e : Expr} {t t' : TT} (h : PW X e t) (k : ∀ σ H Q, t' σ H Q → t σ H Q) : PW X e t' := ⟨fun wh pins s σ H Q I q => h.run wh pins s σ H Q I (k σ H Q q)⟩
theorem pa_imp {X : Cx} {es : List Expr} {t t' : TA} (h : PA X es t) (k : ∀ σ H Q, t' σ H Q → t σ H Q) : PA X es t' := ⟨fun pos pins s σ H Q I q => h.run pos pins s σ H Q I (k σ H Q q)⟩
section
variable {G H G' H' : Hp} {d : Dt} {ds : List Dt} {Q : VK} {O : List Addr} {v : V}
theorem PostD.here (q : PostD G H d Q) (le : Same G H) (h : Dq G v d) : Q v H := q v G H (Grow.refl le) h
theorem PostD.grow (q : PostD G H d Q) (a : Grow G H G' H') : PostD G' H' d Q := fun v G2 H2 b h => q v G2 H2 (a.trans b) h
theorem PostK.grow (q : PostK G H O d Q) (a : Grow G H G' H') : PostK G' H' O d Q := fun v G2 H2 b h => q v G2 H2 (a.trans b) h
theorem PostF.grow (q : PostF G H ds Q) (a : Grow G H G' H') : PostF G' H' ds Q := fun p vs G2 H2 b hp hg h1 h2 => q p vs G2 H2 (a.trans b) (a.h.free hp) hg h1 h2
theorem PostL.grow (q : PostL G H ds Q) (a : Grow G H G' H') : PostL G' H' ds Q := fun p vs G2 H2 b h1 h2 => q p vs G2 H2 (a.trans b) h1 h2
theorem PostB.grow {b : Bool} {Q : Bool → Hp → Prop} (q : PostB G H b Q) (a : Grow G H G' H') : PostB G' H' b Q := fun G2 H2 c => q G2 H2 (a.trans c)
theorem PostB.here {b : Bool} {Q : Bool → Hp → Prop} (q : PostB G H b Q) (le : Same G H) : Q b H := q G H (Grow.refl le)
theorem upd_grow (le : Same G H) {p : Addr} (hp : H p = none) (o : HO) : Grow G H (upd G p o) (upd H p o) := by
  have gp : G p = none := le.free hp
  refine ⟨fun b u e => ?_, fun b u e => ?_, fun b u e => ?_, fun b u e => ?_⟩
  · rw [upd_ne (ne_of_none e gp)]; exact e
  · rw [upd_ne (ne_of_none e hp)]; exact e
  · by_cases hb : b = p
    · subst hb; rw [upd_same] at e ⊢; exact e
    · rw [upd_ne hb] at e ⊢; exact le b u e
  · by_cases hb : b = p
    · subst hb; exact .inr hp
    · rw [upd_ne hb] at e; exact .inl e
/-- a new cell that only H holds -/
theorem own_grow (le : Same G H) {p : Addr} (hp : H p = none) (o : HO) : Grow G H G (upd H p o) := by
  refine ⟨fun _ _ e => e, fun b u e => ?_, fun b u e => ?_, fun b u e => .inl e⟩
  · rw [upd_ne (ne_of_none e hp)]; exact e
  · rw [upd_ne (ne_of_none (le b u e) hp)]; exact le b u e
/-- a cell of H is frozen -/
theorem fix_grow (a : Grow G H G' H') {p : Addr} {o : HO} (hp : H p = none) (gp : G' p = none) (h : H' p = some o) : Grow G H (upd G' p o) H' := by
  have s : Same G' (upd G' p o) := fun b u e => by rw [upd_ne (ne_of_none e gp)]; exact e
  refine ⟨a.g.trans s, a.h, fun b u e => ?_, fun b u e => ?_⟩
  · by_cases hb : b = p
    · subst hb; rw [upd_same] at e; cases e; exact h
    · rw [upd_ne hb] at e; exact a.le b u e
  · by_cases hb : b = p
    · subst hb; exact .inr hp
    · rw [upd_ne hb] at e; exact a.f b u e
theorem upd_le {p : Addr} (gp : G p = none) (o : HO) : Same G (upd G p o) := fun b u e => by rw [upd_ne (ne_of_none e gp)]; exact e
theorem vw_grow (le : Same G H) (a : Grow G H G' H') (hO : ∀ c ∈ O, ∃ u, H c = some u) : Same (Vw G H O) (Vw G' H' O) := fun b u e => by
  by_cases hb : b ∈ O
  · rw [vw_in hb] at e ⊢; exact a.h b u e
  · rw [vw_out hb] at e ⊢; exact a.g b u e
theorem PostF.new (q : PostF G H ds Q) (le : Same G H) {p : Addr} {vs : List V} (hp : H p = none) (h : DqAll G vs ds) : Q (.ref p) (upd H p (.lst vs)) :=
  q p vs G _ (own_grow le hp _) hp (le.free hp) upd_same h
theorem PostD.tup (q : PostD G H (.tuple ds) Q) (le : Same G H) {p : Addr} {vs : List V} (hp : H p = none) (h : DqAll G vs ds) : Q (.ref p) (upd H p (.tup vs)) :=
  q _ (upd G p (.tup vs)) _ (upd_grow le hp _) (.tup upd_same (dqAll_mono (upd_le (le.free hp) _) h))
theorem PostD.lst (q : PostD G H (.list ds) Q) (le : Same G H) {p : Addr} {vs : List V} (hp : H p = none) (h : DqAll G vs ds) : Q (.ref p) (upd H p (.lst vs)) :=
  q _ (upd G p (.lst vs)) _ (upd_grow le hp _) (.lst upd_same (dqAll_mono (upd_le (le.free hp) _) h))
theorem PostF.of_d (q : PostD G H (.list ds) Q) : PostF G H ds Q := fun p vs G' H' a hp gp h hd =>
  q _ (upd G' p (.lst vs)) H' (fix_grow a hp gp h) (.lst upd_same (dqAll_mono (upd_le gp _) hd))
theorem PostF.of_l (q : PostL G H ds Q) : PostF G H ds Q := fun p vs G' H' a hp gp h hd => q p vs G' H' a h hd
theorem PostD.of_k (q : PostK G H O d Q) : PostD G H d Q := fun v G' H' a h => q v G' H' a (dq_mono (vw_le a.le O) h)
end
section
variable {X : Cx} {e : Expr} {K : PySem.W.Frag}
theorem fl_pv {g : List Sl → Option (List Dt)} (h : PE X e (tFL X.K g)) : PE X e (tPV X.K fun env => (g env).map .list) := pe_imp h fun σ H Q ⟨G, env, Os, d, F, hg, q⟩ => by
  obtain ⟨ds, e1, e2⟩ := Option.map_eq_some_iff.mp hg
  subst e2
  exact ⟨G, env, Os, ds, F, e1, .of_d q⟩
theorem fl_ls {g : List Sl → Option (List Dt)} (h : PE X e (tFL X.K g)) : PE X e (tLS X.K g) := pe_imp h fun σ H Q ⟨G, env, Os, d, F, hg, q⟩ => ⟨G, env, Os, d, F, hg, .of_l q⟩
theorem pv_pk {g : Gd} (h : PE X e (tPV X.K g)) : PE X e (tPK X.K g) := pe_imp h fun σ H Q ⟨G, env, Os, d, F, hg, q⟩ => ⟨G, env, Os, d, F, hg, .of_k q⟩
def asList (g : Gd) : List Sl → Option (List Dt) := fun env => match g env with
  | some (.list ds) => some ds
  | _ => none
theorem asList_some {g : Gd} {env : List Sl} {ds : List Dt} (h : asList g env = some ds) : g env = some (.list ds) := by
  unfold asList at h
  split at h
  · rename_i e; cases h; exact e
  · cases h
theorem pv_ls {g : Gd} (h : PE X e (tPV X.K g)) : PE X e (tLS X.K (asList g)) := pe_imp h fun σ H Q ⟨G, env, Os, ds, F, hg, q⟩ => by
  refine ⟨G, env, Os, _, F, asList_some hg, fun v G' H' a h => ?_⟩
  cases h with
  | lst h1 h2 => exact q _ _ G' H' a (a.le _ _ h1) h2
end
/-! ### names, constants -/
def gVar (i : Nat) : Gd := fun env => match env[i]? with
  | some (.v (.lf d)) => some d
  | _ => none
def gPk (i : Nat) : Gd := fun env => match env[i]? with
  | some (.v t) => some t.d
  | _ => none
def gLs (i : Nat) : List Sl → Option (List Dt) := fun env => match env[i]? with
  | some (.v (.nd ts)) => leafs ts
  | some (.v (.lf (.list ds))) => some ds
  | _ => none
section
variable {X : Cx} {i : Nat} {x : Str} {pos : Pos}
theorem flat_mem {Os : List (List Addr)} {i : Nat} {as : List Addr} (h : Os[i]? = some as) {a : Addr} (ha : a ∈ as) : a ∈ Os.flatten := List.mem_flatten.mpr ⟨as, List.mem_of_getElem? h, ha⟩
theorem pv_var (i : Nat) (hN : X.N[i]? = some x := by rfl) (hv : Vis X.env.scope x := by first | exact Or.inl rfl | exact Or.inr (Or.inl rfl) | exact Or.inr (Or.inr rfl)) (hd : (x == ("__debug__" : Str)) = false := by decide)
    (hcd : (x == ("__classdict__" : Str)) = false := by decide) : PE X (.Name x pos) (tPV X.K (gVar i)) := pe_imp (pe_var hN hv hd hcd) fun σ H Q ⟨G, env, Os, d, F, hg, q⟩ => by
  unfold gVar at hg
  split at hg
  · rename_i d' e
    cases hg
    obtain ⟨o, as, h1, h2, h3⟩ := F.env.get e
    cases h3 with
    | v h => cases h with
      | lf h => exact ⟨_, h1, q.here F.le h⟩
  · cases hg
theorem pk_var (i : Nat) (hN : X.N[i]? = some x := by rfl) (hv : Vis X.env.scope x := by first | exact Or.inl rfl | exact Or.inr (Or.inl rfl) | exact Or.inr (Or.inr rfl)) (hd : (x == ("__debug__" : Str)) = false := by decide)
    (hcd : (x == ("__classdict__" : Str)) = false := by decide) : PE X (.Name x pos) (tPK X.K (gPk i)) := pe_imp (pe_var hN hv hd hcd) fun σ H Q ⟨G, env, Os, d, F, hg, q⟩ => by
  unfold gPk at hg
  split at hg
  · rename_i t e
    cases hg
    obtain ⟨o, as, h1, h2, h3⟩ := F.env.get e
    cases h3 with
    | v h => exact ⟨_, h1, q _ G H (Grow.refl F.le) (dq_mono (vw_mono F.le fun a ha => flat_mem h2 ha) (h.dp F.le))⟩
  · cases hg
theorem ls_var (i : Nat) (hN : X.N[i]? = some x := by rfl) (hv : Vis X.env.scope x := by first | exact Or.inl rfl | exact Or.inr (Or.inl rfl) | exact Or.inr (Or.inr rfl)) (hd : (x == ("__debug__" : Str)) = false := by decide)
    (hcd : (x == ("__classdict__" : Str)) = false := by decide) : PE X (.Name x pos) (tLS X.K (gLs i)) := pe_imp (pe_var hN hv hd hcd) fun σ H Q ⟨G, env, Os, d, F, hg, q⟩ => by
  unfold gLs at hg
  split at hg
  · rename_i t e
    obtain ⟨o, as, h1, h2, h3⟩ := F.env.get e
    cases h3 with
    | v h => cases h with
      | nd h4 h5 => exact ⟨_, h1, q _ _ G H (Grow.refl F.le) h4 (h5.leafs hg).2⟩
  · rename_i t e
    cases hg
    obtain ⟨o, as, h1, h2, h3⟩ := F.env.get e
    cases h3 with
    | v h => cases h with
      | lf h => cases h with
        | lst h4 h5 => exact ⟨_, h1, q _ _ G H (Grow.refl F.le) (F.le _ _ h4) h5⟩
  · cases hg
theorem pv_int {i : Int} {j} : PE X (.Constant (.int i) j pos) (tPV X.K fun _ => some (.int i)) := pe_imp pe_int fun σ H Q ⟨G, env, Os, d, F, hg, q⟩ => by cases hg; exact q.here F.le (.int i)
theorem pv_bl {b : Bool} {j} : PE X (.Constant (.bool b) j pos) (tPV X.K fun _ => some (.bool b)) := pe_imp pe_bl fun σ H Q ⟨G, env, Os, d, F, hg, q⟩ => by cases hg; exact q.here F.le (.bl b)
theorem pv_non {j} : PE X (.Constant .none j pos) (tPV X.K fun _ => some .none) := pe_imp pe_non fun σ H Q ⟨G, env, Os, d, F, hg, q⟩ => by cases hg; exact q.here F.le .non
theorem pv_str {z : Str} {j} : PE X (.Constant (.str z) j pos) (tPV X.K fun _ => some (.str z)) := pe_imp pe_str fun σ H Q ⟨G, env, Os, d, F, hg, q⟩ => by cases hg; exact q.here F.le (.str z)
/-- a module's int -/
theorem pv_gint {i : Int} (hg : Gl X x) (hm : ∃ t, X.mg x = some (.int i t)) (hd : (x == ("__debug__" : Str)) = false := by decide) : PE X (.Name x pos) (tPV X.K fun _ => some (.int i)) := by
  obtain ⟨t, hm⟩ := hm
  exact pe_imp (pe_glob (v := .int i) hg hm ⟨t, rfl⟩ hd) fun σ H Q ⟨G, env, Os, d, F, hg, q⟩ => by cases hg; exact q.here F.le (.int i)
end
/-! ### operations by values -/
def g2 (g : Dt → Dt → Option Dt) (ga gb : Gd) : Gd := fun env => (ga env).bind fun x => (gb env).bind fun y => g x y
def g1 (g : Dt → Option Dt) (ga : Gd) : Gd := fun env => (ga env).bind g
/-- scalars -/
def sc : Dt → Option V
  | .none => some .non
  | .bool b => some (.bl b)
  | .int i => some (.int i)
  | .str x => some (.str x)
  | _ => none
theorem sc_dq {d : Dt} {v : V} (h : sc d = some v) (G : Hp) : Dq G v d := by
  unfold sc at h
  split at h
  · cases h; exact .non
  · cases h; exact .bl _
  · cases h; exact .int _
  · cases h; exact .str _
  · cases h
def Br2 (r : R2) (g : Dt → Dt → Option Dt) : Prop := ∀ (G H : Hp) (v1 v2 : V) (d1 d2 d : Dt) (Q : VK), Same G H → Dq G v1 d1 → Dq G v2 d2 → g d1 d2 = some d → PostD G H d Q → r v1 v2 H Q
/-- .. with a scalar's end, the heap as it is -/
def Sr2 (r : R2) (g : Dt → Dt → Option Dt) : Prop := ∀ (G H : Hp) (v1 v2 : V) (d1 d2 d : Dt) (Q : VK), Same G H → Dq G v1 d1 → Dq G v2 d2 → g d1 d2 = some d → (∀ v, sc d = some v → Q v H) → r v1 v2 H Q
theorem Sr2.br {r : R2} {g : Dt → Dt → Option Dt} (h : Sr2 r g) : Br2 r g := fun G H v1 v2 d1 d2 d Q le h1 h2 hg q => h G H v1 v2 d1 d2 d Q le h1 h2 hg fun v hv => q.here le (sc_dq hv G)
def opor {X : Cx} {f : Value → Value → Sem Value} {r r' : R2} (h : OpR X f r) (h' : OpR X f r') : OpR X f (fun x y H Q => r x y H Q ∨ r' x y H Q) := by
  intro pins s σ H x y v u Q I rx ry q
  rcases q with q | q
  · exact h pins s σ H x y v u Q I rx ry q
  · exact h' pins s σ H x y v u Q I rx ry q
section
variable {X : Cx} {a b : Expr} {ga gb : Gd} {pos : Pos} {r : R2} {g : Dt → Dt → Option Dt} {K : PySem.W.Frag} {σ : L2.St} {H : Hp} {Q : VK}
theorem two_pv (hb : Br2 r g) (h : tPV K (g2 g ga gb) σ H Q) : tPV K ga σ H fun x H1 => tPV K gb σ H1 fun y H2 => r x y H2 Q := by
  obtain ⟨G, env, Os, d, F, hg, q⟩ := h
  obtain ⟨x, e1, hg⟩ := Option.bind_eq_some_iff.mp hg
  obtain ⟨y, e2, hg⟩ := Option.bind_eq_some_iff.mp hg
  refine ⟨G, env, Os, x, F, e1, fun v1 G1 H1 a1 d1 => ⟨G1, env, Os, y, F.grow a1, e2, fun v2 G2 H2 a2 d2 => ?_⟩⟩
  exact hb G2 H2 v1 v2 x y d Q a2.le (dq_mono a2.g d1) d2 hg (q.grow (a1.trans a2))
theorem two_pk (hb : Sr2 r g) (h : tPV K (g2 g ga gb) σ H Q) : tPK K ga σ H fun x H1 => tPK K gb σ H1 fun y H2 => r x y H2 Q := by
  obtain ⟨G, env, Os, d, F, hg, q⟩ := h
  obtain ⟨x, e1, hg⟩ := Option.bind_eq_some_iff.mp hg
  obtain ⟨y, e2, hg⟩ := Option.bind_eq_some_iff.mp hg
  refine ⟨G, env, Os, x, F, e1, fun v1 G1 H1 a1 d1 => ⟨G1, env, Os, y, F.grow a1, e2, fun v2 G2 H2 a2 d2 => ?_⟩⟩
  refine hb (Vw G2 H2 Os.flatten) H2 v1 v2 x y d Q (vw_sub a2.le _) (dq_mono (vw_grow a1.le a2 (F.grow a1).env.there) d1) d2 hg fun v hv => ?_
  exact q v G2 H2 (a1.trans a2) (sc_dq hv G2)
theorem pv_op {op : Operator} (ho : OpR X (binaryOp op) r) (hb : Br2 r g) (ha : PE X a (tPV X.K ga)) (hb' : PE X b (tPV X.K gb)) : PE X (.BinOp a op b pos) (tPV X.K (g2 g ga gb)) :=
  pe_imp (pe_op ho ha hb') fun σ H Q h => two_pv hb h
theorem pv_cmp {op : CmpOp} (ho : OpR X (compareOp op) r) (hb : Sr2 r g) (ha : PE X a (tPK X.K ga)) (hb' : PE X b (tPK X.K gb)) (hm : behindInMarks op b = false := by first | exact nomark _ | rfl) : PE X (.Compare a [op] [b] pos) (tPV X.K (g2 g ga gb)) :=
  pe_imp (pe_cmpR ho ha hb' hm) fun σ H Q h => two_pk hb h
theorem pv_ix (hr : IxR X r) (hb : Br2 r g) (ha : PE X a (tPV X.K ga)) (hb' : PE X b (tPV X.K gb)) (hs : PlainIx b := by intro _ _; rfl) : PE X (.Subscript a b pos) (tPV X.K (g2 g ga gb)) :=
  pe_imp (pe_ix hr ha hb' hs) fun σ H Q h => two_pv hb h
end
end Fw
namespace Fw
open PySem PySem.Spec PyProof.Rows L2
abbrev SZ : Nat := 16777216
theorem sz_eq : sizeLine = SZ := sizeLine_eq
theorem refs_list {G H : Hp} (le : Same G H) {a : Addr} {ds : List Dt} (h : Dq G (.ref a) (.list ds)) : ∃ xs, H a = some (.lst xs) ∧ G a = some (.lst xs) ∧ DqAll G xs ds := by
  cases h with
  | lst h1 h2 => exact ⟨_, le _ _ h1, h1, h2⟩
/-! ### + - * // % ** -/
def gAdd : Dt → Dt → Option Dt
  | .int i, .int j => some (.int (i + j))
  | .tuple xs, .tuple ys => if xs.length + ys.length ≤ SZ then some (.tuple (xs ++ ys)) else none
  | .list xs, .list ys => if xs.length + ys.length ≤ SZ then some (.list (xs ++ ys)) else none
  | _, _ => none
def rAdd (K : PySem.W.Frag) : R2 := fun x y H Q => rI0 (fun i j => .int (i + j)) x y H Q ∨ (rCatA K x y H Q ∨ rCat x y H Q)
section
variable {X : Cx}
theorem or_add : OpR X (binaryOp .Add) (rAdd X.K) := opor op_add (opor op_catA op_cat)
end
theorem br_add {K : PySem.W.Frag} : Br2 (rAdd K) gAdd := by
  intro G H v1 v2 d1 d2 d Q le h1 h2 hg q
  unfold gAdd at hg
  split at hg
  · cases hg; cases h1; cases h2
    exact .inl ⟨_, _, rfl, rfl, q.here le (.int _)⟩
  · split at hg
    · rename_i hz
      cases hg
      cases h1 with
      | tup e1 a1 => cases h2 with
        | tup e2 a2 =>
          refine .inr (.inl ⟨_, _, _, _, rfl, rfl, SqT.of (le _ _ e1), SqT.of (le _ _ e2), ?_, fun z => ?_, fun _ z => ?_, fun _ _ p hp => q.tup le hp (a1.append a2)⟩)
          · rw [a1.length, a2.length, sz_eq]; exact hz
          · subst z; cases a1; exact q.here le (.tup e2 a2)
          · subst z; cases a2; rw [List.append_nil] at q; exact q.here le (.tup e1 a1)
    · cases hg
  · split at hg
    · rename_i hz
      cases hg
      cases h1 with
      | lst e1 a1 => cases h2 with
        | lst e2 a2 =>
          refine .inr (.inr ⟨_, _, _, _, rfl, rfl, le _ _ e1, le _ _ e2, ?_, fun p hp => q.lst le hp (a1.append a2)⟩)
          rw [a1.length, a2.length, sz_eq]; exact hz
    · cases hg
  · cases hg
def gSub : Dt → Dt → Option Dt
  | .int i, .int j => some (.int (i - j))
  | _, _ => none
theorem br_sub : Br2 (rI0 fun i j => .int (i - j)) gSub := by
  intro G H v1 v2 d1 d2 d Q le h1 h2 hg q
  unfold gSub at hg
  split at hg
  · cases hg; cases h1; cases h2
    exact ⟨_, _, rfl, rfl, q.here le (.int _)⟩
  · cases hg
def reps {α : Type} (k : Nat) (xs : List α) : List α := (List.replicate k xs).flatten
def gMul : Dt → Dt → Option Dt
  | .int i, .int j => if i.natAbs < 18446744073709551616 ∨ j.natAbs < 18446744073709551616 then some (.int (i * j)) else none
  | .list xs, .int k => if -(2 ^ 63) ≤ k ∧ k < 2 ^ 63 ∧ xs.length * k.toNat ≤ SZ then some (.list (reps k.toNat xs)) else none
  | _, _ => none
theorem dqAll_reps {G : Hp} {vs : List V} {ds : List Dt} (h : DqAll G vs ds) : ∀ k : Nat, DqAll G (reps k vs) (reps k ds)
  | 0 => .nil
  | k + 1 => by
    unfold reps
    rw [List.replicate_succ, List.replicate_succ, List.flatten_cons, List.flatten_cons]
    exact h.append (dqAll_reps h k)
def rMulA : R2 := fun x y H Q => rI CMul (fun i j => .int (i * j)) x y H Q ∨ rRep x y H Q
theorem or_mul {X : Cx} : OpR X (binaryOp .Mult) rMulA := opor op_mul op_rep
theorem br_mul : Br2 rMulA gMul := by
  intro G H v1 v2 d1 d2 d Q le h1 h2 hg q
  unfold gMul at hg
  split at hg
  · split at hg
    · rename_i hz
      cases hg; cases h1; cases h2
      exact .inl ⟨_, _, rfl, rfl, hz.imp (fun z => ⟨by omega, by omega⟩) (fun z => ⟨by omega, by omega⟩), q.here le (.int _)⟩
    · cases hg
  · split at hg
    · rename_i hz
      cases hg; cases h2
      cases h1 with
      | lst e1 a1 =>
        refine .inr ⟨_, _, _, rfl, rfl, le _ _ e1, hz.1, hz.2.1, ?_, fun p hp => q.lst le hp (dqAll_reps a1 _)⟩
        rw [a1.length, sz_eq]; exact hz.2.2
    · cases hg
  · cases hg
def gFdiv : Dt → Dt → Option Dt
  | .int i, .int j => if 0 < j ∧ j.natAbs < 1073741824 then some (.int (i / j)) else none
  | _, _ => none
theorem br_fdiv : Br2 (rI CDiv fun i j => .int (i / j)) gFdiv := by
  intro G H v1 v2 d1 d2 d Q le h1 h2 hg q
  unfold gFdiv at hg
  split at hg
  · split at hg
    · rename_i hz
      cases hg; cases h1; cases h2
      exact ⟨_, _, rfl, rfl, ⟨hz.1, by omega⟩, q.here le (.int _)⟩
    · cases hg
  · cases hg
def gMod : Dt → Dt → Option Dt
  | .int i, .int j => if 0 < j then some (.int (i % j)) else none
  | _, _ => none
theorem br_mod : Br2 (rI (fun _ j => 0 < j) fun i j => .int (i % j)) gMod := by
  intro G H v1 v2 d1 d2 d Q le h1 h2 hg q
  unfold gMod at hg
  split at hg
  · split at hg
    · rename_i hz
      cases hg; cases h1; cases h2
      exact ⟨_, _, rfl, rfl, hz, q.here le (.int _)⟩
    · cases hg
  · cases hg
def gPow : Dt → Dt → Option Dt
  | .int i, .int j => if 0 ≤ j ∧ j ≤ 1000 ∧ i.natAbs < 2 ^ 64 then some (.int (i ^ j.toNat)) else none
  | _, _ => none
theorem br_pow : Br2 (rI CPow fun i j => .int (i ^ j.toNat)) gPow := by
  intro G H v1 v2 d1 d2 d Q le h1 h2 hg q
  unfold gPow at hg
  split at hg
  · split at hg
    · rename_i hz
      cases hg; cases h1; cases h2
      exact ⟨_, _, rfl, rfl, ⟨hz.1, Int.le_trans hz.2.1 (by decide), hz.2.2⟩, q.here le (.int _)⟩
    · cases hg
  · cases hg
/-! ### comparisons -/
def eqS : Dt → Dt → Option Bool
  | .str x, .str y => some (decide (x = y))
  | _, _ => none
def gEq (d e : Dt) : Option Dt := match eqS d e with
  | some b => some (.bool b)
  | none => if SeqAt.shaped d = true ∧ SeqAt.shaped e = true then some (.bool (PyData.eqv d e)) else none
def gNe (d e : Dt) : Option Dt := match eqS d e with
  | some b => some (.bool !b)
  | none => if SeqAt.shaped d = true ∧ SeqAt.shaped e = true then some (.bool (!PyData.eqv d e)) else none
def rEqA (K : PySem.W.Frag) : R2 := fun x y H Q => rEqD K x y H Q ∨ rEq x y H Q
def rNeA (K : PySem.W.Frag) : R2 := fun x y H Q => rNeD K x y H Q ∨ rNe x y H Q
theorem or_eq {X : Cx} (hu : X.A.units + 64 < cLine) : OpR X (compareOp .Eq) (rEqA X.K) := opor (op_eqD hu) op_eq
theorem or_ne {X : Cx} (hu : X.A.units + 64 < cLine) : OpR X (compareOp .NotEq) (rNeA X.K) := opor (op_neD hu) op_ne
theorem eqS_v {G : Hp} {v w : V} {d e : Dt} {b : Bool} (h : Dq G v d) (h' : Dq G w e) (hb : eqS d e = some b) : ∃ x y, v = .str x ∧ w = .str y ∧ b = decide (x = y) := by
  unfold eqS at hb
  split at hb
  · cases hb
    cases h
    cases h'
    exact ⟨_, _, rfl, rfl, rfl⟩
  · cases hb
theorem dec_str (x y : Str) : decide (V.str x = V.str y) = decide (x = y) := by
  by_cases h : x = y
  · subst h
    rw [decide_eq_true rfl, decide_eq_true rfl]
  · rw [decide_eq_false h, decide_eq_false fun z => h (V.str.inj z)]
theorem sr_eq {K : PySem.W.Frag} : Sr2 (rEqA K) gEq := by
  intro G H v1 v2 d1 d2 d Q le h1 h2 hg q
  unfold gEq at hg
  split at hg
  · rename_i b hb
    cases hg
    obtain ⟨x, y, rfl, rfl, rfl⟩ := eqS_v h1 h2 hb
    refine .inr ⟨rfl, ?_⟩
    rw [dec_str]
    exact q _ rfl
  · split at hg
    · rename_i hz
      cases hg
      exact .inl ⟨_, _, (dq_mono le h1).dp, (dq_mono le h2).dp, hz.1, hz.2, q _ rfl⟩
    · cases hg
theorem sr_ne {K : PySem.W.Frag} : Sr2 (rNeA K) gNe := by
  intro G H v1 v2 d1 d2 d Q le h1 h2 hg q
  unfold gNe at hg
  split at hg
  · rename_i b hb
    cases hg
    obtain ⟨x, y, rfl, rfl, rfl⟩ := eqS_v h1 h2 hb
    refine .inr ⟨rfl, ?_⟩
    rw [dec_str]
    exact q _ rfl
  · split at hg
    · rename_i hz
      cases hg
      exact .inl ⟨_, _, (dq_mono le h1).dp, (dq_mono le h2).dp, hz.1, hz.2, q _ rfl⟩
    · cases hg
def gCmpI (p : Int → Int → Bool) : Dt → Dt → Option Dt
  | .int i, .int j => some (.bool (p i j))
  | _, _ => none
theorem sr_cmpI (p : Int → Int → Bool) : Sr2 (rI0 fun i j => .bl (p i j)) (gCmpI p) := by
  intro G H v1 v2 d1 d2 d Q le h1 h2 hg q
  unfold gCmpI at hg
  split at hg
  · cases hg; cases h1; cases h2
    exact ⟨_, _, rfl, rfl, q _ rfl⟩
  · cases hg
def flat : Dt → Bool
  | .none => true
  | .bool _ => true
  | .int _ => true
  | .str _ => true
  | _ => false
theorem flat_v {G : Hp} {v : V} {d : Dt} (h : Dq G v d) (f : flat d = true) : flatV v = true := by
  cases h <;> first | rfl | cases f
theorem flat_eq {G : Hp} {v w : V} {d e : Dt} (h : Dq G v d) (h' : Dq G w e) (f : flat d = true) (f' : flat e = true) : eqV v w = PyData.eqv d e := by
  cases h <;> first | cases f | skip
  all_goals (cases h' <;> first | cases f' | skip)
  all_goals first | rfl | simp only [eqV, PyData.eqv]
theorem flats_v {G : Hp} : ∀ {vs : List V} {ds : List Dt}, DqAll G vs ds → ds.all flat = true → vs.all flatV = true
  | _, _, .nil, _ => rfl
  | _, _, .cons h t, f => by
    rw [List.all_cons, Bool.and_eq_true] at f ⊢
    exact ⟨flat_v h f.1, flats_v t f.2⟩
theorem flats_any {G : Hp} {v : V} {d : Dt} (h : Dq G v d) (fd : flat d = true) : ∀ {vs : List V} {ds : List Dt}, DqAll G vs ds → ds.all flat = true → inV v vs = ds.any fun z => PyData.eqv z d
  | _, _, .nil, _ => rfl
  | _, _, .cons h' t, f => by
    rw [List.all_cons, Bool.and_eq_true] at f
    have ih := flats_any h fd t f.2
    unfold inV at ih ⊢
    rw [List.any_cons, List.any_cons, ih, flat_eq h' h f.1 fd]
def inD (d : Dt) (ds : List Dt) : Bool := ds.any fun z => PyData.eqv z d
def gIn (neg : Bool) (d : Dt) : Dt → Option Dt
  | .list ds => if SeqAt.shaped d = true ∧ SeqAt.shaped (.list ds) = true then some (.bool (neg ^^ inD d ds)) else none
  | .tuple ds => if flat d = true ∧ ds.all flat = true then some (.bool (neg ^^ inD d ds)) else none
  | _ => none
def rInA (K : PySem.W.Frag) : R2 := fun x y H Q => rInD K x y H Q ∨ rIn K false x y H Q
def rNotInA (K : PySem.W.Frag) : R2 := fun x y H Q => rNotInD K x y H Q ∨ rIn K true x y H Q
theorem or_in {X : Cx} (hu : X.A.units + 65 < cLine) : OpR X (compareOp .In) (rInA X.K) := opor (op_inD hu) op_in_seq
theorem or_notIn {X : Cx} (hu : X.A.units + 65 < cLine) : OpR X (compareOp .NotIn) (rNotInA X.K) := opor (op_notInD hu) op_notIn_seq
theorem sr_in {K : PySem.W.Frag} : Sr2 (rInA K) (gIn false) := by
  intro G H v1 v2 d1 d2 d Q le h1 h2 hg q
  unfold gIn at hg
  split at hg
  · split at hg
    · rename_i hz
      cases hg
      refine .inl ⟨_, _, (dq_mono le h1).dp, (dq_mono le h2).dp, hz.1, hz.2, ?_⟩
      rw [Bool.false_xor] at q
      exact q _ rfl
    · cases hg
  · split at hg
    · rename_i hz
      cases hg
      cases h2 with
      | tup e2 a2 =>
        refine .inr ⟨_, _, rfl, .inr (SqT.of (le _ _ e2)), flat_v h1 hz.1, flats_v a2 hz.2, ?_⟩
        rw [if_neg Bool.false_ne_true, flats_any h1 hz.1 a2 hz.2]
        rw [Bool.false_xor] at q
        exact q _ rfl
    · cases hg
  · cases hg
theorem sr_notIn {K : PySem.W.Frag} : Sr2 (rNotInA K) (gIn true) := by
  intro G H v1 v2 d1 d2 d Q le h1 h2 hg q
  unfold gIn at hg
  split at hg
  · split at hg
    · rename_i hz
      cases hg
      refine .inl ⟨_, _, (dq_mono le h1).dp, (dq_mono le h2).dp, hz.1, hz.2, ?_⟩
      rw [Bool.true_xor] at q
      exact q _ rfl
    · cases hg
  · split at hg
    · rename_i hz
      cases hg
      cases h2 with
      | tup e2 a2 =>
        refine .inr ⟨_, _, rfl, .inr (SqT.of (le _ _ e2)), flat_v h1 hz.1, flats_v a2 hz.2, ?_⟩
        rw [if_pos rfl, flats_any h1 hz.1 a2 hz.2]
        rw [Bool.true_xor] at q
        exact q _ rfl
    · cases hg
  · cases hg
/-! ### subscripts -/
def gIx : Dt → Dt → Option Dt
  | .list ds, .int i => atI ds i
  | .tuple ds, .int i => atI ds i
  | _, _ => none
theorem dqAll_atI {G : Hp} {vs : List V} {ds : List Dt} {i : Int} {d : Dt} (h : DqAll G vs ds) (e : atI ds i = some d) : ∃ v, atI vs i = some v ∧ Dq G v d := by
  unfold atI at e ⊢
  rw [h.length]
  obtain ⟨j, e1, e2⟩ := Option.bind_eq_some_iff.mp e
  obtain ⟨v, h1, h2⟩ := h.get e2
  exact ⟨v, by rw [e1]; exact h1, h2⟩
def rIxA (K : PySem.W.Frag) : R2 := fun x y H Q => rIxL K x y H Q ∨ rIxT K x y H Q
theorem ix_any {X : Cx} : IxR X (rIxA X.K) := IxR.or ix_list ix_tup
theorem br_ix {K : PySem.W.Frag} : Br2 (rIxA K) gIx := by
  intro G H v1 v2 d1 d2 d Q le h1 h2 hg q
  unfold gIx at hg
  split at hg
  · cases h2
    cases h1 with
    | lst e1 a1 =>
      obtain ⟨v, e, hd⟩ := dqAll_atI a1 hg
      exact .inl ⟨_, _, _, _, rfl, rfl, SqL.of (le _ _ e1), e, q.here le hd⟩
  · cases h2
    cases h1 with
    | tup e1 a1 =>
      obtain ⟨v, e, hd⟩ := dqAll_atI a1 hg
      exact .inr ⟨_, _, _, _, rfl, rfl, SqT.of (le _ _ e1), e, q.here le hd⟩
  · cases hg
/-- an own list's item -/
def gIxL (gl : List Sl → Option (List Dt)) (gi : Gd) : Gd := fun env => (gl env).bind fun ds => (gi env).bind fun i => match i with
  | .int i => atI ds i
  | _ => none
section
variable {X : Cx} {a b : Expr} {ga gb : Gd} {pos p2 : Pos}
theorem pv_ixA (ha : PE X a (tPV X.K ga)) (hb : PE X b (tPV X.K gb)) (hs : PlainIx b := by intro _ _; rfl) : PE X (.Subscript a b pos) (tPV X.K (g2 gIx ga gb)) := pv_ix ix_any br_ix ha hb hs
theorem pv_ixL {gl : List Sl → Option (List Dt)} (ha : PE X a (tLS X.K gl)) (hb : PE X b (tPV X.K gb)) (hs : PlainIx b := by intro _ _; rfl) : PE X (.Subscript a b pos) (tPV X.K (gIxL gl gb)) :=
  pe_imp (pe_ix ix_list ha hb hs) fun σ H Q ⟨G, env, Os, d, F, hg, q⟩ => by
    obtain ⟨ds, e1, hg⟩ := Option.bind_eq_some_iff.mp hg
    obtain ⟨y, e2, hg⟩ := Option.bind_eq_some_iff.mp hg
    refine ⟨G, env, Os, ds, F, e1, fun p vs G1 H1 a1 h1 d1 => ⟨G1, env, Os, y, F.grow a1, e2, fun v2 G2 H2 a2 d2 => ?_⟩⟩
    split at hg
    · cases d2
      obtain ⟨v, e, hd⟩ := dqAll_atI (dqAll_mono a2.g d1) hg
      exact ⟨_, _, _, _, rfl, rfl, SqL.of (a2.h _ _ h1), e, (q.grow (a1.trans a2)).here a2.le hd⟩
    · cases hg
/-! ### slices -/
def tPart' (K : PySem.W.Frag) (o : List Sl → Option (Option Int)) : TO := fun σ H Q => ∃ G env Os i, Frm K G H σ env Os ∧ o env = some i ∧ ∀ G' H', Grow G H G' H' → Q i H'
theorem po_no : PO X none (tPart' X.K fun _ => some none) := ⟨fun pins s σ H Q I ⟨G, env, Os, i, F, e, q⟩ => by
  cases e
  exact po_none.run pins s σ H Q I (q G H (Grow.refl F.le))⟩
def asInt (g : Gd) : List Sl → Option (Option Int) := fun env => match g env with
  | some (.int i) => some (some i)
  | _ => none
theorem po_so {e : Expr} {g : Gd} (h : PE X e (tPV X.K g)) : PO X (some e) (tPart' X.K (asInt g)) := ⟨fun pins s σ H Q I ⟨G, env, Os, i, F, e, q⟩ => by
  refine (po_some h).run pins s σ H Q I ⟨G, env, Os, ?_⟩
  unfold asInt at e
  split at e
  · rename_i j hj
    cases e
    refine ⟨_, F, hj, fun v G' H' a d => ?_⟩
    cases d
    exact ⟨_, rfl, q G' H' a⟩
  · cases e⟩
def cut {α : Type} (xs : List α) (lo hi : Option Int) : List α := (xs.drop (HT.sIx xs.length 0 lo)).take (HT.sIx xs.length xs.length hi - HT.sIx xs.length 0 lo)
def gSlT (g : Gd) (ol oh : List Sl → Option (Option Int)) : Gd := fun env => (g env).bind fun d => (ol env).bind fun lo => (oh env).bind fun hi => match d with
  | .tuple ds => some (.tuple (cut ds lo hi))
  | _ => none
def gSlL (g : List Sl → Option (List Dt)) (ol oh : List Sl → Option (Option Int)) : List Sl → Option (List Dt) := fun env => (g env).bind fun ds => (ol env).bind fun lo => (oh env).bind fun hi => some (cut ds lo hi)
theorem dqAll_cut {G : Hp} {vs : List V} {ds : List Dt} (h : DqAll G vs ds) (lo hi : Option Int) : DqAll G (cutV vs lo hi) (cut ds lo hi) := by
  unfold cutV cut
  rw [h.length]
  exact (h.drop _).take _
theorem cut_all {α : Type} {xs : List α} {lo hi : Option Int} (h : HT.sIx xs.length 0 lo = 0 ∧ HT.sIx xs.length xs.length hi = xs.length) : cut xs lo hi = xs := by
  unfold cut
  rw [h.1, h.2, List.drop_zero, Nat.sub_zero, List.take_length]
theorem pv_slT {lo hi : Option Expr} {ol oh : List Sl → Option (Option Int)} (ha : PE X a (tPV X.K ga)) (hl : PO X lo (tPart' X.K ol)) (hh : PO X hi (tPart' X.K oh)) : PE X (.Subscript a (.Slice lo hi none p2) pos) (tPV X.K (gSlT ga ol oh)) :=
  pe_imp (pe_slice sl_tupA ha hl hh) fun σ H Q ⟨G, env, Os, d, F, hg, q⟩ => by
    obtain ⟨x, e1, hg⟩ := Option.bind_eq_some_iff.mp hg
    obtain ⟨l, e2, hg⟩ := Option.bind_eq_some_iff.mp hg
    obtain ⟨u, e3, hg⟩ := Option.bind_eq_some_iff.mp hg
    refine ⟨G, env, Os, x, F, e1, fun v G1 H1 a1 d1 => ⟨G1, env, Os, l, F.grow a1, e2, fun G2 H2 a2 => ⟨G2, env, Os, u, (F.grow a1).grow a2, e3, fun G3 H3 a3 => ?_⟩⟩⟩
    split at hg
    · cases hg
      cases d1 with
      | tup h1 k1 =>
        have q' := q.grow ((a1.trans a2).trans a3)
        have g3 := (a2.trans a3).g _ _ h1
        have k3 := dqAll_mono (a2.trans a3).g k1
        refine ⟨_, _, rfl, SqT.of (a3.le _ _ g3), fun z => ?_, fun _ p hp => q'.tup a3.le hp (dqAll_cut k3 l u)⟩
        rw [k3.length] at z
        rw [cut_all z] at q'
        exact q'.here a3.le (.tup g3 k3)
    · cases hg
theorem fl_slL {lo hi : Option Expr} {gl : List Sl → Option (List Dt)} {ol oh : List Sl → Option (Option Int)} (ha : PE X a (tLS X.K gl)) (hl : PO X lo (tPart' X.K ol)) (hh : PO X hi (tPart' X.K oh)) : PE X (.Subscript a (.Slice lo hi none p2) pos) (tFL X.K (gSlL gl ol oh)) :=
  pe_imp (pe_slice sl_list ha hl hh) fun σ H Q ⟨G, env, Os, d, F, hg, q⟩ => by
    obtain ⟨x, e1, hg⟩ := Option.bind_eq_some_iff.mp hg
    obtain ⟨l, e2, hg⟩ := Option.bind_eq_some_iff.mp hg
    obtain ⟨u, e3, hg⟩ := Option.bind_eq_some_iff.mp hg
    cases hg
    refine ⟨G, env, Os, x, F, e1, fun p vs G1 H1 a1 h1 d1 => ⟨G1, env, Os, l, F.grow a1, e2, fun G2 H2 a2 => ⟨G2, env, Os, u, (F.grow a1).grow a2, e3, fun G3 H3 a3 => ?_⟩⟩⟩
    have q' := q.grow ((a1.trans a2).trans a3)
    exact ⟨_, _, rfl, SqL.of ((a2.trans a3).h _ _ h1), fun p' hp' => q'.new a3.le hp' (dqAll_cut (dqAll_mono (a2.trans a3).g d1) l u)⟩
/-! ### tests, and, or, not, if -/
def asB (g : Gd) : List Sl → Option Bool := fun env => match g env with
  | some (.bool b) => some b
  | _ => none
theorem asB_some {g : Gd} {env : List Sl} {b : Bool} (h : asB g env = some b) : g env = some (.bool b) := by
  unfold asB at h
  split at h
  · rename_i e; cases h; exact e
  · cases h
theorem tb_of {g : Gd} {K : PySem.W.Frag} {σ : L2.St} {H : Hp} {Q : Bool → Hp → Prop} (h : tTV K (asB g) σ H Q) : tPV K g σ H fun x H1 => ∃ c, x = .bl c ∧ Q c H1 := by
  obtain ⟨G, env, Os, b, F, hg, q⟩ := h
  refine ⟨G, env, Os, _, F, asB_some hg, fun v G' H' a d => ?_⟩
  cases d
  exact ⟨_, rfl, q G' H' a⟩
theorem tv_val {e : Expr} {g : Gd} (h : PE X e (tPV X.K g)) (he : ∀ whole, isTrue e X.env whole = (do let v ← whole; standAt e.pos; holding [v] (truthy v)) := by intro _; rfl) : PT X e (tTV X.K (asB g)) :=
  pt_imp (pt_val h he) fun σ H Q h => tb_of h
theorem tv_cmp {op : CmpOp} {r : R2} {g : Dt → Dt → Option Dt} (ho : OpR X (compareOp op) r) (hb : Sr2 r g) (ha : PE X a (tPK X.K ga)) (hb' : PE X b (tPK X.K gb)) (hm : behindInMarks op b = false := by first | exact nomark _ | rfl) :
    PT X (.Compare a [op] [b] pos) (tTV X.K (asB (g2 g ga gb))) :=
  pt_imp (pt_cmpR ho ha hb' hm) fun σ H Q h => two_pk hb (tb_of h)
def gAndT (a b : List Sl → Option Bool) : List Sl → Option Bool := fun env => match a env with
  | some true => b env
  | some false => some false
  | none => none
def gOrT (a b : List Sl → Option Bool) : List Sl → Option Bool := fun env => match a env with
  | some false => b env
  | some true => some true
  | none => none
def gNotT (a : List Sl → Option Bool) : List Sl → Option Bool := fun env => (a env).map (!·)
variable {ta tb : List Sl → Option Bool} {rest : List Expr}
theorem tw_and1 (ha : PT X a (tTV X.K ta)) : PW X (.BoolOp .And [a] pos) (tTV X.K ta) := pw_and1 ha
theorem tw_or1 (ha : PT X a (tTV X.K ta)) : PW X (.BoolOp .Or [a] pos) (tTV X.K ta) := pw_or1 ha
theorem tw_and (ha : PT X a (tTV X.K ta)) (hb : PW X (.BoolOp .And (b :: rest) pos) (tTV X.K tb)) : PW X (.BoolOp .And (a :: b :: rest) pos) (tTV X.K (gAndT ta tb)) :=
  pw_imp (pw_and ha hb) fun σ H Q ⟨G, env, Os, c, F, hg, q⟩ => by
    unfold gAndT at hg
    split at hg
    · rename_i e
      exact ⟨G, env, Os, _, F, e, fun G1 H1 a1 => iteT ⟨G1, env, Os, _, F.grow a1, hg, q.grow a1⟩⟩
    · rename_i e
      cases hg
      exact ⟨G, env, Os, _, F, e, fun G1 H1 a1 => iteF (q G1 H1 a1)⟩
    · cases hg
theorem tw_or (ha : PT X a (tTV X.K ta)) (hb : PW X (.BoolOp .Or (b :: rest) pos) (tTV X.K tb)) : PW X (.BoolOp .Or (a :: b :: rest) pos) (tTV X.K (gOrT ta tb)) :=
  pw_imp (pw_or ha hb) fun σ H Q ⟨G, env, Os, c, F, hg, q⟩ => by
    unfold gOrT at hg
    split at hg
    · rename_i e
      exact ⟨G, env, Os, _, F, e, fun G1 H1 a1 => iteF ⟨G1, env, Os, _, F.grow a1, hg, q.grow a1⟩⟩
    · rename_i e
      cases hg
      exact ⟨G, env, Os, _, F, e, fun G1 H1 a1 => iteT (q G1 H1 a1)⟩
    · cases hg
theorem tv_not (ha : PT X a (tTV X.K ta)) : PT X (.UnaryOp .Not a pos) (tTV X.K (gNotT ta)) := pt_imp (pt_not ha) fun σ H Q ⟨G, env, Os, c, F, hg, q⟩ => by
  obtain ⟨b, e1, e2⟩ := Option.map_eq_some_iff.mp hg
  subst e2
  exact ⟨G, env, Os, b, F, e1, q⟩
def gAndV (a b : Gd) : Gd := fun env => match a env with
  | some (.bool true) => b env
  | some (.bool false) => some (.bool false)
  | _ => none
def gOrV (a b : Gd) : Gd := fun env => match a env with
  | some (.bool false) => b env
  | some (.bool true) => some (.bool true)
  | _ => none
def gNotV (a : Gd) : Gd := fun env => match a env with
  | some (.bool b) => some (.bool !b)
  | _ => none
theorem pv_one {op} {g : Gd} (h : PE X a (tPV X.K g)) : PE X (.BoolOp op [a] pos) (tPV X.K g) := pe_one h
theorem pv_and (ha : PE X a (tPV X.K ga)) (hb : PE X (.BoolOp .And (b :: rest) pos) (tPV X.K gb)) : PE X (.BoolOp .And (a :: b :: rest) pos) (tPV X.K (gAndV ga gb)) :=
  pe_imp (pe_and ha hb) fun σ H Q ⟨G, env, Os, c, F, hg, q⟩ => by
    unfold gAndV at hg
    split at hg
    · rename_i e
      refine ⟨G, env, Os, _, F, e, fun v G1 H1 a1 d => ?_⟩
      cases d
      exact ⟨_, rfl, iteT ⟨G1, env, Os, _, F.grow a1, hg, q.grow a1⟩⟩
    · rename_i e
      cases hg
      refine ⟨G, env, Os, _, F, e, fun v G1 H1 a1 d => ?_⟩
      cases d
      exact ⟨_, rfl, iteF (q _ G1 H1 a1 (.bl _))⟩
    · cases hg
theorem pv_or (ha : PE X a (tPV X.K ga)) (hb : PE X (.BoolOp .Or (b :: rest) pos) (tPV X.K gb)) : PE X (.BoolOp .Or (a :: b :: rest) pos) (tPV X.K (gOrV ga gb)) :=
  pe_imp (pe_or ha hb) fun σ H Q ⟨G, env, Os, c, F, hg, q⟩ => by
    unfold gOrV at hg
    split at hg
    · rename_i e
      refine ⟨G, env, Os, _, F, e, fun v G1 H1 a1 d => ?_⟩
      cases d
      exact ⟨_, rfl, iteF ⟨G1, env, Os, _, F.grow a1, hg, q.grow a1⟩⟩
    · rename_i e
      cases hg
      refine ⟨G, env, Os, _, F, e, fun v G1 H1 a1 d => ?_⟩
      cases d
      exact ⟨_, rfl, iteT (q _ G1 H1 a1 (.bl _))⟩
    · cases hg
theorem pv_not (ha : PE X a (tPV X.K ga)) : PE X (.UnaryOp .Not a pos) (tPV X.K (gNotV ga)) := pe_imp (pe_not ha) fun σ H Q ⟨G, env, Os, c, F, hg, q⟩ => by
  unfold gNotV at hg
  split at hg
  · rename_i e
    cases hg
    refine ⟨G, env, Os, _, F, e, fun v G1 H1 a1 d => ?_⟩
    cases d
    exact ⟨_, rfl, q _ G1 H1 a1 (.bl _)⟩
  · cases hg
def gNeg : Dt → Option Dt
  | .int i => some (.int (-i))
  | _ => none
theorem pv_neg (ha : PE X a (tPV X.K ga)) : PE X (.UnaryOp .USub a pos) (tPV X.K (g1 gNeg ga)) := pe_imp (pe_un un_neg ha) fun σ H Q ⟨G, env, Os, c, F, hg, q⟩ => by
  obtain ⟨x, e, hg⟩ := Option.bind_eq_some_iff.mp hg
  refine ⟨G, env, Os, x, F, e, fun v G1 H1 a1 d => ?_⟩
  unfold gNeg at hg
  split at hg
  · cases hg
    cases d
    exact ⟨_, rfl, q _ G1 H1 a1 (.int _)⟩
  · cases hg
def gIf (t : List Sl → Option Bool) (a b : Gd) : Gd := fun env => match t env with
  | some true => a env
  | some false => b env
  | none => none
theorem pv_if {c : Expr} {tc : List Sl → Option Bool} (hc : PT X c (tTV X.K tc)) (ha : PE X a (tPV X.K ga)) (hb : PE X b (tPV X.K gb)) : PE X (.IfExp c a b pos) (tPV X.K (gIf tc ga gb)) :=
  pe_imp (pe_ifExp hc ha hb) fun σ H Q ⟨G, env, Os, d, F, hg, q⟩ => by
    unfold gIf at hg
    split at hg
    · rename_i e
      exact ⟨G, env, Os, _, F, e, fun G1 H1 a1 => iteT ⟨G1, env, Os, _, F.grow a1, hg, q.grow a1⟩⟩
    · rename_i e
      exact ⟨G, env, Os, _, F, e, fun G1 H1 a1 => iteF ⟨G1, env, Os, _, F.grow a1, hg, q.grow a1⟩⟩
    · cases hg
/-! ### is None -/
def isNon : Dt → Bool
  | .none => true
  | _ => false
def gIsN (neg : Bool) (g : Gd) : Gd := fun env => (g env).map fun d => .bool (neg ^^ isNon d)
theorem isN_of {G : Hp} {v : V} {d : Dt} (h : Dq G v d) : decide (v = .non) = isNon d := by
  cases h <;> rfl
theorem pv_isN {j p'} (ha : PE X a (tPK X.K ga)) : PE X (.Compare a [.Is] [.Constant .none j p'] pos) (tPV X.K (gIsN false ga)) := pe_imp (pe_cmp (pc_isN ha) rfl) fun σ H Q ⟨G, env, Os, c, F, hg, q⟩ => by
  obtain ⟨x, e1, e2⟩ := Option.map_eq_some_iff.mp hg
  subst e2
  refine ⟨G, env, Os, x, F, e1, fun v G1 H1 a1 d => ?_⟩
  show Q (.bl (decide (v = .non))) H1
  rw [isN_of d]
  rw [Bool.false_xor] at q
  exact q _ G1 H1 a1 (.bl _)
theorem pv_notN {j p'} (ha : PE X a (tPK X.K ga)) : PE X (.Compare a [.IsNot] [.Constant .none j p'] pos) (tPV X.K (gIsN true ga)) := pe_imp (pe_cmp (pc_notN ha) rfl) fun σ H Q ⟨G, env, Os, c, F, hg, q⟩ => by
  obtain ⟨x, e1, e2⟩ := Option.map_eq_some_iff.mp hg
  subst e2
  refine ⟨G, env, Os, x, F, e1, fun v G1 H1 a1 d => ?_⟩
  show Q (.bl (!decide (v = .non))) H1
  rw [isN_of d]
  rw [Bool.true_xor] at q
  exact q _ G1 H1 a1 (.bl _)
theorem tv_isN {j p'} (ha : PE X a (tPK X.K ga)) : PT X (.Compare a [.Is] [.Constant .none j p'] pos) (tTV X.K (asB (gIsN false ga))) := pt_imp (pt_cmp (pc_isN ha) rfl) fun σ H Q h => by
  obtain ⟨G, env, Os, b, F, hg, q⟩ := h
  obtain ⟨x, e1, e2⟩ := Option.map_eq_some_iff.mp (asB_some hg)
  refine ⟨G, env, Os, x, F, e1, fun v G1 H1 a1 d => ⟨decide (v = .non), rfl, ?_⟩⟩
  have e := PyData.bool.inj e2
  rw [Bool.false_xor] at e
  rw [isN_of d, e]
  exact q G1 H1 a1
theorem tv_notN {j p'} (ha : PE X a (tPK X.K ga)) : PT X (.Compare a [.IsNot] [.Constant .none j p'] pos) (tTV X.K (asB (gIsN true ga))) := pt_imp (pt_cmp (pc_notN ha) rfl) fun σ H Q h => by
  obtain ⟨G, env, Os, b, F, hg, q⟩ := h
  obtain ⟨x, e1, e2⟩ := Option.map_eq_some_iff.mp (asB_some hg)
  refine ⟨G, env, Os, x, F, e1, fun v G1 H1 a1 d => ⟨!decide (v = .non), rfl, ?_⟩⟩
  have e := PyData.bool.inj e2
  rw [Bool.true_xor] at e
  rw [isN_of d, e]
  exact q G1 H1 a1
end
end Fw
namespace Fw
open PySem PySem.Spec PyProof.Rows L2
abbrev Gs := List Sl → Option (List Dt)
def gNil : Gs := fun _ => some []
def gCons (ga : Gd) (gr : Gs) : Gs := fun env => (ga env).bind fun x => (gr env).map (x :: ·)
section
variable {X : Cx} {a e : Expr} {es : List Expr} {ga : Gd} {gr : Gs} {pos p apos : Pos} {x : Str}
theorem pvs_nil : PA X [] (tPVs X.K gNil) := pa_imp pa_nil fun σ H Q ⟨G, env, Os, ds, F, hg, q⟩ => by
  cases hg
  exact q [] G H (Grow.refl F.le) .nil
theorem pks_nil : PA X [] (tPKs X.K gNil) := pa_imp pa_nil fun σ H Q ⟨G, env, Os, ds, F, hg, q⟩ => by
  cases hg
  exact q [] G H (Grow.refl F.le) .nil
theorem gcons_some {env : List Sl} {ds : List Dt} (h : gCons ga gr env = some ds) : ∃ d r, ga env = some d ∧ gr env = some r ∧ ds = d :: r := by
  obtain ⟨d, e1, h⟩ := Option.bind_eq_some_iff.mp h
  obtain ⟨r, e2, e3⟩ := Option.map_eq_some_iff.mp h
  exact ⟨d, r, e1, e2, e3.symm⟩
theorem pvs_cons (ha : PE X a (tPV X.K ga)) (hr : PA X es (tPVs X.K gr)) (hs : starEach (a :: es) X.env = (false, eval a X.env) :: starEach es X.env := by rfl) : PA X (a :: es) (tPVs X.K (gCons ga gr)) :=
  pa_imp (pa_cons ha hr hs) fun σ H Q ⟨G, env, Os, ds, F, hg, q⟩ => by
    obtain ⟨d, r, e1, e2, rfl⟩ := gcons_some hg
    exact ⟨G, env, Os, d, F, e1, fun v G1 H1 a1 d1 => ⟨G1, env, Os, r, F.grow a1, e2, fun vs G2 H2 a2 d2 => q _ G2 H2 (a1.trans a2) (.cons (dq_mono a2.g d1) d2)⟩⟩
theorem pks_cons (ha : PE X a (tPK X.K ga)) (hr : PA X es (tPKs X.K gr)) (hs : starEach (a :: es) X.env = (false, eval a X.env) :: starEach es X.env := by rfl) : PA X (a :: es) (tPKs X.K (gCons ga gr)) :=
  pa_imp (pa_cons ha hr hs) fun σ H Q ⟨G, env, Os, ds, F, hg, q⟩ => by
    obtain ⟨d, r, e1, e2, rfl⟩ := gcons_some hg
    exact ⟨G, env, Os, d, F, e1, fun v G1 H1 a1 d1 => ⟨G1, env, Os, r, F.grow a1, e2, fun vs G2 H2 a2 d2 => q _ G2 H2 (a1.trans a2) (.cons (dq_mono (vw_grow a1.le a2 (F.grow a1).env.there) d1) d2)⟩⟩
/-! ### displays -/
def gTup (g : Gs) : Gd := fun env => (g env).bind fun ds => if ds.length ≤ 1000 then some (.tuple ds) else none
def gLst (g : Gs) : Gs := fun env => (g env).bind fun ds => if ds.length ≤ 1000 then some ds else none
theorem sz1000 {n : Nat} (h : n ≤ 1000) : n ≤ sizeLine := Nat.le_trans h (by rw [sz_eq]; decide)
theorem pv_tup {k} (h : PA X es (tPVs X.K gr)) : PE X (.Tuple es k pos) (tPV X.K (gTup gr)) := pe_imp (pe_tup h) fun σ H Q ⟨G, env, Os, d, F, hg, q⟩ => by
  obtain ⟨ds, e1, hg⟩ := Option.bind_eq_some_iff.mp hg
  split at hg
  · rename_i hz
    cases hg
    exact ⟨G, env, Os, ds, F, e1, fun vs G1 H1 a1 d1 => ⟨by rw [d1.length]; exact sz1000 hz, fun p hp => (q.grow a1).tup a1.le hp d1⟩⟩
  · cases hg
theorem fl_lst (h : PA X es (tPVs X.K gr)) : PE X (.List es pos) (tFL X.K (gLst gr)) := pe_imp (pe_lst h) fun σ H Q ⟨G, env, Os, d, F, hg, q⟩ => by
  obtain ⟨ds, e1, hg⟩ := Option.bind_eq_some_iff.mp hg
  split at hg
  · rename_i hz
    cases hg
    exact ⟨G, env, Os, _, F, e1, fun vs G1 H1 a1 d1 => ⟨by rw [d1.length]; exact sz1000 hz, fun p hp => (q.grow a1).new a1.le hp d1⟩⟩
  · cases hg
/-! ### built-ins by values -/
abbrev RL := List V → Hp → VK → Prop
def SrL (r : RL) (g : List Dt → Option Dt) : Prop := ∀ (G H : Hp) (vs : List V) (ds : List Dt) (d : Dt) (Q : VK), Same G H → DqAll G vs ds → g ds = some d → (∀ v, sc d = some v → Q v H) → r vs H Q
def BrL (r : RL) (g : List Dt → Option Dt) : Prop := ∀ (G H : Hp) (vs : List V) (ds : List Dt) (d : Dt) (Q : VK), Same G H → DqAll G vs ds → g ds = some d → PostD G H d Q → r vs H Q
/-- of one list that is looked at: to a value, to a new list -/
def LrD (r : RL) (g : List Dt → Option Dt) : Prop := ∀ (G H : Hp) (p : Addr) (vs : List V) (ds : List Dt) (d : Dt) (Q : VK), Same G H → H p = some (.lst vs) → DqAll G vs ds → g ds = some d → PostD G H d Q → r [.ref p] H Q
def LrF (r : RL) (g : List Dt → Option (List Dt)) : Prop := ∀ (G H : Hp) (p : Addr) (vs : List V) (ds es : List Dt) (Q : VK), Same G H → H p = some (.lst vs) → DqAll G vs ds → g ds = some es → PostF G H es Q → r [.ref p] H Q
def gA (g : List Dt → Option Dt) (gs : Gs) : Gd := fun env => (gs env).bind g
def gF (g : List Dt → Option (List Dt)) (gs : Gs) : Gs := fun env => (gs env).bind g
variable {r : RL} {g : List Dt → Option Dt} {gf : List Dt → Option (List Dt)} {gs : Gs} {id T : String}
theorem all_pk {K : PySem.W.Frag} {σ : L2.St} {H : Hp} {Q : VK} (hb : SrL r g) (h : tPV K (gA g gs) σ H Q) : tPKs K gs σ H fun vs H1 => r vs H1 Q := by
  obtain ⟨G, env, Os, d, F, hg, q⟩ := h
  obtain ⟨ds, e1, hg⟩ := Option.bind_eq_some_iff.mp hg
  exact ⟨G, env, Os, ds, F, e1, fun vs G1 H1 a1 d1 => hb (Vw G1 H1 Os.flatten) H1 vs ds d Q (vw_sub a1.le _) d1 hg fun v hv => q v G1 H1 a1 (sc_dq hv G1)⟩
theorem all_pv {K : PySem.W.Frag} {σ : L2.St} {H : Hp} {Q : VK} (hb : BrL r g) (h : tPV K (gA g gs) σ H Q) : tPVs K gs σ H fun vs H1 => r vs H1 Q := by
  obtain ⟨G, env, Os, d, F, hg, q⟩ := h
  obtain ⟨ds, e1, hg⟩ := Option.bind_eq_some_iff.mp hg
  exact ⟨G, env, Os, ds, F, e1, fun vs G1 H1 a1 d1 => hb G1 H1 vs ds d Q a1.le d1 hg (q.grow a1)⟩
theorem pv_cB (hc : CallR X (.builtin id) r) (hb : SrL r g) (hg : Gl X x) (hm : X.mg x = none) (hv : bootBuiltins x = some (.builtin id)) (ha : PA X (e :: es) (tPKs X.K gs)) (hn : x ≠ "__name__" := by decide) (hdb : (x == ("__debug__" : Str)) = false := by decide)
    (he : starEach (e :: es) X.env = (false, eval e X.env) :: starEach es X.env := by rfl) (hpl : (backTo pos (starEach es X.env)).any (·.1) = false := by rfl) : PE X (.Call (.Name x p) (e :: es) [] pos) (tPV X.K (gA g gs)) :=
  pe_imp (pe_callB hc hg hm hv ha hn hdb he hpl) fun σ H Q h => all_pk hb h
theorem pv_cT (hc : CallR X (.type T) r) (hb : SrL r g) (hg : Gl X x) (hm : X.mg x = none) (hv : bootBuiltins x = some (.type T)) (ha : PA X (e :: es) (tPKs X.K gs)) (hn : x ≠ "__name__" := by decide) (hdb : (x == ("__debug__" : Str)) = false := by decide)
    (he : starEach (e :: es) X.env = (false, eval e X.env) :: starEach es X.env := by rfl) (hpl : (backTo pos (starEach es X.env)).any (·.1) = false := by rfl) : PE X (.Call (.Name x p) (e :: es) [] pos) (tPV X.K (gA g gs)) :=
  pe_imp (pe_callTy hc hg hm hv ha hn hdb he hpl) fun σ H Q h => all_pk hb h
theorem pv_cBv (hc : CallR X (.builtin id) r) (hb : BrL r g) (hg : Gl X x) (hm : X.mg x = none) (hv : bootBuiltins x = some (.builtin id)) (ha : PA X (e :: es) (tPVs X.K gs)) (hn : x ≠ "__name__" := by decide) (hdb : (x == ("__debug__" : Str)) = false := by decide)
    (he : starEach (e :: es) X.env = (false, eval e X.env) :: starEach es X.env := by rfl) (hpl : (backTo pos (starEach es X.env)).any (·.1) = false := by rfl) : PE X (.Call (.Name x p) (e :: es) [] pos) (tPV X.K (gA g gs)) :=
  pe_imp (pe_callB hc hg hm hv ha hn hdb he hpl) fun σ H Q h => all_pv hb h
theorem pv_cTv (hc : CallR X (.type T) r) (hb : BrL r g) (hg : Gl X x) (hm : X.mg x = none) (hv : bootBuiltins x = some (.type T)) (ha : PA X (e :: es) (tPVs X.K gs)) (hn : x ≠ "__name__" := by decide) (hdb : (x == ("__debug__" : Str)) = false := by decide)
    (he : starEach (e :: es) X.env = (false, eval e X.env) :: starEach es X.env := by rfl) (hpl : (backTo pos (starEach es X.env)).any (·.1) = false := by rfl) : PE X (.Call (.Name x p) (e :: es) [] pos) (tPV X.K (gA g gs)) :=
  pe_imp (pe_callTy hc hg hm hv ha hn hdb he hpl) fun σ H Q h => all_pv hb h
theorem one_l {K : PySem.W.Frag} {σ : L2.St} {H : Hp} {Q : VK} (hb : LrD r g) (h : tPV K (gA g gs) σ H Q) : tCons (tLS K gs) tNil σ H fun vs H1 => r vs H1 Q := by
  obtain ⟨G, env, Os, d, F, hg, q⟩ := h
  obtain ⟨ds, e1, hg⟩ := Option.bind_eq_some_iff.mp hg
  exact ⟨G, env, Os, ds, F, e1, fun p vs G1 H1 a1 h1 d1 => hb G1 H1 p vs ds d Q a1.le h1 d1 hg (q.grow a1)⟩
theorem one_f {K : PySem.W.Frag} {σ : L2.St} {H : Hp} {Q : VK} (hb : LrF r gf) (h : tFL K (gF gf gs) σ H Q) : tCons (tLS K gs) tNil σ H fun vs H1 => r vs H1 Q := by
  obtain ⟨G, env, Os, d, F, hg, q⟩ := h
  obtain ⟨ds, e1, hg⟩ := Option.bind_eq_some_iff.mp hg
  exact ⟨G, env, Os, ds, F, e1, fun p vs G1 H1 a1 h1 d1 => hb G1 H1 p vs ds d Q a1.le h1 d1 hg (q.grow a1)⟩
theorem pv_cBl (hc : CallR X (.builtin id) r) (hb : LrD r g) (hg : Gl X x) (hm : X.mg x = none) (hv : bootBuiltins x = some (.builtin id)) (ha : PE X e (tLS X.K gs)) (hn : x ≠ "__name__" := by decide) (hdb : (x == ("__debug__" : Str)) = false := by decide)
    (he : starEach [e] X.env = (false, eval e X.env) :: starEach [] X.env := by rfl) (hpl : (backTo pos (starEach [] X.env)).any (·.1) = false := by rfl) : PE X (.Call (.Name x p) [e] [] pos) (tPV X.K (gA g gs)) :=
  pe_imp (pe_callB hc hg hm hv (pa_cons ha pa_nil he) hn hdb he hpl) fun σ H Q h => one_l hb h
theorem pv_cTl (hc : CallR X (.type T) r) (hb : LrD r g) (hg : Gl X x) (hm : X.mg x = none) (hv : bootBuiltins x = some (.type T)) (ha : PE X e (tLS X.K gs)) (hn : x ≠ "__name__" := by decide) (hdb : (x == ("__debug__" : Str)) = false := by decide)
    (he : starEach [e] X.env = (false, eval e X.env) :: starEach [] X.env := by rfl) (hpl : (backTo pos (starEach [] X.env)).any (·.1) = false := by rfl) : PE X (.Call (.Name x p) [e] [] pos) (tPV X.K (gA g gs)) :=
  pe_imp (pe_callTy hc hg hm hv (pa_cons ha pa_nil he) hn hdb he hpl) fun σ H Q h => one_l hb h
theorem fl_cB (hc : CallR X (.builtin id) r) (hb : LrF r gf) (hg : Gl X x) (hm : X.mg x = none) (hv : bootBuiltins x = some (.builtin id)) (ha : PE X e (tLS X.K gs)) (hn : x ≠ "__name__" := by decide) (hdb : (x == ("__debug__" : Str)) = false := by decide)
    (he : starEach [e] X.env = (false, eval e X.env) :: starEach [] X.env := by rfl) (hpl : (backTo pos (starEach [] X.env)).any (·.1) = false := by rfl) : PE X (.Call (.Name x p) [e] [] pos) (tFL X.K (gF gf gs)) :=
  pe_imp (pe_callB hc hg hm hv (pa_cons ha pa_nil he) hn hdb he hpl) fun σ H Q h => one_f hb h
theorem fl_cT (hc : CallR X (.type T) r) (hb : LrF r gf) (hg : Gl X x) (hm : X.mg x = none) (hv : bootBuiltins x = some (.type T)) (ha : PE X e (tLS X.K gs)) (hn : x ≠ "__name__" := by decide) (hdb : (x == ("__debug__" : Str)) = false := by decide)
    (he : starEach [e] X.env = (false, eval e X.env) :: starEach [] X.env := by rfl) (hpl : (backTo pos (starEach [] X.env)).any (·.1) = false := by rfl) : PE X (.Call (.Name x p) [e] [] pos) (tFL X.K (gF gf gs)) :=
  pe_imp (pe_callTy hc hg hm hv (pa_cons ha pa_nil he) hn hdb he hpl) fun σ H Q h => one_f hb h
end
/-! ### each built-in -/
def gLen : List Dt → Option Dt
  | [.list ds] => some (.int ds.length)
  | [.tuple ds] => some (.int ds.length)
  | _ => none
theorem sr_len {K : PySem.W.Frag} : SrL (fun xs H Q => ∃ x n, xs = [x] ∧ LenV K x H n ∧ Q (.int n) H) gLen := by
  intro G H vs ds d Q le h hg q
  unfold gLen at hg
  split at hg
  · cases hg
    cases h with
    | cons h1 h2 => cases h2; cases h1 with
      | lst e a => exact ⟨_, _, rfl, .inl ⟨_, SqL.of (le _ _ e), rfl⟩, q _ (by rw [a.length]; rfl)⟩
  · cases hg
    cases h with
    | cons h1 h2 => cases h2; cases h1 with
      | tup e a => exact ⟨_, _, rfl, .inr ⟨_, SqT.of (le _ _ e), rfl⟩, q _ (by rw [a.length]; rfl)⟩
  · cases hg
def gAbs : List Dt → Option Dt
  | [.int i] => some (.int (if i < 0 then -i else i))
  | _ => none
theorem sr_abs : SrL (fun xs H Q => ∃ i, xs = [.int i] ∧ Q (.int (if i < 0 then -i else i)) H) gAbs := by
  intro G H vs ds d Q le h hg q
  unfold gAbs at hg
  split at hg
  · cases hg
    cases h with
    | cons h1 h2 => cases h2; cases h1; exact ⟨_, rfl, q _ rfl⟩
  · cases hg
def gMax2 : List Dt → Option Dt
  | [.int i, .int j] => some (.int (if j > i then j else i))
  | _ => none
theorem sr_max2 : SrL (fun xs H Q => ∃ i j, xs = [.int i, .int j] ∧ Q (.int (if j > i then j else i)) H) gMax2 := by
  intro G H vs ds d Q le h hg q
  unfold gMax2 at hg
  split at hg
  · cases hg
    cases h with
    | cons h1 h2 => cases h2 with
      | cons h2 h3 => cases h3; cases h1; cases h2; exact ⟨_, _, rfl, q _ rfl⟩
  · cases hg
def gMin2 : List Dt → Option Dt
  | [.int i, .int j] => some (.int (if j < i then j else i))
  | _ => none
theorem sr_min2 : SrL (fun xs H Q => ∃ i j, xs = [.int i, .int j] ∧ Q (.int (if j < i then j else i)) H) gMin2 := by
  intro G H vs ds d Q le h hg q
  unfold gMin2 at hg
  split at hg
  · cases hg
    cases h with
    | cons h1 h2 => cases h2 with
      | cons h2 h3 => cases h3; cases h1; cases h2; exact ⟨_, _, rfl, q _ rfl⟩
  · cases hg
def gInt : List Dt → Option Dt
  | [.int i] => some (.int i)
  | [.bool b] => some (.int (if b then 1 else 0))
  | _ => none
theorem sr_int : SrL (fun xs H Q => (∃ i, xs = [.int i] ∧ Q (.int i) H) ∨ ∃ k, xs = [.bl k] ∧ Q (.int (if k then 1 else 0)) H) gInt := by
  intro G H vs ds d Q le h hg q
  unfold gInt at hg
  split at hg
  · cases hg
    cases h with
    | cons h1 h2 => cases h2; cases h1; exact .inl ⟨_, rfl, q _ rfl⟩
  · cases hg
    cases h with
    | cons h1 h2 => cases h2; cases h1; exact .inr ⟨_, rfl, q _ rfl⟩
  · cases hg
def ints? : List Dt → Option (List Int)
  | [] => some []
  | .int i :: r => (ints? r).map (i :: ·)
  | _ => none
def bools? : List Dt → Option (List Bool)
  | [] => some []
  | .bool i :: r => (bools? r).map (i :: ·)
  | _ => none
theorem ints_vs {G : Hp} : ∀ {vs : List V} {ds : List Dt} {ns : List Int}, DqAll G vs ds → ints? ds = some ns → vs = ns.map V.int
  | _, _, _, .nil, e => by cases e; rfl
  | _, _, _, .cons (d := d) h t, e => by
    cases h with
    | int i =>
      rw [ints?] at e
      obtain ⟨r, e1, rfl⟩ := Option.map_eq_some_iff.mp e
      rw [List.map_cons, ints_vs t e1]
    | _ => cases e
theorem bools_vs {G : Hp} : ∀ {vs : List V} {ds : List Dt} {ns : List Bool}, DqAll G vs ds → bools? ds = some ns → vs = ns.map V.bl
  | _, _, _, .nil, e => by cases e; rfl
  | _, _, _, .cons (d := d) h t, e => by
    cases h with
    | bl i =>
      rw [bools?] at e
      obtain ⟨r, e1, rfl⟩ := Option.map_eq_some_iff.mp e
      rw [List.map_cons, bools_vs t e1]
    | _ => cases e
theorem ints_map : ∀ ns : List Int, ints? (ns.map PyData.int) = some ns
  | [] => rfl
  | n :: r => by
    rw [List.map_cons, ints?, ints_map r]
    rfl
theorem bools_map : ∀ ns : List Bool, bools? (ns.map PyData.bool) = some ns
  | [] => rfl
  | n :: r => by
    rw [List.map_cons, bools?, bools_map r]
    rfl
def gSum : List Dt → Option Dt
  | [.list ds] => (ints? ds).map fun ns => .int ns.sum
  | _ => none
theorem sr_sum {K : PySem.W.Frag} : SrL (rSum K) gSum := by
  intro G H vs ds d Q le h hg q
  unfold gSum at hg
  split at hg
  · obtain ⟨ns, e1, rfl⟩ := Option.map_eq_some_iff.mp hg
    cases h with
    | cons h1 h2 => cases h2; cases h1 with
      | lst e a =>
        have := ints_vs a e1
        subst this
        exact ⟨_, _, rfl, SqL.of (le _ _ e), q _ rfl⟩
  · cases hg
def gAll : List Dt → Option Dt
  | [.list ds] => (bools? ds).map fun ns => .bool (ns.all id)
  | _ => none
def gAny : List Dt → Option Dt
  | [.list ds] => (bools? ds).map fun ns => .bool (ns.any id)
  | _ => none
theorem sr_all {K : PySem.W.Frag} : SrL (rAll K) gAll := by
  intro G H vs ds d Q le h hg q
  unfold gAll at hg
  split at hg
  · obtain ⟨ns, e1, rfl⟩ := Option.map_eq_some_iff.mp hg
    cases h with
    | cons h1 h2 => cases h2; cases h1 with
      | lst e a =>
        have := bools_vs a e1
        subst this
        exact ⟨_, _, rfl, SqL.of (le _ _ e), q _ rfl⟩
  · cases hg
theorem sr_any {K : PySem.W.Frag} : SrL (rAny K) gAny := by
  intro G H vs ds d Q le h hg q
  unfold gAny at hg
  split at hg
  · obtain ⟨ns, e1, rfl⟩ := Option.map_eq_some_iff.mp hg
    cases h with
    | cons h1 h2 => cases h2; cases h1 with
      | lst e a =>
        have := bools_vs a e1
        subst this
        exact ⟨_, _, rfl, SqL.of (le _ _ e), q _ rfl⟩
  · cases hg
def maxI : List Int → Int
  | [] => 0
  | [x] => x
  | x :: r => if maxI r < x then x else maxI r
def minI : List Int → Int
  | [] => 0
  | [x] => x
  | x :: r => if x < minI r then x else minI r
theorem maxI_mem : ∀ {ns : List Int}, ns ≠ [] → maxI ns ∈ ns ∧ ∀ y ∈ ns, y ≤ maxI ns
  | [x], _ => ⟨by simp [maxI], fun y hy => by simp at hy; simp [maxI, hy]⟩
  | x :: y :: r, _ => by
    obtain ⟨h1, h2⟩ := maxI_mem (ns := y :: r) (by simp)
    rw [maxI]
    · split
      · rename_i hlt
        refine ⟨List.mem_cons_self, fun z hz => ?_⟩
        rcases List.mem_cons.mp hz with e | hz
        · omega
        · have := h2 z hz; omega
      · rename_i hlt
        refine ⟨List.mem_cons_of_mem _ h1, fun z hz => ?_⟩
        rcases List.mem_cons.mp hz with e | hz
        · omega
        · exact h2 z hz
    · simp
theorem minI_mem : ∀ {ns : List Int}, ns ≠ [] → minI ns ∈ ns ∧ ∀ y ∈ ns, minI ns ≤ y
  | [x], _ => ⟨by simp [minI], fun y hy => by simp at hy; simp [minI, hy]⟩
  | x :: y :: r, _ => by
    obtain ⟨h1, h2⟩ := minI_mem (ns := y :: r) (by simp)
    rw [minI]
    · split
      · rename_i hlt
        refine ⟨List.mem_cons_self, fun z hz => ?_⟩
        rcases List.mem_cons.mp hz with e | hz
        · omega
        · have := h2 z hz; omega
      · rename_i hlt
        refine ⟨List.mem_cons_of_mem _ h1, fun z hz => ?_⟩
        rcases List.mem_cons.mp hz with e | hz
        · omega
        · exact h2 z hz
    · simp
def gMaxL : List Dt → Option Dt
  | [.list ds] => (ints? ds).bind fun ns => if ns = [] then none else some (.int (maxI ns))
  | _ => none
def gMinL : List Dt → Option Dt
  | [.list ds] => (ints? ds).bind fun ns => if ns = [] then none else some (.int (minI ns))
  | _ => none
theorem sr_maxL {K : PySem.W.Frag} : SrL (rMax K) gMaxL := by
  intro G H vs ds d Q le h hg q
  unfold gMaxL at hg
  split at hg
  · obtain ⟨ns, e1, e2⟩ := Option.bind_eq_some_iff.mp hg
    split at e2
    · cases e2
    · rename_i hne
      cases e2
      cases h with
      | cons h1 h2 => cases h2; cases h1 with
        | lst e a =>
          have := ints_vs a e1
          subst this
          refine ⟨_, _, rfl, SqL.of (le _ _ e), List.length_pos_iff.mpr hne, fun m h1 h2 => ?_⟩
          obtain ⟨k1, k2⟩ := maxI_mem hne
          have e : m = maxI ns := Int.le_antisymm (k2 m h1) (h2 _ k1)
          subst e
          exact q _ rfl
  · cases hg
theorem sr_minL {K : PySem.W.Frag} : SrL (rMin K) gMinL := by
  intro G H vs ds d Q le h hg q
  unfold gMinL at hg
  split at hg
  · obtain ⟨ns, e1, e2⟩ := Option.bind_eq_some_iff.mp hg
    split at e2
    · cases e2
    · rename_i hne
      cases e2
      cases h with
      | cons h1 h2 => cases h2; cases h1 with
        | lst e a =>
          have := ints_vs a e1
          subst this
          refine ⟨_, _, rfl, SqL.of (le _ _ e), List.length_pos_iff.mpr hne, fun m h1 h2 => ?_⟩
          obtain ⟨k1, k2⟩ := minI_mem hne
          have e : m = minI ns := Int.le_antisymm (h2 _ k1) (k2 m h1)
          subst e
          exact q _ rfl
  · cases hg
/-- tuple(xs) of a list looked at -/
theorem lr_tuple {K : PySem.W.Frag} : LrD (fun xs H Q => ∃ p ys, xs = [.ref p] ∧ ((SqL K H p ys ∧ ∀ l, H l = none → Q (.ref l) (upd H l (.tup ys))) ∨ (SqT K H p ys ∧ Q (.ref p) H))) (fun ds => some (.tuple ds)) := by
  intro G H p vs ds d Q le h1 h2 hg q
  cases hg
  exact ⟨_, _, rfl, .inl ⟨SqL.of h1, fun l hl => q.tup le hl h2⟩⟩
theorem lr_list {K : PySem.W.Frag} : LrF (fun xs H Q => ∃ p ys, xs = [.ref p] ∧ (SqL K H p ys ∨ SqT K H p ys) ∧ ∀ l, H l = none → Q (.ref l) (upd H l (.lst ys))) (fun ds => some ds) := by
  intro G H p vs ds d Q le h1 h2 hg q
  cases hg
  exact ⟨_, _, rfl, .inl (SqL.of h1), fun l hl => q.new le hl h2⟩
def gDivmod : List Dt → Option Dt
  | [.int i, .int j] => if 0 < j ∧ j.natAbs < 1073741824 then some (.tuple [.int (i / j), .int (i % j)]) else none
  | _ => none
theorem br_divmod : BrL (fun xs H Q => ∃ i j, xs = [.int i, .int j] ∧ CDiv i j ∧ ∀ p, H p = none → Q (.ref p) (upd H p (.tup [.int (i / j), .int (i % j)]))) gDivmod := by
  intro G H vs ds d Q le h hg q
  unfold gDivmod at hg
  split at hg
  · split at hg
    · rename_i hz
      cases hg
      cases h with
      | cons h1 h2 => cases h2 with
        | cons h2 h3 => cases h3; cases h1; cases h2; exact ⟨_, _, rfl, ⟨hz.1, by omega⟩, fun p hp => q.tup le hp (.cons (.int _) (.cons (.int _) .nil))⟩
    · cases hg
  · cases hg
/-! ### repr -/
def seqD : Dt → Bool
  | .list _ => true
  | .tuple _ => true
  | _ => false
def rRepr : RL := fun xs H Q => ∃ v d, xs = [v] ∧ Dq H v d ∧ seqD d = true ∧ SeqAt.shaped d = true ∧ d.showable = true ∧ d.leavesShort 13 = true ∧ d.bulk ≤ 2 ^ 20 ∧ Q (.str d.shown) H
theorem call_repr {X : Cx} (hG : X.A.guards = some []) (hu : X.A.units + 66 < cLine) : CallR X (.builtin "repr") rRepr := by
  intro pins s σ H xs us Q I r h
  obtain ⟨v, d, rfl, hd, h0, h1, h2, h3, h4, q⟩ := h
  obtain ⟨u, rfl, rx⟩ := vals1 r
  obtain ⟨as, rr⟩ := Dp.reads I d v u hd.dp rx
  have nd := PyData.hasDict_of_canLay d (SeqAt.canLay_of_shaped h1)
  have dp := SeqAt.depth_of_shaped h1
  have sz := PyData.shown_fits_bulk (by decide) (by decide) h3 h4
  have fin : ∀ (h' : Heap) (t : Tok) (tk : Nat), (∀ b o, s.heap.get? b = some o → h'.get? b = some o) → EP X pins σ Q (.str d.shown t) { s with heap := h', toks := tk } := fun h' t tk k => ⟨.str d.shown, H, I.kept k, ⟨t, rfl⟩, q⟩
  cases rr with
  | list a1 a2 a3 a4 => exact repr_of_reads' (.list a1 a2 a3 a4) h2 (PyData.noDict_hsm nd) hG (by omega) (fun _ _ e => e) fin sz
  | tuple a1 a2 a3 a4 => exact repr_of_reads' (.tuple a1 a2 a3 a4) h2 (PyData.noDict_hsm nd) hG (by omega) (fun _ _ e => e) fin sz
  | _ => cases h0
def gRepr : List Dt → Option Dt
  | [d] => if seqD d = true ∧ SeqAt.shaped d = true ∧ d.showable = true ∧ d.leavesShort 13 = true ∧ d.bulk ≤ 2 ^ 20 then some (.str d.shown) else none
  | _ => none
theorem sr_repr : SrL rRepr gRepr := by
  intro G H vs ds d Q le h hg q
  unfold gRepr at hg
  split at hg
  · split at hg
    · rename_i hz
      cases hg
      cases h with
      | cons h1 h2 => cases h2; exact ⟨_, _, rfl, dq_mono le h1, hz.1, hz.2.1, hz.2.2.1, hz.2.2.2.1, hz.2.2.2.2, q _ rfl⟩
    · cases hg
  · cases hg
/-! ### isinstance -/
def tyD : Dt → String
  | .none => "NoneType"
  | .bool _ => "bool"
  | .int _ => "int"
  | .str _ => "str"
  | .list _ => "list"
  | .tuple _ => "tuple"
  | .dict _ => "dict"
theorem ty_dq {K : PySem.W.Frag} {H : Hp} {v : V} {d : Dt} (h : Dq H v d) : TyX K H v (.type (tyD d)) := by
  cases h with
  | non => exact .base .non
  | bl b => exact .base (.bl b)
  | int i => exact .base (.int i)
  | str x => exact .base (.str x)
  | lst e a => exact .base (.lst e)
  | tup e a => exact .base (.tup e)
section
variable {X : Cx} {e c : Expr} {g : Gd} {pos p : Pos} {T : String}
/-- which of the kinds an int, a bool .. is -/
def isD (T : String) (d : Dt) : Bool := tyD d == T || (tyD d == "bool" && T == "int")
def gIs (T : String) (g : Gd) : Gd := fun env => (g env).bind fun d => match d with
  | .dict _ => none
  | d => some (.bool (isD T d))
theorem kit_int : ∀ t ∈ ["NoneType", "bool", "int", "str", "list", "tuple"], ∀ T ∈ ["bool", "int", "str", "list", "tuple"], kitB t T = some (t == T || (t == "bool" && T == "int")) := by decide +kernel
theorem ty_in {d : Dt} (h : ∀ k, d ≠ .dict k) : tyD d ∈ ["NoneType", "bool", "int", "str", "list", "tuple"] := by
  cases d <;> first | (exact absurd rfl (h _)) | (simp [tyD])
theorem pv_isi (hT : T ∈ ["bool", "int", "str", "list", "tuple"]) (hg : Gl X "isinstance") (hm : X.mg "isinstance" = none) (he : PE X e (tPK X.K g)) (hcE : PE X c (tC (.ty T)))
    (h1 : starEach [e, c] X.env = (false, eval e X.env) :: starEach [c] X.env := by rfl) (h2 : starEach [c] X.env = (false, eval c X.env) :: starEach [] X.env := by rfl)
    (hpl : (backTo pos (starEach [c] X.env)).any (·.1) = false := by rfl) : PE X (.Call (.Name "isinstance" p) [e, c] [] pos) (tPV X.K (gIs T g)) :=
  pe_imp (pe_callB call_isi hg hm PyProof.Rows.boot_isinstance (pa_cons he (pa_cons hcE pa_nil h2) h1) (by decide) (by decide) h1 hpl) fun σ H Q ⟨G, env, Os, d, F, hg, q⟩ => by
    obtain ⟨x, e1, hg⟩ := Option.bind_eq_some_iff.mp hg
    refine ⟨G, env, Os, x, F, e1, fun v G1 H1 a1 d1 => ?_⟩
    have nd : ∀ k, x ≠ .dict k := fun k z => by subst z; cases hg
    have e2 : d = .bool (isD T x) := by
      cases x <;> first | (exact absurd rfl (nd _)) | exact (Option.some.inj hg).symm
    subst e2
    exact ⟨_, _, _, _, _, rfl, .ty T, ty_dq (dq_mono (vw_sub a1.le _) d1), kit_ty (kit_int _ (ty_in nd) _ hT), q _ G1 H1 a1 (.bl _)⟩
end
end Fw
namespace Fw
open PySem PySem.Spec PyProof.Rows L2
/-! ### behind a step that may change the frame's own things -/
structure Af (K : PySem.W.Frag) (G H : Hp) (σ : L2.St) (O : List Addr) (env' : List Sl) (v : V) (t : OT) (G' H' : Hp) (A : List Addr) (Os' : List (List Addr)) : Prop where
  frm : Frm K G' H' σ env' Os'
  ext : Ext G H G' H' O (A ++ Os'.flatten)
  own : OwnT G' H' v t A
  nd : (A ++ Os'.flatten).Nodup
  out : ∀ a ∈ A, G' a = none
structure Afs (K : PySem.W.Frag) (G H : Hp) (σ : L2.St) (O : List Addr) (env' : List Sl) (vs : List V) (ts : List OT) (G' H' : Hp) (A : List Addr) (Os' : List (List Addr)) : Prop where
  frm : Frm K G' H' σ env' Os'
  ext : Ext G H G' H' O (A ++ Os'.flatten)
  own : OwnTs G' H' vs ts A
  nd : (A ++ Os'.flatten).Nodup
  out : ∀ a ∈ A, G' a = none
abbrev Ge := List Sl → Option (OT × List Sl)
abbrev Gx := List Sl → Option (Dt × List Sl)
abbrev Gxs := List Sl → Option (List Dt × List Sl)
abbrev Ges := List Sl → Option (List OT × List Sl)
abbrev Gt := List Sl → Option (Bool × List Sl)
def PostE (K : PySem.W.Frag) (G H : Hp) (σ : L2.St) (O : List Addr) (env' : List Sl) (t : OT) (Q : VK) : Prop := ∀ v G' H' A Os', Af K G H σ O env' v t G' H' A Os' → Q v H'
def PostEs (K : PySem.W.Frag) (G H : Hp) (σ : L2.St) (O : List Addr) (env' : List Sl) (ts : List OT) (Q : List V → Hp → Prop) : Prop := ∀ vs G' H' A Os', Afs K G H σ O env' vs ts G' H' A Os' → Q vs H'
def PostX (K : PySem.W.Frag) (G H : Hp) (σ : L2.St) (O : List Addr) (env' : List Sl) (d : Dt) (Q : VK) : Prop := ∀ v G' H' Os', Frm K G' H' σ env' Os' → Ext G H G' H' O Os'.flatten → Dq G' v d → Q v H'
def PostXs (K : PySem.W.Frag) (G H : Hp) (σ : L2.St) (O : List Addr) (env' : List Sl) (ds : List Dt) (Q : List V → Hp → Prop) : Prop := ∀ vs G' H' Os', Frm K G' H' σ env' Os' → Ext G H G' H' O Os'.flatten → DqAll G' vs ds → Q vs H'
def PostT (K : PySem.W.Frag) (G H : Hp) (σ : L2.St) (O : List Addr) (env' : List Sl) (b : Bool) (Q : Bool → Hp → Prop) : Prop := ∀ G' H' Os', Frm K G' H' σ env' Os' → Ext G H G' H' O Os'.flatten → Q b H'
/-- a thing to be kept; data; items; a test -/
def tEV (K : PySem.W.Frag) (f : Ge) : TE := fun σ H Q => ∃ G env Os t env', Frm K G H σ env Os ∧ f env = some (t, env') ∧ PostE K G H σ Os.flatten env' t Q
def tEVs (K : PySem.W.Frag) (f : Ges) : TA := fun σ H Q => ∃ G env Os t env', Frm K G H σ env Os ∧ f env = some (t, env') ∧ PostEs K G H σ Os.flatten env' t Q
def tED (K : PySem.W.Frag) (f : Gx) : TE := fun σ H Q => ∃ G env Os t env', Frm K G H σ env Os ∧ f env = some (t, env') ∧ PostX K G H σ Os.flatten env' t Q
def tEDs (K : PySem.W.Frag) (f : Gxs) : TA := fun σ H Q => ∃ G env Os t env', Frm K G H σ env Os ∧ f env = some (t, env') ∧ PostXs K G H σ Os.flatten env' t Q
def tET (K : PySem.W.Frag) (f : Gt) : TT := fun σ H Q => ∃ G env Os t env', Frm K G H σ env Os ∧ f env = some (t, env') ∧ PostT K G H σ Os.flatten env' t Q
section
variable {K : PySem.W.Frag} {G H G' H' G2 H2 : Hp} {σ : L2.St} {O A : List Addr} {env env' : List Sl} {Os Os' Os2 : List (List Addr)} {v : V} {vs : List V} {t : OT} {d : Dt}
theorem PostX.step {Q : VK} (F : Frm K G' H' σ env' Os') (e : Ext G H G' H' O Os'.flatten) (q : PostX K G H σ O env d Q) : PostX K G' H' σ Os'.flatten env d Q := fun v G2 H2 Os2 F2 e2 d2 => q v G2 H2 Os2 F2 (e.trans e2) d2
theorem PostXs.step {ds : List Dt} {Q : List V → Hp → Prop} (F : Frm K G' H' σ env' Os') (e : Ext G H G' H' O Os'.flatten) (q : PostXs K G H σ O env ds Q) : PostXs K G' H' σ Os'.flatten env ds Q := fun v G2 H2 Os2 F2 e2 d2 => q v G2 H2 Os2 F2 (e.trans e2) d2
theorem PostT.step {b : Bool} {Q : Bool → Hp → Prop} (F : Frm K G' H' σ env' Os') (e : Ext G H G' H' O Os'.flatten) (q : PostT K G H σ O env b Q) : PostT K G' H' σ Os'.flatten env b Q := fun G2 H2 Os2 F2 e2 => q G2 H2 Os2 F2 (e.trans e2)
theorem Af.pre (e : Ext G H G' H' O Os'.flatten) (a : Af K G' H' σ Os'.flatten env v t G2 H2 A Os2) : Af K G H σ O env v t G2 H2 A Os2 := ⟨a.frm, e.trans a.ext, a.own, a.nd, a.out⟩
theorem PostE.step {Q : VK} (e : Ext G H G' H' O Os'.flatten) (q : PostE K G H σ O env t Q) : PostE K G' H' σ Os'.flatten env t Q := fun v G2 H2 A Os2 a => q v G2 H2 A Os2 (a.pre e)
theorem PostX.pd {Q : VK} (F : Frm K G H σ env Os) (q : PostX K G H σ Os.flatten env d Q) : PostD G H d Q := fun v G' H' a h => q v G' H' Os (F.grow a) (a.ext _) h
theorem Af.lf (F : Frm K G' H' σ env' Os') (e : Ext G H G' H' O Os'.flatten) (h : Dq G' v d) : Af K G H σ O env' v (.lf d) G' H' [] Os' := ⟨F, e, .lf h, F.nd, fun a ha => by cases ha⟩
/-- freezing -/
theorem Af.freeze (a : Af K G H σ O env' v t G' H' A Os') : Frm K (Vw G' H' A) H' σ env' Os' ∧ Ext G H (Vw G' H' A) H' O Os'.flatten ∧ Dq (Vw G' H' A) v t.d := by
  obtain ⟨n1, n2, n3⟩ := List.nodup_append.mp a.nd
  refine ⟨⟨vw_sub a.frm.le A, a.frm.env.mono (vw_le a.frm.le A) fun _ _ => rfl, a.frm.nd, fun c hc => ?_⟩, ⟨a.ext.g.trans (vw_le a.frm.le A), a.ext.h, fun c hc => a.ext.o c (List.mem_append_right _ hc), fun c o h => ?_⟩, a.own.dp a.frm.le⟩
  · rw [vw_out fun z => n3 c z c hc rfl]
    exact a.frm.out c hc
  · by_cases hA : c ∈ A
    · exact .inr (a.ext.o c (List.mem_append_left _ hA))
    · rw [vw_out hA] at h; exact a.ext.f c o h
theorem Ext.grow_r (e : Ext G H G' H' O O2) (a : Grow G' H' G2 H2) : Ext G H G2 H2 O O2 := e.trans (a.ext O2)
end
def eD (f : Ge) : Gx := fun env => (f env).map fun p => (p.1.d, p.2)
def dE (f : Gx) : Ge := fun env => (f env).map fun p => (.lf p.1, p.2)
def pX (g : Gd) : Gx := fun env => (g env).map fun d => (d, env)
def fE (g : Gs) : Ge := fun env => (g env).map fun ds => (.nd (ds.map .lf), env)
section
variable {X : Cx} {a b e : Expr} {es : List Expr} {f fa fb : Gx} {pos p : Pos}
theorem ed_pv {g : Gd} (h : PE X e (tPV X.K g)) : PE X e (tED X.K (pX g)) := pe_imp h fun σ H Q ⟨G, env, Os, t, env', F, hg, q⟩ => by
  obtain ⟨d, e1, e2⟩ := Option.map_eq_some_iff.mp hg
  cases e2
  exact ⟨G, env, Os, _, F, e1, q.pd F⟩
theorem ed_ev {f : Ge} (h : PE X e (tEV X.K f)) : PE X e (tED X.K (eD f)) := pe_imp h fun σ H Q ⟨G, env, Os, t, env', F, hg, q⟩ => by
  obtain ⟨⟨t', e'⟩, e1, e2⟩ := Option.map_eq_some_iff.mp hg
  cases e2
  refine ⟨G, env, Os, t', _, F, e1, fun v G1 H1 A Os1 a => ?_⟩
  obtain ⟨h1, h2, h3⟩ := a.freeze
  exact q v _ H1 Os1 h1 h2 h3
theorem ev_ed (h : PE X e (tED X.K f)) : PE X e (tEV X.K (dE f)) := pe_imp h fun σ H Q ⟨G, env, Os, t, env', F, hg, q⟩ => by
  obtain ⟨⟨d, e'⟩, e1, e2⟩ := Option.map_eq_some_iff.mp hg
  cases e2
  exact ⟨G, env, Os, d, _, F, e1, fun v G1 H1 Os1 F1 x1 d1 => q v G1 H1 [] Os1 (Af.lf F1 x1 d1)⟩
theorem ev_fl {g : Gs} (h : PE X e (tFL X.K g)) : PE X e (tEV X.K (fE g)) := pe_imp h fun σ H Q ⟨G, env, Os, t, env', F, hg, q⟩ => by
  obtain ⟨ds, e1, e2⟩ := Option.map_eq_some_iff.mp hg
  cases e2
  refine ⟨G, env, Os, ds, F, e1, fun p vs G1 H1 a1 hp gp h1 d1 => q _ G1 H1 [p] Os ⟨F.grow a1, ?_, ?_, ?_, ?_⟩⟩
  · have x := a1.ext Os.flatten
    refine ⟨x.g, x.h, fun c hc => ?_, x.f⟩
    rcases List.mem_cons.mp hc with e | hc
    · subst e; exact .inr hp
    · exact .inl hc
  · exact OwnT.nd (as := []) h1 (OwnTs.of_dp d1)
  · refine List.nodup_cons.mpr ⟨fun hc => ?_, F.nd⟩
    obtain ⟨u, hu⟩ := F.env.there p hc
    rw [hp] at hu; cases hu
  · intro c hc
    cases List.mem_singleton.mp hc
    exact gp
/-- a name's thing is handed on: frozen -/
def gFrz (i : Nat) : Gx := fun env => match env[i]? with
  | some (.v t) => some (t.d, env.set i (.v (.lf t.d)))
  | _ => none
theorem frm_frz {K : PySem.W.Frag} {G H : Hp} {σ : L2.St} {env : List Sl} {Os : List (List Addr)} {i : Nat} {o : Option V} {t : OT} {v : V} {as : List Addr} (F : Frm K G H σ env Os) (h1 : σ[i]? = some (some v)) (h2 : Os[i]? = some as) (h3 : OwnT G H v t as) :
    Frm K (Vw G H as) H σ (env.set i (.v (.lf t.d))) (Os.set i []) ∧ Ext G H (Vw G H as) H Os.flatten (Os.set i []).flatten ∧ Dq (Vw G H as) v t.d := by
  have hd := h3.dp F.le
  have hs : σ.set i (some v) = σ := set_get_self h1
  have E : EnvL K (Vw G H as) H (σ.set i (some v)) (env.set i (.v (.lf t.d))) (Os.set i []) := EnvL.set (.v (.lf hd)) i (F.env.mono (vw_le F.le as) fun _ _ => rfl)
  rw [hs] at E
  have sub : ∀ c ∈ (Os.set i []).flatten, c ∈ Os.flatten ∧ c ∉ as := fun c hc => by
    have n := nodup_set F.nd (as := as) (by
      have := (List.pairwise_flatten.mp F.nd).1 as (List.mem_of_getElem? h2)
      exact this) (i := i) (fun a ha _ => ⟨as, h2, ha⟩)
    rw [set_get_self h2] at n
    rcases mem_flatten_set hc with z | z
    · cases z
    · refine ⟨z, fun hA => ?_⟩
      obtain ⟨bs, hb, hcb⟩ := List.mem_flatten.mp hc
      obtain ⟨j, hj⟩ := List.getElem?_of_mem hb
      by_cases hij : i = j
      · subst hij
        by_cases hlt : i < Os.length
        · rw [List.getElem?_set_self hlt] at hj; cases hj; cases hcb
        · rw [List.getElem?_eq_none (by simpa using hlt)] at hj; cases hj
      · rw [List.getElem?_set_ne hij] at hj
        obtain ⟨p1, p2⟩ := List.pairwise_flatten.mp F.nd
        obtain ⟨l1, e1⟩ := List.getElem?_eq_some_iff.mp h2
        obtain ⟨l2, e2⟩ := List.getElem?_eq_some_iff.mp hj
        rcases Nat.lt_or_gt_of_ne hij with hlt | hlt
        · have := List.pairwise_iff_getElem.mp p2 i j l1 l2 hlt
          rw [e1, e2] at this
          exact this c hA c hcb rfl
        · have := List.pairwise_iff_getElem.mp p2 j i l2 l1 hlt
          rw [e1, e2] at this
          exact this c hcb c hA rfl
  refine ⟨⟨vw_sub F.le as, E, ?_, fun c hc => ?_⟩, ⟨vw_le F.le as, fun c o hO h => h, fun c hc => .inl (sub c hc).1, fun c o h => ?_⟩, hd⟩
  · exact nodup_set F.nd List.nodup_nil fun a ha => by cases ha
  · rw [vw_out (sub c hc).2]; exact F.out c (sub c hc).1
  · by_cases hA : c ∈ as
    · exact .inr (.inl (flat_mem h2 hA))
    · rw [vw_out hA] at h; exact .inl h
theorem ed_var {x : Str} (i : Nat) (hN : X.N[i]? = some x := by rfl) (hv : Vis X.env.scope x := by first | exact Or.inl rfl | exact Or.inr (Or.inl rfl) | exact Or.inr (Or.inr rfl)) (hd : (x == ("__debug__" : Str)) = false := by decide)
    (hcd : (x == ("__classdict__" : Str)) = false := by decide) : PE X (.Name x pos) (tED X.K (gFrz i)) := pe_imp (pe_var hN hv hd hcd) fun σ H Q ⟨G, env, Os, d, env', F, hg, q⟩ => by
  unfold gFrz at hg
  split at hg
  · rename_i t e
    cases hg
    obtain ⟨o, as, h1, h2, h3⟩ := F.env.get e
    cases h3 with
    | v h =>
      obtain ⟨k1, k2, k3⟩ := frm_frz (o := none) F h1 h2 h
      exact ⟨_, h1, q _ _ H _ k1 k2 k3⟩
  · cases hg
/-! ### operations on data, in turn -/
def x2 (g : Dt → Dt → Option Dt) (fa fb : Gx) : Gx := fun env => (fa env).bind fun p => (fb p.2).bind fun q => (g p.1 q.1).map fun d => (d, q.2)
theorem two_ed {r : R2} {g : Dt → Dt → Option Dt} {K : PySem.W.Frag} {σ : L2.St} {H : Hp} {Q : VK} (hb : Br2 r g) (h : tED K (x2 g fa fb) σ H Q) : tED K fa σ H fun x H1 => tED K fb σ H1 fun y H2 => r x y H2 Q := by
  obtain ⟨G, env, Os, d, env', F, hg, q⟩ := h
  obtain ⟨⟨x, env1⟩, e1, hg⟩ := Option.bind_eq_some_iff.mp hg
  obtain ⟨⟨y, env2⟩, e2, hg⟩ := Option.bind_eq_some_iff.mp hg
  obtain ⟨z, e3, e4⟩ := Option.map_eq_some_iff.mp hg
  cases e4
  refine ⟨G, env, Os, x, env1, F, e1, fun v1 G1 H1 Os1 F1 X1 d1 => ⟨G1, env1, Os1, y, _, F1, e2, fun v2 G2 H2 Os2 F2 X2 d2 => ?_⟩⟩
  exact hb G2 H2 v1 v2 x y _ Q F2.le (dq_mono X2.g d1) d2 e3 (PostX.pd F2 ((q.step F1 X1).step F2 X2))
theorem ed_op {op : Operator} {r : R2} {g : Dt → Dt → Option Dt} (ho : OpR X (binaryOp op) r) (hb : Br2 r g) (ha : PE X a (tED X.K fa)) (hb' : PE X b (tED X.K fb)) : PE X (.BinOp a op b pos) (tED X.K (x2 g fa fb)) :=
  pe_imp (pe_op ho ha hb') fun σ H Q h => two_ed hb h
theorem ed_cmp {op : CmpOp} {r : R2} {g : Dt → Dt → Option Dt} (ho : OpR X (compareOp op) r) (hb : Sr2 r g) (ha : PE X a (tED X.K fa)) (hb' : PE X b (tED X.K fb)) (hm : behindInMarks op b = false := by first | exact nomark _ | rfl) :
    PE X (.Compare a [op] [b] pos) (tED X.K (x2 g fa fb)) := pe_imp (pe_cmpR ho ha hb' hm) fun σ H Q h => two_ed hb.br h
theorem ed_ix (ha : PE X a (tED X.K fa)) (hb' : PE X b (tED X.K fb)) (hs : PlainIx b := by intro _ _; rfl) : PE X (.Subscript a b pos) (tED X.K (x2 gIx fa fb)) :=
  pe_imp (pe_ix ix_any ha hb' hs) fun σ H Q h => two_ed br_ix h
def xT (f : Gx) : Gt := fun env => (f env).bind fun p => match p.1 with
  | .bool b => some (b, p.2)
  | _ => none
def tX (f : Gt) : Gx := fun env => (f env).map fun p => (.bool p.1, p.2)
theorem tb_ed {K : PySem.W.Frag} {σ : L2.St} {H : Hp} {Q : Bool → Hp → Prop} (h : tET K (xT f) σ H Q) : tED K f σ H fun x H1 => ∃ c, x = .bl c ∧ Q c H1 := by
  obtain ⟨G, env, Os, d, env', F, hg, q⟩ := h
  obtain ⟨⟨x, env1⟩, e1, hg⟩ := Option.bind_eq_some_iff.mp hg
  refine ⟨G, env, Os, x, env1, F, e1, fun v G1 H1 Os1 F1 X1 d1 => ?_⟩
  cases x <;> cases hg
  cases d1
  exact ⟨_, rfl, q G1 H1 Os1 F1 X1⟩
theorem te_val (h : PE X e (tED X.K f)) (he : ∀ whole, isTrue e X.env whole = (do let v ← whole; standAt e.pos; holding [v] (truthy v)) := by intro _; rfl) : PT X e (tET X.K (xT f)) :=
  pt_imp (pt_val h he) fun σ H Q h => tb_ed h
theorem te_tv {g : List Sl → Option Bool} (h : PT X e (tTV X.K g)) : PT X e (tET X.K fun env => (g env).map fun b => (b, env)) := pt_imp h fun σ H Q ⟨G, env, Os, d, env', F, hg, q⟩ => by
  obtain ⟨b, e1, e2⟩ := Option.map_eq_some_iff.mp hg
  cases e2
  exact ⟨G, env, Os, _, F, e1, fun G1 H1 a1 => q G1 H1 Os (F.grow a1) (a1.ext _)⟩
theorem te_cmp {op : CmpOp} {r : R2} {g : Dt → Dt → Option Dt} (ho : OpR X (compareOp op) r) (hb : Sr2 r g) (ha : PE X a (tED X.K fa)) (hb' : PE X b (tED X.K fb)) (hm : behindInMarks op b = false := by first | exact nomark _ | rfl) :
    PT X (.Compare a [op] [b] pos) (tET X.K (xT (x2 g fa fb))) := pt_imp (pt_cmpR ho ha hb' hm) fun σ H Q h => two_ed hb.br (tb_ed h)
def tAndE (a b : Gt) : Gt := fun env => (a env).bind fun p => if p.1 = true then b p.2 else some (false, p.2)
def tOrE (a b : Gt) : Gt := fun env => (a env).bind fun p => if p.1 = true then some (true, p.2) else b p.2
def tNotE (a : Gt) : Gt := fun env => (a env).map fun p => (!p.1, p.2)
variable {ta tb : Gt} {rest : List Expr}
theorem we_and1 (ha : PT X a (tET X.K ta)) : PW X (.BoolOp .And [a] pos) (tET X.K ta) := pw_and1 ha
theorem we_or1 (ha : PT X a (tET X.K ta)) : PW X (.BoolOp .Or [a] pos) (tET X.K ta) := pw_or1 ha
theorem we_and (ha : PT X a (tET X.K ta)) (hb : PW X (.BoolOp .And (b :: rest) pos) (tET X.K tb)) : PW X (.BoolOp .And (a :: b :: rest) pos) (tET X.K (tAndE ta tb)) :=
  pw_imp (pw_and ha hb) fun σ H Q ⟨G, env, Os, c, env', F, hg, q⟩ => by
    obtain ⟨⟨x, env1⟩, e1, hg⟩ := Option.bind_eq_some_iff.mp hg
    refine ⟨G, env, Os, x, env1, F, e1, fun G1 H1 Os1 F1 X1 => ?_⟩
    cases x with
    | true => exact iteT ⟨G1, env1, Os1, c, env', F1, hg, q.step F1 X1⟩
    | false => cases hg; exact iteF (q G1 H1 Os1 F1 X1)
theorem we_or (ha : PT X a (tET X.K ta)) (hb : PW X (.BoolOp .Or (b :: rest) pos) (tET X.K tb)) : PW X (.BoolOp .Or (a :: b :: rest) pos) (tET X.K (tOrE ta tb)) :=
  pw_imp (pw_or ha hb) fun σ H Q ⟨G, env, Os, c, env', F, hg, q⟩ => by
    obtain ⟨⟨x, env1⟩, e1, hg⟩ := Option.bind_eq_some_iff.mp hg
    refine ⟨G, env, Os, x, env1, F, e1, fun G1 H1 Os1 F1 X1 => ?_⟩
    cases x with
    | false => exact iteF ⟨G1, env1, Os1, c, env', F1, hg, q.step F1 X1⟩
    | true => cases hg; exact iteT (q G1 H1 Os1 F1 X1)
theorem te_not (ha : PT X a (tET X.K ta)) : PT X (.UnaryOp .Not a pos) (tET X.K (tNotE ta)) := pt_imp (pt_not ha) fun σ H Q ⟨G, env, Os, c, env', F, hg, q⟩ => by
  obtain ⟨⟨x, env1⟩, e1, e2⟩ := Option.map_eq_some_iff.mp hg
  cases e2
  exact ⟨G, env, Os, x, _, F, e1, q⟩
def xAnd (a b : Gx) : Gx := fun env => (a env).bind fun p => match p.1 with
  | .bool true => b p.2
  | .bool false => some (.bool false, p.2)
  | _ => none
def xOr (a b : Gx) : Gx := fun env => (a env).bind fun p => match p.1 with
  | .bool false => b p.2
  | .bool true => some (.bool true, p.2)
  | _ => none
def xNot (a : Gx) : Gx := fun env => (a env).bind fun p => match p.1 with
  | .bool b => some (.bool !b, p.2)
  | _ => none
theorem ed_one {op} (h : PE X a (tED X.K f)) : PE X (.BoolOp op [a] pos) (tED X.K f) := pe_one h
theorem ed_and (ha : PE X a (tED X.K fa)) (hb : PE X (.BoolOp .And (b :: rest) pos) (tED X.K fb)) : PE X (.BoolOp .And (a :: b :: rest) pos) (tED X.K (xAnd fa fb)) :=
  pe_imp (pe_and ha hb) fun σ H Q ⟨G, env, Os, c, env', F, hg, q⟩ => by
    obtain ⟨⟨x, env1⟩, e1, hg⟩ := Option.bind_eq_some_iff.mp hg
    refine ⟨G, env, Os, x, env1, F, e1, fun v G1 H1 Os1 F1 X1 d1 => ?_⟩
    dsimp only at hg
    split at hg
    · cases d1; exact ⟨_, rfl, iteT ⟨G1, env1, Os1, c, env', F1, hg, q.step F1 X1⟩⟩
    · cases hg; cases d1; exact ⟨_, rfl, iteF (q _ G1 H1 Os1 F1 X1 (.bl _))⟩
    · cases hg
theorem ed_or (ha : PE X a (tED X.K fa)) (hb : PE X (.BoolOp .Or (b :: rest) pos) (tED X.K fb)) : PE X (.BoolOp .Or (a :: b :: rest) pos) (tED X.K (xOr fa fb)) :=
  pe_imp (pe_or ha hb) fun σ H Q ⟨G, env, Os, c, env', F, hg, q⟩ => by
    obtain ⟨⟨x, env1⟩, e1, hg⟩ := Option.bind_eq_some_iff.mp hg
    refine ⟨G, env, Os, x, env1, F, e1, fun v G1 H1 Os1 F1 X1 d1 => ?_⟩
    dsimp only at hg
    split at hg
    · cases d1; exact ⟨_, rfl, iteF ⟨G1, env1, Os1, c, env', F1, hg, q.step F1 X1⟩⟩
    · cases hg; cases d1; exact ⟨_, rfl, iteT (q _ G1 H1 Os1 F1 X1 (.bl _))⟩
    · cases hg
theorem ed_not (ha : PE X a (tED X.K fa)) : PE X (.UnaryOp .Not a pos) (tED X.K (xNot fa)) := pe_imp (pe_not ha) fun σ H Q ⟨G, env, Os, c, env', F, hg, q⟩ => by
  obtain ⟨⟨x, env1⟩, e1, hg⟩ := Option.bind_eq_some_iff.mp hg
  refine ⟨G, env, Os, x, env1, F, e1, fun v G1 H1 Os1 F1 X1 d1 => ?_⟩
  dsimp only at hg
  split at hg
  · cases hg; cases d1; exact ⟨_, rfl, q _ G1 H1 Os1 F1 X1 (.bl _)⟩
  · cases hg
def eIf (t : Gt) (a b : Ge) : Ge := fun env => (t env).bind fun p => if p.1 = true then a p.2 else b p.2
theorem ev_if {c : Expr} {fa fb : Ge} (hc : PT X c (tET X.K ta)) (ha : PE X a (tEV X.K fa)) (hb : PE X b (tEV X.K fb)) : PE X (.IfExp c a b pos) (tEV X.K (eIf ta fa fb)) :=
  pe_imp (pe_ifExp hc ha hb) fun σ H Q ⟨G, env, Os, d, env', F, hg, q⟩ => by
    obtain ⟨⟨x, env1⟩, e1, hg⟩ := Option.bind_eq_some_iff.mp hg
    refine ⟨G, env, Os, x, env1, F, e1, fun G1 H1 Os1 F1 X1 => ?_⟩
    cases x with
    | true => exact iteT ⟨G1, env1, Os1, d, env', F1, hg, q.step X1⟩
    | false => exact iteF ⟨G1, env1, Os1, d, env', F1, hg, q.step X1⟩
/-! ### items in turn -/
def xNil : Gxs := fun env => some ([], env)
def xCons (fa : Gx) (fr : Gxs) : Gxs := fun env => (fa env).bind fun p => (fr p.2).map fun q => (p.1 :: q.1, q.2)
theorem eds_nil : PA X [] (tEDs X.K xNil) := pa_imp pa_nil fun σ H Q ⟨G, env, Os, d, env', F, hg, q⟩ => by
  cases hg
  exact q [] G H Os F (Ext.refl _) .nil
theorem eds_cons {fr : Gxs} (ha : PE X a (tED X.K fa)) (hr : PA X es (tEDs X.K fr)) (hs : starEach (a :: es) X.env = (false, eval a X.env) :: starEach es X.env := by rfl) : PA X (a :: es) (tEDs X.K (xCons fa fr)) :=
  pa_imp (pa_cons ha hr hs) fun σ H Q ⟨G, env, Os, d, env', F, hg, q⟩ => by
    obtain ⟨⟨x, env1⟩, e1, hg⟩ := Option.bind_eq_some_iff.mp hg
    obtain ⟨⟨r, env2⟩, e2, e3⟩ := Option.map_eq_some_iff.mp hg
    cases e3
    exact ⟨G, env, Os, x, env1, F, e1, fun v G1 H1 Os1 F1 X1 d1 => ⟨G1, env1, Os1, r, _, F1, e2, fun vs G2 H2 Os2 F2 X2 d2 => q _ G2 H2 Os2 F2 (X1.trans X2) (.cons (dq_mono X2.g d1) d2)⟩⟩
def xA (g : List Dt → Option Dt) (fs : Gxs) : Gx := fun env => (fs env).bind fun p => (g p.1).map fun d => (d, p.2)
variable {fs : Gxs} {id T : String} {r : RL} {g : List Dt → Option Dt} {x : Str}
theorem all_ed {K : PySem.W.Frag} {σ : L2.St} {H : Hp} {Q : VK} (hb : BrL r g) (h : tED K (xA g fs) σ H Q) : tEDs K fs σ H fun vs H1 => r vs H1 Q := by
  obtain ⟨G, env, Os, d, env', F, hg, q⟩ := h
  obtain ⟨⟨ds, env1⟩, e1, hg⟩ := Option.bind_eq_some_iff.mp hg
  obtain ⟨z, e3, e4⟩ := Option.map_eq_some_iff.mp hg
  cases e4
  exact ⟨G, env, Os, ds, _, F, e1, fun vs G1 H1 Os1 F1 X1 d1 => hb G1 H1 vs ds _ Q F1.le d1 e3 (PostX.pd F1 (q.step F1 X1))⟩
theorem SrL.br (h : SrL r g) : BrL r g := fun G H vs ds d Q le hd hg q => h G H vs ds d Q le hd hg fun v hv => q.here le (sc_dq hv G)
theorem ed_cB (hc : CallR X (.builtin id) r) (hb : BrL r g) (hg : Gl X x) (hm : X.mg x = none) (hv : bootBuiltins x = some (.builtin id)) (ha : PA X (e :: es) (tEDs X.K fs)) (hn : x ≠ "__name__" := by decide) (hdb : (x == ("__debug__" : Str)) = false := by decide)
    (he : starEach (e :: es) X.env = (false, eval e X.env) :: starEach es X.env := by rfl) (hpl : (backTo pos (starEach es X.env)).any (·.1) = false := by rfl) : PE X (.Call (.Name x p) (e :: es) [] pos) (tED X.K (xA g fs)) :=
  pe_imp (pe_callB hc hg hm hv ha hn hdb he hpl) fun σ H Q h => all_ed hb h
theorem ed_cT (hc : CallR X (.type T) r) (hb : BrL r g) (hg : Gl X x) (hm : X.mg x = none) (hv : bootBuiltins x = some (.type T)) (ha : PA X (e :: es) (tEDs X.K fs)) (hn : x ≠ "__name__" := by decide) (hdb : (x == ("__debug__" : Str)) = false := by decide)
    (he : starEach (e :: es) X.env = (false, eval e X.env) :: starEach es X.env := by rfl) (hpl : (backTo pos (starEach es X.env)).any (·.1) = false := by rfl) : PE X (.Call (.Name x p) (e :: es) [] pos) (tED X.K (xA g fs)) :=
  pe_imp (pe_callTy hc hg hm hv ha hn hdb he hpl) fun σ H Q h => all_ed hb h
def xTup (fs : Gxs) : Gx := fun env => (fs env).bind fun p => if p.1.length ≤ 1000 then some (.tuple p.1, p.2) else none
theorem ed_tup {k} (h : PA X es (tEDs X.K fs)) : PE X (.Tuple es k pos) (tED X.K (xTup fs)) := pe_imp (pe_tup h) fun σ H Q ⟨G, env, Os, d, env', F, hg, q⟩ => by
  obtain ⟨⟨ds, env1⟩, e1, hg⟩ := Option.bind_eq_some_iff.mp hg
  split at hg
  · rename_i hz
    cases hg
    exact ⟨G, env, Os, ds, _, F, e1, fun vs G1 H1 Os1 F1 X1 d1 => ⟨by rw [d1.length]; exact sz1000 hz, fun p hp => (PostX.pd F1 (q.step F1 X1)).tup F1.le hp d1⟩⟩
  · cases hg
/-! ### own items in turn; a list of them -/
def eNil : Ges := fun env => some ([], env)
def eCons (fa : Ge) (fr : Ges) : Ges := fun env => (fa env).bind fun p => (fr p.2).map fun q => (p.1 :: q.1, q.2)
theorem evs_nil : PA X [] (tEVs X.K eNil) := pa_imp pa_nil fun σ H Q ⟨G, env, Os, d, env', F, hg, q⟩ => by
  cases hg
  exact q [] G H [] Os ⟨F, Ext.refl _, .nil, F.nd, fun a ha => by cases ha⟩
theorem evs_cons {fa : Ge} {fr : Ges} (ha : PE X a (tEV X.K fa)) (hr : PA X es (tEVs X.K fr)) (hs : starEach (a :: es) X.env = (false, eval a X.env) :: starEach es X.env := by rfl) : PA X (a :: es) (tEVs X.K (eCons fa fr)) :=
  pa_imp (pa_cons ha hr hs) fun σ H Q ⟨G, env, Os, d, env', F, hg, q⟩ => by
    obtain ⟨⟨x, env1⟩, e1, hg⟩ := Option.bind_eq_some_iff.mp hg
    obtain ⟨⟨r, env2⟩, e2, e3⟩ := Option.map_eq_some_iff.mp hg
    cases e3
    refine ⟨G, env, Os, x, env1, F, e1, fun v G1 H1 A Os1 a1 => ⟨G1, env1, Os1, r, _, a1.frm, e2, fun vs G2 H2 B Os2 a2 => q _ G2 H2 (A ++ B) Os2 ?_⟩⟩
    obtain ⟨n1, n2, n3⟩ := List.nodup_append.mp a1.nd
    obtain ⟨s1, s2, s3⟩ := a1.ext.side (fun c hc => a1.own.there c hc) (fun c hc z => n3 c hc c z rfl) a2.ext
    refine ⟨a2.frm, ?_, .cons (a1.own.mono a2.ext.g fun c hc => s2 c hc) a2.own, ?_, fun c hc => ?_⟩
    · rw [List.append_assoc]; exact s1
    · rw [List.append_assoc]
      exact List.nodup_append.mpr ⟨n1, a2.nd, fun c hc y hy e => s3 c hc (e ▸ hy)⟩
    · rcases List.mem_append.mp hc with hc | hc
      · cases q : G2 c with
        | none => rfl
        | some u =>
          rcases a2.ext.f c u q with z | z | z
          · rw [a1.out c hc] at z; cases z
          · exact absurd rfl (n3 c hc c z)
          · obtain ⟨w, hw⟩ := a1.own.there c hc
            rw [hw] at z; cases z
      · exact a2.out c hc
def eLst (fs : Ges) : Ge := fun env => (fs env).bind fun p => if p.1.length ≤ 1000 then some (.nd p.1, p.2) else none
theorem ev_lst {fs : Ges} (h : PA X es (tEVs X.K fs)) : PE X (.List es pos) (tEV X.K (eLst fs)) := pe_imp (pe_lst h) fun σ H Q ⟨G, env, Os, d, env', F, hg, q⟩ => by
  obtain ⟨⟨ts, env1⟩, e1, hg⟩ := Option.bind_eq_some_iff.mp hg
  split at hg
  · rename_i hz
    cases hg
    refine ⟨G, env, Os, ts, _, F, e1, fun vs G1 H1 A Os1 a1 => ⟨by rw [a1.own.length]; exact sz1000 hz, fun p hp => q _ G1 _ (p :: A) Os1 ?_⟩⟩
    have gr := own_grow a1.frm.le hp (.lst vs)
    have np : ∀ c ∈ A ++ Os1.flatten, c ≠ p := fun c hc e => by
      subst e
      rcases List.mem_append.mp hc with z | z
      · obtain ⟨u, hu⟩ := a1.own.there c z
        rw [hp] at hu; cases hu
      · obtain ⟨u, hu⟩ := a1.frm.env.there c z
        rw [hp] at hu; cases hu
    refine ⟨a1.frm.grow gr, ⟨a1.ext.g, fun c o hO h => gr.h c o (a1.ext.h c o hO h), fun c hc => ?_, a1.ext.f⟩, .nd upd_same (a1.own.mono (fun _ _ e => e) fun c hc => upd_ne (np c (List.mem_append_left _ hc))), List.nodup_cons.mpr ⟨fun z => np p z rfl, a1.nd⟩, fun c hc => ?_⟩
    · rcases List.mem_cons.mp hc with e | hc
      · subst e
        by_cases hO : c ∈ Os.flatten
        · exact .inl hO
        · cases q : H c with
          | none => exact .inr rfl
          | some u =>
            have := a1.ext.h c u hO q
            rw [hp] at this; cases this
      · exact a1.ext.o c hc
    · rcases List.mem_cons.mp hc with e | hc
      · subst e; exact a1.frm.le.free hp
      · exact a1.out c hc
  · cases hg
end
end Fw
namespace Fw
open PySem PySem.Spec PyProof.Rows L2
/-! ### statements -/
inductive Fl where
  | nx | bk | ct
  | rt (t : OT)
abbrev Gst := List Sl → Option (Fl × List Sl)
/-- the slots at which m says true stay -/
def Fix (m : List Bool) (σ σ' : L2.St) : Prop := ∀ i : Nat, m[i]? = some true → σ'[i]? = σ[i]?
theorem Fix.refl (m : List Bool) (σ : L2.St) : Fix m σ σ := fun _ _ => rfl
theorem Fix.trans {m : List Bool} {σ σ1 σ2 : L2.St} (a : Fix m σ σ1) (b : Fix m σ1 σ2) : Fix m σ σ2 := fun i h => (b i h).trans (a i h)
theorem Fix.set {m : List Bool} {σ : L2.St} {i : Nat} {o : Option V} (h : m[i]? ≠ some true) : Fix m σ (σ.set i o) := fun j hj => List.getElem?_set_ne fun e => h (by rw [e]; exact hj)
def PostN (K : PySem.W.Frag) (m : List Bool) (G H : Hp) (σ : L2.St) (O : List Addr) (env' : List Sl) (Q : L2.St → Hp → Prop) : Prop := ∀ σ' G' H' Os', Frm K G' H' σ' env' Os' → Ext G H G' H' O Os'.flatten → Fix m σ σ' → Q σ' H'
def PostR (K : PySem.W.Frag) (m : List Bool) (G H : Hp) (σ : L2.St) (O : List Addr) (env' : List Sl) (t : OT) (Q : VK) : Prop := ∀ v σ' G' H' A Os', Af K G H σ' O env' v t G' H' A Os' → Fix m σ σ' → Q v H'
def PostS (K : PySem.W.Frag) (m : List Bool) (G H : Hp) (σ : L2.St) (O : List Addr) (env' : List Sl) (fl : Fl) (D : Ends) : Prop := match fl with
  | .nx => PostN K m G H σ O env' D.nx
  | .bk => PostN K m G H σ O env' D.bk
  | .ct => PostN K m G H σ O env' D.ct
  | .rt t => PostR K m G H σ O env' t D.rt
def tSV (K : PySem.W.Frag) (m : List Bool) (f : Gst) : TS := fun D σ H => ∃ G env Os fl env', Frm K G H σ env Os ∧ f env = some (fl, env') ∧ PostS K m G H σ Os.flatten env' fl D
section
variable {K : PySem.W.Frag} {m : List Bool} {G H G' H' : Hp} {σ σ' : L2.St} {O : List Addr} {env env' env1 : List Sl} {Os Os' : List (List Addr)} {fl : Fl} {D : Ends}
theorem PostN.step {Q : L2.St → Hp → Prop} (e : Ext G H G' H' O Os'.flatten) (fx : Fix m σ σ') (q : PostN K m G H σ O env Q) : PostN K m G' H' σ' Os'.flatten env Q := fun σ2 G2 H2 Os2 F2 e2 f2 => q σ2 G2 H2 Os2 F2 (e.trans e2) (fx.trans f2)
theorem PostR.step {t : OT} {Q : VK} (e : Ext G H G' H' O Os'.flatten) (fx : Fix m σ σ') (q : PostR K m G H σ O env t Q) : PostR K m G' H' σ' Os'.flatten env t Q := fun v σ2 G2 H2 A Os2 a f2 => q v σ2 G2 H2 A Os2 (a.pre e) (fx.trans f2)
theorem PostS.step (e : Ext G H G' H' O Os'.flatten) (fx : Fix m σ σ') (q : PostS K m G H σ O env fl D) : PostS K m G' H' σ' Os'.flatten env fl D := by
  cases fl with
  | nx => exact PostN.step e fx q
  | bk => exact PostN.step e fx q
  | ct => exact PostN.step e fx q
  | rt t => exact PostR.step e fx q
theorem PostN.here {Q : L2.St → Hp → Prop} (F : Frm K G H σ env Os) (q : PostN K m G H σ Os.flatten env Q) : Q σ H := q σ G H Os F (Ext.refl _) (Fix.refl _ _)
end
theorem ps_imp {X : Cx} {s : Stmt} {t t' : TS} (h : PS X s t) (k : ∀ D σ H, t' D σ H → t D σ H) : PS X s t' := ⟨fun pins st σ H D I q => h.run pins st σ H D I (k D σ H q)⟩
theorem pss_imp {X : Cx} {s : List Stmt} {t t' : TS} (h : PSs X s t) (k : ∀ D σ H, t' D σ H → t D σ H) : PSs X s t' := ⟨fun pins st σ H D I q => h.run pins st σ H D I (k D σ H q)⟩
def sNil : Gst := fun env => some (.nx, env)
def sSeq (f g : Gst) : Gst := fun env => (f env).bind fun p => match p.1 with
  | .nx => g p.2
  | fl => some (fl, p.2)
section
variable {X : Cx} {m : List Bool} {s : Stmt} {r : List Stmt} {f g : Gst} {e a b : Expr} {pos p apos : Pos} {fx fy : Gx} {fe : Ge}
theorem ss_nil : PSs X [] (tSV X.K m sNil) := pss_imp pss_nil fun D σ H ⟨G, env, Os, fl, env', F, hg, q⟩ => by
  cases hg
  exact PostN.here F q
theorem ss_cons (h1 : PS X s (tSV X.K m f)) (h2 : PSs X r (tSV X.K m g)) : PSs X (s :: r) (tSV X.K m (sSeq f g)) := pss_imp (pss_cons h1 h2) fun D σ H ⟨G, env, Os, fl, env', F, hg, q⟩ => by
  obtain ⟨⟨fl1, env1⟩, e1, hg⟩ := Option.bind_eq_some_iff.mp hg
  refine ⟨G, env, Os, fl1, env1, F, e1, ?_⟩
  cases fl1 with
  | nx => exact fun σ' G' H' Os' F' e' fx => ⟨G', env1, Os', fl, env', F', hg, q.step e' fx⟩
  | bk => cases hg; exact q
  | ct => cases hg; exact q
  | rt t => cases hg; exact q
theorem ss_one (h1 : PS X s (tSV X.K m f)) : PSs X [s] (tSV X.K m f) := pss_imp (pss_one h1) fun D σ H h => h
def sIf (t : Gt) (f g : Gst) : Gst := fun env => (t env).bind fun p => if p.1 = true then f p.2 else g p.2
theorem s_if {c : Expr} {tc : Gt} {u v : List Stmt} (hc : PT X c (tET X.K tc)) (hu : PSs X u (tSV X.K m f)) (hv : PSs X v (tSV X.K m g)) : PS X (.If c u v pos) (tSV X.K m (sIf tc f g)) :=
  ps_imp (ps_if hc hu hv) fun D σ H ⟨G, env, Os, fl, env', F, hg, q⟩ => by
    obtain ⟨⟨x, env1⟩, e1, hg⟩ := Option.bind_eq_some_iff.mp hg
    refine ⟨G, env, Os, x, env1, F, e1, fun G1 H1 Os1 F1 X1 => ?_⟩
    cases x with
    | true => exact iteT ⟨G1, env1, Os1, fl, env', F1, hg, q.step X1 (Fix.refl _ _)⟩
    | false => exact iteF ⟨G1, env1, Os1, fl, env', F1, hg, q.step X1 (Fix.refl _ _)⟩
def sRet (f : Ge) : Gst := fun env => (f env).map fun p => (.rt p.1, p.2)
theorem s_ret (h : PE X e (tEV X.K fe)) : PS X (.Return (some e) pos) (tSV X.K m (sRet fe)) := ps_imp (ps_ret h) fun D σ H ⟨G, env, Os, fl, env', F, hg, q⟩ => by
  obtain ⟨⟨t, env1⟩, e1, e2⟩ := Option.map_eq_some_iff.mp hg
  cases e2
  exact ⟨G, env, Os, t, _, F, e1, fun v G1 H1 A Os1 a => q v σ G1 H1 A Os1 a (Fix.refl _ _)⟩
def sRetN : Gst := fun env => some (.rt (.lf .none), env)
theorem s_retN : PS X (.Return none pos) (tSV X.K m sRetN) := ps_imp ps_retN fun D σ H ⟨G, env, Os, fl, env', F, hg, q⟩ => by
  cases hg
  exact q .non σ G H [] Os (Af.lf F (Ext.refl _) .non) (Fix.refl _ _)
theorem s_pass : PS X (.Pass pos) (tSV X.K m sNil) := ps_imp ps_pass fun D σ H ⟨G, env, Os, fl, env', F, hg, q⟩ => by
  cases hg
  exact PostN.here F q
def sBrk : Gst := fun env => some (.bk, env)
theorem s_brk : PS X (.Break pos) (tSV X.K m sBrk) := ps_imp ps_break fun D σ H ⟨G, env, Os, fl, env', F, hg, q⟩ => by
  cases hg
  exact PostN.here F q
def sNot : Gst := fun _ => none
theorem s_never : PS X s (tSV X.K m sNot) := ps_imp ps_never fun D σ H ⟨G, env, Os, fl, env', F, hg, q⟩ => by cases hg
def sDrop (f : Gx) : Gst := fun env => (f env).map fun p => (.nx, p.2)
theorem s_expr (h : PE X e (tED X.K fx)) (hs : swapsWith e none pos.line X.env = pure false := by rfl) : PS X (.Expr e pos) (tSV X.K m (sDrop fx)) := ps_imp (ps_expr h hs) fun D σ H ⟨G, env, Os, fl, env', F, hg, q⟩ => by
  obtain ⟨⟨t, env1⟩, e1, e2⟩ := Option.map_eq_some_iff.mp hg
  cases e2
  exact ⟨G, env, Os, t, _, F, e1, fun v G1 H1 Os1 F1 X1 d1 => q σ G1 H1 Os1 F1 X1 (Fix.refl _ _)⟩
/-! ### a name = .. -/
theorem frm_set {K : PySem.W.Frag} {G H G' H' : Hp} {σ : L2.St} {O : List Addr} {env' : List Sl} {v : V} {t : OT} {A : List Addr} {Os' : List (List Addr)} (a : Af K G H σ O env' v t G' H' A Os') (i : Nat) :
    Frm K G' H' (σ.set i (some v)) (env'.set i (.v t)) (Os'.set i A) ∧ Ext G H G' H' O (Os'.set i A).flatten := by
  obtain ⟨n1, n2, n3⟩ := List.nodup_append.mp a.nd
  refine ⟨⟨a.frm.le, EnvL.set (.v a.own) i a.frm.env, nodup_set a.frm.nd n1 fun c hc hO => absurd rfl (n3 c hc c hO), fun c hc => ?_⟩, a.ext.sub fun c hc => ?_⟩
  · rcases mem_flatten_set hc with z | z
    · exact a.out c z
    · exact a.frm.out c z
  · rcases mem_flatten_set hc with z | z
    · exact List.mem_append_left _ z
    · exact List.mem_append_right _ z
def sAsg (i : Nat) (f : Ge) : Gst := fun env => (f env).map fun p => (.nx, p.2.set i (.v p.1))
theorem s_asg {te : TE} {i : Nat} (h : PS X s (tAsg te (gName i))) (k : ∀ σ H Q, tEV X.K fe σ H Q → te σ H Q) (hm : m[i]? ≠ some true) : PS X s (tSV X.K m (sAsg i fe)) := ps_imp h fun D σ H ⟨G, env, Os, fl, env', F, hg, q⟩ => by
  obtain ⟨⟨t, env1⟩, e1, e2⟩ := Option.map_eq_some_iff.mp hg
  cases e2
  refine k σ H _ ⟨G, env, Os, t, env1, F, e1, fun v G1 H1 A Os1 a => ?_⟩
  obtain ⟨k1, k2⟩ := frm_set a i
  exact q _ G1 H1 _ k1 k2 (Fix.set hm)
theorem s_set {i : Nat} {x : Str} {p' : Pos} (hN : X.N.Nodup) (hi : X.N[i]? = some x) (hx : Loc X.env.scope x) (h : PE X e (tEV X.K fe)) (hm : m[i]? ≠ some true := by decide) (hs : swapsWith e (some (.Name x p')) pos.line X.env = pure false := by rfl)
    (hf : X.fn x = true ∨ X.env.scope.names.lookup x = some .local := by first | exact .inl rfl | exact .inr rfl | assumption) : PS X (.Assign [.Name x p'] e pos) (tSV X.K m (sAsg i fe)) :=
  s_asg (ps_set hN hi hx h hs hf) (fun _ _ _ h => h) hm
/-! ### targets of data -/
def tTG (K : PySem.W.Frag) (m : List Bool) (g : Dt → List Sl → Option (List Sl)) : TG := fun v σ H Q => ∃ G env Os d env', Frm K G H σ env Os ∧ Dq G v d ∧ g d env = some env' ∧ PostN K m G H σ Os.flatten env' Q
def tTGs (K : PySem.W.Frag) (m : List Bool) (g : List Dt → List Sl → Option (List Sl)) : TGs := fun vs σ H Q => ∃ G env Os ds env', Frm K G H σ env Os ∧ DqAll G vs ds ∧ g ds env = some env' ∧ PostN K m G H σ Os.flatten env' Q
theorem pg_imp {X : Cx} {e : Expr} {t t' : TG} (h : PG X e t) (k : ∀ v σ H Q, t' v σ H Q → t v σ H Q) : PG X e t' := ⟨fun pins s σ H v u Q I r q => h.run pins s σ H v u Q I r (k v σ H Q q)⟩
theorem pgs_imp {X : Cx} {e : List Expr} {t t' : TGs} (h : PGs X e t) (k : ∀ v σ H Q, t' v σ H Q → t v σ H Q) : PGs X e t' := ⟨fun pins s σ H v u Q I r q => h.run pins s σ H v u Q I r (k v σ H Q q)⟩
def nName (i : Nat) : Dt → List Sl → Option (List Sl) := fun d env => some (env.set i (.v (.lf d)))
theorem tg_name {i : Nat} {x : Str} (hN : X.N.Nodup) (hi : X.N[i]? = some x) (hx : Loc X.env.scope x) (hm : m[i]? ≠ some true := by decide) (hf : X.fn x = true ∨ X.env.scope.names.lookup x = some .local := by first | exact .inl rfl | exact .inr rfl | assumption) :
    PG X (.Name x pos) (tTG X.K m (nName i)) := pg_imp (pg_name hN hi hx hf) fun v σ H Q ⟨G, env, Os, d, env', F, hd, hg, q⟩ => by
  cases hg
  obtain ⟨k1, k2⟩ := frm_set (Af.lf F (Ext.refl _) hd) i
  exact q _ G H _ k1 k2 (Fix.set hm)
def nNil : List Dt → List Sl → Option (List Sl) := fun ds env => match ds with
  | [] => some env
  | _ => none
def nCons (g : Dt → List Sl → Option (List Sl)) (gs : List Dt → List Sl → Option (List Sl)) : List Dt → List Sl → Option (List Sl) := fun ds env => match ds with
  | d :: r => (g d env).bind fun env1 => gs r env1
  | [] => none
theorem tgs_nil : PGs X [] (tTGs X.K m nNil) := pgs_imp pgs_nil fun vs σ H Q ⟨G, env, Os, ds, env', F, hd, hg, q⟩ => by
  cases hd with
  | nil => cases hg; exact ⟨rfl, PostN.here F q⟩
  | cons _ _ => cases hg
theorem tgs_cons {es : List Expr} {g : Dt → List Sl → Option (List Sl)} {gs : List Dt → List Sl → Option (List Sl)} (h1 : PG X e (tTG X.K m g)) (h2 : PGs X es (tTGs X.K m gs))
    (hs : (assignEach (e :: es) X.env).map (·.2) = assign e X.env :: (assignEach es X.env).map (·.2) := by rfl) : PGs X (e :: es) (tTGs X.K m (nCons g gs)) := pgs_imp (pgs_cons h1 h2 hs) fun vs σ H Q ⟨G, env, Os, ds, env', F, hd, hg, q⟩ => by
  cases hd with
  | nil => cases hg
  | cons hd ht =>
    obtain ⟨env1, e1, hg⟩ := Option.bind_eq_some_iff.mp hg
    exact ⟨_, _, rfl, G, env, Os, _, env1, F, hd, e1, fun σ1 G1 H1 Os1 F1 X1 f1 => ⟨G1, env1, Os1, _, env', F1, dqAll_mono X1.g ht, hg, q.step X1 f1⟩⟩
def nTup (n : Nat) (gs : List Dt → List Sl → Option (List Sl)) : Dt → List Sl → Option (List Sl) := fun d env => match d with
  | .tuple ds => if ds.length = n then gs ds env else none
  | _ => none
theorem tg_tup {es : List Expr} {k n : Nat} {gs : List Dt → List Sl → Option (List Sl)} (hc : X.calm = true) (h : PGs X es (tTGs X.K m gs)) (hn : (assignEach es X.env).length = n := by rfl) (hst : (assignEach es X.env).findIdx? (·.1) = none := by rfl) :
    PG X (.Tuple es k pos) (tTG X.K m (nTup n gs)) := pg_imp (pg_tup hc h hn hst) fun v σ H Q ⟨G, env, Os, d, env', F, hd, hg, q⟩ => by
  unfold nTup at hg
  split at hg
  · split at hg
    · rename_i hz
      cases hd with
      | tup h1 h2 => exact ⟨_, _, rfl, SqT.of (F.le _ _ h1), by rw [h2.length]; exact hz, G, env, Os, _, env', F, h2, hg, q⟩
    · cases hg
  · cases hg
def sAsgT (f : Gx) (g : Dt → List Sl → Option (List Sl)) : Gst := fun env => (f env).bind fun p => (g p.1 p.2).map fun env2 => (.nx, env2)
theorem s_asgT {tg : Expr} {g : Dt → List Sl → Option (List Sl)} (h : PE X e (tED X.K fx)) (hg : PG X tg (tTG X.K m g)) (hs : swapsWithSole [tg] e pos.line X.env = pure false := by rfl) (hw : swappedStores [tg] e X.env = pure none := by rfl)
    (h1 : (assignEach [tg] X.env).map (·.2) = [assign tg X.env] := by rfl) : PS X (.Assign [tg] e pos) (tSV X.K m (sAsgT fx g)) := ps_imp (ps_asg h hg hs hw h1) fun D σ H ⟨G, env, Os, fl, env', F, hg, q⟩ => by
  obtain ⟨⟨d, env1⟩, e1, hg⟩ := Option.bind_eq_some_iff.mp hg
  obtain ⟨env2, e2, e3⟩ := Option.map_eq_some_iff.mp hg
  cases e3
  exact ⟨G, env, Os, d, env1, F, e1, fun v G1 H1 Os1 F1 X1 d1 => ⟨G1, env1, Os1, d, _, F1, d1, e2, PostN.step X1 (Fix.refl _ _) q⟩⟩
/-! ### x[i] = data, an own list -/
def nSub (i : Nat) (gi : Gd) : Dt → List Sl → Option (List Sl) := fun d env => match env[i]? with
  | some (.v (.nd ts)) => match gi env with
    | some (.int k) => (ixN ts.length k).map fun j => env.set i (.v (.nd (ts.set j (.lf d))))
    | _ => none
  | _ => none
theorem ownTs_set {G H : Hp} {v : V} {d : Dt} (h : Dq G v d) : ∀ {vs : List V} {ts : List OT} {as : List Addr} (j : Nat), OwnTs G H vs ts as → ∃ bs, OwnTs G H (vs.set j v) (ts.set j (.lf d)) bs ∧ bs.Sublist as
  | _, _, _, _, .nil => ⟨[], .nil, List.Sublist.refl _⟩
  | _, _, _, 0, .cons (as := as) (bs := bs) h1 h2 => ⟨bs, OwnTs.cons (as := []) (.lf h) h2, List.sublist_append_right _ _⟩
  | _, _, _, j + 1, .cons (as := as) (bs := bs) h1 h2 => by
    obtain ⟨cs, k1, k2⟩ := ownTs_set h j h2
    exact ⟨as ++ cs, .cons h1 k1, (List.Sublist.refl as).append k2⟩
/-- an own list changed: the cell at p, its slot i -/
theorem frm_put {K : PySem.W.Frag} {G H : Hp} {σ : L2.St} {env : List Sl} {Os : List (List Addr)} {i : Nat} {p : Addr} {as bs : List Addr} {vs' : List V} {ts' : List OT} (F : Frm K G H σ env Os) (h1 : σ[i]? = some (some (.ref p))) (h2 : Os[i]? = some (p :: as))
    (h3 : OwnTs G H vs' ts' bs) (hb : (p :: bs).Nodup) (hs : ∀ c ∈ bs, (c ∈ Os.flatten → c ∈ as)) (hg : ∀ c ∈ bs, G c = none) :
    Frm K G (upd H p (.lst vs')) σ (env.set i (.v (.nd ts'))) (Os.set i (p :: bs)) ∧ (∀ O A, Ext G H G H O (A ++ Os.flatten) → (∀ c ∈ bs, c ∈ A ++ Os.flatten) → p ∈ O → Ext G H G (upd H p (.lst vs')) O (Os.set i (p :: bs)).flatten) := by
  have pO : p ∈ Os.flatten := flat_mem h2 List.mem_cons_self
  have gp : G p = none := F.out p pO
  have nb := List.nodup_cons.mp hb
  have le : Same G (upd H p (.lst vs')) := fun c o e => by rw [upd_ne (ne_of_none e gp)]; exact F.le c o e
  have own : OwnT G (upd H p (.lst vs')) (.ref p) (.nd ts') (p :: bs) := .nd upd_same (h3.mono (fun _ _ e => e) fun c hc => upd_ne fun e => nb.1 (e ▸ hc))
  -- the other slots
  have oth : ∀ {σ' : List (Option V)} {e' : List Sl} {O' : List (List Addr)} (j : Nat), EnvL K G H σ' e' O' → O'.flatten.Nodup → O'[j]? = some (p :: as) → EnvL K G (upd H p (.lst vs')) (σ'.set j (some (.ref p))) (e'.set j (.v (.nd ts'))) (O'.set j (p :: bs)) := by
    intro σ' e' O' j E
    induction E generalizing j with
    | nil => intro _ z; simp at z
    | @cons o σ' s e' cs O' hs' ht ih =>
      intro nd z
      rw [List.flatten_cons] at nd
      obtain ⟨n1, n2, n3⟩ := List.nodup_append.mp nd
      cases j with
      | zero =>
        simp at z
        subst z
        exact .cons (.v own) (ht.mono (fun _ _ e => e) fun c hc => upd_ne fun e => n3 p List.mem_cons_self c hc e.symm)
      | succ j =>
        have z : O'[j]? = some (p :: as) := by simpa using z
        have hp : p ∈ O'.flatten := flat_mem z List.mem_cons_self
        exact .cons (hs'.mono (fun _ _ e => e) fun c hc => upd_ne fun e => n3 c hc p hp e) (ih j n2 z)
  have E := oth i F.env F.nd h2
  rw [set_get_self h1] at E
  refine ⟨⟨le, E, nodup_set F.nd hb fun c hc hO => ?_, fun c hc => ?_⟩, fun O A x hA hpO => ⟨fun _ _ e => e, fun c o hc h => ?_, fun c hc => ?_, fun c o h => .inl h⟩⟩
  · refine ⟨_, h2, ?_⟩
    rcases List.mem_cons.mp hc with e | hc
    · subst e; exact List.mem_cons_self
    · exact List.mem_cons_of_mem _ (hs c hc hO)
  · rcases mem_flatten_set hc with z | z
    · rcases List.mem_cons.mp z with e | z
      · subst e; exact gp
      · exact hg c z
    · exact F.out c z
  · rw [upd_ne fun e => hc (by rw [e]; exact hpO)]; exact h
  · rcases mem_flatten_set hc with z | z
    · rcases List.mem_cons.mp z with e | z
      · subst e; exact .inl hpO
      · exact x.o c (hA c z)
    · exact x.o c (List.mem_append_right _ z)
theorem slot_nodup {Os : List (List Addr)} {i : Nat} {as : List Addr} (n : Os.flatten.Nodup) (h : Os[i]? = some as) : as.Nodup := (List.pairwise_flatten.mp n).1 as (List.mem_of_getElem? h)
theorem tg_sub {i : Nat} {x : Str} {gi : Gd} {o' : Pos} (hN : X.N[i]? = some x) (hv : Vis X.env.scope x) (hi : PE X a (tPV X.K gi)) (hd : (x == ("__debug__" : Str)) = false := by decide) (hcd : (x == ("__classdict__" : Str)) = false := by decide)
    (ha : ∀ v, assign (.Subscript (.Name x o') a pos) X.env v = (do
      let ov ← holding [v] (eval (.Name x o') X.env)
      let iv ← holding [v, ov] (eval a X.env)
      standAt pos
      holding [v, ov, iv] (setItem ov iv v)
      release [v, ov, iv] []) := by intro _; rfl) : PG X (.Subscript (.Name x o') a pos) (tTG X.K m (nSub i gi)) :=
  pg_imp (pg_sub (pe_var hN hv hd hcd) hi set_list ha) fun v σ H Q ⟨G, env, Os, d, env', F, hdv, hg, q⟩ => by
    unfold nSub at hg
    split at hg
    · rename_i ts e
      obtain ⟨ov, cs, h1, h2, h3⟩ := F.env.get e
      cases h3 with
      | v h => cases h with
        | @nd p vs _ as h4 h5 =>
          split at hg
          · rename_i k ek
            obtain ⟨j, ej, e2⟩ := Option.map_eq_some_iff.mp hg
            subst e2
            refine ⟨_, h1, G, env, Os, _, F, ek, fun w G1 H1 a1 d1 => ?_⟩
            cases d1
            have F1 := F.grow a1
            obtain ⟨o1, cs1, k1, k2, k3⟩ := F1.env.get e
            rw [h2] at k2; cases k2
            rw [h1] at k1; cases k1
            cases k3 with
            | v k => cases k with
              | nd k4 k5 =>
                obtain ⟨bs, b1, b2⟩ := ownTs_set (dq_mono a1.g hdv) j k5
                have nd := slot_nodup F.nd h2
                have nd2 := List.nodup_cons.mp nd
                obtain ⟨f1, f2⟩ := frm_put F1 h1 h2 b1 (List.nodup_cons.mpr ⟨fun z => nd2.1 (b2.subset z), nd2.2.sublist b2⟩) (fun c hc _ => b2.subset hc) fun c hc => F1.out c (flat_mem h2 (List.mem_cons_of_mem _ (b2.subset hc)))
                refine ⟨_, _, _, _, rfl, rfl, k4, by rw [k5.length]; exact ej, ?_⟩
                have x := f2 Os.flatten [] (Ext.refl _) (fun c hc => flat_mem h2 (List.mem_cons_of_mem _ (b2.subset hc))) (flat_mem h2 List.mem_cons_self)
                exact q σ G1 _ _ f1 ((a1.ext _).trans x) (Fix.refl _ _)
          · cases hg
    · cases hg
/-! ### x.append(e), x.extend(e) -/
def isNd (i : Nat) (env : List Sl) : Bool := match env[i]? with
  | some (.v (.nd _)) => true
  | _ => false
def sApp (i : Nat) (f : Ge) : Gst := fun env => if isNd i env = true then (f env).bind fun p => (match p.2[i]? with
  | some (.v (.nd ts)) => if ts.length < SZ then some (.nx, p.2.set i (.v (.nd (ts ++ [p.1])))) else none
  | _ => none) else none
theorem ownTs_app {G H : Hp} : ∀ {vs ws : List V} {ts us : List OT} {as bs : List Addr}, OwnTs G H vs ts as → OwnTs G H ws us bs → OwnTs G H (vs ++ ws) (ts ++ us) (as ++ bs)
  | _, _, _, _, _, _, .nil, q => q
  | _, _, _, _, _, _, .cons h t, q => by
    rw [List.append_assoc]
    exact .cons h (ownTs_app t q)
theorem sz_lt {n : Nat} (h : n < SZ) : n < sizeLine := by rw [sz_eq]; exact h
theorem isNd_at {K : PySem.W.Frag} {G H : Hp} {σ : L2.St} {env : List Sl} {Os : List (List Addr)} {i : Nat} (F : Frm K G H σ env Os) (h : isNd i env = true) : ∃ p vs, σ[i]? = some (some (.ref p)) ∧ H p = some (.lst vs) := by
  unfold isNd at h
  split at h
  · rename_i ts e
    obtain ⟨o, as, h1, h2, h3⟩ := F.env.get e
    cases h3 with
    | v h => cases h with
      | nd h4 h5 => exact ⟨_, _, h1, h4⟩
  · cases h
theorem s_append {i : Nat} {x : Str} {p0 : Pos} (hN : X.N[i]? = some x) (hv : Vis X.env.scope x) (h : PE X e (tEV X.K fe)) (hd : (x == ("__debug__" : Str)) = false := by decide) (hcd : (x == ("__classdict__" : Str)) = false := by decide)
    (hpe : ∀ {te : TE}, PE X e te → PE X (.Call (.Attribute (.Name x p0) "append" apos) [e] [] p) (tBM X.K "list" rAppend (tVar i) (tCons te tNil)))
    (hs : swapsWith (.Call (.Attribute (.Name x p0) "append" apos) [e] [] p) none pos.line X.env = pure false := by rfl) :
    PS X (.Expr (.Call (.Attribute (.Name x p0) "append" apos) [e] [] p) pos) (tSV X.K m (sApp i fe)) :=
  ps_imp (ps_expr (hpe h) hs) fun D σ H ⟨G, env, Os, fl, env', F, hg, q⟩ => by
    unfold sApp at hg
    split at hg
    · rename_i hn
      obtain ⟨p, vs0, hp, hp0⟩ := isNd_at F hn
      obtain ⟨⟨t, env1⟩, e1, hg⟩ := Option.bind_eq_some_iff.mp hg
      dsimp only at hg
      split at hg
      · rename_i ts ets
        split at hg
        · rename_i hz
          cases hg
          refine ⟨_, hp, .inl ⟨rfl, _, SqL.of hp0⟩, G, env, Os, t, env1, F, e1, fun v G1 H1 A Os1 a1 => ?_⟩
          obtain ⟨o, as, h1, h2, h3⟩ := a1.frm.env.get ets
          rw [hp] at h1; cases h1
          cases h3 with
          | v h => cases h with
            | @nd _ vs _ as' h4 h5 =>
              obtain ⟨n1, n2, n3⟩ := List.nodup_append.mp a1.nd
              have ns := slot_nodup n2 h2
              have np : ∀ c ∈ A, c ∉ Os1.flatten := fun c hc z => n3 c hc c z rfl
              have pO := flat_mem h2 (List.mem_cons_self (a := p) (l := as'))
              have nb : (p :: (as' ++ A)).Nodup := by
                have n := List.nodup_cons.mp ns
                refine List.nodup_cons.mpr ⟨fun z => ?_, List.nodup_append.mpr ⟨n.2, n1, fun c hc y hy e => ?_⟩⟩
                · rcases List.mem_append.mp z with z | z
                  · exact n.1 z
                  · exact np p z pO
                · subst e; exact np c hy (flat_mem h2 (List.mem_cons_of_mem _ hc))
              obtain ⟨f1, f2⟩ := frm_put a1.frm hp h2 (ownTs_app h5 (OwnTs.cons a1.own .nil)) (by rw [List.append_nil]; exact nb) (fun c hc hO => by
                rw [List.append_nil] at hc
                rcases List.mem_append.mp hc with z | z
                · exact z
                · exact absurd hO (np c z)) fun c hc => by
                  rw [List.append_nil] at hc
                  rcases List.mem_append.mp hc with z | z
                  · exact a1.frm.out c (flat_mem h2 (List.mem_cons_of_mem _ z))
                  · exact a1.out c z
              refine ⟨_, _, _, rfl, rfl, h4, by rw [h5.length]; exact sz_lt hz, ?_⟩
              refine q σ G1 _ _ f1 ?_ (Fix.refl _ _)
              have x := f2 (A ++ Os1.flatten) A (Ext.refl _) (fun c hc => by
                rw [List.append_nil] at hc
                rcases List.mem_append.mp hc with z | z
                · exact List.mem_append_right _ (flat_mem h2 (List.mem_cons_of_mem _ z))
                · exact List.mem_append_left _ z) (List.mem_append_right _ pO)
              exact a1.ext.trans x
        · cases hg
      · cases hg
    · cases hg
def sExt (i : Nat) (f : Gs) : Gst := fun env => (f env).bind fun ds => match env[i]? with
  | some (.v (.nd ts)) => if ts.length + ds.length ≤ SZ then some (.nx, env.set i (.v (.nd (ts ++ ds.map .lf)))) else none
  | _ => none
theorem s_extend {i : Nat} {x : Str} {p0 : Pos} {gs : Gs} (hN : X.N[i]? = some x) (hv : Vis X.env.scope x) (h : PE X e (tLS X.K gs)) (hd : (x == ("__debug__" : Str)) = false := by decide) (hcd : (x == ("__classdict__" : Str)) = false := by decide)
    (hpe : ∀ {te : TE}, PE X e te → PE X (.Call (.Attribute (.Name x p0) "extend" apos) [e] [] p) (tBM X.K "list" rExtend (tVar i) (tCons te tNil)))
    (hs : swapsWith (.Call (.Attribute (.Name x p0) "extend" apos) [e] [] p) none pos.line X.env = pure false := by rfl) :
    PS X (.Expr (.Call (.Attribute (.Name x p0) "extend" apos) [e] [] p) pos) (tSV X.K m (sExt i gs)) :=
  ps_imp (ps_expr (hpe h) hs) fun D σ H ⟨G, env, Os, fl, env', F, hg, q⟩ => by
    obtain ⟨ds, e1, hg⟩ := Option.bind_eq_some_iff.mp hg
    split at hg
    · rename_i ts ets
      split at hg
      · rename_i hz
        cases hg
        obtain ⟨p, vs0, hp, hp0⟩ := isNd_at F (i := i) (by unfold isNd; rw [ets])
        refine ⟨_, hp, .inl ⟨rfl, _, SqL.of hp0⟩, G, env, Os, ds, F, e1, fun b vs G1 H1 a1 hb1 d1 => ?_⟩
        have F1 := F.grow a1
        obtain ⟨o, as, h1, h2, h3⟩ := F1.env.get ets
        rw [hp] at h1; cases h1
        cases h3 with
        | v h => cases h with
          | @nd _ vs2 _ as' h4 h5 =>
            have ns := slot_nodup F.nd h2
            obtain ⟨f1, f2⟩ := frm_put F1 hp h2 (ownTs_app h5 (OwnTs.of_dp d1)) (by rw [List.append_nil]; exact ns) (fun c hc _ => by rw [List.append_nil] at hc; exact hc) fun c hc => by
              rw [List.append_nil] at hc
              exact F1.out c (flat_mem h2 (List.mem_cons_of_mem _ hc))
            refine ⟨_, _, _, _, rfl, rfl, h4, hb1, by rw [h5.length, d1.length, sz_eq]; exact hz, ?_⟩
            refine q σ G1 _ _ f1 ((a1.ext _).trans (f2 Os.flatten [] (Ext.refl _) (fun c hc => ?_) (flat_mem h2 List.mem_cons_self))) (Fix.refl _ _)
            rw [List.append_nil] at hc
            exact flat_mem h2 (List.mem_cons_of_mem _ hc)
      · cases hg
    · cases hg
end
end Fw
namespace Fw
open PySem PySem.Spec PyProof.Rows L2
/-! ### targets that are names -/
abbrev Bd := List (Nat × Dt)
def setV : L2.St → List (Nat × V) → L2.St
  | σ, [] => σ
  | σ, (i, v) :: r => setV (σ.set i (some v)) r
def setE : List Sl → Bd → List Sl
  | env, [] => env
  | env, (i, d) :: r => setE (env.set i (.v (.lf d))) r
abbrev BdV (G : Hp) : List (Nat × V) → Bd → Prop := Paired fun (p : Nat × V) (q : Nat × Dt) => p.1 = q.1 ∧ Dq G p.2 q.2
def tNG (n : Dt → Option Bd) : TG := fun v σ H Q => ∃ G d bs, Same G H ∧ Dq G v d ∧ n d = some bs ∧ ∀ vs, BdV G vs bs → Q (setV σ vs) H
def tNGs (n : List Dt → Option Bd) : TGs := fun v σ H Q => ∃ G d bs, Same G H ∧ DqAll G v d ∧ n d = some bs ∧ ∀ vs, BdV G vs bs → Q (setV σ vs) H
theorem setV_app (σ : L2.St) (a b : List (Nat × V)) : setV σ (a ++ b) = setV (setV σ a) b := by
  induction a generalizing σ with
  | nil => rfl
  | cons p r ih => exact ih _
theorem setE_app (e : List Sl) (a b : Bd) : setE e (a ++ b) = setE (setE e a) b := by
  induction a generalizing e with
  | nil => rfl
  | cons p r ih => exact ih _
theorem bd_app {G : Hp} : ∀ {a c : List (Nat × V)} {b d : Bd}, BdV G a b → BdV G c d → BdV G (a ++ c) (b ++ d)
  | _, _, _, _, .nil, q => q
  | _, _, _, _, .cons h t, q => .cons h (bd_app t q)
section
variable {X : Cx} {e a b : Expr} {pos p apos : Pos} {m : List Bool} {K : PySem.W.Frag} {fx fy : Gx} {fe : Ge} {f g : Gst}
def nmN (i : Nat) : Dt → Option Bd := fun d => some [(i, d)]
theorem ng_name (i : Nat) {x : Str} (hN : X.N.Nodup) (hi : X.N[i]? = some x) (hx : Loc X.env.scope x) (hf : X.fn x = true ∨ X.env.scope.names.lookup x = some .local := by first | exact .inl rfl | exact .inr rfl | assumption) :
    PG X (.Name x pos) (tNG (nmN i)) := pg_imp (pg_name hN hi hx hf) fun v σ H Q ⟨G, d, bs, le, hd, hn, q⟩ => by
  cases hn
  exact q [(i, v)] (.cons ⟨rfl, hd⟩ .nil)
def nmNil : List Dt → Option Bd := fun ds => match ds with
  | [] => some []
  | _ => none
def nmCons (n : Dt → Option Bd) (ns : List Dt → Option Bd) : List Dt → Option Bd := fun ds => match ds with
  | d :: r => (n d).bind fun a => (ns r).map (a ++ ·)
  | [] => none
theorem ngs_nil : PGs X [] (tNGs nmNil) := pgs_imp pgs_nil fun vs σ H Q ⟨G, d, bs, le, hd, hn, q⟩ => by
  cases hd with
  | nil => cases hn; exact ⟨rfl, q [] .nil⟩
  | cons _ _ => cases hn
theorem ngs_cons {es : List Expr} {n : Dt → Option Bd} {ns : List Dt → Option Bd} (h1 : PG X e (tNG n)) (h2 : PGs X es (tNGs ns)) (hs : (assignEach (e :: es) X.env).map (·.2) = assign e X.env :: (assignEach es X.env).map (·.2) := by rfl) :
    PGs X (e :: es) (tNGs (nmCons n ns)) := pgs_imp (pgs_cons h1 h2 hs) fun vs σ H Q ⟨G, d, bs, le, hd, hn, q⟩ => by
  cases hd with
  | nil => cases hn
  | cons hd ht =>
    obtain ⟨a, e1, hn⟩ := Option.bind_eq_some_iff.mp hn
    obtain ⟨b, e2, e3⟩ := Option.map_eq_some_iff.mp hn
    subst e3
    exact ⟨_, _, rfl, G, _, a, le, hd, e1, fun ws hw => ⟨G, _, b, le, ht, e2, fun us hu => by
      rw [← setV_app]
      exact q _ (bd_app hw hu)⟩⟩
def nmTup (k : Nat) (ns : List Dt → Option Bd) : Dt → Option Bd := fun d => match d with
  | .tuple ds => if ds.length = k then ns ds else none
  | _ => none
theorem ng_tup {es : List Expr} {k n : Nat} {ns : List Dt → Option Bd} (hc : X.calm = true) (h : PGs X es (tNGs ns)) (hn : (assignEach es X.env).length = n := by rfl) (hst : (assignEach es X.env).findIdx? (·.1) = none := by rfl) :
    PG X (.Tuple es k pos) (tNG (nmTup n ns)) := pg_imp (pg_tup hc h hn hst) fun v σ H Q ⟨G, d, bs, le, hd, hn, q⟩ => by
  unfold nmTup at hn
  split at hn
  · split at hn
    · rename_i hz
      cases hd with
      | tup h1 h2 => exact ⟨_, _, rfl, SqT.of (le _ _ h1), by rw [h2.length]; exact hz, G, _, bs, le, h2, hn, q⟩
    · cases hn
  · cases hn
theorem frm_bd {G H : Hp} : ∀ {vs : List (Nat × V)} {bs : Bd} {σ : L2.St} {env : List Sl} {Os : List (List Addr)}, BdV G vs bs → Frm K G H σ env Os → ∃ Os', Frm K G H (setV σ vs) (setE env bs) Os' ∧ Ext G H G H Os.flatten Os'.flatten
  | _, _, _, _, Os, .nil, F => ⟨Os, F, Ext.refl _⟩
  | _, _, _, _, _, .cons (a := p) (b := q) h t, F => by
    obtain ⟨i, v⟩ := p
    obtain ⟨j, d⟩ := q
    obtain ⟨e, hd⟩ := h
    have e : i = j := e
    subst e
    obtain ⟨k1, k2⟩ := frm_set (Af.lf F (Ext.refl _) hd) i
    obtain ⟨Os', k3, k4⟩ := frm_bd t k1
    exact ⟨Os', k3, k2.trans k4⟩
/-! ### several names at once -/
theorem afs_set {G H G' H' : Hp} {σ : L2.St} {O : List Addr} {env' : List Sl} {v : V} {vs : List V} {t : OT} {ts : List OT} {A : List Addr} {Os' : List (List Addr)} (i : Nat) (a : Afs K G H σ O env' (v :: vs) (t :: ts) G' H' A Os') :
    ∃ B Os2, Afs K G H (σ.set i (some v)) O (env'.set i (.v t)) vs ts G' H' B Os2 := by
  obtain ⟨F, x, own, nd, out⟩ := a
  cases own with
  | @cons _ _ _ _ as bs h1 h2 =>
    rw [List.append_assoc] at nd x
    obtain ⟨n1, n2, n3⟩ := List.nodup_append.mp nd
    obtain ⟨m1, m2, m3⟩ := List.nodup_append.mp n2
    have ax : Af K G H σ O env' v t G' H' as Os' := ⟨F, x.sub fun c hc => by
      rcases List.mem_append.mp hc with z | z
      · exact List.mem_append_left _ z
      · exact List.mem_append_right _ (List.mem_append_right _ z), h1, List.nodup_append.mpr ⟨n1, m2, fun c hc y hy => n3 c hc y (List.mem_append_right _ hy)⟩, fun c hc => out c (List.mem_append_left _ hc)⟩
    obtain ⟨k1, k2⟩ := frm_set ax i
    refine ⟨bs, _, k1, ⟨x.g, x.h, fun c hc => ?_, x.f⟩, h2, List.nodup_append.mpr ⟨m1, k1.nd, fun c hc y hy e => ?_⟩, fun c hc => out c (List.mem_append_right _ hc)⟩
    · rcases List.mem_append.mp hc with z | z
      · exact x.o c (List.mem_append_right _ (List.mem_append_left _ z))
      · exact k2.o c z
    · subst e
      rcases mem_flatten_set hy with z | z
      · exact n3 c z c (List.mem_append_left _ hc) rfl
      · exact m3 c hc c z rfl
def sPar2 (i j : Nat) (fs : Ges) : Gst := fun env => (fs env).bind fun p => match p.1 with
  | [t, u] => some (.nx, (p.2.set i (.v t)).set j (.v u))
  | _ => none
def sPar3 (i j l : Nat) (fs : Ges) : Gst := fun env => (fs env).bind fun p => match p.1 with
  | [t, u, w] => some (.nx, ((p.2.set i (.v t)).set j (.v u)).set l (.v w))
  | _ => none
theorem afs_two {vs : List V} {t u : OT} {G H : Hp} {A : List Addr} (h : OwnTs G H vs [t, u] A) : ∃ v w, vs = [v, w] := by
  cases h with
  | cons h1 h2 => cases h2 with
    | cons h3 h4 => cases h4; exact ⟨_, _, rfl⟩
theorem afs_three {vs : List V} {t u x : OT} {G H : Hp} {A : List Addr} (h : OwnTs G H vs [t, u, x] A) : ∃ v w y, vs = [v, w, y] := by
  cases h with
  | cons h1 h2 => cases h2 with
    | cons h3 h4 => cases h4 with
      | cons h5 h6 => cases h6; exact ⟨_, _, _, rfl⟩
theorem Afs.done {G H G' H' : Hp} {σ : L2.St} {O : List Addr} {env' : List Sl} {A : List Addr} {Os' : List (List Addr)} (a : Afs K G H σ O env' [] [] G' H' A Os') : Ext G H G' H' O Os'.flatten := a.ext.sub fun c hc => List.mem_append_right _ hc
theorem s_par2 {i j : Nat} {x y : Str} {px py pt : Pos} {kt k2 pt2} {fs : Ges} (hc : X.calm = true) (hN : X.N.Nodup) (hi : X.N[i]? = some x) (hj : X.N[j]? = some y) (hij : i ≠ j) (hx : X.env.scope.names.lookup x = some .local) (hy : X.env.scope.names.lookup y = some .local)
    (ha : PA X [a, b] (tEVs X.K fs)) (hw : swappedStores [.Tuple [.Name x px, .Name y py] kt pt] (.Tuple [a, b] k2 pt2) X.env = pure (some [x, y])) (hm1 : m[i]? ≠ some true := by decide) (hm2 : m[j]? ≠ some true := by decide)
    (hs : swapsWithSole [.Tuple [.Name x px, .Name y py] kt pt] (.Tuple [a, b] k2 pt2) pos.line X.env = pure false := by rfl) :
    PS X (.Assign [.Tuple [.Name x px, .Name y py] kt pt] (.Tuple [a, b] k2 pt2) pos) (tSV X.K m (sPar2 i j fs)) := ps_imp (ps_par hc hN hi hj hij hx hy ha hw hs) fun D σ H ⟨G, env, Os, fl, env', F, hg, q⟩ => by
  obtain ⟨⟨ts, env1⟩, e1, hg⟩ := Option.bind_eq_some_iff.mp hg
  dsimp only at hg
  split at hg
  · cases hg
    refine ⟨G, env, Os, _, env1, F, e1, fun vs G1 H1 A Os1 a1 => ?_⟩
    obtain ⟨v, w, rfl⟩ := afs_two a1.own
    obtain ⟨B, Os2, a2⟩ := afs_set i a1
    obtain ⟨C, Os3, a3⟩ := afs_set j a2
    exact ⟨v, w, rfl, q _ G1 H1 Os3 a3.frm a3.done ((Fix.set hm1).trans (Fix.set hm2))⟩
  · cases hg
theorem s_par3 {i j l : Nat} {x y z : Str} {c : Expr} {px py pz pt : Pos} {kt k2 pt2} {fs : Ges} (hc : X.calm = true) (hN : X.N.Nodup) (hi : X.N[i]? = some x) (hj : X.N[j]? = some y) (hl : X.N[l]? = some z) (hij : i ≠ j) (hil : i ≠ l) (hjl : j ≠ l) (hx : X.env.scope.names.lookup x = some .local) (hy : X.env.scope.names.lookup y = some .local) (hz : X.env.scope.names.lookup z = some .local)
    (ha : PA X [a, b, c] (tEVs X.K fs)) (hw : swappedStores [.Tuple [.Name x px, .Name y py, .Name z pz] kt pt] (.Tuple [a, b, c] k2 pt2) X.env = pure (some [x, y, z])) (hm1 : m[i]? ≠ some true := by decide) (hm2 : m[j]? ≠ some true := by decide) (hm3 : m[l]? ≠ some true := by decide)
    (hs : swapsWithSole [.Tuple [.Name x px, .Name y py, .Name z pz] kt pt] (.Tuple [a, b, c] k2 pt2) pos.line X.env = pure false := by rfl) :
    PS X (.Assign [.Tuple [.Name x px, .Name y py, .Name z pz] kt pt] (.Tuple [a, b, c] k2 pt2) pos) (tSV X.K m (sPar3 i j l fs)) := ps_imp (ps_par3 hc hN hi hj hl hij hil hjl hx hy hz ha hw hs) fun D σ H ⟨G, env, Os, fl, env', F, hg, q⟩ => by
  obtain ⟨⟨ts, env1⟩, e1, hg⟩ := Option.bind_eq_some_iff.mp hg
  dsimp only at hg
  split at hg
  · cases hg
    refine ⟨G, env, Os, _, env1, F, e1, fun vs G1 H1 A Os1 a1 => ?_⟩
    obtain ⟨v, w, y, rfl⟩ := afs_three a1.own
    obtain ⟨B, Os2, a2⟩ := afs_set i a1
    obtain ⟨C, Os3, a3⟩ := afs_set j a2
    obtain ⟨D', Os4, a4⟩ := afs_set l a3
    exact ⟨v, w, y, rfl, q _ G1 H1 Os4 a4.frm a4.done (((Fix.set hm1).trans (Fix.set hm2)).trans (Fix.set hm3))⟩
  · cases hg
/-- a new cell beside the own things -/
theorem Afs.cell {G H G' H' : Hp} {σ : L2.St} {O : List Addr} {env' : List Sl} {vs : List V} {ts : List OT} {A : List Addr} {Os' : List (List Addr)} (a : Afs K G H σ O env' vs ts G' H' A Os') {p : Addr} (hp : H' p = none) (o : HO) : Afs K G H σ O env' vs ts G' (upd H' p o) A Os' := by
  have gr := own_grow a.frm.le hp o
  refine ⟨a.frm.grow gr, ⟨a.ext.g, fun c o hO h => gr.h c o (a.ext.h c o hO h), a.ext.o, a.ext.f⟩, a.own.mono (fun _ _ e => e) fun c hc => upd_ne fun e => ?_, a.nd, a.out⟩
  subst e
  obtain ⟨u, hu⟩ := a.own.there c hc
  rw [hp] at hu; cases hu
/-- .. by way of a tuple -/
theorem s_tup2 {i j : Nat} {x y : Str} {px py pt : Pos} {kt k2 pt2} {fs : Ges} (hc : X.calm = true) (hN : X.N.Nodup) (hi : X.N[i]? = some x) (hj : X.N[j]? = some y) (hx : Loc X.env.scope x) (hy : Loc X.env.scope y)
    (ha : PA X [a, b] (tEVs X.K fs)) (hfx : X.fn x = true ∨ X.env.scope.names.lookup x = some .local := by first | exact .inl rfl | exact .inr rfl | assumption) (hfy : X.fn y = true ∨ X.env.scope.names.lookup y = some .local := by first | exact .inl rfl | exact .inr rfl | assumption)
    (hm1 : m[i]? ≠ some true := by decide) (hm2 : m[j]? ≠ some true := by decide)
    (hs : swapsWithSole [.Tuple [.Name x px, .Name y py] kt pt] (.Tuple [a, b] k2 pt2) pos.line X.env = pure false := by rfl) (hw : swappedStores [.Tuple [.Name x px, .Name y py] kt pt] (.Tuple [a, b] k2 pt2) X.env = pure none := by rfl)
    (h1 : (assignEach [.Tuple [.Name x px, .Name y py] kt pt] X.env).map (·.2) = [assign (.Tuple [.Name x px, .Name y py] kt pt) X.env] := by rfl)
    (h2 : (assignEach [.Name x px, .Name y py] X.env).map (·.2) = assign (.Name x px) X.env :: (assignEach [.Name y py] X.env).map (·.2) := by rfl) (h3 : (assignEach [.Name y py] X.env).map (·.2) = assign (.Name y py) X.env :: (assignEach [] X.env).map (·.2) := by rfl)
    (hn : (assignEach [.Name x px, .Name y py] X.env).length = 2 := by rfl) (hst : (assignEach [.Name x px, .Name y py] X.env).findIdx? (·.1) = none := by rfl) :
    PS X (.Assign [.Tuple [.Name x px, .Name y py] kt pt] (.Tuple [a, b] k2 pt2) pos) (tSV X.K m (sPar2 i j fs)) :=
  ps_imp (ps_asg (pe_tup ha) (pg_tup hc (pgs_cons (pg_name hN hi hx hfx) (pgs_cons (pg_name hN hj hy hfy) pgs_nil h3) h2) hn hst) hs hw h1) fun D σ H ⟨G, env, Os, fl, env', F, hg, q⟩ => by
    obtain ⟨⟨ts, env1⟩, e1, hg⟩ := Option.bind_eq_some_iff.mp hg
    dsimp only at hg
    split at hg
    · cases hg
      refine ⟨G, env, Os, _, env1, F, e1, fun vs G1 H1 A Os1 a1 => ?_⟩
      obtain ⟨v, w, rfl⟩ := afs_two a1.own
      refine ⟨sz1000 (by simp), fun p hp => ?_⟩
      obtain ⟨B, Os2, a2⟩ := afs_set i (a1.cell hp (.tup [v, w]))
      obtain ⟨C, Os3, a3⟩ := afs_set j a2
      exact ⟨p, [v, w], rfl, SqT.of upd_same, rfl, v, [w], rfl, w, [], rfl, rfl, q _ G1 _ Os3 a3.frm a3.done ((Fix.set hm1).trans (Fix.set hm2))⟩
    · cases hg
/-! ### xs.pop(i) -/
def popAt (i : Nat) (d : Dt) (env : List Sl) : Option (Dt × List Sl) := match d with
  | .int k => (match env[i]? with
    | some (.v (.nd ts)) => if -(2 ^ 63) ≤ k ∧ k < 2 ^ 63 then (ixN ts.length k).bind fun j => (match ts[j]? with
      | some (.lf d) => some (d, env.set i (.v (.nd (ts.eraseIdx j))))
      | _ => none) else none
    | _ => none)
  | _ => none
def xPop (i : Nat) (f : Gx) : Gx := fun env => if isNd i env = true then (f env).bind fun p => popAt i p.1 p.2 else none
theorem ownTs_erase {G H : Hp} : ∀ {vs : List V} {ts : List OT} {as : List Addr} (j : Nat), OwnTs G H vs ts as → ∃ bs, OwnTs G H (vs.eraseIdx j) (ts.eraseIdx j) bs ∧ bs.Sublist as
  | _, _, _, _, .nil => ⟨[], .nil, List.Sublist.refl _⟩
  | _, _, _, 0, .cons (as := as) (bs := bs) h1 h2 => ⟨bs, h2, List.sublist_append_right _ _⟩
  | _, _, _, j + 1, .cons (as := as) (bs := bs) h1 h2 => by
    obtain ⟨cs, k1, k2⟩ := ownTs_erase j h2
    exact ⟨as ++ cs, .cons h1 k1, (List.Sublist.refl as).append k2⟩
theorem ownTs_get {G H : Hp} : ∀ {vs : List V} {ts : List OT} {as : List Addr} {j : Nat} {d : Dt}, OwnTs G H vs ts as → ts[j]? = some (.lf d) → ∃ v, vs[j]? = some v ∧ Dq G v d
  | _, _, _, _, _, .nil, e => by simp at e
  | _, _, _, 0, _, .cons h1 h2, e => by
    simp at e
    subst e
    cases h1 with
    | lf h => exact ⟨_, rfl, h⟩
  | _, _, _, j + 1, _, .cons h1 h2, e => by
    obtain ⟨v, k1, k2⟩ := ownTs_get (j := j) h2 (by simpa using e)
    exact ⟨v, by simpa using k1, k2⟩
theorem ed_pop {i : Nat} {x : Str} {p0 : Pos} (hN : X.N[i]? = some x) (hv : Vis X.env.scope x) (h : PE X e (tED X.K fx)) (hd : (x == ("__debug__" : Str)) = false := by decide) (hcd : (x == ("__classdict__" : Str)) = false := by decide)
    (hpe : ∀ {te : TE}, PE X e te → PE X (.Call (.Attribute (.Name x p0) "pop" apos) [e] [] p) (tBM X.K "list" rPopAt (tVar i) (tCons te tNil))) :
    PE X (.Call (.Attribute (.Name x p0) "pop" apos) [e] [] p) (tED X.K (xPop i fx)) :=
  pe_imp (hpe h) fun σ H Q ⟨G, env, Os, d, env', F, hg, q⟩ => by
    unfold xPop at hg
    split at hg
    · rename_i hn
      obtain ⟨p, vs0, hp, hp0⟩ := isNd_at F hn
      obtain ⟨⟨k0, env1⟩, e1, hg⟩ := Option.bind_eq_some_iff.mp hg
      unfold popAt at hg
      split at hg
      · rename_i k ek
        split at hg
        · rename_i ts ets
          split at hg
          · rename_i hb
            obtain ⟨j, ej, hg⟩ := Option.bind_eq_some_iff.mp hg
            split at hg
            · rename_i d' ed
              cases hg
              refine ⟨_, hp, .inl ⟨rfl, _, SqL.of hp0⟩, G, env, Os, _, env1, F, e1, fun v G1 H1 Os1 F1 X1 d1 => ?_⟩
              dsimp only at ek
              subst ek
              cases d1
              obtain ⟨o, as, h1, h2, h3⟩ := F1.env.get ets
              rw [hp] at h1; cases h1
              cases h3 with
              | v h => cases h with
                | @nd _ vs _ as' h4 h5 =>
                  obtain ⟨y, y1, y2⟩ := ownTs_get h5 ed
                  obtain ⟨bs, b1, b2⟩ := ownTs_erase j h5
                  have ns := slot_nodup F1.nd h2
                  have n2 := List.nodup_cons.mp ns
                  obtain ⟨f1, f2⟩ := frm_put F1 hp h2 b1 (List.nodup_cons.mpr ⟨fun z => n2.1 (b2.subset z), n2.2.sublist b2⟩) (fun c hc _ => b2.subset hc) fun c hc => F1.out c (flat_mem h2 (List.mem_cons_of_mem _ (b2.subset hc)))
                  obtain ⟨s1, s2, s3, s4⟩ := ixN_seq ej
                  refine ⟨_, _, _, j, y, rfl, rfl, h4, hb.1, hb.2, by rw [h5.length]; exact s1, y1, ?_⟩
                  have x := f2 Os1.flatten [] (Ext.refl _) (fun c hc => flat_mem h2 (List.mem_cons_of_mem _ (b2.subset hc))) (flat_mem h2 List.mem_cons_self)
                  exact q y G1 _ _ f1 (X1.trans x) y2
            · cases hg
          · cases hg
        · cases hg
      · cases hg
    · cases hg
end
end Fw
namespace Fw
open PySem PySem.Spec PyProof.Rows L2
/-! ### what is walked -/
def ItOk (J : It) (G Hc : Hp) (ds : List Dt) : Prop := ∀ (i : Nat) (G' H' : Hp), Same G G' → Same G' H' → Same Hc H' →
  (i = ds.length → J.stop i H') ∧ ∀ d, ds[i]? = some d → J.go i H' ∧ ∀ x H2, J.yld i H' x H2 → ∃ G2, Grow G' H' G2 H2 ∧ Dq G2 x d
theorem ItOk.mono {J : It} {G Hc G1 Hc1 : Hp} {ds : List Dt} (h : ItOk J G Hc ds) (a : Same G G1) (b : Same Hc Hc1) : ItOk J G1 Hc1 ds := fun i G' H' x y z => h i G' H' (a.trans x) y (b.trans z)
/-- a walk while nothing of ours is changed; one over frozen things -/
def tIT (K : PySem.W.Frag) (g : Gs) : TI := fun σ H R => ∃ G env Os ds, Frm K G H σ env Os ∧ g env = some ds ∧ ∀ J G' H', Grow G H G' H' → ItOk J G' H' ds → R J H'
def tIF (K : PySem.W.Frag) (f : Gxs) : TI := fun σ H R => ∃ G env Os ds env', Frm K G H σ env Os ∧ f env = some (ds, env') ∧ ∀ J G' H' Os', Frm K G' H' σ env' Os' → Ext G H G' H' Os.flatten Os'.flatten → ItOk J G' G' ds → R J H'
theorem pi_imp {X : Cx} {tg e : Expr} {t t' : TI} (h : PI X tg e t) (k : ∀ σ H R, t' σ H R → t σ H R) : PI X tg e t' := ⟨fun pins s σ H R I q => h.run pins s σ H R I (k σ H R q)⟩
theorem pi_or {X : Cx} {tg e : Expr} {t t' : TI} (h : PI X tg e t) (h' : PI X tg e t') : PI X tg e (fun σ H R => t σ H R ∨ t' σ H R) := ⟨fun pins s σ H R I q => q.elim (h.run pins s σ H R I) (h'.run pins s σ H R I)⟩
theorem ok_list {K : PySem.W.Frag} {p : Addr} {vs : List V} {G Hc : Hp} {ds : List Dt} (h : Hc p = some (.lst vs)) (hd : DqAll G vs ds) : ItOk (Itl K p) G Hc ds := by
  intro i G' H' gx le hc
  have hs : SqL K H' p vs := SqL.of (hc _ _ h)
  refine ⟨fun hi => ⟨vs, hs, by rw [hd.length]; exact Nat.le_of_eq hi.symm⟩, fun d e => ?_⟩
  obtain ⟨v, h1, h2⟩ := hd.get e
  refine ⟨⟨vs, v, hs, h1⟩, fun x H2 hy => ?_⟩
  obtain ⟨rfl, k⟩ := hy
  have := (k vs hs).symm.trans h1
  cases this
  exact ⟨G', Grow.refl le, dq_mono gx h2⟩
theorem ok_tup {K : PySem.W.Frag} {p : Addr} {vs : List V} {G Hc : Hp} {ds : List Dt} (h : Hc p = some (.tup vs)) (hd : DqAll G vs ds) : ItOk (Itt K p) G Hc ds := by
  intro i G' H' gx le hc
  have hs : SqT K H' p vs := SqT.of (hc _ _ h)
  refine ⟨fun hi => ⟨vs, hs, by rw [hd.length]; exact Nat.le_of_eq hi.symm⟩, fun d e => ?_⟩
  obtain ⟨v, h1, h2⟩ := hd.get e
  refine ⟨⟨vs, v, hs, h1⟩, fun x H2 hy => ?_⟩
  obtain ⟨rfl, k⟩ := hy
  have := (k vs hs).symm.trans h1
  cases this
  exact ⟨G', Grow.refl le, dq_mono gx h2⟩
/-- lo, lo + 1, .. -/
def rgD (lo : Int) (n : Nat) : List Dt := (List.range n).map fun (i : Nat) => .int (lo + i)
theorem ok_range {lo : Int} {n : Nat} {G Hc : Hp} : ItOk (Itr lo n) G Hc (rgD lo n) := by
  intro i G' H' gx le hc
  have hl : (rgD lo n).length = n := by simp [rgD]
  refine ⟨fun hi => by rw [hl] at hi; exact Nat.le_of_eq hi.symm, fun d e => ?_⟩
  have hi : i < n := by
    have := (List.getElem?_eq_some_iff.mp e).1
    rw [hl] at this; exact this
  refine ⟨hi, fun x H2 hy => ?_⟩
  obtain ⟨rfl, rfl⟩ := hy
  unfold rgD at e
  rw [List.getElem?_map, List.getElem?_range hi] at e
  cases e
  exact ⟨G', Grow.refl le, .int _⟩
def seqOf : Dt → Option (List Dt)
  | .list ds => some ds
  | .tuple ds => some ds
  | _ => none
section
variable {X : Cx} {tg e a b : Expr} {g : Gs} {ga : Gd} {fx fa fb : Gx} {pos p : Pos}
theorem it_ls (h : PE X e (tLS X.K g)) : PI X tg e (tIT X.K g) := pi_imp (pi_list h) fun σ H R ⟨G, env, Os, ds, F, hg, q⟩ =>
  ⟨G, env, Os, ds, F, hg, fun p vs G1 H1 a1 h1 d1 => ⟨p, rfl, ⟨vs, SqL.of h1⟩, q _ G1 H1 a1 (ok_list h1 d1)⟩⟩
def gSeq (g : Gd) : Gs := fun env => (g env).bind seqOf
theorem it_pv (h : PE X e (tPV X.K ga)) : PI X tg e (tIT X.K (gSeq ga)) := pi_imp (pi_or (pi_list h) (pi_tup h)) fun σ H R ⟨G, env, Os, ds, F, hg, q⟩ => by
  obtain ⟨d, e1, hg⟩ := Option.bind_eq_some_iff.mp hg
  unfold seqOf at hg
  split at hg
  · cases hg
    refine .inl ⟨G, env, Os, _, F, e1, fun v G1 H1 a1 d1 => ?_⟩
    cases d1 with
    | lst h1 h2 => exact ⟨_, rfl, ⟨_, SqL.of (a1.le _ _ h1)⟩, q _ G1 H1 a1 (ok_list (a1.le _ _ h1) h2)⟩
  · cases hg
    refine .inr ⟨G, env, Os, _, F, e1, fun v G1 H1 a1 d1 => ?_⟩
    cases d1 with
    | tup h1 h2 => exact ⟨_, rfl, ⟨_, SqT.of (a1.le _ _ h1)⟩, q _ G1 H1 a1 (ok_tup (a1.le _ _ h1) h2)⟩
  · cases hg
def xSeq (f : Gx) : Gxs := fun env => (f env).bind fun p => (seqOf p.1).map fun ds => (ds, p.2)
theorem if_ed (h : PE X e (tED X.K fx)) : PI X tg e (tIF X.K (xSeq fx)) := pi_imp (pi_or (pi_list h) (pi_tup h)) fun σ H R ⟨G, env, Os, ds, env', F, hg, q⟩ => by
  obtain ⟨⟨d, env1⟩, e1, hg⟩ := Option.bind_eq_some_iff.mp hg
  obtain ⟨ds', hs, e2⟩ := Option.map_eq_some_iff.mp hg
  cases e2
  unfold seqOf at hs
  split at hs
  · rename_i hd
    dsimp only at hd
    subst hd
    cases hs
    refine .inl ⟨G, env, Os, _, _, F, e1, fun v G1 H1 Os1 F1 X1 d1 => ?_⟩
    cases d1 with
    | lst h1 h2 => exact ⟨_, rfl, ⟨_, SqL.of (F1.le _ _ h1)⟩, q _ G1 H1 Os1 F1 X1 (ok_list h1 h2)⟩
  · rename_i hd
    dsimp only at hd
    subst hd
    cases hs
    refine .inr ⟨G, env, Os, _, _, F, e1, fun v G1 H1 Os1 F1 X1 d1 => ?_⟩
    cases d1 with
    | tup h1 h2 => exact ⟨_, rfl, ⟨_, SqT.of (F1.le _ _ h1)⟩, q _ G1 H1 Os1 F1 X1 (ok_tup h1 h2)⟩
  · cases hs
/-- range(..) -/
def rg1? : Dt → Option (List Dt)
  | .int n => if n.natAbs < 4611686018427387904 then some (rgD 0 n.toNat) else none
  | _ => none
def rg2? : Dt → Dt → Option (List Dt)
  | .int a, .int b => if a.natAbs < 4611686018427387904 ∧ b.natAbs < 4611686018427387904 then some (rgD a (b - a).toNat) else none
  | _, _ => none
def gRng1 (ga : Gd) : Gs := fun env => (ga env).bind rg1?
def gRng2 (ga gb : Gd) : Gs := fun env => (ga env).bind fun x => (gb env).bind fun y => rg2? x y
def xRng1 (fa : Gx) : Gxs := fun env => (fa env).bind fun p => (rg1? p.1).map fun ds => (ds, p.2)
def xRng2 (fa fb : Gx) : Gxs := fun env => (fa env).bind fun p => (fb p.2).bind fun q => (rg2? p.1 q.1).map fun ds => (ds, q.2)
theorem rg1_of {d : Dt} {ds : List Dt} (h : rg1? d = some ds) : ∃ n : Int, d = .int n ∧ -(2 ^ 62) ≤ n ∧ n < 2 ^ 62 ∧ ds = rgD 0 n.toNat := by
  unfold rg1? at h
  split at h
  · split at h
    · rename_i hz
      cases h
      exact ⟨_, rfl, by omega, by omega, rfl⟩
    · cases h
  · cases h
theorem rg2_of {d e : Dt} {ds : List Dt} (h : rg2? d e = some ds) : ∃ a b : Int, d = .int a ∧ e = .int b ∧ (-(2 ^ 62) ≤ a ∧ a < 2 ^ 62 ∧ -(2 ^ 62) ≤ b ∧ b < 2 ^ 62) ∧ ds = rgD a (b - a).toNat := by
  unfold rg2? at h
  split at h
  · split at h
    · rename_i hz
      cases h
      exact ⟨_, _, rfl, rfl, ⟨by omega, by omega, by omega, by omega⟩, rfl⟩
    · cases h
  · cases h
theorem it_rng1 {ga : Gd} (hg : Gl X "range") (hm : X.mg "range" = none) (ha : PE X a (tPV X.K ga)) (hs : starEach [a] X.env = [(false, eval a X.env)] := by rfl) : PI X tg (.Call (.Name "range" p) [a] [] pos) (tIT X.K (gRng1 ga)) :=
  pi_imp (pi_range1 hg hm (pa_cons ha pa_nil hs) hs) fun σ H R ⟨G, env, Os, ds, F, hg, q⟩ => by
    obtain ⟨d, e1, hg⟩ := Option.bind_eq_some_iff.mp hg
    obtain ⟨n, rfl, h1, h2, rfl⟩ := rg1_of hg
    refine ⟨G, env, Os, _, F, e1, fun v G1 H1 a1 d1 => ?_⟩
    cases d1
    exact ⟨_, rfl, h1, h2, q _ G1 H1 a1 ok_range⟩
theorem it_rng2 {ga gb : Gd} (hg : Gl X "range") (hm : X.mg "range" = none) (ha : PE X a (tPV X.K ga)) (hb : PE X b (tPV X.K gb)) (hs : starEach [a, b] X.env = [(false, eval a X.env), (false, eval b X.env)] := by rfl) (hs2 : starEach [b] X.env = [(false, eval b X.env)] := by rfl) :
    PI X tg (.Call (.Name "range" p) [a, b] [] pos) (tIT X.K (gRng2 ga gb)) :=
  pi_imp (pi_range2 hg hm (pa_cons ha (pa_cons hb pa_nil hs2) (by rw [hs, hs2])) hs hs2) fun σ H R ⟨G, env, Os, ds, F, hg, q⟩ => by
    obtain ⟨d, e1, hg⟩ := Option.bind_eq_some_iff.mp hg
    obtain ⟨d', e2, hg⟩ := Option.bind_eq_some_iff.mp hg
    obtain ⟨x, y, rfl, rfl, h1, rfl⟩ := rg2_of hg
    refine ⟨G, env, Os, _, F, e1, fun v G1 H1 a1 d1 => ⟨G1, env, Os, _, F.grow a1, e2, fun u G2 H2 a2 d2 => ?_⟩⟩
    cases d1
    cases d2
    exact ⟨_, _, rfl, h1, q _ G2 H2 (a1.trans a2) ok_range⟩
theorem if_rng1 (hg : Gl X "range") (hm : X.mg "range" = none) (ha : PE X a (tED X.K fa)) (hs : starEach [a] X.env = [(false, eval a X.env)] := by rfl) : PI X tg (.Call (.Name "range" p) [a] [] pos) (tIF X.K (xRng1 fa)) :=
  pi_imp (pi_range1 hg hm (pa_cons ha pa_nil hs) hs) fun σ H R ⟨G, env, Os, ds, env', F, hg, q⟩ => by
    obtain ⟨⟨d, env1⟩, e1, hg⟩ := Option.bind_eq_some_iff.mp hg
    obtain ⟨ds', hs, e2⟩ := Option.map_eq_some_iff.mp hg
    cases e2
    obtain ⟨n, hn, h1, h2, rfl⟩ := rg1_of hs
    dsimp only at hn
    subst hn
    refine ⟨G, env, Os, _, _, F, e1, fun v G1 H1 Os1 F1 X1 d1 => ?_⟩
    cases d1
    exact ⟨_, rfl, h1, h2, q _ G1 H1 Os1 F1 X1 ok_range⟩
theorem if_rng2 (hg : Gl X "range") (hm : X.mg "range" = none) (ha : PE X a (tED X.K fa)) (hb : PE X b (tED X.K fb)) (hs : starEach [a, b] X.env = [(false, eval a X.env), (false, eval b X.env)] := by rfl) (hs2 : starEach [b] X.env = [(false, eval b X.env)] := by rfl) :
    PI X tg (.Call (.Name "range" p) [a, b] [] pos) (tIF X.K (xRng2 fa fb)) :=
  pi_imp (pi_range2 hg hm (pa_cons ha (pa_cons hb pa_nil hs2) (by rw [hs, hs2])) hs hs2) fun σ H R ⟨G, env, Os, ds, env', F, hg, q⟩ => by
    obtain ⟨⟨d, env1⟩, e1, hg⟩ := Option.bind_eq_some_iff.mp hg
    obtain ⟨⟨d', env2⟩, e2, hg⟩ := Option.bind_eq_some_iff.mp hg
    obtain ⟨ds', hs, e3⟩ := Option.map_eq_some_iff.mp hg
    cases e3
    obtain ⟨x, y, hx, hy, h1, rfl⟩ := rg2_of hs
    dsimp only at hx hy
    subst hx hy
    refine ⟨G, env, Os, _, _, F, e1, fun v G1 H1 Os1 F1 X1 d1 => ⟨G1, env1, Os1, _, _, F1, e2, fun u G2 H2 Os2 F2 X2 d2 => ?_⟩⟩
    cases d1
    cases d2
    exact ⟨_, _, rfl, h1, q _ G2 H2 Os2 F2 (X1.trans X2) ok_range⟩
end
/-! ### for -/
def sLoop (n : Dt → Option Bd) (f : Gst) : List Dt → Gst
  | [], env => some (.nx, env)
  | d :: r, env => (n d).bind fun bs => (f (setE env bs)).bind fun p => match p.1 with
    | .nx => sLoop n f r p.2
    | .ct => sLoop n f r p.2
    | .bk => some (.nx, p.2)
    | .rt t => some (.rt t, p.2)
def sFor (fi : Gxs) (n : Dt → Option Bd) (f : Gst) : Gst := fun env => (fi env).bind fun p => sLoop n f p.1 p.2
def inS (m : List Bool) (n : Dt → Option Bd) : Prop := ∀ d bs, n d = some bs → ∀ q ∈ bs, m[q.1]? ≠ some true
theorem fix_bd {m : List Bool} {G : Hp} : ∀ {vs : List (Nat × V)} {bs : Bd} {σ : L2.St}, BdV G vs bs → (∀ q ∈ bs, m[q.1]? ≠ some true) → Fix m σ (setV σ vs)
  | _, _, _, .nil, _ => Fix.refl _ _
  | _, _, _, .cons (a := p) (b := q) h t, k => by
    obtain ⟨i, v⟩ := p
    obtain ⟨j, d⟩ := q
    have e : i = j := h.1
    subst e
    exact (Fix.set (k _ List.mem_cons_self)).trans (fix_bd t fun q hq => k q (List.mem_cons_of_mem _ hq))
section
variable {X : Cx} {m : List Bool} {tg iter : Expr} {body : List Stmt} {fi : Gxs} {n : Dt → Option Bd} {f : Gst} {pos : Pos}
theorem s_for (hp : PassesOwn (model X.prog X.w) X.A X.env X.xe) (hc : X.calm = true) (hi : PI X tg iter (tIF X.K fi)) (hg : PG X tg (tNG n)) (hb : PSs X body (tSV X.K m f)) (hm : inS m n)
    (hs : ∀ x, foldedSetIterable iter X.env x = pure x := by intro _; rfl) : PS X (.For tg iter body [] pos) (tSV X.K m (sFor fi n f)) :=
  ps_imp (ps_for hp hc hi hg hb hs) fun D σ H ⟨G, env, Os, fl, env', F, hg, q⟩ => by
    obtain ⟨⟨ds, env1⟩, e1, hl⟩ := Option.bind_eq_some_iff.mp hg
    refine ⟨G, env, Os, ds, env1, F, e1, fun J G1 H1 Os1 F1 X1 ok => ?_⟩
    refine ⟨fun i k σ' H' => k = ds.length - i ∧ i ≤ ds.length ∧ ∃ G' e' Os', Frm X.K G' H' σ' e' Os' ∧ sLoop n f (ds.drop i) e' = some (fl, env') ∧ Ext G H G' H' Os.flatten Os'.flatten ∧ Same G1 G' ∧ Fix m σ σ',
      ⟨ds.length, by simp, Nat.zero_le _, G1, env1, Os1, F1, hl, X1, fun _ _ e => e, Fix.refl _ _⟩, fun i k σ' H' => ?_⟩
    rintro ⟨rfl, hi, G', e', Os', F', l', X', s', fx⟩
    obtain ⟨k1, k2⟩ := ok i G' H' s' F'.le (s'.trans F'.le)
    by_cases hlt : i < ds.length
    · have ei : ds[i]? = some ds[i] := List.getElem?_eq_getElem hlt
      obtain ⟨go, yl⟩ := k2 _ ei
      refine .inr ⟨go, fun σ2 H2 => (ds.length - (i + 1) = ds.length - (i + 1) ∧ i + 1 ≤ ds.length ∧ ∃ G' e' Os', Frm X.K G' H2 σ2 e' Os' ∧ sLoop n f (ds.drop (i + 1)) e' = some (fl, env') ∧ Ext G H G' H2 Os.flatten Os'.flatten ∧ Same G1 G' ∧ Fix m σ σ2), fun σ2 H2 h2 => ⟨_, by omega, h2⟩, fun x H2 hy => ?_⟩
      obtain ⟨G2, g2, d2⟩ := yl x H2 hy
      rw [List.drop_eq_getElem_cons hlt] at l'
      obtain ⟨bs, eb, l'⟩ := Option.bind_eq_some_iff.mp l'
      obtain ⟨⟨fl1, e1'⟩, ef, l'⟩ := Option.bind_eq_some_iff.mp l'
      refine ⟨G2, _, bs, g2.le, d2, eb, fun vs hv => ?_⟩
      obtain ⟨Os3, F3, X3⟩ := frm_bd hv (F'.grow g2)
      have fx3 : Fix m σ (setV σ' vs) := fx.trans (fix_bd hv (hm _ _ eb))
      have X30 := (X'.trans (g2.ext _)).trans X3
      refine ⟨G2, _, Os3, fl1, e1', F3, ef, ?_⟩
      cases fl1 with
      | nx => exact fun σ4 G4 H4 Os4 F4 X4 f4 => ⟨rfl, hlt, G4, e1', Os4, F4, l', X30.trans X4, (s'.trans g2.g).trans X4.g, fx3.trans f4⟩
      | ct => exact fun σ4 G4 H4 Os4 F4 X4 f4 => ⟨rfl, hlt, G4, e1', Os4, F4, l', X30.trans X4, (s'.trans g2.g).trans X4.g, fx3.trans f4⟩
      | bk =>
        cases l'
        exact fun σ4 G4 H4 Os4 F4 X4 f4 => q σ4 G4 H4 Os4 F4 (X30.trans X4) (fx3.trans f4)
      | rt t =>
        cases l'
        exact fun v σ4 G4 H4 A Os4 a4 f4 => q v σ4 G4 H4 A Os4 (a4.pre X30) (fx3.trans f4)
    · have e : i = ds.length := by omega
      subst e
      rw [List.drop_length] at l'
      cases l'
      exact .inl ⟨k1 rfl, q σ' G' H' Os' F' X' fx⟩
/-! ### while -/
def sWh (c : Gt) (f : Gst) : Nat → Gst
  | 0, _ => none
  | k + 1, env => (c env).bind fun p => if p.1 = true then (f p.2).bind fun q => (match q.1 with
    | .nx => sWh c f k q.2
    | .ct => sWh c f k q.2
    | .bk => some (.nx, q.2)
    | .rt t => some (.rt t, q.2)) else some (.nx, p.2)
theorem s_while (k : Nat) {c : Expr} {tc : Gt} (hp : PassesOwn (model X.prog X.w) X.A X.env X.xe) (hc : PT X c (tET X.K tc)) (hb : PSs X body (tSV X.K m f)) : PS X (.While c body [] pos) (tSV X.K m (sWh tc f k)) :=
  ps_imp (ps_while hp hc hb) fun D σ H ⟨G, env, Os, fl, env', F, hg, q⟩ => by
    refine ⟨fun j σ' H' => ∃ G' e' Os', Frm X.K G' H' σ' e' Os' ∧ sWh tc f j e' = some (fl, env') ∧ Ext G H G' H' Os.flatten Os'.flatten ∧ Fix m σ σ', ⟨k, G, env, Os, F, hg, Ext.refl _, Fix.refl _ _⟩, fun j σ' H' ⟨G', e', Os', F', l', X', fx⟩ => ?_⟩
    cases j with
    | zero => cases l'
    | succ j =>
      obtain ⟨⟨b, e1⟩, ec, l'⟩ := Option.bind_eq_some_iff.mp l'
      refine ⟨G', e', Os', b, e1, F', ec, fun G1 H1 Os1 F1 X1 => ?_⟩
      cases b with
      | false =>
        cases l'
        exact iteF (q σ' G1 H1 Os1 F1 (X'.trans X1) fx)
      | true =>
        refine iteT ⟨fun σ2 H2 => ∃ G' e' Os', Frm X.K G' H2 σ2 e' Os' ∧ sWh tc f j e' = some (fl, env') ∧ Ext G H G' H2 Os.flatten Os'.flatten ∧ Fix m σ σ2, fun σ2 H2 h2 => ⟨j, Nat.lt_succ_self j, h2⟩, ?_⟩
        obtain ⟨⟨fl1, e2⟩, ef, l'⟩ := Option.bind_eq_some_iff.mp l'
        refine ⟨G1, e1, Os1, fl1, e2, F1, ef, ?_⟩
        have X2 := X'.trans X1
        cases fl1 with
        | nx => exact fun σ4 G4 H4 Os4 F4 X4 f4 => ⟨G4, e2, Os4, F4, l', X2.trans X4, fx.trans f4⟩
        | ct => exact fun σ4 G4 H4 Os4 F4 X4 f4 => ⟨G4, e2, Os4, F4, l', X2.trans X4, fx.trans f4⟩
        | bk =>
          cases l'
          exact fun σ4 G4 H4 Os4 F4 X4 f4 => q σ4 G4 H4 Os4 F4 (X2.trans X4) (fx.trans f4)
        | rt t =>
          cases l'
          exact fun v σ4 G4 H4 A Os4 a4 f4 => q v σ4 G4 H4 A Os4 (a4.pre X2) (fx.trans f4)
end
end Fw
namespace Fw
open PySem PySem.Spec PyProof.Rows L2
/-! ### a block's own names -/
def wipeE (env : List Sl) : List Nat → List Sl
  | [] => env
  | v :: vs => (wipeE env vs).set v .un
def wipeO (Os : List (List Addr)) : List Nat → List (List Addr)
  | [] => Os
  | v :: vs => (wipeO Os vs).set v []
section
variable {K : PySem.W.Frag} {G H G' H' : Hp}
theorem set_none {K : PySem.W.Frag} {G H : Hp} : ∀ {σ : List (Option V)} {env : List Sl} {Os : List (List Addr)} (i : Nat), EnvL K G H σ env Os → EnvL K G H (σ.set i none) (env.set i .un) (Os.set i []) := fun i E => EnvL.set .un i E
theorem frm_un {σ : L2.St} {env : List Sl} {Os : List (List Addr)} (F : Frm K G H σ env Os) (i : Nat) : Frm K G H (σ.set i none) (env.set i .un) (Os.set i []) ∧ ∀ c ∈ (Os.set i []).flatten, c ∈ Os.flatten := by
  have k : ∀ c ∈ (Os.set i []).flatten, c ∈ Os.flatten := fun c hc => by
    rcases mem_flatten_set hc with z | z
    · cases z
    · exact z
  exact ⟨⟨F.le, EnvL.set .un i F.env, nodup_set F.nd List.nodup_nil (fun c hc => by cases hc), fun c hc => F.out c (k c hc)⟩, k⟩
theorem frm_wipe {σ : L2.St} {env : List Sl} {Os : List (List Addr)} (F : Frm K G H σ env Os) : ∀ vs : List Nat, Frm K G H (wipe σ vs) (wipeE env vs) (wipeO Os vs) ∧ ∀ c ∈ (wipeO Os vs).flatten, c ∈ Os.flatten
  | [] => ⟨F, fun _ h => h⟩
  | v :: vs => by
    obtain ⟨f1, k1⟩ := frm_wipe F vs
    obtain ⟨f2, k2⟩ := frm_un f1 v
    exact ⟨f2, fun c hc => k1 c (k2 c hc)⟩
theorem wipe_in {s : L2.St} {j : Nat} : ∀ {vs : List Nat}, j ∈ vs → (wipe s vs)[j]? = if j < s.length then some none else none
  | u :: us, hv => by
    unfold wipe
    by_cases hu : u = j
    · subst hu
      by_cases hl : u < s.length
      · rw [List.getElem?_set_self (by rw [wipe_length]; exact hl), if_pos hl]
      · rw [List.getElem?_eq_none (by rw [List.length_set, wipe_length]; omega), if_neg hl]
    · rw [List.getElem?_set_ne hu]
      exact wipe_in ((List.mem_cons.mp hv).resolve_left fun z => hu z.symm)
theorem wipe_set {σ : L2.St} {i : Nat} {o : Option V} : ∀ {vs : List Nat}, i ∈ vs → wipe (σ.set i o) vs = wipe σ vs
  | v :: vs, h => by
    show (wipe (σ.set i o) vs).set v none = (wipe σ vs).set v none
    by_cases hi : i ∈ vs
    · rw [wipe_set hi]
    · have e : i = v := by
        rcases List.mem_cons.mp h with z | z
        · exact z
        · exact absurd z hi
      subst e
      refine List.ext_getElem? fun j => ?_
      by_cases hj : i = j
      · subst hj
        by_cases hl : i < σ.length
        · rw [List.getElem?_set_self (by rw [wipe_length, List.length_set]; exact hl), List.getElem?_set_self (by rw [wipe_length]; exact hl)]
        · rw [List.getElem?_eq_none (by rw [List.length_set, wipe_length, List.length_set]; omega), List.getElem?_eq_none (by rw [List.length_set, wipe_length]; omega)]
      · rw [List.getElem?_set_ne hj, List.getElem?_set_ne hj]
        by_cases hv : j ∈ vs
        · rw [wipe_in hv, wipe_in hv, List.length_set]
        · rw [wipe_out hv, wipe_out hv, List.getElem?_set_ne hj]
theorem wipe_setV {vs : List Nat} : ∀ {bs : List (Nat × V)} {σ : L2.St}, (∀ q ∈ bs, q.1 ∈ vs) → wipe (setV σ bs) vs = wipe σ vs
  | [], _, _ => rfl
  | (i, v) :: r, σ, h => by
    show wipe (setV (σ.set i (some v)) r) vs = _
    rw [wipe_setV fun q hq => h q (List.mem_cons_of_mem _ hq), wipe_set (h _ List.mem_cons_self)]
theorem wipe_wipe {σ : L2.St} : ∀ (vs us : List Nat), (∀ i ∈ us, i ∈ vs) → wipe (wipe σ us) vs = wipe σ vs
  | vs, [], _ => rfl
  | vs, u :: us, h => by
    show wipe ((wipe σ us).set u none) vs = _
    rw [wipe_set (h u List.mem_cons_self), wipe_wipe vs us fun i hi => h i (List.mem_cons_of_mem _ hi)]
theorem bd_in {vs : List Nat} {G : Hp} : ∀ {a : List (Nat × V)} {b : Bd}, BdV G a b → (∀ q ∈ b, q.1 ∈ vs) → ∀ q ∈ a, q.1 ∈ vs
  | _, _, .nil, _, _, h => by cases h
  | _, _, .cons h t, k, q, hq => by
    rcases List.mem_cons.mp hq with e | hq
    · subst e
      rw [h.1]
      exact k _ List.mem_cons_self
    · exact bd_in t (fun z hz => k z (List.mem_cons_of_mem _ hz)) q hq
end
/-- the targets' names are the block's own -/
def inB (vs : List Nat) (n : Dt → Option Bd) : Prop := ∀ d bs, n d = some bs → ∀ q ∈ bs, q.1 ∈ vs
theorem pts_imp {X : Cx} {ifs : List Expr} {t t' : TT} (h : PTs X ifs t) (k : ∀ σ H Q, t' σ H Q → t σ H Q) : PTs X ifs t' := ⟨fun pins s σ H Q I q => h.run pins s σ H Q I (k σ H Q q)⟩
section
variable {X : Cx} {c : Expr}
def gYes : List Sl → Option Bool := fun _ => some true
def tYesE : Gt := fun env => some (true, env)
theorem tvs_nil : PTs X [] (tTV X.K gYes) := pts_imp pts_nil fun σ H Q ⟨G, env, Os, b, F, hg, q⟩ => by
  cases hg
  exact q.here F.le
theorem tvs_one {g : List Sl → Option Bool} (h : PT X c (tTV X.K g)) : PTs X [c] (tTV X.K g) := pts_one h
theorem tes_nil : PTs X [] (tET X.K tYesE) := pts_imp pts_nil fun σ H Q ⟨G, env, Os, b, env', F, hg, q⟩ => by
  cases hg
  exact q G H Os F (Ext.refl _)
theorem tes_one {g : Gt} (h : PT X c (tET X.K g)) : PTs X [c] (tET X.K g) := pts_one h
end
/-! ### [e for x in .. if ..], nothing of ours changed -/
def lcG (n : Dt → Option Bd) (gt : List Sl → Option Bool) (ge : Gd) (env0 : List Sl) : List Dt → Option (List Dt)
  | [] => some []
  | d :: r => (n d).bind fun bs => (gt (setE env0 bs)).bind fun b => if b = true then (ge (setE env0 bs)).bind fun y => (lcG n gt ge env0 r).map (y :: ·) else lcG n gt ge env0 r
def gLc (vs : List Nat) (gi : Gs) (n : Dt → Option Bd) (gt : List Sl → Option Bool) (ge : Gd) : Gs := fun env => (gi env).bind fun ds => if ds.length ≤ SZ then lcG n gt ge (wipeE env vs) ds else none
section
variable {X : Cx} {elt tg iter : Expr} {ifs : List Expr} {scope : Scope} {own : List (Str × Nat)} {pos : Pos} {gi : Gs} {n : Dt → Option Bd} {gt : List Sl → Option Bool} {ge : Gd}
/-- the reading, for both forms (a value, a name's) -/
theorem lc_read {K : PySem.W.Frag} {vs : List Nat} (hm : inB vs n) {σ : L2.St} {H : Hp} {Q : VK} (h : tFL K (gLc vs gi n gt ge) σ H Q) : tLc (tIT K gi) (tNG n) (tTV K gt) (tPV K ge) vs σ H Q := by
  obtain ⟨G, env, Os, es, F, hg, q⟩ := h
  obtain ⟨ds, e1, hl⟩ := Option.bind_eq_some_iff.mp hg
  split at hl
  · rename_i hz
    refine ⟨G, env, Os, ds, F, e1, fun J G1 H1 a1 ok D hD => ?_⟩
    have F1 := F.grow a1
    have gD : G1 D = none := a1.le.free hD
    have gr0 := own_grow a1.le hD (.lst [])
    refine ⟨fun i k H' => k = ds.length - i ∧ i ≤ ds.length ∧ ∃ G' acc accd rest, Grow G1 H1 G' H' ∧ G' D = none ∧ H' D = some (.lst acc) ∧ DqAll G' acc accd ∧ acc.length ≤ i ∧ lcG n gt ge (wipeE env vs) (ds.drop i) = some rest ∧ accd ++ rest = es,
      ⟨ds.length, by simp, Nat.zero_le _, G1, [], [], es, gr0, gD, upd_same, .nil, Nat.le_refl _, hl, rfl⟩, fun i k H' => ?_⟩
    rintro ⟨rfl, hi, G', acc, accd, rest, gr, gD', hD', hacc, hlen, hrest, hes⟩
    obtain ⟨k1, k2⟩ := ok i G' H' gr.g gr.le gr.h
    by_cases hlt : i < ds.length
    · have ei : ds[i]? = some ds[i] := List.getElem?_eq_getElem hlt
      obtain ⟨go, yl⟩ := k2 _ ei
      refine .inr ⟨go, fun H' => (ds.length - (i + 1) = ds.length - (i + 1) ∧ i + 1 ≤ ds.length ∧ ∃ G' acc accd rest, Grow G1 H1 G' H' ∧ G' D = none ∧ H' D = some (.lst acc) ∧ DqAll G' acc accd ∧ acc.length ≤ i + 1 ∧ lcG n gt ge (wipeE env vs) (ds.drop (i + 1)) = some rest ∧ accd ++ rest = es), fun H2 h2 => ⟨_, by omega, h2⟩, fun x H2 hy => ?_⟩
      obtain ⟨G2, g2, d2⟩ := yl x H2 hy
      rw [List.drop_eq_getElem_cons hlt] at hrest
      obtain ⟨bs, eb, hrest⟩ := Option.bind_eq_some_iff.mp hrest
      obtain ⟨b, et, hrest⟩ := Option.bind_eq_some_iff.mp hrest
      have noD : ∀ {G4 H4 : Hp}, Grow G' H' G4 H4 → G4 D = none := fun {G4 H4} g => by
        cases q : G4 D with
        | none => rfl
        | some u =>
          rcases g.f D u q with z | z
          · rw [gD'] at z; cases z
          · rw [hD'] at z; cases z
      refine ⟨G2, _, bs, g2.le, d2, eb, fun ws hw => ⟨?_, ?_⟩⟩
      · rw [wipe_setV (bd_in hw (hm _ _ eb))]
        exact wipe_wipe vs vs fun _ h => h
      · have F2 := (frm_wipe (F1.grow (gr.trans g2)) vs).1
        obtain ⟨Os3, F3, _⟩ := frm_bd hw F2
        refine ⟨G2, _, Os3, b, F3, et, fun G3 H3 g3 => ?_⟩
        cases b with
        | false =>
          have hrest : lcG n gt ge (wipeE env vs) (ds.drop (i + 1)) = some rest := by simpa using hrest
          have g33 := g2.trans g3
          exact iteF ⟨rfl, hlt, G3, acc, accd, rest, gr.trans g33, noD g33, g33.h _ _ hD', dqAll_mono g33.g hacc, by omega, hrest, hes⟩
        | true =>
          rw [if_pos rfl] at hrest
          obtain ⟨y, ey, hrest⟩ := Option.bind_eq_some_iff.mp hrest
          obtain ⟨r', er, e3⟩ := Option.map_eq_some_iff.mp hrest
          subst e3
          refine iteT ⟨G3, _, Os3, y, F3.grow g3, ey, fun v G4 H4 g4 d4 => ?_⟩
          have g44 := (g2.trans g3).trans g4
          have nD := noD g44
          have h4 := g44.h _ _ hD'
          refine ⟨acc, h4, ?_, rfl, hlt, G4, acc ++ [v], accd ++ [y], r', ?_, nD, upd_same, (dqAll_mono g44.g hacc).append (.one d4), by rw [List.length_append]; simp; omega, er, by rw [List.append_assoc]; exact hes⟩
          · rw [sz_eq]; omega
          · have g5 := gr.trans g44
            have nH : H1 D = none := hD
            exact ⟨g5.g, fun c u e => by rw [upd_ne (ne_of_none e nH)]; exact g5.h c u e, fun c u e => by rw [upd_ne (ne_of_none e nD)]; exact g5.le c u e, g5.f⟩
    · have e : i = ds.length := by omega
      subst e
      rw [List.drop_length] at hrest
      cases hrest
      rw [List.append_nil] at hes
      subst hes
      exact .inl ⟨k1 rfl, q D acc G' H' (a1.trans gr) (a1.h.free hD) gD' hD' hacc⟩
  · cases hl
theorem fl_lc (hc : X.calm = true) (hN : X.N.Nodup) (hi : PI X tg iter (tIT X.K gi)) (ok : BlkOk X.N X.env.scope scope own)
    (hg : ∀ (s : Shared) (H : Hp) (C : Addr) (cl : List (Str × Addr)) (fp : List Addr), PG (X.blk s H scope (compEnvC scope cl C X.env) fp) tg (tNG n)) (ht : ∀ (s : Shared) (H : Hp) (C : Addr) (cl : List (Str × Addr)) (fp : List Addr), PTs (X.blk s H scope (compEnvC scope cl C X.env) fp) ifs (tTV X.K gt))
    (he : ∀ (s : Shared) (H : Hp) (C : Addr) (cl : List (Str × Addr)) (fp : List Addr), PE (X.blk s H scope (compEnvC scope cl C X.env) fp) elt (tPV X.K ge)) (hm : inB (own.map (·.2)) n) (hs : ∀ x, foldedSetIterable iter X.env x = pure x := by intro _; rfl) :
    PE X (.ListComp elt [⟨tg, iter, ifs, 0⟩] scope pos) (tFL X.K (gLc (own.map (·.2)) gi n gt ge)) := pe_imp (pe_lc hc hN hi ok hg ht he hs) fun σ H Q h => lc_read hm h
end
/-! ### .. where the element may change our things -/
def backE (outer : List Sl) : List Nat → List Sl → List Sl
  | [], inner => inner
  | v :: vs, inner => backE outer vs (inner.set v (outer.getD v .un))
def lcE (vs : List Nat) (n : Dt → Option Bd) (ft : Gt) (fe : Ge) : List Dt → List Sl → Option (List OT × List Sl)
  | [], env => some ([], env)
  | d :: r, env => (n d).bind fun bs => (ft (setE (wipeE env vs) bs)).bind fun p => if p.1 = true then (fe p.2).bind fun q => (lcE vs n ft fe r q.2).map fun w => (q.1 :: w.1, w.2) else lcE vs n ft fe r p.2
theorem flat_apart {Os : List (List Addr)} (h : Os.flatten.Nodup) {i j : Nat} {as bs : List Addr} (hi : Os[i]? = some as) (hj : Os[j]? = some bs) (hij : i ≠ j) : ∀ a ∈ as, a ∉ bs := fun a ha hb => by
  obtain ⟨p1, p2⟩ := List.pairwise_flatten.mp h
  obtain ⟨l1, e1⟩ := List.getElem?_eq_some_iff.mp hi
  obtain ⟨l2, e2⟩ := List.getElem?_eq_some_iff.mp hj
  rcases Nat.lt_or_gt_of_ne hij with hlt | hlt
  · have := List.pairwise_iff_getElem.mp p2 i j l1 l2 hlt
    rw [e1, e2] at this
    exact this a ha a hb rfl
  · have := List.pairwise_iff_getElem.mp p2 j i l2 l1 hlt
    rw [e1, e2] at this
    exact this a hb a ha rfl
/-- a slot's thing that may be put back -/
def Bk (K : PySem.W.Frag) (G H : Hp) (σ : L2.St) (outer : List Sl) (O1 : List (List Addr)) (v : Nat) : Prop := ∀ s : Sl, outer[v]? = some s → ∃ (o : Option V) (as : List Addr), σ[v]? = some o ∧ O1[v]? = some as ∧ SlOk K G H o s as ∧ ∀ a ∈ as, G a = none
theorem frm_back {K : PySem.W.Frag} {G H : Hp} {σ : L2.St} {outer : List Sl} {O1 : List (List Addr)} (nd : O1.flatten.Nodup) (hl : outer.length = σ.length) :
    ∀ (vs : List Nat) (inner : List Sl) (Os : List (List Addr)), vs.Nodup → (∀ v ∈ vs, Bk K G H σ outer O1 v) → Frm K G H (wipe σ vs) inner Os → (∀ v ∈ vs, ∀ as : List Addr, O1[v]? = some as → ∀ a ∈ as, a ∉ Os.flatten) →
      ∃ Os', Frm K G H σ (backE outer vs inner) Os' ∧ ∀ a ∈ Os'.flatten, a ∈ Os.flatten ∨ ∃ v ∈ vs, ∃ as : List Addr, O1[v]? = some as ∧ a ∈ as
  | [], inner, Os, _, _, F, _ => ⟨Os, F, fun a h => .inl h⟩
  | v :: vs, inner, Os, hv, ho, F, hd => by
    obtain ⟨hv1, hv2⟩ := List.nodup_cons.mp hv
    have L := F.env.len
    have lw : (wipe σ (v :: vs)).length = σ.length := wipe_length _ _
    by_cases hlt : v < σ.length
    · have e : outer[v]? = some outer[v] := List.getElem?_eq_getElem (by rw [hl]; exact hlt)
      obtain ⟨o, as, h1, h2, h3, hG⟩ := ho v List.mem_cons_self _ e
      have n1 : as.Nodup := slot_nodup nd h2
      have ga : outer.getD v .un = outer[v] := by rw [List.getD_eq_getElem?_getD, e]; rfl
      have F2 : Frm K G H (wipe σ vs) (inner.set v (outer.getD v .un)) (Os.set v as) := by
        have E := EnvL.set h3 v F.env
        have ew : (wipe σ (v :: vs)).set v o = wipe σ vs := by
          show ((wipe σ vs).set v none).set v o = wipe σ vs
          rw [List.set_set, set_get_self (by rw [wipe_out hv1]; exact h1)]
        rw [ew] at E
        rw [ga]
        refine ⟨F.le, E, nodup_set F.nd n1 fun a ha hO => absurd hO (hd v List.mem_cons_self as h2 a ha), fun a ha => ?_⟩
        rcases mem_flatten_set ha with z | z
        · exact hG a z
        · exact F.out a z
      obtain ⟨Os', f, k⟩ := frm_back nd hl vs _ _ hv2 (fun u hu => ho u (List.mem_cons_of_mem _ hu)) F2 fun u hu bs hb a ha hO => by
        rcases mem_flatten_set hO with z | z
        · exact flat_apart nd hb h2 (fun e => hv1 (e ▸ hu)) a ha z
        · exact hd u (List.mem_cons_of_mem _ hu) bs hb a ha z
      refine ⟨Os', f, fun a ha => ?_⟩
      rcases k a ha with z | ⟨u, hu, bs, hb, z⟩
      · rcases mem_flatten_set z with z | z
        · exact .inr ⟨v, List.mem_cons_self, as, h2, z⟩
        · exact .inl z
      · exact .inr ⟨u, List.mem_cons_of_mem _ hu, bs, hb, z⟩
    · have li : inner.length = σ.length := by rw [← lw, L.1]
      have lo : Os.length = σ.length := by rw [L.2, li]
      have e1 : wipe σ (v :: vs) = wipe σ vs := by
        show (wipe σ vs).set v none = wipe σ vs
        exact List.set_eq_of_length_le (by rw [wipe_length]; omega)
      have e2 : inner.set v (outer.getD v .un) = inner := List.set_eq_of_length_le (by omega)
      rw [e1] at F
      show ∃ Os', Frm K G H σ (backE outer vs (inner.set v (outer.getD v .un))) Os' ∧ _
      rw [e2]
      obtain ⟨Os', f, k⟩ := frm_back nd hl vs _ _ hv2 (fun u hu => ho u (List.mem_cons_of_mem _ hu)) F fun u hu bs hb a ha => hd u (List.mem_cons_of_mem _ hu) bs hb a ha
      exact ⟨Os', f, fun a ha => (k a ha).imp id fun ⟨u, hu, z⟩ => ⟨u, List.mem_cons_of_mem _ hu, z⟩⟩
theorem wipeO_apart {Os : List (List Addr)} (nd : Os.flatten.Nodup) {v : Nat} {as : List Addr} (h : Os[v]? = some as) : ∀ {vs : List Nat}, v ∈ vs → ∀ a ∈ as, a ∉ (wipeO Os vs).flatten := by
  have key : ∀ (vs : List Nat) (j : Nat) (bs : List Addr), (wipeO Os vs)[j]? = some bs → bs = [] ∨ (Os[j]? = some bs ∧ j ∉ vs) := by
    intro vs
    induction vs with
    | nil => intro j bs e; exact .inr ⟨e, by simp⟩
    | cons u us ih =>
      intro j bs e
      have e : ((wipeO Os us).set u [])[j]? = some bs := e
      by_cases hu : u = j
      · subst hu
        by_cases hl : u < (wipeO Os us).length
        · rw [List.getElem?_set_self hl] at e; cases e; exact .inl rfl
        · rw [List.getElem?_eq_none (by rw [List.length_set]; omega)] at e; cases e
      · rw [List.getElem?_set_ne hu] at e
        rcases ih j bs e with z | ⟨z1, z2⟩
        · exact .inl z
        · exact .inr ⟨z1, by simp only [List.mem_cons, not_or]; exact ⟨fun e => hu e.symm, z2⟩⟩
  intro vs hv a ha hm
  obtain ⟨bs, hb, hab⟩ := List.mem_flatten.mp hm
  obtain ⟨j, hj⟩ := List.getElem?_of_mem hb
  rcases key vs j bs hj with z | ⟨z1, z2⟩
  · subst z; cases hab
  · exact flat_apart nd h z1 (fun e => z2 (e ▸ hv)) a ha hab
theorem Ext.wide {G H G' H' : Hp} {O O1 O' : List Addr} (a : Ext G H G' H' O O') (h : ∀ c ∈ O, c ∈ O1) : Ext G H G' H' O1 O' :=
  ⟨a.g, fun c o hc e => a.h c o (fun z => hc (h c z)) e, fun c hc => (a.o c hc).imp (h c) id, fun c o e => by
    rcases a.f c o e with z | z | z
    · exact .inl z
    · exact .inr (.inl (h c z))
    · exact .inr (.inr z)⟩
/-- a cell that is neither frozen nor a slot's is changed -/
theorem frm_cell {K : PySem.W.Frag} {G H : Hp} {σ : L2.St} {env : List Sl} {Os : List (List Addr)} (F : Frm K G H σ env Os) {D : Addr} (o : HO) (hg : G D = none) (hO : D ∉ Os.flatten) : Frm K G (upd H D o) σ env Os :=
  ⟨fun c u e => by rw [upd_ne (ne_of_none e hg)]; exact F.le c u e, F.env.mono (fun _ _ e => e) fun c hc => upd_ne fun e => hO (e ▸ hc), F.nd, F.out⟩
def eLc (vs : List Nat) (fi : Gxs) (n : Dt → Option Bd) (ft : Gt) (fe : Ge) : Ge := fun env => (fi env).bind fun p => if p.1.length ≤ SZ then (lcE vs n ft fe p.1 p.2).map fun w => (.nd w.1, backE p.2 vs (wipeE w.2 vs)) else none
/-- the state within the block -/
structure InL (K : PySem.W.Frag) (σ : L2.St) (vs : List Nat) (G1 H1 : Hp) (O : List Addr) (D : Addr) (G' H' : Hp) (acc : List V) (ts : List OT) (A : List Addr) (e' : List Sl) (Os' : List (List Addr)) : Prop where
  frm : Frm K G' H' (wipe σ vs) (wipeE e' vs) Os'
  ext : Ext G1 H1 G' H' O (A ++ Os'.flatten)
  cell : H' D = some (.lst acc)
  outD : D ∉ A ++ Os'.flatten
  gD : G' D = none
  own : OwnTs G' H' acc ts A
  nd : (A ++ Os'.flatten).Nodup
  out : ∀ a ∈ A, G' a = none
section
variable {K : PySem.W.Frag} {σ σ2 : L2.St} {vs : List Nat} {G1 H1 G' H' G2 H2 : Hp} {O : List Addr} {D : Addr} {acc : List V} {ts : List OT} {A : List Addr} {e' e2 : List Sl} {Os' Os2 : List (List Addr)}
/-- a step within the block: not of the list, nor of its items -/
theorem InL.step (a : InL K σ vs G1 H1 O D G' H' acc ts A e' Os') (F : Frm K G2 H2 σ2 e2 Os2) (x : Ext G' H' G2 H2 Os'.flatten Os2.flatten) : H2 D = some (.lst acc) ∧ D ∉ A ++ Os2.flatten ∧ G2 D = none ∧ OwnTs G2 H2 acc ts A ∧ (A ++ Os2.flatten).Nodup ∧ (∀ c ∈ A, G2 c = none) ∧ Ext G1 H1 G2 H2 O (A ++ Os2.flatten) := by
  obtain ⟨n1, n2, n3⟩ := List.nodup_append.mp a.nd
  have hD : D ∉ Os'.flatten := fun z => a.outD (List.mem_append_right _ z)
  obtain ⟨s1, s2, s3⟩ := a.ext.side (fun c hc => a.own.there c hc) (fun c hc z => n3 c hc c z rfl) x
  refine ⟨x.h D _ hD a.cell, fun z => ?_, ?_, a.own.mono x.g fun c hc => s2 c hc, List.nodup_append.mpr ⟨n1, F.nd, fun c hc y hy e => s3 c hc (e ▸ hy)⟩, fun c hc => ?_, s1⟩
  · rcases List.mem_append.mp z with z | z
    · exact a.outD (List.mem_append_left _ z)
    · rcases x.o D z with z | z
      · exact hD z
      · rw [a.cell] at z; cases z
  · cases q : G2 D with
    | none => rfl
    | some u =>
      rcases x.f D u q with z | z | z
      · rw [a.gD] at z; cases z
      · exact absurd z hD
      · rw [a.cell] at z; cases z
  · cases q : G2 c with
    | none => rfl
    | some u =>
      rcases x.f c u q with z | z | z
      · rw [a.out c hc] at z; cases z
      · exact absurd rfl (n3 c hc c z)
      · obtain ⟨w, hw⟩ := a.own.there c hc
        rw [hw] at z; cases z
/-- the next turn's state -/
theorem InL.next (hσ : wipe σ2 vs = wipe σ vs) (F : Frm K G2 H2 σ2 e2 Os2) (h : H2 D = some (.lst acc) ∧ D ∉ A ++ Os2.flatten ∧ G2 D = none ∧ OwnTs G2 H2 acc ts A ∧ (A ++ Os2.flatten).Nodup ∧ (∀ c ∈ A, G2 c = none) ∧ Ext G1 H1 G2 H2 O (A ++ Os2.flatten)) :
    InL K σ vs G1 H1 O D G2 H2 acc ts A e2 (wipeO Os2 vs) := by
  obtain ⟨h1, h2, h3, h4, h5, h6, h7⟩ := h
  obtain ⟨F2, k⟩ := frm_wipe F vs
  rw [hσ] at F2
  obtain ⟨n1, n2, n3⟩ := List.nodup_append.mp h5
  have sub : ∀ c ∈ A ++ (wipeO Os2 vs).flatten, c ∈ A ++ Os2.flatten := fun c hc => by
    rcases List.mem_append.mp hc with z | z
    · exact List.mem_append_left _ z
    · exact List.mem_append_right _ (k c z)
  exact ⟨F2, h7.sub sub, h1, fun z => h2 (sub D z), h3, h4, List.nodup_append.mpr ⟨n1, F2.nd, fun c hc y hy => n3 c hc y (k y hy)⟩, h6⟩
end
theorem le_read {K : PySem.W.Frag} {vs : List Nat} {fi : Gxs} {n : Dt → Option Bd} {ft : Gt} {fe : Ge} (hv : vs.Nodup) (hm : inB vs n) {σ : L2.St} {H : Hp} {Q : VK} (h : tEV K (eLc vs fi n ft fe) σ H Q) : tLc (tIF K fi) (tNG n) (tET K ft) (tEV K fe) vs σ H Q := by
  obtain ⟨G, env, Os, t, env', F, hg, q⟩ := h
  obtain ⟨⟨ds, env1⟩, e1, hl⟩ := Option.bind_eq_some_iff.mp hg
  dsimp only at hl
  split at hl
  · rename_i hz
    obtain ⟨⟨ts, eF⟩, e2, e3⟩ := Option.map_eq_some_iff.mp hl
    cases e3
    refine ⟨G, env, Os, ds, env1, F, e1, fun J G1 H1 Os1 F1 X1 ok D hD => ?_⟩
    have gD : G1 D = none := F1.le.free hD
    have gr0 := own_grow F1.le hD (.lst [])
    have fD : ∀ {O : List (List Addr)} {s : L2.St} {e : List Sl}, Frm K G1 H1 s e O → D ∉ O.flatten := fun {O s e} F hc => by
      obtain ⟨u, hu⟩ := F.env.there D hc
      rw [hD] at hu; cases hu
    obtain ⟨Fw, kw⟩ := frm_wipe F1 vs
    refine ⟨fun i k H' => k = ds.length - i ∧ i ≤ ds.length ∧ ∃ G' acc tacc A e' Os' rest, InL K σ vs G1 H1 (wipeO Os1 vs).flatten D G' H' acc tacc A e' Os' ∧ acc.length ≤ i ∧ lcE vs n ft fe (ds.drop i) e' = some (rest, eF) ∧ tacc ++ rest = ts,
      ⟨ds.length, by simp, Nat.zero_le _, G1, [], [], [], env1, _, ts, ⟨Fw.grow gr0, gr0.ext _, upd_same, fun z => fD Fw z, gD, .nil, Fw.nd, fun a ha => by cases ha⟩, Nat.le_refl _, e2, rfl⟩, fun i k H' => ?_⟩
    rintro ⟨rfl, hi, G', acc, tacc, A, e', Os', rest, L, hlen, hrest, hes⟩
    obtain ⟨k1, k2⟩ := ok i G' H' L.ext.g L.frm.le (L.ext.g.trans L.frm.le)
    by_cases hlt : i < ds.length
    · have ei : ds[i]? = some ds[i] := List.getElem?_eq_getElem hlt
      obtain ⟨go, yl⟩ := k2 _ ei
      refine .inr ⟨go, fun H' => (ds.length - (i + 1) = ds.length - (i + 1) ∧ i + 1 ≤ ds.length ∧ ∃ G' acc tacc A e' Os' rest, InL K σ vs G1 H1 (wipeO Os1 vs).flatten D G' H' acc tacc A e' Os' ∧ acc.length ≤ i + 1 ∧ lcE vs n ft fe (ds.drop (i + 1)) e' = some (rest, eF) ∧ tacc ++ rest = ts), fun H2 h2 => ⟨_, by omega, h2⟩, fun x H2 hy => ?_⟩
      obtain ⟨G2, g2, d2⟩ := yl x H2 hy
      rw [List.drop_eq_getElem_cons hlt] at hrest
      obtain ⟨bs, eb, hrest⟩ := Option.bind_eq_some_iff.mp hrest
      obtain ⟨⟨b, e4⟩, et, hrest⟩ := Option.bind_eq_some_iff.mp hrest
      refine ⟨G2, _, bs, g2.le, d2, eb, fun ws hw => ⟨?_, ?_⟩⟩
      · rw [wipe_setV (bd_in hw (hm _ _ eb))]
        exact wipe_wipe vs vs fun _ h => h
      · have wσ : wipe (setV (wipe σ vs) ws) vs = wipe σ vs := by
          rw [wipe_setV (bd_in hw (hm _ _ eb))]
          exact wipe_wipe vs vs fun _ h => h
        obtain ⟨Os3, F3, x3⟩ := frm_bd hw (L.frm.grow g2)
        refine ⟨G2, _, Os3, b, e4, F3, et, fun G3 H3 Os4 F4 x4 => ?_⟩
        have x34 := ((g2.ext _).trans x3).trans x4
        have st := L.step F4 x34
        cases b with
        | false =>
          have hrest : lcE vs n ft fe (ds.drop (i + 1)) e4 = some (rest, eF) := by simpa using hrest
          exact iteF ⟨rfl, hlt, G3, acc, tacc, A, e4, _, rest, InL.next wσ F4 st, by omega, hrest, hes⟩
        | true =>
          rw [if_pos rfl] at hrest
          obtain ⟨⟨y, e5⟩, ey, hrest⟩ := Option.bind_eq_some_iff.mp hrest
          obtain ⟨⟨r', e6⟩, er, e7⟩ := Option.map_eq_some_iff.mp hrest
          cases e7
          refine iteT ⟨G3, e4, Os4, y, e5, F4, ey, fun v G5 H5 B Os5 a5 => ?_⟩
          obtain ⟨h1, h2, h3, h4, h5, h6, h7⟩ := st
          obtain ⟨n1, n2, n3⟩ := List.nodup_append.mp h5
          have hD4 : D ∉ Os4.flatten := fun z => h2 (List.mem_append_right _ z)
          obtain ⟨s1, s2, s3⟩ := h7.side (fun c hc => h4.there c hc) (fun c hc z => n3 c hc c z rfl) a5.ext
          have c5 : H5 D = some (.lst acc) := a5.ext.h D _ hD4 h1
          have D5 : D ∉ B ++ Os5.flatten := fun z => by
            rcases a5.ext.o D z with z | z
            · exact hD4 z
            · rw [h1] at z; cases z
          have gD5 : G5 D = none := by
            cases q : G5 D with
            | none => rfl
            | some u =>
              rcases a5.ext.f D u q with z | z | z
              · rw [h3] at z; cases z
              · exact absurd z hD4
              · rw [h1] at z; cases z
          have ownA : OwnTs G5 H5 acc tacc A := h4.mono a5.ext.g fun c hc => s2 c hc
          have DA : D ∉ A := fun z => h2 (List.mem_append_left _ z)
          have ownAll := ownTs_app ownA (OwnTs.cons a5.own .nil)
          rw [List.append_nil] at ownAll
          have outA : ∀ c ∈ A ++ B, G5 c = none := fun c hc => by
            rcases List.mem_append.mp hc with z | z
            · cases q : G5 c with
              | none => rfl
              | some u =>
                rcases a5.ext.f c u q with z' | z' | z'
                · rw [h6 c z] at z'; cases z'
                · exact absurd rfl (n3 c z c z')
                · obtain ⟨w, hw⟩ := h4.there c z
                  rw [hw] at z'; cases z'
            · exact a5.out c z
          have nAll : ((A ++ B) ++ Os5.flatten).Nodup := by
            rw [List.append_assoc]
            exact List.nodup_append.mpr ⟨n1, a5.nd, fun c hc y hy e => s3 c hc (e ▸ hy)⟩
          have DAll : D ∉ (A ++ B) ++ Os5.flatten := fun z => by
            rw [List.append_assoc] at z
            rcases List.mem_append.mp z with z | z
            · exact DA z
            · exact D5 z
          have x5 : Ext G1 H1 G5 H5 (wipeO Os1 vs).flatten ((A ++ B) ++ Os5.flatten) := by rw [List.append_assoc]; exact s1
          refine ⟨acc, c5, by rw [sz_eq]; omega, rfl, hlt, G5, acc ++ [v], tacc ++ [y], A ++ B, e5, _, r', InL.next wσ (frm_cell a5.frm (.lst (acc ++ [v])) gD5 fun z => D5 (List.mem_append_right _ z)) ⟨upd_same, DAll, gD5, ownAll.mono (fun _ _ e => e) fun c hc => upd_ne fun e => ?_, nAll, outA, ⟨x5.g, fun c u hO e => ?_, x5.o, x5.f⟩⟩, by rw [List.length_append]; simp; omega, er, by rw [List.append_assoc]; exact hes⟩
          · subst e
            exact DAll (List.mem_append_left _ hc)
          · rw [upd_ne fun z => by subst z; rw [hD] at e; cases e]
            exact x5.h c u hO e
    · have e : i = ds.length := by omega
      subst e
      rw [List.drop_length] at hrest
      cases hrest
      rw [List.append_nil] at hes
      subst hes
      refine .inl ⟨k1 rfl, ?_⟩
      have xw : Ext G1 H1 G' H' Os1.flatten (A ++ Os'.flatten) := L.ext.wide kw
      obtain ⟨n1, n2, n3⟩ := List.nodup_append.mp L.nd
      -- the slots put back
      have apart : ∀ v ∈ vs, ∀ as : List Addr, Os1[v]? = some as → ∀ a ∈ as, a ∉ A ++ Os'.flatten ∧ (∃ u, H1 a = some u) ∧ a ∉ (wipeO Os1 vs).flatten := fun v hv as has a ha => by
        have w := wipeO_apart F1.nd has hv a ha
        obtain ⟨u, hu⟩ := F1.env.there a (flat_mem has ha)
        refine ⟨fun z => ?_, ⟨u, hu⟩, w⟩
        rcases L.ext.o a z with z | z
        · exact w z
        · rw [hu] at z; cases z
      obtain ⟨Os2, F2, k2⟩ := frm_back (G := G') (H := H') (outer := env1) (O1 := Os1) F1.nd (F1.env.len.1.symm) vs (wipeE eF vs) Os' hv (fun v hv s hs => by
        obtain ⟨o, as, h1, h2, h3⟩ := F1.env.get hs
        refine ⟨o, as, h1, h2, h3.mono L.ext.g fun a ha => ?_, fun a ha => ?_⟩
        · obtain ⟨_, ⟨u, hu⟩, w⟩ := apart v hv as h2 a ha
          rw [hu]
          exact L.ext.h a u w hu
        · obtain ⟨_, ⟨u, hu⟩, w⟩ := apart v hv as h2 a ha
          cases q : G' a with
          | none => rfl
          | some x =>
            rcases L.ext.f a x q with z | z | z
            · rw [F1.out a (flat_mem h2 ha)] at z; cases z
            · exact absurd z w
            · rw [hu] at z; cases z) L.frm fun v hv as has a ha z => (apart v hv as has a ha).1 (List.mem_append_right _ z)
      have sub2 : ∀ a ∈ Os2.flatten, a ∈ Os'.flatten ∨ a ∈ Os1.flatten ∧ a ∉ A ++ Os'.flatten := fun a ha => by
        rcases k2 a ha with z | ⟨v, hv, as, has, z⟩
        · exact .inl z
        · exact .inr ⟨flat_mem has z, (apart v hv as has a z).1⟩
      have D2 : D ∉ Os2.flatten := fun z => by
        rcases sub2 D z with z | ⟨z, _⟩
        · exact L.outD (List.mem_append_right _ z)
        · exact fD F1 z
      have xx := X1.trans xw
      refine q _ G' H' (D :: A) Os2 ⟨F2, ⟨xx.g, xx.h, fun a ha => ?_, xx.f⟩, .nd L.cell L.own, ?_, fun a ha => ?_⟩
      · rcases List.mem_cons.mp ha with e | ha
        · subst e
          by_cases hO : a ∈ Os.flatten
          · exact .inl hO
          · cases qq : H a with
            | none => exact .inr rfl
            | some u =>
              have := X1.h a u hO qq
              rw [hD] at this; cases this
        · rcases List.mem_append.mp ha with z | z
          · exact xx.o a (List.mem_append_left _ z)
          · rcases sub2 a z with z | ⟨z, _⟩
            · exact xx.o a (List.mem_append_right _ z)
            · exact X1.o a z
      · refine List.nodup_cons.mpr ⟨fun z => ?_, List.nodup_append.mpr ⟨n1, F2.nd, fun c hc y hy e => ?_⟩⟩
        · rcases List.mem_append.mp z with z | z
          · exact L.outD (List.mem_append_left _ z)
          · exact D2 z
        · subst e
          rcases sub2 c hy with z | ⟨_, z⟩
          · exact n3 c hc c z rfl
          · exact z (List.mem_append_left _ hc)
      · rcases List.mem_cons.mp ha with e | ha
        · subst e; exact L.gD
        · exact L.out a ha
  · cases hl
section
variable {X : Cx} {elt tg iter : Expr} {ifs : List Expr} {scope : Scope} {own : List (Str × Nat)} {pos : Pos} {fi : Gxs} {n : Dt → Option Bd} {ft : Gt} {fe : Ge}
theorem ev_lc (hc : X.calm = true) (hN : X.N.Nodup) (hi : PI X tg iter (tIF X.K fi)) (ok : BlkOk X.N X.env.scope scope own)
    (hg : ∀ (s : Shared) (H : Hp) (C : Addr) (cl : List (Str × Addr)) (fp : List Addr), PG (X.blk s H scope (compEnvC scope cl C X.env) fp) tg (tNG n)) (ht : ∀ (s : Shared) (H : Hp) (C : Addr) (cl : List (Str × Addr)) (fp : List Addr), PTs (X.blk s H scope (compEnvC scope cl C X.env) fp) ifs (tET X.K ft))
    (he : ∀ (s : Shared) (H : Hp) (C : Addr) (cl : List (Str × Addr)) (fp : List Addr), PE (X.blk s H scope (compEnvC scope cl C X.env) fp) elt (tEV X.K fe)) (hm : inB (own.map (·.2)) n) (hv : (own.map (·.2)).Nodup := by decide) (hs : ∀ x, foldedSetIterable iter X.env x = pure x := by intro _; rfl) :
    PE X (.ListComp elt [⟨tg, iter, ifs, 0⟩] scope pos) (tEV X.K (eLc (own.map (·.2)) fi n ft fe)) := pe_imp (pe_lc hc hN hi ok hg ht he hs) fun σ H Q h => le_read hv hm h
end
end Fw
namespace Fw
open PySem PySem.Spec PyProof.Rows L2
/-! ### defs -/
abbrev Gfn := List Sl → Option (OT × List Sl)
structure FnG (P : Program) (w : World) (K : PySem.W.Frag) (mg : Str → Option Value) (base : Heap) (k : Nat) (f : Addr) (fd : FuncData) (ps : List Str) (sem : Gfn) : Prop where
  run : ∀ (A : Around) (outer : List Env) (s : Shared) (H : Hp) (args : Args) (us : List Value) (vs : List V) (Q : VK) (G : Hp) (As : List Sl) (Aos : List (List Addr)) (r : OT) (rs : List Sl),
    A.guards = some [] → Room k A → Env0 P w K mg base A outer s H → BindsTo s fd args (ps.zip us) → Vals vs us → vs.length = ps.length →
    Frm K G H (vs.map some) As Aos → sem As = some (r, rs) → PostE K G H (vs.map some) Aos.flatten rs r Q → codeAny (model P w) A (.call (.ref f) args) (CR CX0 outer P w H s Q E0) s
theorem FnG.mono {P : Program} {w : World} {K : PySem.W.Frag} {mg : Str → Option Value} {base : Heap} {j k : Nat} {f : Addr} {fd : FuncData} {ps : List Str} {sem : Gfn} (F : FnG P w K mg base j f fd ps sem) (h : j ≤ k) :
    FnG P w K mg base k f fd ps sem := ⟨fun A outer s H args us vs Q G As Aos r rs hG hr => F.run A outer s H args us vs Q G As Aos r rs hG (hr.mono h)⟩
/-- a slot whose things can't change -/
def frozen : Sl → Bool
  | .v (.lf _) => true
  | .scr _ => true
  | _ => false
def mixL : List Bool → List Sl → List Sl → List Sl
  | _, _, [] => []
  | [], _, a :: As => a :: mixL [] [] As
  | false :: m, env, a :: As => a :: mixL m env.tail As
  | true :: m, env, _ :: As => (env.headD .un) :: mixL m env.tail As
def okA : List Bool → List Sl → Bool
  | _, [] => true
  | [], a :: As => frozen a && okA [] As
  | false :: m, a :: As => frozen a && okA m As
  | true :: m, _ :: As => okA m As
theorem frozen_ok {K : PySem.W.Frag} {G H G' H' : Hp} (e : Same G G') {o : Option V} {s : Sl} {as : List Addr} (h : SlOk K G H o s as) (hf : frozen s = true) : SlOk K G' H' o s [] := by
  cases h with
  | un => exact .un
  | v h => cases h with
    | lf h => exact .v (.lf (dq_mono e h))
    | nd _ _ => cases hf
  | dk _ _ => cases hf
  | dt _ _ => cases hf
  | scr h => exact .scr (e.seq h)
theorem mix_ok {K : PySem.W.Frag} {G H G' H' : Hp} (e : Same G G') : ∀ {vs : List V} {As : List Sl} {Aos : List (List Addr)} {σ' : L2.St} {env' : List Sl} {Os' : List (List Addr)} {m : List Bool},
    EnvL K G H (vs.map some) As Aos → EnvL K G' H' σ' env' Os' → (∀ i, m[i]? = some true → i < vs.length → σ'[i]? = (vs.map some)[i]?) → okA m As = true →
    ∃ Os2, EnvL K G' H' (vs.map some) (mixL m env' As) Os2 ∧ Os2.flatten.Sublist Os'.flatten
  | [], As, Aos, σ', env', Os', m, h, h', fx, ok => by
    cases h
    refine ⟨[], ?_, List.nil_sublist _⟩
    unfold mixL
    exact .nil
  | v :: vs, As, Aos, σ', env', Os', m, h, h', fx, ok => by
    cases h with
    | @cons _ _ a As' _ Aos' ha h =>
      have tl : ∀ {q : L2.St} {en : List Sl} {O2 : List (List Addr)}, EnvL K G' H' q en O2 → ∃ O3, EnvL K G' H' q.tail en.tail O3 ∧ O3.flatten.Sublist O2.flatten := by
        intro q en O2 z
        cases z with
        | nil => exact ⟨[], .nil, List.nil_sublist _⟩
        | cons _ z => exact ⟨_, z, by rw [List.flatten_cons]; exact List.sublist_append_right _ _⟩
      match m with
      | [] =>
        simp only [okA, Bool.and_eq_true] at ok
        obtain ⟨O2, h1, h2⟩ := mix_ok e (σ' := []) (env' := []) (Os' := []) (m := []) h .nil (fun i z => by simp at z) ok.2
        refine ⟨[] :: O2, ?_, ?_⟩
        · simp only [mixL]
          exact .cons (frozen_ok e ha ok.1) h1
        · rw [List.flatten_cons, List.nil_append]
          exact h2.trans (List.nil_sublist _)
      | false :: m =>
        simp only [okA, Bool.and_eq_true] at ok
        obtain ⟨O3, k1, k2⟩ := tl h'
        obtain ⟨O2, h1, h2⟩ := mix_ok e h k1 (m := m) (fun i z hl => by
          have := fx (i + 1) (by simpa using z) (by simp; omega)
          simpa using this) ok.2
        refine ⟨[] :: O2, ?_, ?_⟩
        · simp only [mixL]
          exact .cons (frozen_ok e ha ok.1) h1
        · rw [List.flatten_cons, List.nil_append]
          exact h2.trans k2
      | true :: m =>
        simp only [okA] at ok
        have h0 := fx 0 rfl (by simp)
        cases h' with
        | nil => simp at h0
        | @cons o σ2 s env2 as Os2 hs h' =>
          simp at h0
          subst h0
          obtain ⟨O2, h1, h2⟩ := mix_ok e h h' (m := m) (fun i z hl => by
            have := fx (i + 1) (by simpa using z) (by simp; omega)
            simpa using this) ok
          refine ⟨as :: O2, ?_, ?_⟩
          · simp only [mixL, List.headD_cons, List.tail_cons]
            exact .cons hs h1
          · rw [List.flatten_cons, List.flatten_cons]
            exact (List.Sublist.refl as).append h2
/-- a def's sense: np parameters, n names, m: which parameters may be changed by reference -/
def sFn (np n : Nat) (m : List Bool) (body : Gst) : Gfn := fun As => if As.length = np ∧ okA m As = true then (body (As ++ List.replicate (n - np) .un)).bind fun p => (match p.1 with
  | .rt t => some (t, mixL m p.2 As)
  | .nx => some (.lf .none, mixL m p.2 As)
  | _ => none) else none
theorem envL_un {K : PySem.W.Frag} {G H : Hp} : ∀ (j : Nat), EnvL K G H (List.replicate j none) (List.replicate j .un) (List.replicate j [])
  | 0 => .nil
  | j + 1 => by
    rw [List.replicate_succ, List.replicate_succ, List.replicate_succ]
    exact .cons .un (envL_un j)
theorem EnvL.app {K : PySem.W.Frag} {G H : Hp} : ∀ {σ σ' : L2.St} {env env' : List Sl} {Os Os' : List (List Addr)}, EnvL K G H σ env Os → EnvL K G H σ' env' Os' → EnvL K G H (σ ++ σ') (env ++ env') (Os ++ Os')
  | _, _, _, _, _, _, .nil, h => h
  | _, _, _, _, _, _, .cons h t, q => .cons h (EnvL.app t q)
theorem flat_un (Aos : List (List Addr)) (j : Nat) : (Aos ++ List.replicate j []).flatten = Aos.flatten := by
  rw [List.flatten_append]
  have : (List.replicate j ([] : List Addr)).flatten = [] := by
    induction j with
    | zero => rfl
    | succ j ih => rw [List.replicate_succ, List.flatten_cons, ih]; rfl
  rw [this, List.append_nil]
section
variable {P : Program} {w : World} {K : PySem.W.Frag} {mg : Str → Option Value} {base : Heap} {x qual : Str} {params : Arguments} {body : List Stmt} {scope : Scope} {dvs : List V} {kws : List (Str × V)} {f : Addr} {fd : FuncData}
theorem FnG.of {N ps : List Str} {k : Nat} {m : List Bool} {gb : Gst} (F : FunD K x qual params body scope dvs kws f fd) (S : FnScope N ps scope)
    (hbody : ∀ (cdv : Value) (A : Around) (outer : List Env) (s : Shared) (H : Hp) (E : XK), A.guards = some [] → Room k (A.deeper (envOfC qual scope s.heap.objs.size f cdv)) →
      PSs (cxOf CX0 P w K mg base N qual scope f cdv A outer s H E).nox body (tSV K m gb)) : FnG P w K mg base (k + 1) f fd ps (sFn ps.length N.length m gb) := by
  obtain ⟨oc, od, dV, kV, doc, pm, an, cdv, ct, osl, rfl, lk, hcd, _, _⟩ := F.ex
  refine ⟨fun A outer s H args us vs Q G As Aos r rs hG hr e0 hb rv hl F0 hs hq => ?_⟩
  unfold sFn at hs
  split at hs
  · rename_i hz
    obtain ⟨hz1, hz2⟩ := hz
    obtain ⟨⟨fl, env'⟩, hs1, hs2⟩ := Option.bind_eq_some_iff.mp hs
    have KX : K.In s.heap := e0.mod.kin.keeps fun b o e => (e0.bs b o e).1
    have lim : s.heap.NoLimit := e0.mod.nolimit.keeps fun b o e => (e0.bs b o e).1
    have kinds : ∀ y ∈ ps.zip us, scope.names.lookup y.1 = some .local ∨ (scope.names.lookup y.1 = some .cell ∧ ((cellsFrom (s.heap.objs.size + 1) scope.names []).lookup y.1).isSome = true) := by
      intro ⟨nm, v⟩ hy
      rcases S.par nm (List.of_mem_zip hy).1 with q | q
      · exact Or.inl q
      · exact Or.inr ⟨q, PySem.W.cellsFrom_some _ _ _ (Or.inl q)⟩
    refine codeAny_call_function hr.depth (KX _ _ lk) rfl S.co S.gen rfl (PySem.W.codeRec_of KX hcd) (hb _ _ _ _ (wpAny_newFunctionEnv_cells S.kind kinds fun env he s1 ic => ?_))
    subst he
    refine ⟨lim.keeps ic.toInCall.keep, codeAny_func ?_⟩
    have hbd := (hbody cdv A outer s H E0 hG (hr.deeper _)).nox
    have I : Inv (cxOf CX0 P w K mg base N qual scope f cdv A outer s H E0) [] (L2.start N vs) H s1 := inv_start S hr.hd e0 hl rv ic
    have lN : ps.length ≤ N.length := by have := congrArg List.length S.pre; rw [List.length_take] at this; omega
    have hst : L2.start N vs = vs.map some ++ List.replicate (N.length - ps.length) none := by unfold L2.start; rw [hl]
    have Fs : Frm K G H (L2.start N vs) (As ++ List.replicate (N.length - ps.length) .un) (Aos ++ List.replicate (N.length - ps.length) []) := by
      rw [hst]
      refine ⟨F0.le, F0.env.app (envL_un _), ?_, ?_⟩
      · rw [flat_un]; exact F0.nd
      · rw [flat_un]; exact F0.out
    have vl : vs.length = As.length := by rw [hl, hz1]
    -- the end
    have fin : ∀ {σ' : L2.St} {v : V} {t : OT} {G' H' : Hp} {A' : List Addr} {Os' : List (List Addr)}, Af K G H σ' (Aos ++ List.replicate (N.length - ps.length) []).flatten env' v t G' H' A' Os' → Fix m (L2.start N vs) σ' → (t, mixL m env' As) = (r, rs) → Q v H' := by
      intro σ' v t G' H' A' Os' a fx e
      cases e
      rw [flat_un] at a
      obtain ⟨O2, h1, h2⟩ := mix_ok (m := m) a.ext.g F0.env a.frm.env (fun i hm hi => by
        rw [fx i hm, hst, List.getElem?_append_left (by simpa using hi)]) hz2
      refine hq v G' H' A' O2 ⟨⟨a.frm.le, h1, a.frm.nd.sublist h2, fun c hc => a.frm.out c (h2.subset hc)⟩, ⟨a.ext.g, a.ext.h, fun c hc => a.ext.o c ?_, a.ext.f⟩, a.own, a.nd.sublist ((List.Sublist.refl _).append h2), a.out⟩
      rcases List.mem_append.mp hc with z | z
      · exact List.mem_append_left _ z
      · exact List.mem_append_right _ (h2.subset z)
    refine wpAny_mono (hbd.run [] s1 (L2.start N vs) H { nx := fun _ H' => Q .non H', rt := Q } I ⟨G, _, _, fl, env', Fs, hs1, ?_⟩) (fun fl s' z => ?_) fun e s' z => z
    · cases fl with
      | nx =>
        refine fun σ' G' H' Os' F' X' fx => ?_
        exact fin (Af.lf F' X' .non) fx (by simpa using hs2)
      | rt t =>
        refine fun v σ' G' H' A' Os' a fx => ?_
        exact fin a fx (by simpa using hs2)
      | bk => simp at hs2
      | ct => simp at hs2
    · cases fl with
      | ret u =>
        obtain ⟨v, σ', H', J, rv', q⟩ := z
        exact ⟨v, H', J.os, J.bare, J.base, J.hok, rv', q⟩
      | next =>
        obtain ⟨σ', H', J, q⟩ := z
        exact ⟨V.non, H', J.os, J.bare, J.base, J.hok, rfl, q⟩
      | brk =>
        obtain ⟨_, _, _, q⟩ := z
        exact False.elim q
      | cont =>
        obtain ⟨_, _, _, q⟩ := z
        exact False.elim q
  · cases hs
end
end Fw
namespace Fw
open PySem PySem.Spec PyProof.Rows L2
/-! ### calls -/
def spG (K : PySem.W.Frag) (sem : Gfn) (vs : List V) (H : Hp) (Q : VK) : Prop := ∃ G As Aos r rs, Frm K G H (vs.map some) As Aos ∧ sem As = some (r, rs) ∧ PostE K G H (vs.map some) Aos.flatten rs r Q
def lenG (sem : Gfn) (n : Nat) : Prop := ∀ As p, sem As = some p → As.length = n
theorem lenG_sFn {np n : Nat} {m : List Bool} {b : Gst} : lenG (sFn np n m b) np := fun As p h => by
  unfold sFn at h
  split at h
  · rename_i z; exact z.1
  · cases h
theorem spG.len {K : PySem.W.Frag} {sem : Gfn} {n : Nat} {vs : List V} {H : Hp} {Q : VK} (h : spG K sem vs H Q) (l : lenG sem n) : vs.length = n := by
  obtain ⟨G, As, Aos, r, rs, F, e, _⟩ := h
  have := (F.env.len).1
  rw [List.length_map] at this
  rw [this]; exact l _ _ e
def pick {α : Type} (pm : List Nat) (l : List α) : List α := pm.filterMap fun i => l[i]?
theorem vals_pick {vs : List V} {us : List Value} (h : Vals vs us) : ∀ pm : List Nat, Vals (pick pm vs) (pick pm us)
  | [] => .nil
  | i :: pm => by
    unfold pick
    rw [List.filterMap_cons, List.filterMap_cons]
    cases e : vs[i]? with
    | none =>
      have : us[i]? = none := by
        rw [List.getElem?_eq_none_iff] at e ⊢
        rw [← h.length]; exact e
      rw [this]
      exact vals_pick h pm
    | some v =>
      obtain ⟨u, hu, rv⟩ := h.get e
      rw [hu]
      exact .cons rv (vals_pick h pm)
theorem dq_pick {G : Hp} {vs : List V} {ds : List Dt} (h : DqAll G vs ds) : ∀ pm : List Nat, DqAll G (pick pm vs) (pick pm ds)
  | [] => .nil
  | i :: pm => by
    unfold pick
    rw [List.filterMap_cons, List.filterMap_cons]
    cases e : vs[i]? with
    | none =>
      have : ds[i]? = none := by
        rw [List.getElem?_eq_none_iff] at e ⊢
        rw [← h.length]; exact e
      rw [this]
      exact dq_pick h pm
    | some v =>
      obtain ⟨u, hu, rv⟩ := h.getV e
      rw [hu]
      exact .cons rv (dq_pick h pm)
section
variable {X : Cx} {k : Nat} {f : Addr} {fd : FuncData} {ps ks : List Str} {sem : Gfn} {x : Str} {p pos : Pos} {e : Expr} {es : List Expr} {kws : List Keyword} {t tk : TA} {pm : List Nat}
theorem run_g {pins : List (Addr × Obj)} {σ : L2.St} {H : Hp} {s : Shared} {Q : VK} {us ws : List Value} {vs : List V} {args : List (Str × Value)} (F : FnG X.prog X.w X.K X.mg X.base k f fd ps sem) (hl : lenG sem ps.length) (hG : X.A.guards = some []) (hr : Room k X.A)
    (I : Inv X pins σ H s) (r : Vals vs ws) (hb : ws.length = ps.length → BindsTo s fd ⟨us, args⟩ (ps.zip ws)) (h : spG X.K sem vs H Q) : wpAny (model X.prog X.w) X.A (call (.ref f) us args) (EP X pins σ Q) X.xe s := by
  have l := h.len hl
  obtain ⟨G, As, Aos, r', rs, F0, e0, q⟩ := h
  refine wpAny_call (codeAny_mono (F.run X.A X.stack s H ⟨us, args⟩ ws vs Q G As Aos r' rs hG hr I.env0 (hb (by rw [← r.length]; exact l)) r l F0 e0 q) fun r s' hq => ?_)
  cases r with
  | error e => exact False.elim hq
  | ok fl =>
    cases fl with
    | ret u => exact I.after hq
    | next => exact False.elim hq
    | brk => exact False.elim hq
    | cont => exact False.elim hq
/-- what the walk needs of a def that is called -/
structure CallOk (X : Cx) (x : Str) (ps : List Str) (sem : Gfn) : Prop where
  hG : X.A.guards = some []
  gl : Gl X x
  len : lenG sem ps.length
  ex : ∃ (k : Nat) (f : Addr) (fd : FuncData), FnG X.prog X.w X.K X.mg X.base k f fd ps sem ∧ Room k X.A ∧ X.mg x = some (.ref f) ∧ PySem.W.keepIn X.K (.ref f) = true ∧ ∃ (qual : Str) (params : Arguments) (body : List Stmt) (scope : Scope), FunD X.K x qual params body scope [] [] f fd
  /-- positional -/
def bindsP (x : Str) (ps : List Str) (us : List Value) (kw : List (Str × Value)) (ws : List Value) (params : Arguments) (body : List Stmt) (scope : Scope) (qual : Str) : Prop :=
  ∀ (kV doc pmm : Value) (an : Option Addr) (cdv ct : Value), bindArgs (PySem.W.fnOf x qual params body scope .none kV doc pmm an cdv ct) ⟨us, kw⟩ = pure (ps.zip ws)
theorem binds_to {K : PySem.W.Frag} {qual : Str} {params : Arguments} {body : List Stmt} {scope : Scope} {us ws : List Value} {kw : List (Str × Value)} {s : Shared} (F : FunD K x qual params body scope [] [] f fd) (h : bindsP x ps us kw ws params body scope qual) : BindsTo s fd ⟨us, kw⟩ (ps.zip ws) := by
  obtain ⟨oc, od, dV, kV, doc, pmm, an, cdv, ct, osl, rfl, lk, hcd, hD, _⟩ := F.ex
  rcases hD with ⟨_, rfl⟩ | ⟨e, _⟩
  · exact .of_eq (h kV doc pmm an cdv ct)
  · exact absurd rfl e
end
/-- a def of the text -/
structure DefG (P : Program) (w : World) (K : PySem.W.Frag) (mg : Str → Option Value) (base : Heap) (x : Str) (st : Stmt) (k : Nat) (ps : List Str) (sem : Gfn) : Prop where
  len : lenG sem ps.length
  ex : ∃ (f : Addr) (fd : FuncData), FnG P w K mg base k f fd ps sem ∧ mg x = some (.ref f) ∧ FunD K x x (defArgs st) (defBody st) (defScope st) [] [] f fd
def posOk (x : Str) (st : Stmt) (ps : List Str) : Prop := ∀ (us : List Value), us.length = ps.length → bindsP x ps us [] us (defArgs st) (defBody st) (defScope st) x
def kwOk (x : Str) (st : Stmt) (ps ks : List Str) (n : Nat) (pm : List Nat) : Prop := ∀ (us ws : List Value), us.length = n → ws.length = ks.length → bindsP x ps us (ks.zip ws) (pick pm (us ++ ws)) (defArgs st) (defBody st) (defScope st) x
section
variable {X : Cx} {k : Nat} {st : Stmt} {ps ks : List Str} {sem : Gfn} {x : Str} {p pos : Pos} {e : Expr} {es : List Expr} {kws : List Keyword} {t tk : TA} {pm : List Nat} {n : Nat}
theorem pe_g (D : DefG X.prog X.w X.K X.mg X.base x st k ps sem) (hG : X.A.guards = some []) (hr : Room k X.A) (hg : Gl X x) (hb : posOk x st ps) (ha : PA X (e :: es) t)
    (hdb : (x == ("__debug__" : Str)) = false := by decide) (he : starEach (e :: es) X.env = (false, eval e X.env) :: starEach es X.env := by rfl) (hpl : (backTo pos (starEach es X.env)).any (·.1) = false := by rfl) :
    PE X (.Call (.Name x p) (e :: es) [] pos) (fun σ H Q => t σ H fun vs H1 => spG X.K sem vs H1 Q) := by
  obtain ⟨hl, f, fd, F, hm, FD⟩ := D
  refine ⟨fun pins s σ H Q I h => wpAny_Call_Name_kw (ld_glob I hg hm ?_ hdb)⟩
  refine PySem.W.callWith_K (h₀ := X.base) I.ok.mod.kin FD.kp (thn (ha.run pos pins s σ H _ I h) fun us s1 ⟨vs, H1, I1, r, q⟩ => ⟨I1.kIn, ?_⟩) he hpl
  exact run_g F hl hG hr I1 r (fun l => binds_to FD (hb us l)) q
theorem pe_gk (D : DefG X.prog X.w X.K X.mg X.base x st k ps sem) (hG : X.A.guards = some []) (hr : Room k X.A) (hg : Gl X x) (hb : kwOk x st ps ks n pm) (ha : PA X (e :: es) t) (hkw : PK X kws tk)
    (hall : (backToKw pos (keywordEach kws X.env)).all (·.1.isSome) = true := by rfl) (hks : (backToKw pos (keywordEach kws X.env)).filterMap (·.1) = ks := by rfl)
    (hdb : (x == ("__debug__" : Str)) = false := by decide) (he : starEach (e :: es) X.env = (false, eval e X.env) :: starEach es X.env := by rfl)
    (hpl : ((backTo pos (starEach (e :: es) X.env)).any (·.1) || (backToKw pos (keywordEach kws X.env)).any (·.1.isNone)) = false := by rfl) :
    PE X (.Call (.Name x p) (e :: es) kws pos) (fun σ H Q => t σ H fun vs H1 => tk σ H1 fun zs H2 => vs.length = n ∧ zs.length = ks.length ∧ spG X.K sem (pick pm (vs ++ zs)) H2 Q) := by
  obtain ⟨hl, f, fd, F, hm, FD⟩ := D
  refine ⟨fun pins s σ H Q I h => wpAny_Call_Name_kw (ld_glob I hg hm ?_ hdb)⟩
  refine PySem.W.callWith_KW (h₀ := X.base) I.ok.mod.kin FD.kp hall (thn (ha.run pos pins s σ H _ I h) fun us s1 ⟨vs, H1, I1, r, q⟩ => ?_) hpl he
  refine thn (hkw.run pos pins s1 σ H1 _ I1 q) fun ws s2 ⟨zs, H2, I2, rz, l1, l2, q2⟩ => ⟨I2.kIn, ?_⟩
  rw [hks]
  exact run_g F hl hG hr I2 (vals_pick (r.append rz) pm) (fun l => binds_to FD (hb us ws (r.length.symm.trans l1) (rz.length.symm.trans l2))) q2
theorem pe_gk0 (D : DefG X.prog X.w X.K X.mg X.base x st k ps sem) (hG : X.A.guards = some []) (hr : Room k X.A) (hg : Gl X x) (hb : kwOk x st ps ks 0 pm) (hkw : PK X kws tk)
    (hall : (backToKw pos (keywordEach kws X.env)).all (·.1.isSome) = true := by rfl) (hks : (backToKw pos (keywordEach kws X.env)).filterMap (·.1) = ks := by rfl)
    (hdb : (x == ("__debug__" : Str)) = false := by decide)
    (hpl : ((backTo pos (starEach [] X.env)).any (·.1) || (backToKw pos (keywordEach kws X.env)).any (·.1.isNone)) = false := by rfl) :
    PE X (.Call (.Name x p) [] kws pos) (fun σ H Q => tk σ H fun zs H2 => zs.length = ks.length ∧ spG X.K sem (pick pm zs) H2 Q) := by
  obtain ⟨hl, f, fd, F, hm, FD⟩ := D
  refine ⟨fun pins s σ H Q I h => wpAny_Call_Name_kw (ld_glob I hg hm ?_ hdb)⟩
  refine PySem.W.callWith_KW0 (h₀ := X.base) I.ok.mod.kin FD.kp hall (thn (hkw.run pos pins s σ H _ I h) fun ws s2 ⟨zs, H2, I2, rz, l2, q2⟩ => ⟨I2.kIn, ?_⟩) hpl
  rw [hks]
  exact run_g (us := []) F hl hG hr I2 (vals_pick rz pm) (fun l => binds_to FD (hb [] ws rfl (rz.length.symm.trans l2))) q2
end
/-! ### by data -/
def lfS (d : Dt) : Sl := .v (.lf d)
theorem envL_lf {K : PySem.W.Frag} {G H : Hp} : ∀ {vs : List V} {ds : List Dt}, DqAll G vs ds → EnvL K G H (vs.map some) (ds.map lfS) (List.replicate ds.length [])
  | _, _, .nil => .nil
  | _, _, .cons h t => .cons (.v (.lf h)) (envL_lf t)
theorem flat_nil (j : Nat) : (List.replicate j ([] : List Addr)).flatten = [] := by
  induction j with
  | zero => rfl
  | succ j ih => rw [List.replicate_succ, List.flatten_cons, ih]; rfl
theorem frm_lf {K : PySem.W.Frag} {G H : Hp} (le : Same G H) {vs : List V} {ds : List Dt} (h : DqAll G vs ds) : Frm K G H (vs.map some) (ds.map lfS) (List.replicate ds.length []) :=
  ⟨le, envL_lf h, by rw [flat_nil]; exact List.nodup_nil, by rw [flat_nil]; intro a ha; cases ha⟩
section
variable {K : PySem.W.Frag} {G H G1 H1 G2 H2 : Hp} {σ τ : L2.St} {O O0 A : List Addr} {env1 rs : List Sl} {Os1 Os2 : List (List Addr)} {v : V} {t : OT} {vs : List V} {ds : List Dt} {Q : VK} {sem : Gfn}
theorem call_keep (F1 : Frm K G1 H1 σ env1 Os1) (dj : ∀ c ∈ Os1.flatten, c ∉ O) (a : Af K G1 H1 τ O rs v t G2 H2 A Os2) : Frm K G2 H2 σ env1 Os1 ∧ ∀ c ∈ A ++ Os2.flatten, c ∉ Os1.flatten := by
  refine ⟨⟨a.frm.le, F1.env.mono a.ext.g fun c hc => ?_, F1.nd, fun c hc => ?_⟩, fun c hc hO => ?_⟩
  · obtain ⟨u, hu⟩ := F1.env.there c hc
    rw [hu]; exact a.ext.h c u (dj c hc) hu
  · cases q : G2 c with
    | none => rfl
    | some u =>
      rcases a.ext.f c u q with z | z | z
      · rw [F1.out c hc] at z; cases z
      · exact absurd z (dj c hc)
      · obtain ⟨w, hw⟩ := F1.env.there c hc
        rw [hw] at z; cases z
  · rcases a.ext.o c hc with z | z
    · exact dj c hO z
    · obtain ⟨w, hw⟩ := F1.env.there c hO
      rw [hw] at z; cases z
theorem call_d (F1 : Frm K G1 H1 σ env1 Os1) (x1 : Ext G H G1 H1 O0 Os1.flatten) (a : Af K G1 H1 τ [] rs v t G2 H2 A Os2) : Af K G H σ O0 env1 v t G2 H2 A Os1 := by
  obtain ⟨k1, k2⟩ := call_keep F1 (fun c _ => List.not_mem_nil) a
  obtain ⟨n1, n2, n3⟩ := List.nodup_append.mp a.nd
  refine ⟨k1, x1.trans ⟨a.ext.g, fun c o _ h => a.ext.h c o List.not_mem_nil h, fun c hc => ?_, fun c o h => ?_⟩, a.own, List.nodup_append.mpr ⟨n1, F1.nd, fun c hc y hy e => k2 c (List.mem_append_left _ hc) (e ▸ hy)⟩, a.out⟩
  · rcases List.mem_append.mp hc with z | z
    · rcases a.ext.o c (List.mem_append_left _ z) with q | q
      · cases q
      · exact .inr q
    · exact .inl z
  · rcases a.ext.f c o h with q | q | q
    · exact .inl q
    · cases q
    · exact .inr (.inr q)
theorem call_read (F1 : Frm K G1 H1 σ env1 Os1) (x1 : Ext G H G1 H1 O0 Os1.flatten) (d : DqAll G1 vs ds) {r : OT} (e : (sem (ds.map lfS)) = some (r, rs)) (q : PostE K G H σ O0 env1 r Q) : spG K sem vs H1 Q :=
  ⟨G1, ds.map lfS, List.replicate ds.length [], r, rs, frm_lf F1.le d, e, fun v G2 H2 A Os2 a => q v G2 H2 A Os1 (call_d F1 x1 (by rw [flat_nil] at a; exact a))⟩
theorem call_pure (le : Same G1 H1) (gr : Grow G H G1 H1) (d : DqAll G1 vs ds) {r : OT} (e : (sem (ds.map lfS)) = some (r, rs)) (q : PostD G H r.d Q) : spG K sem vs H1 Q := by
  refine ⟨G1, ds.map lfS, List.replicate ds.length [], r, rs, frm_lf le d, e, fun v G2 H2 A Os2 a => ?_⟩
  rw [flat_nil] at a
  obtain ⟨h1, h2, h3⟩ := a.freeze
  refine q v _ H2 (gr.trans ⟨h2.g, fun c o h => h2.h c o List.not_mem_nil h, h1.le, fun c o h => ?_⟩) h3
  rcases h2.f c o h with z | z | z
  · exact .inl z
  · cases z
  · exact .inr z
end
def eCallD (fa : Gxs) (sem : Gfn) : Ge := fun env => (fa env).bind fun p => (sem (p.1.map lfS)).map fun r => (r.1, p.2)
def gCallD (ga : Gs) (sem : Gfn) : Gd := fun env => (ga env).bind fun ds => (sem (ds.map lfS)).map fun r => r.1.d
def eCallK (pm : List Nat) (n m : Nat) (fa fk : Gxs) (sem : Gfn) : Ge := fun env => (fa env).bind fun p => (fk p.2).bind fun q => if p.1.length = n ∧ q.1.length = m then (sem ((pick pm (p.1 ++ q.1)).map lfS)).map fun r => (r.1, q.2) else none
def eCallK0 (pm : List Nat) (m : Nat) (fk : Gxs) (sem : Gfn) : Ge := fun env => (fk env).bind fun q => if q.1.length = m then (sem ((pick pm q.1).map lfS)).map fun r => (r.1, q.2) else none
section
variable {X : Cx} {k : Nat} {st : Stmt} {ps ks : List Str} {sem : Gfn} {x : Str} {p pos : Pos} {e : Expr} {es : List Expr} {kws : List Keyword} {fa fk : Gxs} {ga : Gs} {pm : List Nat} {n m : Nat}
theorem ev_callD (D : DefG X.prog X.w X.K X.mg X.base x st k ps sem) (hG : X.A.guards = some []) (hr : Room k X.A) (hg : Gl X x) (hb : posOk x st ps) (ha : PA X (e :: es) (tEDs X.K fa))
    (hdb : (x == ("__debug__" : Str)) = false := by decide) (he : starEach (e :: es) X.env = (false, eval e X.env) :: starEach es X.env := by rfl) (hpl : (backTo pos (starEach es X.env)).any (·.1) = false := by rfl) :
    PE X (.Call (.Name x p) (e :: es) [] pos) (tEV X.K (eCallD fa sem)) := pe_imp (pe_g D hG hr hg hb ha hdb he hpl) fun σ H Q ⟨G, env, Os, r, env', F, hs, q⟩ => by
  obtain ⟨⟨ds, env1⟩, e1, hs⟩ := Option.bind_eq_some_iff.mp hs
  obtain ⟨⟨r', rs⟩, e2, e3⟩ := Option.map_eq_some_iff.mp hs
  cases e3
  exact ⟨G, env, Os, ds, _, F, e1, fun vs G1 H1 Os1 F1 X1 d1 => call_read F1 X1 d1 e2 q⟩
theorem pv_callD (D : DefG X.prog X.w X.K X.mg X.base x st k ps sem) (hG : X.A.guards = some []) (hr : Room k X.A) (hg : Gl X x) (hb : posOk x st ps) (ha : PA X (e :: es) (tPVs X.K ga))
    (hdb : (x == ("__debug__" : Str)) = false := by decide) (he : starEach (e :: es) X.env = (false, eval e X.env) :: starEach es X.env := by rfl) (hpl : (backTo pos (starEach es X.env)).any (·.1) = false := by rfl) :
    PE X (.Call (.Name x p) (e :: es) [] pos) (tPV X.K (gCallD ga sem)) := pe_imp (pe_g D hG hr hg hb ha hdb he hpl) fun σ H Q ⟨G, env, Os, d, F, hs, q⟩ => by
  obtain ⟨ds, e1, hs⟩ := Option.bind_eq_some_iff.mp hs
  obtain ⟨⟨r', rs⟩, e2, e3⟩ := Option.map_eq_some_iff.mp hs
  cases e3
  exact ⟨G, env, Os, ds, F, e1, fun vs G1 H1 a1 d1 => call_pure a1.le a1 d1 e2 q⟩
theorem kd_nil : PK X [] (tEDs X.K xNil) := ⟨fun pos pins s σ H Q I ⟨G, env, Os, ds, env', F, hs, q⟩ => by
  cases hs
  exact pk_nil.run pos pins s σ H Q I (q [] G H Os F (Ext.refl _) .nil)⟩
theorem kd_cons {a : Expr} {fx : Gx} {fr : Gxs} {nm : Option Str} {kpos : Pos} (ha : PE X a (tED X.K fx)) (hr : PK X kws (tEDs X.K fr)) : PK X (⟨nm, a, kpos⟩ :: kws) (tEDs X.K (xCons fx fr)) := ⟨fun pos pins s σ H Q I h => by
  refine (pk_cons ha hr).run pos pins s σ H Q I ?_
  obtain ⟨G, env, Os, d, env', F, hg, q⟩ := h
  obtain ⟨⟨x, env1⟩, e1, hg⟩ := Option.bind_eq_some_iff.mp hg
  obtain ⟨⟨r, env2⟩, e2, e3⟩ := Option.map_eq_some_iff.mp hg
  cases e3
  exact ⟨G, env, Os, x, env1, F, e1, fun v G1 H1 Os1 F1 X1 d1 => ⟨G1, env1, Os1, r, _, F1, e2, fun vs G2 H2 Os2 F2 X2 d2 => q _ G2 H2 Os2 F2 (X1.trans X2) (.cons (dq_mono X2.g d1) d2)⟩⟩⟩
theorem ev_callK (D : DefG X.prog X.w X.K X.mg X.base x st k ps sem) (hG : X.A.guards = some []) (hr : Room k X.A) (hg : Gl X x) (hb : kwOk x st ps ks n pm) (ha : PA X (e :: es) (tEDs X.K fa)) (hkw : PK X kws (tEDs X.K fk))
    (hall : (backToKw pos (keywordEach kws X.env)).all (·.1.isSome) = true := by rfl) (hks : (backToKw pos (keywordEach kws X.env)).filterMap (·.1) = ks := by rfl)
    (hdb : (x == ("__debug__" : Str)) = false := by decide) (he : starEach (e :: es) X.env = (false, eval e X.env) :: starEach es X.env := by rfl)
    (hpl : ((backTo pos (starEach (e :: es) X.env)).any (·.1) || (backToKw pos (keywordEach kws X.env)).any (·.1.isNone)) = false := by rfl) :
    PE X (.Call (.Name x p) (e :: es) kws pos) (tEV X.K (eCallK pm n ks.length fa fk sem)) := pe_imp (pe_gk D hG hr hg hb ha hkw hall hks hdb he hpl) fun σ H Q ⟨G, env, Os, r, env', F, hs, q⟩ => by
  obtain ⟨⟨ds, env1⟩, e1, hs⟩ := Option.bind_eq_some_iff.mp hs
  obtain ⟨⟨dz, env2⟩, e2, hs⟩ := Option.bind_eq_some_iff.mp hs
  split at hs
  · rename_i hz
    obtain ⟨⟨r', rs⟩, e3, e4⟩ := Option.map_eq_some_iff.mp hs
    cases e4
    refine ⟨G, env, Os, ds, _, F, e1, fun vs G1 H1 Os1 F1 X1 d1 => ⟨G1, env1, Os1, dz, _, F1, e2, fun zs G2 H2 Os2 F2 X2 d2 => ⟨d1.length.trans hz.1, d2.length.trans hz.2, ?_⟩⟩⟩
    exact call_read F2 (X1.trans X2) (dq_pick ((dqAll_mono X2.g d1).append d2) pm) e3 q
  · cases hs
theorem ev_callK0 (D : DefG X.prog X.w X.K X.mg X.base x st k ps sem) (hG : X.A.guards = some []) (hr : Room k X.A) (hg : Gl X x) (hb : kwOk x st ps ks 0 pm) (hkw : PK X kws (tEDs X.K fk))
    (hall : (backToKw pos (keywordEach kws X.env)).all (·.1.isSome) = true := by rfl) (hks : (backToKw pos (keywordEach kws X.env)).filterMap (·.1) = ks := by rfl)
    (hdb : (x == ("__debug__" : Str)) = false := by decide)
    (hpl : ((backTo pos (starEach [] X.env)).any (·.1) || (backToKw pos (keywordEach kws X.env)).any (·.1.isNone)) = false := by rfl) :
    PE X (.Call (.Name x p) [] kws pos) (tEV X.K (eCallK0 pm ks.length fk sem)) := pe_imp (pe_gk0 D hG hr hg hb hkw hall hks hdb hpl) fun σ H Q ⟨G, env, Os, r, env', F, hs, q⟩ => by
  obtain ⟨⟨dz, env2⟩, e2, hs⟩ := Option.bind_eq_some_iff.mp hs
  split at hs
  · rename_i hz
    obtain ⟨⟨r', rs⟩, e3, e4⟩ := Option.map_eq_some_iff.mp hs
    cases e4
    exact ⟨G, env, Os, dz, _, F, e2, fun zs G2 H2 Os2 F2 X2 d2 => ⟨d2.length.trans hz, call_read F2 X2 (dq_pick d2 pm) e3 q⟩⟩
  · cases hs
end
/-! ### by reference -/
def Lnk (σ : L2.St) : List (Option Nat) → List V → Prop
  | [], [] => True
  | none :: L, _ :: vs => Lnk σ L vs
  | some i :: L, v :: vs => σ[i]? = some (some v) ∧ Lnk σ L vs
  | _, _ => False
def takeR : List (Option Nat) → List Sl → List Sl → Option (List Sl × List Sl)
  | [], [], env => some ([], env)
  | none :: L, a :: As, env => (takeR L As env).map fun p => (a :: p.1, p.2)
  | some i :: L, _ :: As, env => (env[i]?).bind fun s => (takeR L As (env.set i .un)).map fun p => (s :: p.1, p.2)
  | _, _, _ => none
def putR : List (Option Nat) → List Sl → List Sl → List Sl
  | none :: L, _ :: rs, env => putR L rs env
  | some i :: L, r :: rs, env => putR L rs (env.set i r)
  | _, _, env => env
section
variable {K : PySem.W.Frag} {G H : Hp} {σ : L2.St}
theorem nd_set_un {Os : List (List Addr)} {i : Nat} {as : List Addr} (nd : Os.flatten.Nodup) (h : Os[i]? = some as) : (Os.set i []).flatten.Nodup ∧ ∀ c ∈ (Os.set i []).flatten, c ∈ Os.flatten ∧ c ∉ as := by
  refine ⟨nodup_set nd List.nodup_nil (fun a ha => by cases ha), fun c hc => ?_⟩
  rcases mem_flatten_set hc with z | z
  · cases z
  · refine ⟨z, fun hA => ?_⟩
    obtain ⟨bs, hb, hcb⟩ := List.mem_flatten.mp hc
    obtain ⟨j, hj⟩ := List.getElem?_of_mem hb
    by_cases hij : i = j
    · subst hij
      by_cases hlt : i < Os.length
      · rw [List.getElem?_set_self hlt] at hj; cases hj; cases hcb
      · rw [List.getElem?_eq_none (by simpa using hlt)] at hj; cases hj
    · rw [List.getElem?_set_ne hij] at hj
      exact flat_apart nd h hj hij c hA hcb
theorem frm_take {env : List Sl} {Os : List (List Addr)} {i : Nat} (F : Frm K G H σ env Os) {o : Option V} {as : List Addr} (h1 : σ[i]? = some o) (h2 : Os[i]? = some as) : Frm K G H σ (env.set i .un) (Os.set i []) := by
  have E := EnvL.set (o := o) (SlOk.un (K := K) (G := G) (H := H)) i F.env
  rw [set_get_self h1] at E
  obtain ⟨n1, n2⟩ := nd_set_un F.nd h2
  exact ⟨F.le, E, n1, fun c hc => F.out c (n2 c hc).1⟩
theorem take_ok : ∀ {L : List (Option Nat)} {vs : List V} {As env As' env' : List Sl} {Aos Os : List (List Addr)}, Lnk σ L vs → EnvL K G H (vs.map some) As Aos → Frm K G H σ env Os → (Aos.flatten ++ Os.flatten).Nodup → takeR L As env = some (As', env') →
    ∃ Aos' Os', EnvL K G H (vs.map some) As' Aos' ∧ Frm K G H σ env' Os' ∧ (Aos'.flatten ++ Os'.flatten).Nodup ∧ ∀ c ∈ Aos'.flatten ++ Os'.flatten, c ∈ Aos.flatten ++ Os.flatten
  | [], [], As, env, As', env', Aos, Os, l, E, F, nd, h => by
    cases E
    cases h
    exact ⟨[], Os, .nil, F, nd, fun c hc => hc⟩
  | [], _ :: _, As, env, As', env', Aos, Os, l, E, F, nd, h => l.elim
  | none :: L, [], As, env, As', env', Aos, Os, l, E, F, nd, h => l.elim
  | some i :: L, [], As, env, As', env', Aos, Os, l, E, F, nd, h => l.elim
  | none :: L, v :: vs, As, env, As', env', Aos, Os, l, E, F, nd, h => by
    cases E with
    | @cons _ _ a At as Ar ha E =>
      obtain ⟨⟨A2, e2⟩, h1, h2⟩ := Option.map_eq_some_iff.mp h
      cases h2
      rw [List.flatten_cons, List.append_assoc] at nd
      obtain ⟨n1, n2, n3⟩ := List.nodup_append.mp nd
      obtain ⟨B, O2, k1, k2, k3, k4⟩ := take_ok (vs := vs) (show Lnk σ L vs from l) E F n2 h1
      refine ⟨as :: B, O2, .cons ha k1, k2, ?_, fun c hc => ?_⟩
      · rw [List.flatten_cons, List.append_assoc]
        exact List.nodup_append.mpr ⟨n1, k3, fun c hc y hy e => n3 c hc y (k4 y hy) e⟩
      · rw [List.flatten_cons, List.append_assoc] at hc ⊢
        rcases List.mem_append.mp hc with z | z
        · exact List.mem_append_left _ z
        · exact List.mem_append_right _ (k4 c z)
  | some i :: L, v :: vs, As, env, As', env', Aos, Os, l, E, F, nd, h => by
    cases E with
    | @cons _ _ a At as Ar ha E =>
      obtain ⟨s, h0, h⟩ := Option.bind_eq_some_iff.mp h
      obtain ⟨⟨A2, e2⟩, h1, h2⟩ := Option.map_eq_some_iff.mp h
      cases h2
      obtain ⟨o, bs, g1, g2, g3⟩ := F.env.get h0
      rw [l.1] at g1
      cases g1
      rw [List.flatten_cons, List.append_assoc] at nd
      obtain ⟨n1, n2, n3⟩ := List.nodup_append.mp nd
      obtain ⟨m1, m2, m3⟩ := List.nodup_append.mp n2
      obtain ⟨u1, u2⟩ := nd_set_un F.nd g2
      obtain ⟨B, O2, k1, k2, k3, k4⟩ := take_ok l.2 E (frm_take F l.1 g2) (List.nodup_append.mpr ⟨m1, u1, fun c hc y hy e => m3 c hc y (u2 y hy).1 e⟩) h1
      refine ⟨bs :: B, O2, .cons g3 k1, k2, ?_, fun c hc => ?_⟩
      · rw [List.flatten_cons, List.append_assoc]
        refine List.nodup_append.mpr ⟨slot_nodup F.nd g2, k3, fun c hc y hy e => ?_⟩
        subst e
        rcases List.mem_append.mp (k4 c hy) with z | z
        · exact m3 c z c (flat_mem g2 hc) rfl
        · exact (u2 c z).2 hc
      · rw [List.flatten_cons, List.append_assoc] at hc
        rw [List.flatten_cons, List.append_assoc]
        rcases List.mem_append.mp hc with z | z
        · exact List.mem_append_right _ (List.mem_append_right _ (flat_mem g2 z))
        · rcases List.mem_append.mp (k4 c z) with q | q
          · exact List.mem_append_right _ (List.mem_append_left _ q)
          · exact List.mem_append_right _ (List.mem_append_right _ (u2 c q).1)
theorem put_ok : ∀ {L : List (Option Nat)} {vs : List V} {rs env : List Sl} {Aos Os : List (List Addr)}, Lnk σ L vs → EnvL K G H (vs.map some) rs Aos → Frm K G H σ env Os → (Aos.flatten ++ Os.flatten).Nodup → (∀ c ∈ Aos.flatten, G c = none) →
    ∃ Os', Frm K G H σ (putR L rs env) Os' ∧ ∀ c ∈ Os'.flatten, c ∈ Aos.flatten ++ Os.flatten
  | [], [], rs, env, Aos, Os, l, E, F, nd, out => by
    cases E
    exact ⟨Os, F, fun c hc => hc⟩
  | [], _ :: _, rs, env, Aos, Os, l, E, F, nd, out => l.elim
  | none :: L, [], rs, env, Aos, Os, l, E, F, nd, out => l.elim
  | some i :: L, [], rs, env, Aos, Os, l, E, F, nd, out => l.elim
  | none :: L, v :: vs, rs, env, Aos, Os, l, E, F, nd, out => by
    cases E with
    | @cons _ _ a At as Ar ha E =>
      rw [List.flatten_cons, List.append_assoc] at nd
      obtain ⟨n1, n2, n3⟩ := List.nodup_append.mp nd
      obtain ⟨O2, k1, k2⟩ := put_ok (vs := vs) (show Lnk σ L vs from l) E F n2 fun c hc => out c (by rw [List.flatten_cons]; exact List.mem_append_right _ hc)
      refine ⟨O2, k1, fun c hc => ?_⟩
      rw [List.flatten_cons, List.append_assoc]
      exact List.mem_append_right _ (k2 c hc)
  | some i :: L, v :: vs, rs, env, Aos, Os, l, E, F, nd, out => by
    cases E with
    | @cons _ _ a At as Ar ha E =>
      rw [List.flatten_cons, List.append_assoc] at nd
      obtain ⟨n1, n2, n3⟩ := List.nodup_append.mp nd
      obtain ⟨m1, m2, m3⟩ := List.nodup_append.mp n2
      have E1 := EnvL.set ha i F.env
      rw [set_get_self l.1] at E1
      have F1 : Frm K G H σ (env.set i a) (Os.set i as) := ⟨F.le, E1, nodup_set F.nd n1 fun c hc hO => absurd rfl (n3 c hc c (List.mem_append_right _ hO)), fun c hc => by
        rcases mem_flatten_set hc with z | z
        · exact out c (by rw [List.flatten_cons]; exact List.mem_append_left _ z)
        · exact F.out c z⟩
      obtain ⟨O2, k1, k2⟩ := put_ok l.2 E F1 (List.nodup_append.mpr ⟨m1, F1.nd, fun c hc y hy e => by
        subst e
        rcases mem_flatten_set hy with z | z
        · exact n3 c z c (List.mem_append_left _ hc) rfl
        · exact m3 c hc c z rfl⟩) fun c hc => out c (by rw [List.flatten_cons]; exact List.mem_append_right _ hc)
      refine ⟨O2, k1, fun c hc => ?_⟩
      rw [List.flatten_cons, List.append_assoc]
      rcases List.mem_append.mp (k2 c hc) with z | z
      · exact List.mem_append_right _ (List.mem_append_left _ z)
      · rcases mem_flatten_set z with q | q
        · exact List.mem_append_left _ q
        · exact List.mem_append_right _ (List.mem_append_right _ q)
end
abbrev Gar := List Sl → Option (List Sl × List Sl)
structure AfA (K : PySem.W.Frag) (G H : Hp) (σ : L2.St) (O : List Addr) (env' : List Sl) (L : List (Option Nat)) (vs : List V) (As : List Sl) (G' H' : Hp) (Aos Os' : List (List Addr)) : Prop where
  frm : Frm K G' H' σ env' Os'
  ext : Ext G H G' H' O (Aos.flatten ++ Os'.flatten)
  own : EnvL K G' H' (vs.map some) As Aos
  nd : (Aos.flatten ++ Os'.flatten).Nodup
  out : ∀ a ∈ Aos.flatten, G' a = none
  lnk : Lnk σ L vs
def tAR (K : PySem.W.Frag) (L : List (Option Nat)) (f : Gar) : TA := fun σ H Q => ∃ G env Os As env', Frm K G H σ env Os ∧ f env = some (As, env') ∧ ∀ vs G' H' Aos Os', AfA K G H σ Os.flatten env' L vs As G' H' Aos Os' → Q vs H'
def aNil : Gar := fun env => some ([], env)
def aD (fx : Gx) (fr : Gar) : Gar := fun env => (fx env).bind fun p => (fr p.2).map fun q => (lfS p.1 :: q.1, q.2)
def aE (fe : Ge) (fr : Gar) : Gar := fun env => (fe env).bind fun p => (fr p.2).map fun q => (.v p.1 :: q.1, q.2)
def aR (i : Nat) (fr : Gar) : Gar := fun env => match env[i]? with
  | some (.v (.nd _)) => (fr env).map fun q => (.un :: q.1, q.2)
  | some (.scr _) => (fr env).map fun q => (.un :: q.1, q.2)
  | _ => none
section
variable {X : Cx} {a : Expr} {es : List Expr} {L : List (Option Nat)} {fx : Gx} {fe : Ge} {fr : Gar} {x : Str} {pos : Pos}
theorem ar_nil : PA X [] (tAR X.K [] aNil) := pa_imp pa_nil fun σ H Q ⟨G, env, Os, As, env', F, hg, q⟩ => by
  cases hg
  exact q [] G H [] Os ⟨F, Ext.refl _, .nil, F.nd, (fun a ha => by cases ha), trivial⟩
theorem ar_e (ha : PE X a (tEV X.K fe)) (hr : PA X es (tAR X.K L fr)) (hs : starEach (a :: es) X.env = (false, eval a X.env) :: starEach es X.env := by rfl) : PA X (a :: es) (tAR X.K (none :: L) (aE fe fr)) :=
  pa_imp (pa_cons ha hr hs) fun σ H Q ⟨G, env, Os, d, env', F, hg, q⟩ => by
    obtain ⟨⟨x, env1⟩, e1, hg⟩ := Option.bind_eq_some_iff.mp hg
    obtain ⟨⟨r, env2⟩, e2, e3⟩ := Option.map_eq_some_iff.mp hg
    cases e3
    refine ⟨G, env, Os, x, env1, F, e1, fun v G1 H1 A Os1 a1 => ⟨G1, env1, Os1, r, _, a1.frm, e2, fun vs G2 H2 B Os2 a2 => q _ G2 H2 (A :: B) Os2 ?_⟩⟩
    obtain ⟨n1, n2, n3⟩ := List.nodup_append.mp a1.nd
    obtain ⟨s1, s2, s3⟩ := a1.ext.side (fun c hc => a1.own.there c hc) (fun c hc z => n3 c hc c z rfl) a2.ext
    refine ⟨a2.frm, ?_, .cons (.v (a1.own.mono a2.ext.g fun c hc => s2 c hc)) a2.own, ?_, fun c hc => ?_, a2.lnk⟩
    · rw [List.flatten_cons, List.append_assoc]; exact s1
    · rw [List.flatten_cons, List.append_assoc]
      exact List.nodup_append.mpr ⟨n1, a2.nd, fun c hc y hy e => s3 c hc (e ▸ hy)⟩
    · rw [List.flatten_cons] at hc
      rcases List.mem_append.mp hc with hc | hc
      · cases q : G2 c with
        | none => rfl
        | some u =>
          rcases a2.ext.f c u q with z | z | z
          · rw [a1.out c hc] at z; cases z
          · exact absurd rfl (n3 c hc c z)
          · obtain ⟨w, hw⟩ := a1.own.there c hc
            rw [hw] at z; cases z
      · exact a2.out c hc
theorem ar_d (ha : PE X a (tED X.K fx)) (hr : PA X es (tAR X.K L fr)) (hs : starEach (a :: es) X.env = (false, eval a X.env) :: starEach es X.env := by rfl) : PA X (a :: es) (tAR X.K (none :: L) (aD fx fr)) :=
  pa_imp (ar_e (ev_ed ha) hr hs) fun σ H Q ⟨G, env, Os, d, env', F, hg, q⟩ => by
    obtain ⟨⟨x, env1⟩, e1, hg⟩ := Option.bind_eq_some_iff.mp hg
    obtain ⟨⟨r, env2⟩, e2, e3⟩ := Option.map_eq_some_iff.mp hg
    cases e3
    refine ⟨G, env, Os, _, _, F, ?_, q⟩
    unfold aE dE
    rw [e1]
    show (fr env1).map _ = _
    rw [e2]
    rfl
theorem ar_r (i : Nat) (hr : PA X es (tAR X.K L fr)) (hN : X.N[i]? = some x := by rfl) (hv : Vis X.env.scope x := by first | exact Or.inl rfl | exact Or.inr (Or.inl rfl) | exact Or.inr (Or.inr rfl)) (hd : (x == ("__debug__" : Str)) = false := by decide)
    (hcd : (x == ("__classdict__" : Str)) = false := by decide) (hs : starEach (.Name x pos :: es) X.env = (false, eval (.Name x pos) X.env) :: starEach es X.env := by rfl) : PA X (.Name x pos :: es) (tAR X.K (some i :: L) (aR i fr)) :=
  pa_imp (pa_cons (pe_var hN hv hd hcd) hr hs) fun σ H Q ⟨G, env, Os, d, env', F, hg, q⟩ => by
    have fin : ∀ v, σ[i]? = some (some v) → (fr env).map (fun q => (Sl.un :: q.1, q.2)) = some (d, env') → ∃ a, σ[i]? = some (some a) ∧ tAR X.K L fr σ H fun xs H2 => Q (a :: xs) H2 := by
      intro v hv hg
      obtain ⟨⟨r, env2⟩, e2, e3⟩ := Option.map_eq_some_iff.mp hg
      cases e3
      refine ⟨v, hv, G, env, Os, r, _, F, e2, fun vs G2 H2 B Os2 a2 => q _ G2 H2 ([] :: B) Os2 ⟨a2.frm, a2.ext, .cons .un a2.own, a2.nd, a2.out, hv, a2.lnk⟩⟩
    unfold aR at hg
    split at hg
    · rename_i ts e
      obtain ⟨o, as, h1, h2, h3⟩ := F.env.get e
      cases h3 with
      | v h => exact fin _ h1 hg
    · rename_i ns e
      obtain ⟨o, as, h1, h2, h3⟩ := F.env.get e
      cases h3 with
      | scr h => exact fin _ h1 hg
    · cases hg
def eCallR (L : List (Option Nat)) (fa : Gar) (sem : Gfn) : Ge := fun env => (fa env).bind fun p => (takeR L p.1 p.2).bind fun q => (sem q.1).map fun r => (r.1, putR L r.2 q.2)
theorem ev_callR {k : Nat} {st : Stmt} {ps : List Str} {sem : Gfn} {p : Pos} {fa : Gar} (D : DefG X.prog X.w X.K X.mg X.base x st k ps sem) (hG : X.A.guards = some []) (hr : Room k X.A) (hg : Gl X x) (hb : posOk x st ps) (ha : PA X (a :: es) (tAR X.K L fa))
    (hdb : (x == ("__debug__" : Str)) = false := by decide) (he : starEach (a :: es) X.env = (false, eval a X.env) :: starEach es X.env := by rfl) (hpl : (backTo pos (starEach es X.env)).any (·.1) = false := by rfl) :
    PE X (.Call (.Name x p) (a :: es) [] pos) (tEV X.K (eCallR L fa sem)) := pe_imp (pe_g D hG hr hg hb ha hdb he hpl) fun σ H Q ⟨G, env, Os, r, env', F, hs, q⟩ => by
  obtain ⟨⟨As, env1⟩, e1, hs⟩ := Option.bind_eq_some_iff.mp hs
  obtain ⟨⟨As2, env2⟩, e2, hs⟩ := Option.bind_eq_some_iff.mp hs
  obtain ⟨⟨r', rs⟩, e3, e4⟩ := Option.map_eq_some_iff.mp hs
  cases e4
  refine ⟨G, env, Os, As, env1, F, e1, fun vs G1 H1 Aos Os1 a1 => ?_⟩
  obtain ⟨Bos, Os2, k1, k2, k3, k4⟩ := take_ok a1.lnk a1.own a1.frm a1.nd e2
  obtain ⟨n1, n2, n3⟩ := List.nodup_append.mp k3
  have bout : ∀ c ∈ Bos.flatten, G1 c = none := fun c hc => by
    rcases List.mem_append.mp (k4 c (List.mem_append_left _ hc)) with z | z
    · exact a1.out c z
    · exact a1.frm.out c z
  refine ⟨G1, As2, Bos, r', rs, ⟨k2.le, k1, n1, bout⟩, e3, fun v G2 H2 A Os3 b => ?_⟩
  obtain ⟨j1, j2⟩ := call_keep k2 (fun c hc hB => n3 c hB c hc rfl) b
  obtain ⟨b1, b2, b3⟩ := List.nodup_append.mp b.nd
  have nd2 : (Os3.flatten ++ Os2.flatten).Nodup := List.nodup_append.mpr ⟨b2, k2.nd, fun c hc y hy e => j2 c (List.mem_append_right _ hc) (e ▸ hy)⟩
  obtain ⟨O4, p1, p2⟩ := put_ok a1.lnk b.frm.env j1 nd2 b.frm.out
  refine q v G2 H2 A O4 ⟨p1, a1.ext.trans ⟨b.ext.g, fun c o hc h => b.ext.h c o (fun z => hc (k4 c (List.mem_append_left _ z))) h, fun c hc => ?_, fun c o h => ?_⟩, b.own, List.nodup_append.mpr ⟨b1, p1.nd, fun c hc y hy e => ?_⟩, b.out⟩
  · have cs : c ∈ A ++ Os3.flatten → c ∈ Aos.flatten ++ Os1.flatten ∨ H1 c = none := fun z => (b.ext.o c z).imp (fun z => k4 c (List.mem_append_left _ z)) id
    rcases List.mem_append.mp hc with z | z
    · exact cs (List.mem_append_left _ z)
    · rcases List.mem_append.mp (p2 c z) with y | y
      · exact cs (List.mem_append_right _ y)
      · exact .inl (k4 c (List.mem_append_right _ y))
  · rcases b.ext.f c o h with z | z | z
    · exact .inl z
    · exact .inr (.inl (k4 c (List.mem_append_left _ z)))
    · exact .inr (.inr z)
  · subst e
    rcases List.mem_append.mp (p2 c hy) with z | z
    · exact b3 c hc c z rfl
    · exact j2 c (List.mem_append_left _ hc) z
end
end Fw
namespace Fw
open PySem PySem.Spec PyProof.Rows L2
/-! ### lists and tuples that are drawn: true a list, false a tuple -/
def SqK (K : PySem.W.Frag) (b : Bool) (H : Hp) (a : Addr) (xs : List V) : Prop := if b = true then SqL K H a xs else SqT K H a xs
def isSrc (b : Bool) (h : Heap) (a : Addr) (its : Array Value) : Prop := if b = true then h.IsList a its else h.IsTuple a its
def itCls (b : Bool) : String := if b = true then "list_iterator" else "tuple_iterator"
def isIt (b : Bool) (h : Heap) (it a : Addr) (i : Nat) : Prop := ∃ o, h.get? it = some o ∧ o.cls = .type (itCls b) ∧ o.data = .fields #[.ref a, .int i 0]
def itObj (b : Bool) (a : Addr) : Obj := { cls := .type (itCls b), data := .fields #[.ref a, .int 0 0] }
theorem src_begins (b : Bool) (a : Addr) (its : Array Value) : Begins (.ref a) (itObj b a) fun h => isSrc b h a its := by
  cases b with
  | true => exact begins_list a its
  | false => exact begins_tuple a its
theorem src_draws (b : Bool) {P : Program} {w : World} {A : Around} (hh : A.handled = none) (it a : Addr) (hne : a ≠ it) (its : Array Value) :
    Draws P w A it [it, a] its.size (fun i v => its[i]? = some v) (fun i h => isIt b h it a i ∧ isSrc b h a its) := by
  cases b with
  | true => exact Draws.list hh it a hne its
  | false => exact Draws.tuple hh it a hne its
theorem it_obj {b : Bool} {h : Heap} {a : Addr} {it : Addr} (e : h.get? it = some (itObj b a)) : isIt b h it a 0 := ⟨_, e, rfl, rfl⟩
theorem isIt.at {b : Bool} {h h' : Heap} {it a : Addr} {i : Nat} (x : isIt b h it a i) (k : ∀ o, h.get? it = some o → h'.get? it = some o) : isIt b h' it a i := let ⟨o, e, r⟩ := x; ⟨o, k o e, r⟩
section
variable {X : Cx} {pins : List (Addr × Obj)} {σ : L2.St} {H : Hp} {s : Shared}
theorem sq_src (I : Inv X pins σ H s) {b : Bool} {a : Addr} {xs : List V} (h : SqK X.K b H a xs) : ∃ its : List Value, Vals xs its ∧ isSrc b s.heap a its.toArray ∧ a < s.heap.objs.size := by
  cases b with
  | true =>
    obtain ⟨its, rv, p, _⟩ := I.list h
    exact ⟨its, rv, p.isList, p.lt⟩
  | false =>
    obtain ⟨its, rv, p, _⟩ := I.tuple h
    obtain ⟨o, e, _⟩ := id p
    exact ⟨its, rv, p, Heap.lt_size e⟩
theorem sq_inj (I : Inv X pins σ H s) {b : Bool} {a : Addr} {xs ys : List V} (h : SqK X.K b H a xs) (h' : SqK X.K b H a ys) : xs = ys := by
  cases b with
  | true => exact I.list_inj h h'
  | false => exact I.tuple_inj h h'
end
/-- an iterator that hands out new tuples -/
theorem turn_w {ι : Type} {P : Program} {w : World} {K : PySem.W.Frag} {elts : List Expr} {kk : Nat} {tpos : Pos} {J : It} {tn : Nat → Heap → Prop} {fp fpA wr : List Addr} {it : Addr} {src : ι → Heap → Prop} {n : ι → Nat} {Pt : ι → Nat → Array Value → Prop}
    {Mid : ι → Nat → Addr → Heap → Prop} (hmem : it ∈ fp) (hwr : ∀ b ∈ wr, b ∈ fp)
    (hobj : ∀ i h, tn i h → ∀ b ∈ fp, ∃ o, h.get? b = some o ∧ ∀ v, o.data ≠ .cell v)
    (hkeep : ∀ i h h', tn i h → (∀ b ∈ fp, ∀ o, h.get? b = some o → h'.get? b = some o) → tn i h')
    (W : ∀ A : Around, A.handled = none → ∀ c : ι, WalksT P w A it fpA wr (n c) (Pt c) (fun i h => tn i h ∧ src c h) (Mid c))
    (hself : ∀ (A : Around) (i : Nat) (s : Shared) (Q : Value → Shared → Prop) (E : Value → Shared → Prop), tn i s.heap → Q (.ref it) s → wpAny (model P w) A (pyIter (.ref it)) Q E s)
    (hgo : ∀ (X : Cx) (pins : List (Addr × Obj)) (σ : L2.St) (H : Hp) (s : Shared) (i : Nat), X.prog = P → X.w = w → X.K = K → Inv X pins σ H s → J.go i H → ∃ c, src c s.heap ∧ i < n c ∧ ∀ vals, Pt c i vals → ∃ xs, Vals xs vals.toList ∧ xs.length ≤ 3 ∧ ∀ T, H T = none → J.yld i H (.ref T) (upd H T (.tup xs)))
    (hstop : ∀ (X : Cx) (pins : List (Addr × Obj)) (σ : L2.St) (H : Hp) (s : Shared) (i : Nat), X.prog = P → X.w = w → X.K = K → Inv X pins σ H s → J.stop i H → ∃ c, src c s.heap ∧ i = n c) : Turn P w K (.Tuple elts kk tpos) J fp it tn where
  mem := hmem
  obj := hobj
  keep := hkeep
  item := by
    intro X hP hw hK hc i pins s σ H E I hf st hg
    obtain ⟨c, hs, hlt, hv⟩ := hgo X pins σ H s i hP hw hK I hg
    have hd := I.ok.hd hc
    refine (W X.A hd c).item i s _ E hlt ⟨st, hs⟩ fun T vals h' tk hPt hT hTup hMid hk => ?_
    refine ⟨_, rfl, (W X.A hd c).go elts kk tpos i T { s with heap := h', toks := tk } _ E hMid fun h2 hst2 hk2 => ?_⟩
    obtain ⟨xs, rv, hlen, hy⟩ := hv vals hPt
    have hap := (W X.A hd c).apart i T h' hMid
    have hTup2 : h2.IsTuple T vals := let ⟨o, e, r⟩ := hTup; ⟨o, hk2 T o hap e, r⟩
    have new : ObjOk X.prog X.w (upd H T (.tup xs)) h2 T (.tup xs) := by
      obtain ⟨o, e, hcl, k, hdt⟩ := hTup2
      refine ⟨Nat.le_trans hlen (by rw [sizeLine_eq]; omega), vals.toList, rv, ⟨o, e, hcl, k, by rw [hdt]⟩⟩
    have kk2 : ∀ b o, b ∉ wr → s.heap.get? b = some o → h2.get? b = some o := fun b o hb e => hk2 b o hb (hk b o hb e)
    have I1 : Inv X pins σ (upd H T (.tup xs)) { s with heap := h2, toks := tk } := I.turnedNew (ch := wr) kk2 (fun b hb => hf b (hwr b hb)) hT new
    refine ⟨.ref T, _, I1, rfl, hy T (I.hok.fresh hT), hst2.1, fun b hb => ?_⟩
    obtain ⟨o, e, _⟩ := hobj i s.heap st b hb
    rw [upd_ne (Nat.ne_of_lt (Nat.lt_of_lt_of_le (Heap.lt_size e) hT))]
    exact (hf b hb).1
  done := by
    intro X hP hw hK hc i pins s σ H E I hf st hg
    obtain ⟨c, hs, rfl⟩ := hstop X pins σ H s i hP hw hK I hg
    exact (W X.A (I.ok.hd hc) c).done s _ E ⟨st, hs⟩ fun h' tk hk => ⟨rfl, I.turnedL (t' := tk) hk fun b hb => hf b (hwr b hb)⟩
  self := hself
/-! ### enumerate -/
def Jen (K : PySem.W.Frag) (b : Bool) (a : Addr) : It :=
  ⟨fun i H => ∃ xs : List V, SqK K b H a xs ∧ i < xs.length, fun i H v H' => ∃ T x, v = .ref T ∧ H T = none ∧ H' = upd H T (.tup [.int (i : Nat), x]) ∧ ∀ xs, SqK K b H a xs → xs[i]? = some x, fun i H => ∃ xs : List V, SqK K b H a xs ∧ xs.length = i⟩
theorem turn_en {P : Program} {w : World} {K : PySem.W.Frag} {elts : List Expr} {kk : Nat} {tpos : Pos} {b : Bool} {a e it : Addr} (h1 : e ≠ it) (h2 : e ≠ a) (h3 : a ≠ it) :
    Turn P w K (.Tuple elts kk tpos) (Jen K b a) [e, it] e (fun i h => (∃ old, IsEnum h e it ((i : Nat) : Int) old) ∧ isIt b h it a i) := by
  refine turn_w (ι := Array Value) (fpA := e :: [it, a]) (wr := [e, it]) (src := fun c h => isSrc b h a c) (n := fun c => c.size) (Pt := fun c i vals => ∃ t x, c[i]? = some x ∧ vals = #[.int i t, x])
    (Mid := fun c i T h => (∃ x, IsEnumOut h e it ((i : Int) + 1) x T) ∧ (isIt b h it a (i + 1) ∧ isSrc b h a c) ∧ T ≠ e ∧ T ≠ it) (by simp) (fun _ h => h) ?_ ?_ (fun A hh c => ?_) ?_ ?_ ?_
  · rintro i h ⟨⟨old, he⟩, ⟨o, ho, hc, hd⟩⟩ c hc'
    rcases (by simpa using hc' : c = e ∨ c = it) with z | z
    · rw [z]; exact ⟨_, he, fun v q => nomatch q⟩
    · rw [z]; exact ⟨o, ho, fun v q => by rw [hd] at q; cases q⟩
  · rintro i h h' ⟨⟨old, he⟩, hi⟩ k
    exact ⟨⟨old, k e (by simp) _ he⟩, hi.at fun o q => k it (by simp) o q⟩
  · have D := src_draws b (P := P) (w := w) (A := A.in1) hh it a h3 c
    have W := WalksT.enumerateD D e h1 (by simp [h1, h2]) (by simp)
    have q : (fun (i : Nat) (h : Heap) => ((∃ old, IsEnum h e it ((i : Nat) : Int) old) ∧ isIt b h it a i) ∧ isSrc b h a c) = fun (i : Nat) (h : Heap) => (∃ old, IsEnum h e it i old) ∧ isIt b h it a i ∧ isSrc b h a c := by
      funext i h; exact propext and_assoc
    rw [q]
    exact W
  · intro A i s Q E st h
    obtain ⟨⟨old, he⟩, _⟩ := st
    exact wpAny_pyIter_enum he h
  · rintro X pins σ H s i hP hw rfl I ⟨xs, hq, hlt⟩
    obtain ⟨its, rv, hs, _⟩ := sq_src I hq
    refine ⟨its.toArray, hs, by simpa [← rv.length] using hlt, ?_⟩
    rintro vals ⟨t, x, hx, rfl⟩
    have hl : xs[i]? = some xs[i] := List.getElem?_eq_getElem hlt
    obtain ⟨u, hu, ru⟩ := rv.get hl
    have : x = u := by
      have hx : its[i]? = some x := by simpa using hx
      rw [hu] at hx; cases hx; rfl
    subst this
    refine ⟨[.int (i : Nat), xs[i]], .cons ⟨t, rfl⟩ (.cons ru .nil), by simp, fun T hT => ⟨T, xs[i], rfl, hT, rfl, fun ys hy => ?_⟩⟩
    rw [sq_inj I hy hq]; exact hl
  · rintro X pins σ H s i hP hw rfl I ⟨xs, hq, hlt⟩
    obtain ⟨its, rv, hs, _⟩ := sq_src I hq
    exact ⟨its.toArray, hs, by simp [← rv.length, hlt]⟩
theorem meets_enum1 {v : Value} {o : Obj} {H : Heap → Prop} (B : Begins v o H) : Meets (Builtin.«enumerate.__new__» ⟨[.type "enumerate", v], []⟩) (fun _ R s => H s.heap ∧
      R (.ok (.ret (.ref (s.heap.push o).objs.size))) { s with heap := (s.heap.push o).push { cls := .type "enumerate", data := .fields #[.none, .bool false, .ref s.heap.objs.size, rawInt 0, .none, .none] } }) :=
  .of_wp fun prog w A R s h => by
    obtain ⟨hp, g, d, tk, os⟩ := s
    obtain ⟨h1, h⟩ := h
    have hsub := sub_enumerate
    have q1 : ∀ {A' : Around} {E : Value → Shared → Prop} {Q : Value → Shared → Prop}, Q (.ref hp.objs.size) ⟨hp.push o, g, d, tk, os⟩ → wpAny (model prog w) A' (pyIter v) Q E ⟨hp, g, d, tk, os⟩ := fun q => B.iter prog w _ _ ⟨hp, g, d, tk, os⟩ _ h1 q
    wp_walk using q1
    refine wpAny_stack_any fun st => wpAny_pure ?_
    split
    · rename_i c _ _ _ _ _
      cases (c == Value.type "enumerate")
      · wp_walk using q1
        exact ⟨_, rfl, h⟩
      · wp_walk using q1
        exact ⟨_, rfl, h⟩
    · wp_walk using q1
      exact ⟨_, rfl, h⟩
theorem enum1_begins {prog : Program} {w : World} {A : Around} {E : Value → Shared → Prop} {s : Shared} {v : Value} {o : Obj} {H : Heap → Prop} {Q : Value → Shared → Prop} (B : Begins v o H) (h1 : H s.heap)
    (h : ∀ h', IsEnum h' (s.heap.objs.size + 1) s.heap.objs.size 0 .none → h'.get? s.heap.objs.size = some o → (∀ b o, s.heap.get? b = some o → h'.get? b = some o) → Q (.ref (s.heap.objs.size + 1)) { s with heap := h' }) :
    wpAny (model prog w) A (call (.type "enumerate") [v]) Q E s := by
  refine callType_new F.called_enumerate (by decide) (F.typeCall_enumerate_1 _) (F.newCall_enumerate_1 _) (fun obj => F.args_object_init_2 obj _) F.entry_enumerate_new (meets_enum1 B) ⟨h1, ?_⟩
  have hz : (s.heap.push o).objs.size = s.heap.objs.size + 1 := Heap.size_push ..
  show _ ∧ _
  rw [hz]
  have he : IsEnum ((s.heap.push o).push { cls := .type "enumerate", data := .fields #[.none, .bool false, .ref s.heap.objs.size, rawInt 0, .none, .none] }) (s.heap.objs.size + 1) s.heap.objs.size 0 .none := by
    have q := Heap.get?_push_size (s.heap.push o) (o := { cls := .type "enumerate", data := .fields #[.none, .bool false, .ref s.heap.objs.size, rawInt 0, .none, .none] }) rfl
    rw [hz] at q
    exact q
  exact ⟨⟨_, he, rfl⟩, h _ he (Heap.get?_push_of_some _ (Heap.get?_push_size _ B.free)) fun b o x => Heap.get?_push_of_some _ (Heap.get?_push_of_some _ x)⟩
def iEn (K : PySem.W.Frag) (ta : TA) : TI := fun σ H R => ta σ H fun vs H1 => ∃ a b xs, vs = [.ref a] ∧ SqK K b H1 a xs ∧ R (Jen K b a) H1
section
variable {X : Cx} {e e2 e3 : Expr} {ta : TA} {p pos tpos : Pos} {elts : List Expr} {kk : Nat}
theorem pi_en (hg : Gl X "enumerate") (hm : X.mg "enumerate" = none) (ha : PA X [e] ta) (hs : starEach [e] X.env = [(false, eval e X.env)] := by rfl) : PI X (.Tuple elts kk tpos) (.Call (.Name "enumerate" p) [e] [] pos) (iEn X.K ta) := by
  refine ⟨fun pins s σ H R I h => Call_ (ld_blt I hg hm boot_enumerate (PyProof.Rows.callWith_type1 (thn (ha.run pos pins s σ H _ I h) fun us s1 ⟨vs, H1, I1, r1, q1⟩ => ?_) hs rfl))⟩
  obtain ⟨a, b, xs, rfl, hq, q⟩ := q1
  rw [Vals.ref1 r1]
  obtain ⟨its, rv, hsrc, hlt⟩ := sq_src I1 hq
  refine enum1_begins (src_begins b a its.toArray) hsrc fun h' he hit hk => wpAny_pyIter_enum he ?_
  have I2 : Inv X pins σ H1 { s1 with heap := h' } := I1.kept (t' := s1.toks) hk
  refine ⟨s1.heap.objs.size + 1, [s1.heap.objs.size + 1, s1.heap.objs.size], _, _, H1, rfl, I2, turn_en (Nat.succ_ne_self _) (Nat.ne_of_gt (Nat.lt_succ_of_lt hlt)) (Nat.ne_of_lt hlt), ⟨⟨.none, he⟩, it_obj hit⟩, fun c hc => ?_, q⟩
  have hle : s1.heap.objs.size ≤ c := by
    rcases (by simpa using hc : c = s1.heap.objs.size + 1 ∨ c = s1.heap.objs.size) with z | z <;> rw [z] <;> first | exact Nat.le_refl _ | exact Nat.le_add_right _ _
  exact I1.fpOk hle (I1.hok.fresh hle)
end
/-! ### zip -/
def Jz2 (K : PySem.W.Frag) (b1 b2 : Bool) (a1 a2 : Addr) : It :=
  ⟨fun i H => ∃ xs ys : List V, SqK K b1 H a1 xs ∧ SqK K b2 H a2 ys ∧ i < min xs.length ys.length,
   fun i H v H' => ∃ T x y, v = .ref T ∧ H T = none ∧ H' = upd H T (.tup [x, y]) ∧ (∀ xs, SqK K b1 H a1 xs → xs[i]? = some x) ∧ ∀ ys, SqK K b2 H a2 ys → ys[i]? = some y,
   fun i H => ∃ xs ys : List V, SqK K b1 H a1 xs ∧ SqK K b2 H a2 ys ∧ min xs.length ys.length = i⟩
theorem draws_of {its : List Value} {xs : List V} (rv : Vals xs its) {i : Nat} (hlt : i < xs.length) {x : Value} (hx : its.toArray[i]? = some x) : RelV xs[i] x := by
  obtain ⟨u, hu, ru⟩ := rv.get (List.getElem?_eq_getElem hlt)
  have hx : its[i]? = some x := by simpa using hx
  rw [hu] at hx; cases hx; exact ru
theorem turn_z2 {P : Program} {w : World} {K : PySem.W.Frag} {elts : List Expr} {kk : Nat} {tpos : Pos} {b1 b2 : Bool} {a1 a2 z TI TO i1 i2 : Addr} (S : ZipSep2 z TI TO i1 i2 [i1, a1] [i2, a2]) (n1 : a1 ≠ i1) (n2 : a2 ≠ i2) :
    Turn P w K (.Tuple elts kk tpos) (Jz2 K b1 b2 a1 a2) [z, TI, TO, i1, i2] z (fun i h => IsZip h z TI TO .none ∧ IsTupOf2 h TI (.ref i1) (.ref i2) ∧ (∃ x y, IsTupOf2 h TO x y) ∧ isIt b1 h i1 a1 i ∧ isIt b2 h i2 a2 i) := by
  refine turn_w (ι := Array Value × Array Value) (fpA := z :: TI :: TO :: ([i1, a1] ++ [i2, a2])) (wr := [z, TO, i1, i2]) (src := fun c h => isSrc b1 h a1 c.1 ∧ isSrc b2 h a2 c.2) (n := fun c => min c.1.size c.2.size) (Pt := fun c i vals => ∃ x1 x2, c.1[i]? = some x1 ∧ c.2[i]? = some x2 ∧ vals = #[x1, x2])
    (Mid := fun c i T h => IsZip h z TI TO (rawInt T) ∧ IsTupOf2 h TI (.ref i1) (.ref i2) ∧ (∃ a1 a2, IsTupOf2 h TO a1 a2) ∧ (isIt b1 h i1 a1 (i + 1) ∧ isSrc b1 h a1 c.1) ∧ (isIt b2 h i2 a2 (i + 1) ∧ isSrc b2 h a2 c.2) ∧ T ≠ z ∧ T ≠ TO ∧ T ≠ i1 ∧ T ≠ i2)
    (by simp) (fun b hb => ?_) ?_ ?_ (fun A hh c => ?_) ?_ ?_ ?_
  · have : b = z ∨ b = TO ∨ b = i1 ∨ b = i2 := by simpa using hb
    rcases this with q | q | q | q <;> simp [q]
  · rintro i h ⟨hz, hTI, ⟨x, y, hTO⟩, ⟨o1, e1, _, d1⟩, ⟨o2, e2, _, d2⟩⟩ c hc
    have : c = z ∨ c = TI ∨ c = TO ∨ c = i1 ∨ c = i2 := by simpa using hc
    rcases this with q | q | q | q | q
    · rw [q]; exact ⟨_, hz, fun v q => nomatch q⟩
    · rw [q]; exact ⟨_, hTI, fun v q => nomatch q⟩
    · rw [q]; exact ⟨_, hTO, fun v q => nomatch q⟩
    · rw [q]; exact ⟨o1, e1, fun v q => by rw [d1] at q; cases q⟩
    · rw [q]; exact ⟨o2, e2, fun v q => by rw [d2] at q; cases q⟩
  · rintro i h h' ⟨hz, hTI, ⟨x, y, hTO⟩, h1, h2⟩ k
    exact ⟨k z (by simp) _ hz, k TI (by simp) _ hTI, ⟨x, y, k TO (by simp) _ hTO⟩, h1.at fun o q => k i1 (by simp) o q, h2.at fun o q => k i2 (by simp) o q⟩
  · have W := WalksT.zipD2 S (src_draws b1 (P := P) (w := w) (A := A.in1) hh i1 a1 n1 c.1) (src_draws b2 (P := P) (w := w) (A := A.in1) hh i2 a2 n2 c.2)
    have q : (fun (i : Nat) (h : Heap) => (IsZip h z TI TO .none ∧ IsTupOf2 h TI (.ref i1) (.ref i2) ∧ (∃ x y, IsTupOf2 h TO x y) ∧ isIt b1 h i1 a1 i ∧ isIt b2 h i2 a2 i) ∧ (isSrc b1 h a1 c.1 ∧ isSrc b2 h a2 c.2)) =
        fun (i : Nat) (h : Heap) => IsZip h z TI TO .none ∧ IsTupOf2 h TI (.ref i1) (.ref i2) ∧ (∃ a1 a2, IsTupOf2 h TO a1 a2) ∧ (isIt b1 h i1 a1 i ∧ isSrc b1 h a1 c.1) ∧ (isIt b2 h i2 a2 i ∧ isSrc b2 h a2 c.2) := by
      funext i h
      exact propext ⟨fun ⟨⟨a, b, c, d, e⟩, f, g⟩ => ⟨a, b, c, ⟨d, f⟩, ⟨e, g⟩⟩, fun ⟨a, b, c, ⟨d, f⟩, ⟨e, g⟩⟩ => ⟨⟨a, b, c, d, e⟩, f, g⟩⟩
    rw [q]
    exact W
  · intro A i s Q E st h
    exact wpAny_pyIter_zip st.1 h
  · rintro X pins σ H s i hP hw rfl I ⟨xs, ys, hx, hy, hlt⟩
    obtain ⟨its1, rv1, hs1, _⟩ := sq_src I hx
    obtain ⟨its2, rv2, hs2, _⟩ := sq_src I hy
    refine ⟨(its1.toArray, its2.toArray), ⟨hs1, hs2⟩, by simpa [← rv1.length, ← rv2.length] using hlt, ?_⟩
    rintro vals ⟨x1, x2, e1, e2, rfl⟩
    have l1 : i < xs.length := by omega
    have l2 : i < ys.length := by omega
    refine ⟨[xs[i], ys[i]], .cons (draws_of rv1 l1 e1) (.cons (draws_of rv2 l2 e2) .nil), by simp, fun T hT => ⟨T, _, _, rfl, hT, rfl, fun q hq => ?_, fun q hq => ?_⟩⟩
    · rw [sq_inj I hq hx]; exact List.getElem?_eq_getElem l1
    · rw [sq_inj I hq hy]; exact List.getElem?_eq_getElem l2
  · rintro X pins σ H s i hP hw rfl I ⟨xs, ys, hx, hy, hlt⟩
    obtain ⟨its1, rv1, hs1, _⟩ := sq_src I hx
    obtain ⟨its2, rv2, hs2, _⟩ := sq_src I hy
    exact ⟨(its1.toArray, its2.toArray), ⟨hs1, hs2⟩, by simp [← rv1.length, ← rv2.length, hlt]⟩
theorem not_two {a b c : Addr} (h1 : a ≠ b) (h2 : a ≠ c) : a ∉ [b, c] := fun h => by
  rcases List.mem_cons.mp h with z | z
  · exact h1 z
  · exact h2 (List.mem_singleton.mp z)
theorem zsep (S a1 a2 : Addr) (l1 : a1 < S) (l2 : a2 < S) : ZipSep2 (S + 4) (S + 2) (S + 3) S (S + 1) [S, a1] [S + 1, a2] := by
  have n : ∀ x y : Nat, x < y → (x : Addr) ≠ y := fun x y h => Nat.ne_of_lt h
  have m : ∀ x y : Nat, y < x → (x : Addr) ≠ y := fun x y h => Nat.ne_of_gt h
  have k : ∀ (j : Nat) (a : Nat), a < S → a < S + j := fun j a h => Nat.lt_of_lt_of_le h (Nat.le_add_right _ _)
  have p : ∀ i j : Nat, i < j → S + i < S + j := fun i j h => Nat.add_lt_add_left h S
  exact ⟨n _ _ (p 2 4 (by decide)), n _ _ (p 3 4 (by decide)), n _ _ (p 2 3 (by decide)), m _ _ (p 0 2 (by decide)), List.mem_cons_self, not_two (m _ _ (p 0 4 (by decide))) (m _ _ (k 4 _ l1)), not_two (m _ _ (p 0 3 (by decide))) (m _ _ (k 3 _ l1)),
    m _ _ (p 1 2 (by decide)), List.mem_cons_self, not_two (m _ _ (p 1 4 (by decide))) (m _ _ (k 4 _ l2)), not_two (m _ _ (p 1 3 (by decide))) (m _ _ (k 3 _ l2)), not_two (n _ _ (p 0 1 (by decide))) (m _ _ l2), not_two (m _ _ (p 0 1 (by decide))) (m _ _ (k 1 _ l1))⟩
def iZ2 (K : PySem.W.Frag) (ta : TA) : TI := fun σ H R => ta σ H fun vs H1 => ∃ a1 a2 b1 b2 xs ys, vs = [.ref a1, .ref a2] ∧ SqK K b1 H1 a1 xs ∧ SqK K b2 H1 a2 ys ∧ R (Jz2 K b1 b2 a1 a2) H1
section
variable {X : Cx} {e e2 e3 : Expr} {ta : TA} {p pos tpos : Pos} {elts : List Expr} {kk : Nat}
theorem pi_z2 (hg : Gl X "zip") (hm : X.mg "zip" = none) (ha : PA X [e, e2] ta) (hs : starEach [e, e2] X.env = (false, eval e X.env) :: starEach [e2] X.env := by rfl) (hpl : (backTo pos (starEach [e2] X.env)).any (·.1) = false := by rfl) :
    PI X (.Tuple elts kk tpos) (.Call (.Name "zip" p) [e, e2] [] pos) (iZ2 X.K ta) := by
  refine ⟨fun pins s σ H R I h => Call_ (ld_blt I hg hm PyProof.Rows.boot_zip (PyProof.Rows.callWith_type1 (thn (ha.run pos pins s σ H _ I h) fun us s1 ⟨vs, H1, I1, r1, q1⟩ => ?_) hs hpl))⟩
  obtain ⟨a1, a2, b1, b2, xs, ys, rfl, hx, hy, q⟩ := q1
  obtain ⟨u1, u2, rfl, rr1, rr2⟩ := vals2 r1
  cases rr1
  cases rr2
  obtain ⟨its1, rv1, hs1, l1⟩ := sq_src I1 hx
  obtain ⟨its2, rv2, hs2, l2⟩ := sq_src I1 hy
  refine zip_begins2 (src_begins b1 a1 its1.toArray) (src_begins b2 a2 its2.toArray) hs1 hs2 fun h' hz hTI hTO h1 h2 hsz hk => wpAny_pyIter_zip hz ?_
  have I2 : Inv X pins σ H1 { s1 with heap := h' } := I1.kept (t' := s1.toks) hk
  generalize hS : s1.heap.objs.size = S at *
  refine ⟨S + 4, [S + 4, S + 2, S + 3, S, S + 1], _, _, H1, rfl, I2, turn_z2 (zsep S a1 a2 l1 l2) (Nat.ne_of_lt l1) (Nat.ne_of_lt (Nat.lt_succ_of_lt l2)),
    ⟨hz, hTI, ⟨_, _, hTO⟩, it_obj h1, it_obj h2⟩, fun c hc => ?_, q⟩
  have hle : s1.heap.objs.size ≤ c := by
    rw [hS]
    rcases (by simpa using hc : c = S + 4 ∨ c = S + 2 ∨ c = S + 3 ∨ c = S ∨ c = S + 1) with z | z | z | z | z <;> rw [z] <;> first | exact Nat.le_refl _ | exact Nat.le_add_right _ _
  exact I1.fpOk hle (I1.hok.fresh hle)
end
end Fw
namespace Fw
open PySem PySem.Spec PyProof.Rows L2
/-! ### walks over enumerate, zip -/
def enF : Nat → List Dt → List Dt
  | _, [] => []
  | k, d :: r => .tuple [.int (k : Nat), d] :: enF (k + 1) r
def z2D (ds es : List Dt) : List Dt := List.zipWith (fun a b => .tuple [a, b]) ds es
theorem enF_len : ∀ (k : Nat) (ds : List Dt), (enF k ds).length = ds.length
  | _, [] => rfl
  | k, d :: r => by rw [enF, List.length_cons, List.length_cons, enF_len]
theorem enF_get : ∀ (k : Nat) (ds : List Dt) (i : Nat), (enF k ds)[i]? = ds[i]?.map fun d => .tuple [.int ((k + i : Nat) : Int), d]
  | _, [], i => by rw [enF]; rfl
  | k, d :: r, 0 => by rw [enF]; rfl
  | k, d :: r, i + 1 => by
    rw [enF, List.getElem?_cons_succ, List.getElem?_cons_succ, enF_get]
    have e : k + 1 + i = k + (i + 1) := by omega
    rw [e]
/-- a list or a tuple, frozen -/
def SqF (G : Hp) (b : Bool) (a : Addr) (vs : List V) : Prop := if b = true then G a = some (.lst vs) else G a = some (.tup vs)
theorem SqF.sq {K : PySem.W.Frag} {G H : Hp} {b : Bool} {a : Addr} {vs : List V} (h : SqF G b a vs) (e : Same G H) : SqK K b H a vs := by
  cases b with
  | true => exact SqL.of (e _ _ h)
  | false => exact SqT.of (e _ _ h)
theorem seq_of {G : Hp} {v : V} {d : Dt} {ds : List Dt} (h : Dq G v d) (e : seqOf d = some ds) : ∃ b a vs, v = .ref a ∧ SqF G b a vs ∧ DqAll G vs ds := by
  unfold seqOf at e
  split at e
  · cases e
    cases h with
    | lst h1 h2 => exact ⟨true, _, _, rfl, h1, h2⟩
  · cases e
    cases h with
    | tup h1 h2 => exact ⟨false, _, _, rfl, h1, h2⟩
  · cases e
theorem ok_en {K : PySem.W.Frag} {b : Bool} {a : Addr} {vs : List V} {G Hc : Hp} {ds : List Dt} (h : SqF Hc b a vs) (hd : DqAll G vs ds) : ItOk (Jen K b a) G Hc (enF 0 ds) := by
  intro i G' H' gx le hc
  have hs : SqK K b H' a vs := h.sq hc
  refine ⟨fun hi => ⟨vs, hs, by rw [hd.length, hi, enF_len]⟩, fun d e => ?_⟩
  rw [enF_get] at e
  obtain ⟨d', e1, e2⟩ := Option.map_eq_some_iff.mp e
  subst e2
  obtain ⟨v, h1, h2⟩ := hd.get e1
  refine ⟨⟨vs, hs, (List.getElem?_eq_some_iff.mp h1).1⟩, fun x H2 hy => ?_⟩
  obtain ⟨T, y, rfl, hT, rfl, k⟩ := hy
  have e3 := (k vs hs).symm.trans h1
  cases e3
  have gT := upd_le (le.free hT) (.tup [V.int (i : Nat), v])
  refine ⟨_, upd_grow le hT _, .tup upd_same (.cons ?_ (.cons (dq_mono gT (dq_mono gx h2)) .nil))⟩
  rw [Nat.zero_add]
  exact .int _
theorem ok_z2 {K : PySem.W.Frag} {b1 b2 : Bool} {a1 a2 : Addr} {vs ws : List V} {G Hc : Hp} {ds es : List Dt} (h : SqF Hc b1 a1 vs) (h' : SqF Hc b2 a2 ws) (hd : DqAll G vs ds) (he : DqAll G ws es) : ItOk (Jz2 K b1 b2 a1 a2) G Hc (z2D ds es) := by
  intro i G' H' gx le hc
  have s1 : SqK K b1 H' a1 vs := h.sq hc
  have s2 : SqK K b2 H' a2 ws := h'.sq hc
  refine ⟨fun hi => ⟨vs, ws, s1, s2, by rw [hi, hd.length, he.length]; simp [z2D]⟩, fun d e => ?_⟩
  unfold z2D at e
  rw [List.getElem?_zipWith] at e
  cases e1 : ds[i]? with
  | none => rw [e1] at e; simp at e
  | some x =>
    cases e2 : es[i]? with
    | none => rw [e1, e2] at e; simp at e
    | some y =>
      rw [e1, e2] at e
      simp at e
      subst e
      obtain ⟨v, k1, k2⟩ := hd.get e1
      obtain ⟨w, l1, l2⟩ := he.get e2
      refine ⟨⟨vs, ws, s1, s2, Nat.lt_min.mpr ⟨(List.getElem?_eq_some_iff.mp k1).1, (List.getElem?_eq_some_iff.mp l1).1⟩⟩, fun u H2 hy => ?_⟩
      obtain ⟨T, x', y', rfl, hT, rfl, f1, f2⟩ := hy
      have q1 := (f1 vs s1).symm.trans k1
      have q2 := (f2 ws s2).symm.trans l1
      cases q1
      cases q2
      have gT := upd_le (le.free hT) (.tup [v, w])
      exact ⟨_, upd_grow le hT _, .tup upd_same (.cons (dq_mono gT (dq_mono gx k2)) (.cons (dq_mono gT (dq_mono gx l2)) .nil))⟩
def SqF.mono {G G' : Hp} {b : Bool} {a : Addr} {vs : List V} (h : SqF G b a vs) (e : Same G G') : SqF G' b a vs := by
  cases b with
  | true => exact e _ _ h
  | false => exact e _ _ h
def gEn (ga : Gd) : Gs := fun env => (gSeq ga env).map (enF 0)
def gZ2 (ga gb : Gd) : Gs := fun env => (gSeq ga env).bind fun ds => (gSeq gb env).map fun es => z2D ds es
section
variable {X : Cx} {e e2 a b c : Expr} {ga gb gc : Gd} {p pos tpos : Pos} {elts : List Expr} {kk : Nat}
theorem it_en (hg : Gl X "enumerate") (hm : X.mg "enumerate" = none) (ha : PE X e (tPV X.K ga)) (hs : starEach [e] X.env = [(false, eval e X.env)] := by rfl) : PI X (.Tuple elts kk tpos) (.Call (.Name "enumerate" p) [e] [] pos) (tIT X.K (gEn ga)) :=
  pi_imp (pi_en hg hm (pa_cons ha pa_nil hs) hs) fun σ H R ⟨G, env, Os, ds, F, hg, q⟩ => by
    obtain ⟨es, e1, rfl⟩ := Option.map_eq_some_iff.mp hg
    obtain ⟨d, e2, e3⟩ := Option.bind_eq_some_iff.mp e1
    refine ⟨G, env, Os, d, F, e2, fun v G1 H1 a1 d1 => ?_⟩
    obtain ⟨b, a, vs, rfl, h1, h2⟩ := seq_of d1 e3
    exact ⟨a, b, vs, rfl, h1.sq a1.le, q _ G1 H1 a1 (ok_en (h1.mono a1.le) h2)⟩
theorem it_z2 (hg : Gl X "zip") (hm : X.mg "zip" = none) (ha : PE X e (tPV X.K ga)) (hb : PE X e2 (tPV X.K gb)) (hs : starEach [e, e2] X.env = (false, eval e X.env) :: starEach [e2] X.env := by rfl) (hs2 : starEach [e2] X.env = (false, eval e2 X.env) :: starEach [] X.env := by rfl) (hpl : (backTo pos (starEach [e2] X.env)).any (·.1) = false := by rfl) :
    PI X (.Tuple elts kk tpos) (.Call (.Name "zip" p) [e, e2] [] pos) (tIT X.K (gZ2 ga gb)) :=
  pi_imp (pi_z2 hg hm (pa_cons ha (pa_cons hb pa_nil hs2) hs) hs hpl) fun σ H R ⟨G, env, Os, ds, F, hg, q⟩ => by
    obtain ⟨xs, e1, hg⟩ := Option.bind_eq_some_iff.mp hg
    obtain ⟨ys, e1', rfl⟩ := Option.map_eq_some_iff.mp hg
    obtain ⟨d, e2, e3⟩ := Option.bind_eq_some_iff.mp e1
    obtain ⟨d', e2', e3'⟩ := Option.bind_eq_some_iff.mp e1'
    refine ⟨G, env, Os, d, F, e2, fun v G1 H1 a1 d1 => ⟨G1, env, Os, d', F.grow a1, e2', fun w G2 H2 a2 d2 => ?_⟩⟩
    obtain ⟨b, a, vs, rfl, h1, h2⟩ := seq_of (dq_mono a2.g d1) e3
    obtain ⟨b', a', ws, rfl, h1', h2'⟩ := seq_of d2 e3'
    exact ⟨a, a', b, b', vs, ws, rfl, h1.sq a2.le, h1'.sq a2.le, q _ G2 H2 (a1.trans a2) (ok_z2 (h1.mono a2.le) (h1'.mono a2.le) h2 h2')⟩
/-! ### a op b op' c -/
def gCh (g g' : Dt → Dt → Option Dt) (ga gb gc : Gd) : Gd := fun env => (ga env).bind fun x => (gb env).bind fun y => (g x y).bind fun z => match z with
  | .bool true => (gc env).bind fun w => g' y w
  | .bool false => some (.bool false)
  | _ => none
theorem chain_of {K : PySem.W.Frag} {r r' : R2} {g g' : Dt → Dt → Option Dt} {σ : L2.St} {H : Hp} {Q : VK} (hr : Sr2 r g) (hr' : Sr2 r' g') (h : tPV K (gCh g g' ga gb gc) σ H Q) : tChain r r' (tPK K ga) (tPK K gb) (tPK K gc) σ H Q := by
  obtain ⟨G, env, Os, d, F, hg, q⟩ := h
  obtain ⟨x, e1, hg⟩ := Option.bind_eq_some_iff.mp hg
  obtain ⟨y, e2, hg⟩ := Option.bind_eq_some_iff.mp hg
  obtain ⟨z, e3, hg⟩ := Option.bind_eq_some_iff.mp hg
  refine ⟨G, env, Os, x, F, e1, fun v1 G1 H1 a1 d1 => ⟨G1, env, Os, y, F.grow a1, e2, fun v2 G2 H2 a2 d2 => ?_⟩⟩
  refine hr (Vw G2 H2 Os.flatten) H2 v1 v2 x y z _ (vw_sub a2.le _) (dq_mono (vw_grow a1.le a2 (F.grow a1).env.there) d1) d2 e3 fun v hv => ?_
  have a12 := a1.trans a2
  split at hg
  · cases hv
    refine ⟨true, rfl, ?_⟩
    obtain ⟨w, e4, e5⟩ := Option.bind_eq_some_iff.mp hg
    rw [if_pos rfl]
    refine ⟨G2, env, Os, w, F.grow a12, e4, fun v3 G3 H3 a3 d3 => ?_⟩
    refine hr' (Vw G3 H3 Os.flatten) H3 v2 v3 y w d _ (vw_sub a3.le _) (dq_mono (vw_grow a2.le a3 (F.grow a12).env.there) d2) d3 e5 fun u hu => ?_
    exact q u G3 H3 (a12.trans a3) (sc_dq hu G3)
  · cases hv
    cases hg
    refine ⟨false, rfl, ?_⟩
    rw [if_neg Bool.false_ne_true]
    exact q _ G2 H2 a12 (.bl _)
  · cases hg
theorem pv_chain {op op' : CmpOp} {r r' : R2} {g g' : Dt → Dt → Option Dt} (ho : OpR X (compareOp op) r) (hr : Sr2 r g) (ho' : OpR X (compareOp op') r') (hr' : Sr2 r' g') (ha : PE X a (tPK X.K ga)) (hb : PE X b (tPK X.K gb)) (hc : PE X c (tPK X.K gc))
    (hm : lastMarks [op, op'] [b, c] = false := by with_unfolding_all rfl) : PE X (.Compare a [op, op'] [b, c] pos) (tPV X.K (gCh g g' ga gb gc)) := pe_imp (pe_chain ho ho' ha hb hc hm) fun σ H Q h => chain_of hr hr' h
theorem tv_chain {op op' : CmpOp} {r r' : R2} {g g' : Dt → Dt → Option Dt} (ho : OpR X (compareOp op) r) (hr : Sr2 r g) (ho' : OpR X (compareOp op') r') (hr' : Sr2 r' g') (ha : PE X a (tPK X.K ga)) (hb : PE X b (tPK X.K gb)) (hc : PE X c (tPK X.K gc))
    (hm : lastMarks [op, op'] [b, c] = false := by with_unfolding_all rfl) : PT X (.Compare a [op, op'] [b, c] pos) (tTV X.K (asB (gCh g g' ga gb gc))) := pt_imp (pt_chain ho ho' ha hb hc hm) fun σ H Q h => chain_of hr hr' (tb_of h)
/-! ### isinstance(x, (T1, T2)) -/
def gIs2 (T1 T2 : String) (g : Gd) : Gd := fun env => (g env).bind fun d => match d with
  | .dict _ => none
  | d => some (.bool (isD T1 d || isD T2 d))
theorem pv_isi2 {T1 T2 : String} {c1 c2 : Expr} {k : Nat} {p2 : Pos} {g : Gd} (hT1 : T1 ∈ ["bool", "int", "str", "list", "tuple"]) (hT2 : T2 ∈ ["bool", "int", "str", "list", "tuple"]) (hg : Gl X "isinstance") (hm : X.mg "isinstance" = none) (he : PE X e (tPK X.K g))
    (hc1 : PE X c1 (tC (.ty T1))) (hc2 : PE X c2 (tC (.ty T2))) (h1 : starEach [e, .Tuple [c1, c2] k p2] X.env = (false, eval e X.env) :: starEach [.Tuple [c1, c2] k p2] X.env := by rfl)
    (h2 : starEach [.Tuple [c1, c2] k p2] X.env = (false, eval (.Tuple [c1, c2] k p2) X.env) :: starEach [] X.env := by rfl) (hpl : (backTo pos (starEach [.Tuple [c1, c2] k p2] X.env)).any (·.1) = false := by rfl)
    (k1 : starEach [c1, c2] X.env = (false, eval c1 X.env) :: starEach [c2] X.env := by rfl) (k2 : starEach [c2] X.env = (false, eval c2 X.env) :: starEach [] X.env := by rfl) :
    PE X (.Call (.Name "isinstance" p) [e, .Tuple [c1, c2] k p2] [] pos) (tPV X.K (gIs2 T1 T2 g)) :=
  pe_imp (pe_callB call_isiT hg hm PyProof.Rows.boot_isinstance (pa_cons he (pa_cons (pe_tup (pa_cons hc1 (pa_cons hc2 pa_nil k2) k1)) pa_nil h2) h1) (by decide) (by decide) h1 hpl) fun σ H Q ⟨G, env, Os, d, F, hg, q⟩ => by
    obtain ⟨x, e1, hg⟩ := Option.bind_eq_some_iff.mp hg
    refine ⟨G, env, Os, x, F, e1, fun v G1 H1 a1 d1 => ?_⟩
    have nd : ∀ k, x ≠ .dict k := fun k z => by subst z; cases hg
    have e2 : d = .bool (isD T1 x || isD T2 x) := by
      cases x <;> first | (exact absurd rfl (nd _)) | exact (Option.some.inj hg).symm
    subst e2
    refine ⟨sz1000 (show 2 ≤ 1000 by decide), fun tp htp => ?_⟩
    have gr := own_grow a1.le htp (.tup [.ty T1, .ty T2])
    refine ⟨v, tp, [.ty T1, .ty T2], _, [.type T1, .type T2], _, rfl, upd_same, .cons (.ty T1) (.cons (.ty T2) .nil), ty_dq (dq_mono gr.h (dq_mono (vw_sub a1.le _) d1)), ?_, q _ G1 _ (a1.trans gr) (.bl (isD T1 x || isD T2 x))⟩
    refine kitAny_cons (kit_ty (kit_int _ (ty_in nd) _ hT1)) (fun z => ?_) fun z => ?_
    · refine kitAny_cons (kit_ty (kit_int _ (ty_in nd) _ hT2)) (fun z2 => ?_) fun z2 => ?_
      · have z : isD T1 x = false := z
        have z2 : isD T2 x = false := z2
        rw [z, z2]
        exact kitAny_nil
      · have z2 : isD T2 x = true := z2
        rw [z2, Bool.or_true]
    · have z : isD T1 x = true := z
      rw [z, Bool.true_or]
end
/-! ### max, min of three -/
def gMax3 : List Dt → Option Dt
  | [.int i, .int j, .int k] => some (.int (max (max i j) k))
  | _ => none
def gMin3 : List Dt → Option Dt
  | [.int i, .int j, .int k] => some (.int (min (min i j) k))
  | _ => none
theorem nuMax2_int (i j : Int) : nuMax2 (.int i) (.int j) = some (.int (max i j)) := by
  unfold nuMax2
  show some (if decide (i < j) = true then V.int j else V.int i) = _
  by_cases h : i < j
  · rw [if_pos (decide_eq_true h)]
    congr 2; omega
  · rw [if_neg (by simpa using h)]
    congr 2; omega
theorem nuMin2_int (i j : Int) : nuMin2 (.int i) (.int j) = some (.int (min i j)) := by
  unfold nuMin2
  show some (if decide (j < i) = true then V.int j else V.int i) = _
  by_cases h : j < i
  · rw [if_pos (decide_eq_true h)]
    congr 2; omega
  · rw [if_neg (by simpa using h)]
    congr 2; omega
theorem sr_max3 : SrL (rNuC3 nuMax3) gMax3 := by
  intro G H vs ds d Q le h hg q
  unfold gMax3 at hg
  split at hg
  · cases hg
    cases h with
    | cons h1 h2 => cases h2 with
      | cons h2 h3 => cases h3 with
        | cons h3 h4 =>
          cases h4; cases h1; cases h2; cases h3
          refine ⟨_, _, _, _, rfl, ?_, q _ rfl⟩
          unfold nuMax3
          rw [nuMax2_int]
          exact nuMax2_int _ _
  · cases hg
theorem sr_min3 : SrL (rNuC3 nuMin3) gMin3 := by
  intro G H vs ds d Q le h hg q
  unfold gMin3 at hg
  split at hg
  · cases hg
    cases h with
    | cons h1 h2 => cases h2 with
      | cons h2 h3 => cases h3 with
        | cons h3 h4 =>
          cases h4; cases h1; cases h2; cases h3
          refine ⟨_, _, _, _, rfl, ?_, q _ rfl⟩
          unfold nuMin3
          rw [nuMin2_int]
          exact nuMin2_int _ _
  · cases hg
/-! ### xs.index(d) -/
def idxD (d : Dt) : List Dt → Option Nat
  | [] => none
  | z :: r => if PyData.eqv z d = true then some 0 else (idxD d r).map (· + 1)
theorem idxD_ok {d : Dt} : ∀ {ds : List Dt} {j : Nat}, idxD d ds = some j → ∃ z, ds[j]? = some z ∧ PyData.eqv z d = true ∧ ∀ (m : Nat) (z' : Dt), m < j → ds[m]? = some z' → PyData.eqv z' d = false
  | [], _, h => by cases h
  | z :: r, j, h => by
    unfold idxD at h
    split at h
    · rename_i e
      cases h
      exact ⟨z, rfl, e, fun m z' hm => absurd hm (Nat.not_lt_zero _)⟩
    · rename_i e
      obtain ⟨j', h1, h2⟩ := Option.map_eq_some_iff.mp h
      subst h2
      obtain ⟨y, k1, k2, k3⟩ := idxD_ok h1
      refine ⟨y, by simpa using k1, k2, fun m z' hm hz => ?_⟩
      cases m with
      | zero => simp at hz; subst hz; simpa using e
      | succ m => exact k3 m z' (by omega) (by simpa using hz)
def gIdx (ga gb : Gd) : Gd := fun env => (ga env).bind fun x => (gb env).bind fun d => match x with
  | .list ds => if SeqAt.shaped (.list ds) = true ∧ SeqAt.shaped d = true then (idxD d ds).map fun j => .int (j : Nat) else none
  | _ => none
section
variable {X : Cx} {o e : Expr} {ga gb : Gd} {pos apos : Pos}
theorem pv_idx (hpe : ∀ {to te : TE}, PE X o to → PE X e te → PE X (.Call (.Attribute o "index" apos) [e] [] pos) (tBM X.K "list" (rIndexD X.K) to (tCons te tNil))) (ha : PE X o (tPV X.K ga)) (hb : PE X e (tPV X.K gb)) :
    PE X (.Call (.Attribute o "index" apos) [e] [] pos) (tPV X.K (gIdx ga gb)) := pe_imp (hpe ha hb) fun σ H Q ⟨G, env, Os, d, F, hg, q⟩ => by
  obtain ⟨x, e1, hg⟩ := Option.bind_eq_some_iff.mp hg
  obtain ⟨y, e2, hg⟩ := Option.bind_eq_some_iff.mp hg
  split at hg
  · split at hg
    · rename_i hz
      obtain ⟨j, e3, e4⟩ := Option.map_eq_some_iff.mp hg
      subst e4
      refine ⟨G, env, Os, _, F, e1, fun v G1 H1 a1 d1 => ?_⟩
      cases d1 with
      | lst h1 h2 =>
        refine ⟨.inl ⟨rfl, _, SqL.of (a1.le _ _ h1)⟩, G1, env, Os, y, F.grow a1, e2, fun w G2 H2 a2 d2 => ?_⟩
        obtain ⟨z, k1, k2, k3⟩ := idxD_ok e3
        exact ⟨_, w, y, _, j, z, rfl, rfl, (dq_mono (a2.g.trans a2.le) (.lst h1 h2)).dp, (dq_mono a2.le d2).dp, hz.1, hz.2, k1, k2, k3, q _ G2 H2 (a1.trans a2) (.int _)⟩
    · cases hg
  · cases hg
/-! ### the script -/
def gScr (i : Nat) (env : List Sl) : Option (List Int) := match env[i]? with
  | some (.scr ns) => some ns
  | _ => none
theorem scr_at {K : PySem.W.Frag} {G H : Hp} {σ : L2.St} {env : List Sl} {Os : List (List Addr)} {i : Nat} {ns : List Int} (F : Frm K G H σ env Os) (h : gScr i env = some ns) : ∃ a, σ[i]? = some (some (.ref a)) ∧ SqL K G a (ns.map V.int) := by
  unfold gScr at h
  split at h
  · rename_i ns' e
    cases h
    obtain ⟨o, as, h1, h2, h3⟩ := F.env.get e
    cases h3 with
    | scr h => exact ⟨_, h1, h⟩
  · cases h
variable {x : Str} {p : Pos}
def gScLen (i : Nat) : Gd := fun env => (gScr i env).map fun ns => .int (ns.length : Nat)
theorem pv_scLen (i : Nat) (hg : Gl X "len") (hm : X.mg "len" = none) (hN : X.N[i]? = some x := by rfl) (hv : Vis X.env.scope x := by first | exact Or.inl rfl | exact Or.inr (Or.inl rfl) | exact Or.inr (Or.inr rfl)) (hd : (x == ("__debug__" : Str)) = false := by decide)
    (hcd : (x == ("__classdict__" : Str)) = false := by decide) (he : starEach [.Name x apos] X.env = (false, eval (.Name x apos) X.env) :: starEach [] X.env := by rfl) : PE X (.Call (.Name "len" p) [.Name x apos] [] pos) (tPV X.K (gScLen i)) :=
  pe_imp (pe_callB call_len hg hm boot_len (pa_cons (pe_var hN hv hd hcd) pa_nil he) (by decide) (by decide) he) fun σ H Q ⟨G, env, Os, d, F, hg, q⟩ => by
    obtain ⟨ns, e1, e2⟩ := Option.map_eq_some_iff.mp hg
    subst e2
    obtain ⟨a, h1, h2⟩ := scr_at F e1
    refine ⟨_, h1, _, ns.length, rfl, .inl ⟨_, F.le.seq h2, by rw [List.length_map]⟩, q.here F.le (.int _)⟩
def gScIx (i : Nat) (gi : Gd) : Gd := fun env => (gScr i env).bind fun ns => (gi env).bind fun k => match k with
  | .int k => (atI ns k).map .int
  | _ => none
theorem atI_map {α β : Type} (f : α → β) (xs : List α) (k : Int) : atI (xs.map f) k = (atI xs k).map f := by
  unfold atI
  rw [List.length_map]
  cases ixN xs.length k with
  | none => rfl
  | some j => simp
theorem pv_scIx (i : Nat) {b : Expr} (hb : PE X b (tPV X.K gb)) (hN : X.N[i]? = some x := by rfl) (hv : Vis X.env.scope x := by first | exact Or.inl rfl | exact Or.inr (Or.inl rfl) | exact Or.inr (Or.inr rfl)) (hd : (x == ("__debug__" : Str)) = false := by decide)
    (hcd : (x == ("__classdict__" : Str)) = false := by decide) (hs : PlainIx b := by intro _ _; rfl) : PE X (.Subscript (.Name x p) b pos) (tPV X.K (gScIx i gb)) :=
  pe_imp (pe_ix ix_list (pe_var hN hv hd hcd) hb hs) fun σ H Q ⟨G, env, Os, d, F, hg, q⟩ => by
    obtain ⟨ns, e1, hg⟩ := Option.bind_eq_some_iff.mp hg
    obtain ⟨y, e2, hg⟩ := Option.bind_eq_some_iff.mp hg
    obtain ⟨a, h1, h2⟩ := scr_at F e1
    refine ⟨_, h1, G, env, Os, y, F, e2, fun v2 G2 H2 a2 d2 => ?_⟩
    split at hg
    · obtain ⟨m, e3, e4⟩ := Option.map_eq_some_iff.mp hg
      subst e4
      cases d2
      exact ⟨_, _, _, _, rfl, rfl, (a2.g.trans a2.le).seq h2, by rw [atI_map, e3]; rfl, q _ G2 H2 a2 (.int m)⟩
    · cases hg
def gScSl (i : Nat) (ol oh : List Sl → Option (Option Int)) : Gs := fun env => (gScr i env).bind fun ns => (ol env).bind fun lo => (oh env).bind fun hi => some (cut (ns.map .int) lo hi)
theorem fl_scSl (i : Nat) {lo hi : Option Expr} {ol oh : List Sl → Option (Option Int)} {p2 : Pos} (hl : PO X lo (tPart' X.K ol)) (hh : PO X hi (tPart' X.K oh)) (hN : X.N[i]? = some x := by rfl) (hv : Vis X.env.scope x := by first | exact Or.inl rfl | exact Or.inr (Or.inl rfl) | exact Or.inr (Or.inr rfl)) (hd : (x == ("__debug__" : Str)) = false := by decide)
    (hcd : (x == ("__classdict__" : Str)) = false := by decide) : PE X (.Subscript (.Name x p) (.Slice lo hi none p2) pos) (tFL X.K (gScSl i ol oh)) :=
  pe_imp (pe_slice sl_list (pe_var hN hv hd hcd) hl hh) fun σ H Q ⟨G, env, Os, d, F, hg, q⟩ => by
    obtain ⟨ns, e1, hg⟩ := Option.bind_eq_some_iff.mp hg
    obtain ⟨l, e2, hg⟩ := Option.bind_eq_some_iff.mp hg
    obtain ⟨u, e3, hg⟩ := Option.bind_eq_some_iff.mp hg
    cases hg
    obtain ⟨a, h1, h2⟩ := scr_at F e1
    refine ⟨_, h1, G, env, Os, l, F, e2, fun G2 H2 a2 => ⟨G2, env, Os, u, F.grow a2, e3, fun G3 H3 a3 => ?_⟩⟩
    have q' := q.grow (a2.trans a3)
    exact ⟨_, _, rfl, ((a2.trans a3).g.trans a3.le).seq h2, fun p' hp' => q'.new a3.le hp' (dqAll_cut (DqAll.ints ns) l u)⟩
/-! ### a name's own list handed out whole -/
def gMv (i : Nat) : Ge := fun env => match env[i]? with
  | some (.v t) => some (t, env.set i .un)
  | _ => none
theorem ev_mv (i : Nat) (hN : X.N[i]? = some x := by rfl) (hv : Vis X.env.scope x := by first | exact Or.inl rfl | exact Or.inr (Or.inl rfl) | exact Or.inr (Or.inr rfl)) (hd : (x == ("__debug__" : Str)) = false := by decide)
    (hcd : (x == ("__classdict__" : Str)) = false := by decide) : PE X (.Name x pos) (tEV X.K (gMv i)) := pe_imp (pe_var hN hv hd hcd) fun σ H Q ⟨G, env, Os, d, env', F, hg, q⟩ => by
  unfold gMv at hg
  split at hg
  · rename_i t e
    cases hg
    obtain ⟨o, as, h1, h2, h3⟩ := F.env.get e
    cases h3 with
    | v h =>
      obtain ⟨u1, u2⟩ := nd_set_un F.nd h2
      refine ⟨_, h1, q _ G H as _ ⟨frm_take F h1 h2, ⟨fun _ _ e => e, fun _ _ _ e => e, fun c hc => ?_, fun _ _ e => .inl e⟩, h, List.nodup_append.mpr ⟨slot_nodup F.nd h2, u1, fun c hc y hy e => (u2 y hy).2 (e ▸ hc)⟩, fun c hc => F.out c (flat_mem h2 hc)⟩⟩
      rcases List.mem_append.mp hc with z | z
      · exact .inl (flat_mem h2 z)
      · exact .inl (u2 c z).1
  · cases hg
end
end Fw
namespace Fw
open PySem PySem.Spec PyProof.Rows L2
/-! ### conversions of readings -/
section
variable {K : PySem.W.Frag} {σ : L2.St} {H : Hp} {Q : VK}
theorem cv_fl {g : Gs} (h : tEV K (fE g) σ H Q) : tFL K g σ H Q := by
  obtain ⟨G, env, Os, t, env', F, hg, q⟩ := h
  obtain ⟨ds, e1, e2⟩ := Option.map_eq_some_iff.mp hg
  cases e2
  refine ⟨G, env, Os, ds, F, e1, fun p vs G1 H1 a1 hp gp h1 d1 => q _ G1 H1 [p] Os ⟨F.grow a1, ?_, OwnT.nd (as := []) h1 (OwnTs.of_dp d1), List.nodup_cons.mpr ⟨fun hc => ?_, F.nd⟩, fun c hc => ?_⟩⟩
  · have x := a1.ext Os.flatten
    refine ⟨x.g, x.h, fun c hc => ?_, x.f⟩
    rcases List.mem_cons.mp hc with e | hc
    · subst e; exact .inr hp
    · exact .inl hc
  · obtain ⟨u, hu⟩ := F.env.there p hc
    rw [hp] at hu; cases hu
  · cases List.mem_singleton.mp hc
    exact gp
theorem cv_dl {g : Gs} (h : tEV K (dE (pX fun env => (g env).map .list)) σ H Q) : tFL K g σ H Q := by
  obtain ⟨G, env, Os, t, env', F, hg, q⟩ := h
  obtain ⟨⟨d, e'⟩, e1, e2⟩ := Option.map_eq_some_iff.mp hg
  cases e2
  obtain ⟨d', e3, e4⟩ := Option.map_eq_some_iff.mp e1
  cases e4
  obtain ⟨ds, e5, e6⟩ := Option.map_eq_some_iff.mp e3
  cases e6
  exact ⟨G, env, Os, ds, F, e5, PostF.of_d fun v G1 H1 a1 d1 => q v G1 H1 [] Os (Af.lf (F.grow a1) (a1.ext _) d1)⟩
theorem cv_ed {f : Ge} (h : tED K (eD f) σ H Q) : tEV K f σ H Q := by
  obtain ⟨G, env, Os, t, env', F, hg, q⟩ := h
  obtain ⟨⟨t', e'⟩, e1, e2⟩ := Option.map_eq_some_iff.mp hg
  cases e2
  refine ⟨G, env, Os, t', _, F, e1, fun v G1 H1 A Os1 a => ?_⟩
  obtain ⟨h1, h2, h3⟩ := a.freeze
  exact q v _ H1 Os1 h1 h2 h3
theorem cv_de {f : Gx} (h : tEV K (dE f) σ H Q) : tED K f σ H Q := by
  obtain ⟨G, env, Os, t, env', F, hg, q⟩ := h
  obtain ⟨⟨d, e'⟩, e1, e2⟩ := Option.map_eq_some_iff.mp hg
  cases e2
  exact ⟨G, env, Os, d, _, F, e1, fun v G1 H1 Os1 F1 x1 d1 => q v G1 H1 [] Os1 (Af.lf F1 x1 d1)⟩
end
/-! ### name = [.. for ..] -/
section
variable {X : Cx} {m : List Bool} {elt tg iter : Expr} {ifs : List Expr} {scope : Scope} {own : List (Str × Nat)} {pos spos : Pos} {n : Dt → Option Bd} {y : Str} {py : Pos} {i : Nat}
theorem s_setLcP {gi : Gs} {gt : List Sl → Option Bool} {ge : Gd} {fe : Ge} (k : ∀ σ H Q, tEV X.K fe σ H Q → tFL X.K (gLc (own.map (·.2)) gi n gt ge) σ H Q) (hc : X.calm = true) (hN : X.N.Nodup) (hy : X.N[i]? = some y) (hyl : X.env.scope.names.lookup y = some .local) (hi : PI X tg iter (tIT X.K gi)) (ok : BlkOk X.N X.env.scope scope own)
    (hg : ∀ (s : Shared) (H : Hp) (C : Addr) (cl : List (Str × Addr)) (fp : List Addr), PG (X.blk s H scope (compEnvC scope cl C X.env) fp) tg (tNG n)) (ht : ∀ (s : Shared) (H : Hp) (C : Addr) (cl : List (Str × Addr)) (fp : List Addr), PTs (X.blk s H scope (compEnvC scope cl C X.env) fp) ifs (tTV X.K gt))
    (he : ∀ (s : Shared) (H : Hp) (C : Addr) (cl : List (Str × Addr)) (fp : List Addr), PE (X.blk s H scope (compEnvC scope cl C X.env) fp) elt (tPV X.K ge)) (hm : inB (own.map (·.2)) n) (hmi : m[i]? ≠ some true := by decide)
    (hsw : swapsWith (.ListComp elt [⟨tg, iter, ifs, 0⟩] scope pos) (some (.Name y py)) spos.line X.env = pure true := by rfl) (hs : ∀ x, foldedSetIterable iter X.env x = pure x := by intro _; rfl) :
    PS X (.Assign [.Name y py] (.ListComp elt [⟨tg, iter, ifs, 0⟩] scope pos) spos) (tSV X.K m (sAsg i fe)) :=
  s_asg (ps_setLc hc hN hy hyl hsw hi ok hg ht he hs) (fun σ H Q h => lc_read hm (k σ H Q h)) hmi
theorem s_setLcE {fi : Gxs} {ft : Gt} {fl fe : Ge} (k : ∀ σ H Q, tEV X.K fe σ H Q → tEV X.K (eLc (own.map (·.2)) fi n ft fl) σ H Q) (hc : X.calm = true) (hN : X.N.Nodup) (hy : X.N[i]? = some y) (hyl : X.env.scope.names.lookup y = some .local) (hi : PI X tg iter (tIF X.K fi)) (ok : BlkOk X.N X.env.scope scope own)
    (hg : ∀ (s : Shared) (H : Hp) (C : Addr) (cl : List (Str × Addr)) (fp : List Addr), PG (X.blk s H scope (compEnvC scope cl C X.env) fp) tg (tNG n)) (ht : ∀ (s : Shared) (H : Hp) (C : Addr) (cl : List (Str × Addr)) (fp : List Addr), PTs (X.blk s H scope (compEnvC scope cl C X.env) fp) ifs (tET X.K ft))
    (he : ∀ (s : Shared) (H : Hp) (C : Addr) (cl : List (Str × Addr)) (fp : List Addr), PE (X.blk s H scope (compEnvC scope cl C X.env) fp) elt (tEV X.K fl)) (hm : inB (own.map (·.2)) n) (hv : (own.map (·.2)).Nodup := by decide) (hmi : m[i]? ≠ some true := by decide)
    (hsw : swapsWith (.ListComp elt [⟨tg, iter, ifs, 0⟩] scope pos) (some (.Name y py)) spos.line X.env = pure true := by rfl) (hs : ∀ x, foldedSetIterable iter X.env x = pure x := by intro _; rfl) :
    PS X (.Assign [.Name y py] (.ListComp elt [⟨tg, iter, ifs, 0⟩] scope pos) spos) (tSV X.K m (sAsg i fe)) :=
  s_asg (ps_setLc hc hN hy hyl hsw hi ok hg ht he hs) (fun σ H Q h => le_read hv hm (k σ H Q h)) hmi
end
/-! ### where targets bind -/
def inBs (vs : List Nat) (n : List Dt → Option Bd) : Prop := ∀ d bs, n d = some bs → ∀ q ∈ bs, q.1 ∈ vs
theorem inB_nm {vs : List Nat} {i : Nat} (h : i ∈ vs := by decide) : inB vs (nmN i) := fun d bs e q hq => by
  cases e
  rw [List.mem_singleton.mp hq]
  exact h
theorem inBs_nil {vs : List Nat} : inBs vs nmNil := fun d bs e q hq => by
  unfold nmNil at e
  split at e
  · cases e; cases hq
  · cases e
theorem inBs_cons {vs : List Nat} {n : Dt → Option Bd} {ns : List Dt → Option Bd} (h1 : inB vs n) (h2 : inBs vs ns) : inBs vs (nmCons n ns) := fun d bs e q hq => by
  unfold nmCons at e
  split at e
  · obtain ⟨b1, e1, e⟩ := Option.bind_eq_some_iff.mp e
    obtain ⟨b2, e2, e⟩ := Option.map_eq_some_iff.mp e
    subst e
    rcases List.mem_append.mp hq with z | z
    · exact h1 _ _ e1 q z
    · exact h2 _ _ e2 q z
  · cases e
theorem inB_tup {vs : List Nat} {k : Nat} {ns : List Dt → Option Bd} (h : inBs vs ns) : inB vs (nmTup k ns) := fun d bs e q hq => by
  unfold nmTup at e
  split at e
  · split at e
    · exact h _ _ e q hq
    · cases e
  · cases e
theorem inS_of {m : List Bool} {vs : List Nat} {n : Dt → Option Bd} (h : inB vs n) (hm : ∀ i ∈ vs, m[i]? ≠ some true := by decide) : inS m n := fun d bs e q hq => hm _ (h d bs e q hq)
/-! ### looked at: displays, calls with a plain end -/
section
variable {X : Cx} {e : Expr} {es : List Expr} {gr ga : Gs} {pos p : Pos} {k : Nat} {st : Stmt} {ps ks : List Str} {sem : Gfn} {x : Str} {kws : List Keyword} {gk : Gs} {pm : List Nat} {n : Nat}
theorem PostK.cell {G H : Hp} {O : List Addr} {d : Dt} {Q : VK} (q : PostK G H O d Q) (le : Same G H) (hO : ∀ c ∈ O, ∃ u, H c = some u) {p : Addr} (hp : H p = none) {o : HO} (h : ∀ B : Hp, Same (Vw G H O) B → B p = some o → Dq B (.ref p) d) : Q (.ref p) (upd H p o) := by
  have a := upd_grow le hp o
  have np : p ∉ O := fun z => by
    obtain ⟨u, hu⟩ := hO p z
    rw [hp] at hu; cases hu
  exact q _ _ _ a (h _ (vw_grow le a hO) (by rw [vw_out np]; exact upd_same))
theorem pk_lst (h : PA X es (tPKs X.K gr)) : PE X (.List es pos) (tPK X.K fun env => (gLst gr env).map .list) := pe_imp (pe_lst h) fun σ H Q ⟨G, env, Os, d, F, hg, q⟩ => by
  obtain ⟨ds', e1, rfl⟩ := Option.map_eq_some_iff.mp hg
  obtain ⟨ds, e1, hg⟩ := Option.bind_eq_some_iff.mp e1
  split at hg
  · rename_i hz
    cases hg
    exact ⟨G, env, Os, _, F, e1, fun vs G1 H1 a1 d1 => ⟨by rw [d1.length]; exact sz1000 hz, fun p hp => PostK.cell (q.grow a1) a1.le (F.grow a1).env.there hp fun B hB hb => .lst hb (dqAll_mono hB d1)⟩⟩
  · cases hg
theorem pk_tup {j} (h : PA X es (tPKs X.K gr)) : PE X (.Tuple es j pos) (tPK X.K (gTup gr)) := pe_imp (pe_tup h) fun σ H Q ⟨G, env, Os, d, F, hg, q⟩ => by
  obtain ⟨ds, e1, hg⟩ := Option.bind_eq_some_iff.mp hg
  split at hg
  · rename_i hz
    cases hg
    exact ⟨G, env, Os, _, F, e1, fun vs G1 H1 a1 d1 => ⟨by rw [d1.length]; exact sz1000 hz, fun p hp => PostK.cell (q.grow a1) a1.le (F.grow a1).env.there hp fun B hB hb => .tup hb (dqAll_mono hB d1)⟩⟩
  · cases hg
def gCallP (ga : Gs) (sem : Gfn) : Gd := fun env => (ga env).bind fun ds => (sem (ds.map lfS)).bind fun r => if (sc r.1.d).isSome = true then some r.1.d else none
theorem sc_of {G : Hp} {v : V} {d : Dt} (h : Dq G v d) (hs : (sc d).isSome = true) (G' : Hp) : Dq G' v d := by
  cases h with
  | non => exact .non
  | bl b => exact .bl b
  | int i => exact .int i
  | str x => exact .str x
  | lst _ _ => cases hs
  | tup _ _ => cases hs
theorem pv_callP (D : DefG X.prog X.w X.K X.mg X.base x st k ps sem) (hG : X.A.guards = some []) (hr : Room k X.A) (hg : Gl X x) (hb : posOk x st ps) (ha : PA X (e :: es) (tPKs X.K ga))
    (hdb : (x == ("__debug__" : Str)) = false := by decide) (he : starEach (e :: es) X.env = (false, eval e X.env) :: starEach es X.env := by rfl) (hpl : (backTo pos (starEach es X.env)).any (·.1) = false := by rfl) :
    PE X (.Call (.Name x p) (e :: es) [] pos) (tPV X.K (gCallP ga sem)) := pe_imp (pe_g D hG hr hg hb ha hdb he hpl) fun σ H Q ⟨G, env, Os, d, F, hs, q⟩ => by
  obtain ⟨ds, e1, hs⟩ := Option.bind_eq_some_iff.mp hs
  obtain ⟨⟨r', rs⟩, e2, hs⟩ := Option.bind_eq_some_iff.mp hs
  split at hs
  · rename_i hsc
    cases hs
    refine ⟨G, env, Os, ds, F, e1, fun vs G1 H1 a1 d1 => ?_⟩
    refine call_pure (G := Vw G1 H1 Os.flatten) (H := H1) (r := r') (vw_sub a1.le _) (Grow.refl (vw_sub a1.le _)) d1 e2 fun v G2 H2 a2 d2 => ?_
    exact q v G1 H2 (a1.trans ⟨fun _ _ e => e, a2.h, a1.le.trans a2.h, fun _ _ e => .inl e⟩) (sc_of d2 hsc G1)
  · cases hs
/-! ### pure calls by keywords -/
def gCallK (pm : List Nat) (n m : Nat) (ga gk : Gs) (sem : Gfn) : Gd := fun env => (ga env).bind fun ds => (gk env).bind fun es => if ds.length = n ∧ es.length = m then (sem ((pick pm (ds ++ es)).map lfS)).map fun r => r.1.d else none
def gCallK0 (pm : List Nat) (m : Nat) (gk : Gs) (sem : Gfn) : Gd := fun env => (gk env).bind fun es => if es.length = m then (sem ((pick pm es).map lfS)).map fun r => r.1.d else none
theorem kv_nil : PK X [] (tPVs X.K gNil) := ⟨fun pos pins s σ H Q I ⟨G, env, Os, ds, F, hs, q⟩ => by
  cases hs
  exact pk_nil.run pos pins s σ H Q I (q [] G H (Grow.refl F.le) .nil)⟩
theorem kv_cons {a : Expr} {gx : Gd} {nm : Option Str} {kpos : Pos} (ha : PE X a (tPV X.K gx)) (hr : PK X kws (tPVs X.K gk)) : PK X (⟨nm, a, kpos⟩ :: kws) (tPVs X.K (gCons gx gk)) := ⟨fun pos pins s σ H Q I ⟨G, env, Os, ds, F, hg, q⟩ => by
  obtain ⟨d, r, e1, e2, rfl⟩ := gcons_some hg
  exact (pk_cons ha hr).run pos pins s σ H Q I ⟨G, env, Os, d, F, e1, fun v G1 H1 a1 d1 => ⟨G1, env, Os, r, F.grow a1, e2, fun vs G2 H2 a2 d2 => q _ G2 H2 (a1.trans a2) (.cons (dq_mono a2.g d1) d2)⟩⟩⟩
theorem pv_callK (D : DefG X.prog X.w X.K X.mg X.base x st k ps sem) (hG : X.A.guards = some []) (hr : Room k X.A) (hg : Gl X x) (hb : kwOk x st ps ks n pm) (ha : PA X (e :: es) (tPVs X.K ga)) (hkw : PK X kws (tPVs X.K gk))
    (hall : (backToKw pos (keywordEach kws X.env)).all (·.1.isSome) = true := by rfl) (hks : (backToKw pos (keywordEach kws X.env)).filterMap (·.1) = ks := by rfl)
    (hdb : (x == ("__debug__" : Str)) = false := by decide) (he : starEach (e :: es) X.env = (false, eval e X.env) :: starEach es X.env := by rfl)
    (hpl : ((backTo pos (starEach (e :: es) X.env)).any (·.1) || (backToKw pos (keywordEach kws X.env)).any (·.1.isNone)) = false := by rfl) :
    PE X (.Call (.Name x p) (e :: es) kws pos) (tPV X.K (gCallK pm n ks.length ga gk sem)) := pe_imp (pe_gk D hG hr hg hb ha hkw hall hks hdb he hpl) fun σ H Q ⟨G, env, Os, r, F, hs, q⟩ => by
  obtain ⟨ds, e1, hs⟩ := Option.bind_eq_some_iff.mp hs
  obtain ⟨dz, e2, hs⟩ := Option.bind_eq_some_iff.mp hs
  split at hs
  · rename_i hz
    obtain ⟨⟨r', rs⟩, e3, e4⟩ := Option.map_eq_some_iff.mp hs
    cases e4
    exact ⟨G, env, Os, ds, F, e1, fun vs G1 H1 a1 d1 => ⟨G1, env, Os, dz, F.grow a1, e2, fun zs G2 H2 a2 d2 => ⟨d1.length.trans hz.1, d2.length.trans hz.2, call_pure a2.le (a1.trans a2) (dq_pick ((dqAll_mono a2.g d1).append d2) pm) e3 q⟩⟩⟩
  · cases hs
theorem pv_callK0 (D : DefG X.prog X.w X.K X.mg X.base x st k ps sem) (hG : X.A.guards = some []) (hr : Room k X.A) (hg : Gl X x) (hb : kwOk x st ps ks 0 pm) (hkw : PK X kws (tPVs X.K gk))
    (hall : (backToKw pos (keywordEach kws X.env)).all (·.1.isSome) = true := by rfl) (hks : (backToKw pos (keywordEach kws X.env)).filterMap (·.1) = ks := by rfl)
    (hdb : (x == ("__debug__" : Str)) = false := by decide)
    (hpl : ((backTo pos (starEach [] X.env)).any (·.1) || (backToKw pos (keywordEach kws X.env)).any (·.1.isNone)) = false := by rfl) :
    PE X (.Call (.Name x p) [] kws pos) (tPV X.K (gCallK0 pm ks.length gk sem)) := pe_imp (pe_gk0 D hG hr hg hb hkw hall hks hdb hpl) fun σ H Q ⟨G, env, Os, r, F, hs, q⟩ => by
  obtain ⟨dz, e2, hs⟩ := Option.bind_eq_some_iff.mp hs
  split at hs
  · rename_i hz
    obtain ⟨⟨r', rs⟩, e3, e4⟩ := Option.map_eq_some_iff.mp hs
    cases e4
    exact ⟨G, env, Os, dz, F, e2, fun zs G2 H2 a2 d2 => ⟨d2.length.trans hz, call_pure a2.le a2 (dq_pick d2 pm) e3 q⟩⟩
  · cases hs
/-! ### slices of lists and tuples alike -/
def gSlA (g : Gd) (ol oh : List Sl → Option (Option Int)) : Gd := fun env => (g env).bind fun d => (ol env).bind fun lo => (oh env).bind fun hi => match d with
  | .tuple ds => some (.tuple (cut ds lo hi))
  | .list ds => some (.list (cut ds lo hi))
  | _ => none
end
theorem room66 {k : Nat} {A : Around} (h : Room k A) : A.units + 66 < cLine := by have := h.un; omega
theorem room65 {k : Nat} {A : Around} (h : Room k A) : A.units + 65 < cLine := by have := h.un; omega
theorem room64 {k : Nat} {A : Around} (h : Room k A) : A.units + 64 < cLine := by have := h.un; omega
/-! ### the law's end -/
theorem law_callG {P : Program} {w : World} {K : PySem.W.Frag} {mg mb : Str → Option Value} {k : Nat} {fa a : Addr} {fd : FuncData} {x : Str} {sem : Gfn} {s1 : Shared} {vs : List Value} {ns : List Int}
    (kin : K.In s1.heap) (hns : s1.heap.Ns mainGlobals mg) (hb : s1.heap.Ns builtinsNs mb) (hbb : ∀ x : Str, x ≠ "__name__" → mb x = bootBuiltins x) (hlim : s1.heap.NoLimit) (hg : s1.gens = #[])
    (ha : s1.heap.get? a = some { cls := .type "list", data := .seq vs.toArray }) (hi : IntsAre vs ns) (hl : ns.length ≤ sizeLine) (hr : Room k callerA)
    (F : ∀ base : Heap, K.In base → base.Ns mainGlobals mg → FnG P w K mg base k fa fd [x] sem) (hbind : ∀ (s : Shared) (u : Value), BindsTo s fd ⟨[u], []⟩ [(x, u)]) (hsem : ∃ rs, sem [.scr ns] = some (.lf (.bool true), rs)) :
    codeAny (model P w) callerA (.call (.ref fa) ⟨[.ref a], []⟩) (fun r s' => r = .ok (.ret (.bool true)) ∧ OldK s1.heap s'.heap ∧ s'.os = s1.os ∧ AllBare s'.gens) s1 := by
  obtain ⟨rs, hsem⟩ := hsem
  have rv := vals_ints hi
  have lenV := hi.length
  have main : ∀ H : Hp, Only H → SqL K H a (ns.map V.int) → HOk P w H s1.heap → (∀ b, H b ≠ none → b = a) → (H a ≠ none → K.lookup a = none) →
      codeAny (model P w) callerA (.call (.ref fa) ⟨[.ref a], []⟩) (fun r s' => r = .ok (.ret (.bool true)) ∧ OldK s1.heap s'.heap ∧ s'.os = s1.os ∧ AllBare s'.gens) s1 := by
    intro H hO hS hok hA hK
    have bof : ∀ {b : Addr} {o : Obj}, s1.heap.get? b = some o → H b = none → (hidT s1.heap H).get? b = some o := fun e n => hidT_get e n
    have at_a : ∀ {b : Addr} {u : HO}, H b = some u → b = a := fun {b u} q => hA b (by rw [q]; intro z; cases z)
    have nod : ∀ {b : Addr} {o : Obj} {es : Array DictEntry} {ep : Nat}, s1.heap.get? b = some o → o.data = .dict es ep → H b = none := by
      intro b o es ep e d
      cases q : H b with
      | none => rfl
      | some u =>
        cases at_a q
        rw [ha] at e
        cases e
        exact absurd (show Data.seq vs.toArray _ = Data.dict es ep from d) (fun z => by cases z)
    have nsk : ∀ {b : Addr} {m : Str → Option Value}, s1.heap.Ns b m → (hidT s1.heap H).Ns b m := by
      intro b m ⟨o, es, ep, e, d, r⟩
      exact ⟨o, es, ep, bof e (nod e d), d, r⟩
    have kb : K.In (hidT s1.heap H) := by
      intro b o e
      refine bof (kin b o e) ?_
      cases q : H b with
      | none => rfl
      | some u =>
        cases at_a q
        rw [hK (by rw [q]; intro z; cases z)] at e
        cases e
    have md : Mod K mg (hidT s1.heap H) := ⟨kb, nsk hns, ⟨mb, nsk hb, hbb⟩, let ⟨mc, h1, h2⟩ := hlim; ⟨mc, nsk h1, h2⟩⟩
    have e0 : Env0 P w K mg (hidT s1.heap H) callerA [] s1 H := ⟨rfl, md, fun b o e => of_hidT e, Nat.le_of_eq (hidT_size _ _), trivial, (fun b hb => by cases (show b ∈ ([] : List Addr) from hb)), hok, .of_eq hg⟩
    have fr : Frm K H H ([V.ref a].map some) [.scr ns] [[]] := ⟨fun _ _ e => e, .cons (.scr hS) .nil, List.nodup_nil, (fun c hc => by cases hc)⟩
    refine codeAny_mono ((F _ kb (nsk hns)).run callerA [] s1 H ⟨[.ref a], []⟩ [.ref a] [.ref a] (fun v _ => v = .bl true) H [.scr ns] [[]] _ rs rfl hr e0 (hbind s1 (.ref a)) (.cons rfl .nil) rfl fr hsem fun v G' H' A Os' z => ?_) fun r s' h => ?_
    · have z2 := z.own
      cases z2 with
      | lf z3 => cases z3; rfl
    · cases r with
      | error e => exact False.elim h
      | ok fl =>
        cases fl with
        | next => exact False.elim h
        | brk => exact False.elim h
        | cont => exact False.elim h
        | ret u =>
          obtain ⟨v, H', os, bare, un, hok', r', q⟩ := h
          have q' : v = .bl true := q
          subst q'
          obtain rfl : u = Value.bool true := r'
          refine ⟨rfl, OldK.of_keep fun b o e => ?_, os, bare⟩
          cases q : H b with
          | none => exact un.keep b o e q (fun z => nomatch (show b ∈ ([] : List Addr) from z)) (by simp)
          | some u =>
            rcases hO b with z | ⟨ob, xs, z⟩
            · rw [q] at z; cases z
            · obtain ⟨e2, _⟩ := hok' b _ (un.frzs b ob _ z)
              obtain ⟨e1, _⟩ := hok b _ z
              rw [e] at e1
              cases e1
              exact e2
  cases hk : K.lookup a with
  | some o =>
    have e := kin a o hk
    rw [ha] at e
    cases e
    have hz : vs.toArray.size ≤ sizeLine := by rw [List.size_toArray, lenV]; exact hl
    exact main (fun _ => none) (fun _ => .inl rfl) (.inr ⟨_, vs.toArray, _, hk, rfl, rfl, rfl, hz, by simpa using rv⟩) (fun b u z => by cases (show (none : Option HO) = some u from z)) (fun b z => absurd rfl z) fun z => absurd rfl z
  | none =>
    refine main (fun b => if b = a then some (.frz { cls := .type "list", data := .seq vs.toArray } (.lst (ns.map V.int))) else none) (fun b => ?_) (.inl (.inr ⟨_, if_pos rfl⟩)) (fun b u z => ?_) (fun b z => ?_) fun _ => hk
    · by_cases hb : b = a
      · exact .inr ⟨_, _, if_pos hb⟩
      · exact .inl (if_neg hb)
    · by_cases hb : b = a
      · have z' := (if_pos hb).symm.trans z
        cases z'
        subst hb
        exact ⟨ha, by rw [List.length_map]; exact hl, vs, _, rv, ha⟩
      · cases (if_neg hb).symm.trans z
    · by_cases hb : b = a
      · exact hb
      · exact absurd (if_neg hb) z
theorem walk_G {l : PySem.W.OpenLaw} {n k : Nat} {q : Program} {loose : List Str} {XP : (Str → Option Value) → Heap → Prop} {YP : World → Heap → Prop} {d : DefRec} {x : Str} {sem : Gfn} (hn : l.most = some n) (hn2 : n ≤ sizeLine) (hdf : d.params.defaults = []) (hr : Room k callerA)
    (F : ∀ (w : World) (mg : Str → Option Value) (fa : Addr) (h : Heap), YP w h → h.Ns mainGlobals mg → mg d.name = some (.ref fa) →
      ∃ (K : PySem.W.Frag) (fd : FuncData), K.In h ∧ (∀ (s : Shared) (u : Value), BindsTo s fd ⟨[u], []⟩ [(x, u)]) ∧ ∀ base : Heap, K.In base → base.Ns mainGlobals mg → FnG l.prog w K mg base k fa fd [x] sem)
    (hsem : ∀ ns : List Int, ns.length ≤ n → ∃ rs, sem [.scr ns] = some (.lf (.bool true), rs)) : PySem.W.WalkO q loose XP YP l.row.toRowW d [] (fun f vs => PySem.call f vs) := by
  refine Att.attach_call hn hdf fun w s₀ s1 mg mb fa o pm cd doc a vs ns G Y ho hd hcd hmg hobj hints hlen hg => ?_
  obtain ⟨K, fd, KX, hb, hF⟩ := F w mg fa _ Y G.T.g hmg
  exact law_callG KX G.T.g G.T.b G.T.builtins G.T.nolimit hg hobj hints (Nat.le_trans hlen hn2) hr hF hb (hsem ns hlen)
end Fw
namespace Fw
open PySem PySem.Spec PyProof.Rows L2
def slor {X : Cx} {r r' : V → Option Int → Option Int → Hp → VK → Prop} (h : SlR X r) (h' : SlR X r') : SlR X (fun x lo hi H Q => r x lo hi H Q ∨ r' x lo hi H Q) := by
  intro pins s σ H x v vl vu lo hi sl Q I rx hs pl pu q
  rcases q with q | q
  · exact h pins s σ H x v vl vu lo hi sl Q I rx hs pl pu q
  · exact h' pins s σ H x v vl vu lo hi sl Q I rx hs pl pu q
section
variable {X : Cx} {a e : Expr} {ga : Gd} {pos p p2 : Pos}
theorem pv_slA {lo hi : Option Expr} {ol oh : List Sl → Option (Option Int)} (ha : PE X a (tPV X.K ga)) (hl : PO X lo (tPart' X.K ol)) (hh : PO X hi (tPart' X.K oh)) : PE X (.Subscript a (.Slice lo hi none p2) pos) (tPV X.K (gSlA ga ol oh)) :=
  pe_imp (pe_slice (slor sl_tupA sl_list) ha hl hh) fun σ H Q ⟨G, env, Os, d, F, hg, q⟩ => by
    obtain ⟨x, e1, hg⟩ := Option.bind_eq_some_iff.mp hg
    obtain ⟨l, e2, hg⟩ := Option.bind_eq_some_iff.mp hg
    obtain ⟨u, e3, hg⟩ := Option.bind_eq_some_iff.mp hg
    refine ⟨G, env, Os, x, F, e1, fun v G1 H1 a1 d1 => ⟨G1, env, Os, l, F.grow a1, e2, fun G2 H2 a2 => ⟨G2, env, Os, u, (F.grow a1).grow a2, e3, fun G3 H3 a3 => ?_⟩⟩⟩
    have q' := q.grow ((a1.trans a2).trans a3)
    split at hg
    · cases hg
      cases d1 with
      | tup h1 k1 =>
        have g3 := (a2.trans a3).g _ _ h1
        have k3 := dqAll_mono (a2.trans a3).g k1
        refine .inl ⟨_, _, rfl, SqT.of (a3.le _ _ g3), fun z => ?_, fun _ p hp => q'.tup a3.le hp (dqAll_cut k3 l u)⟩
        rw [k3.length] at z
        rw [cut_all z] at q'
        exact q'.here a3.le (.tup g3 k3)
    · cases hg
      cases d1 with
      | lst h1 k1 =>
        have g3 := (a2.trans a3).g _ _ h1
        have k3 := dqAll_mono (a2.trans a3).g k1
        exact .inr ⟨_, _, rfl, SqL.of (a3.le _ _ g3), fun p hp => q'.lst a3.le hp (dqAll_cut k3 l u)⟩
    · cases hg
/-- list(x), tuple(x) of a list or a tuple -/
theorem fl_listA (hg : Gl X "list") (hm : X.mg "list" = none) (ha : PE X e (tPV X.K ga)) (he : starEach [e] X.env = (false, eval e X.env) :: starEach [] X.env := by rfl) : PE X (.Call (.Name "list" p) [e] [] pos) (tFL X.K (gSeq ga)) :=
  pe_imp (pe_callTy call_list_of hg hm boot_list (pa_cons ha pa_nil he) (by decide) (by decide) he) fun σ H Q ⟨G, env, Os, ds, F, hg, q⟩ => by
    obtain ⟨d, e1, e2⟩ := Option.bind_eq_some_iff.mp hg
    refine ⟨G, env, Os, d, F, e1, fun v G1 H1 a1 d1 => ?_⟩
    obtain ⟨b, a, vs, rfl, h1, h2⟩ := seq_of d1 e2
    have s := h1.sq (K := X.K) a1.le
    refine ⟨a, vs, rfl, ?_, fun l hl => (q.grow a1).new a1.le hl h2⟩
    cases b with
    | true => exact .inl s
    | false => exact .inr s
def gTupA (ga : Gd) : Gd := fun env => (gSeq ga env).map .tuple
theorem pv_tupA (hg : Gl X "tuple") (hm : X.mg "tuple" = none) (ha : PE X e (tPV X.K ga)) (he : starEach [e] X.env = (false, eval e X.env) :: starEach [] X.env := by rfl) : PE X (.Call (.Name "tuple" p) [e] [] pos) (tPV X.K (gTupA ga)) :=
  pe_imp (pe_callTy call_tuple_of hg hm boot_tuple (pa_cons ha pa_nil he) (by decide) (by decide) he) fun σ H Q ⟨G, env, Os, d', F, hg, q⟩ => by
    obtain ⟨ds, e0, rfl⟩ := Option.map_eq_some_iff.mp hg
    obtain ⟨d, e1, e2⟩ := Option.bind_eq_some_iff.mp e0
    refine ⟨G, env, Os, d, F, e1, fun v G1 H1 a1 d1 => ?_⟩
    obtain ⟨b, a, vs, rfl, h1, h2⟩ := seq_of d1 e2
    have s := h1.sq (K := X.K) a1.le
    refine ⟨a, vs, rfl, ?_⟩
    cases b with
    | true => exact .inl ⟨s, fun l hl => (q.grow a1).tup a1.le hl h2⟩
    | false => exact .inr ⟨s, (q.grow a1).here a1.le (.tup h1 h2)⟩
end
end Fw
namespace Fw
open PySem PySem.Spec PyProof.Rows L2
def gL (g : Gs) : Gd := fun env => (g env).map .list
def tP (g : List Sl → Option Bool) : Gt := fun env => (g env).map fun b => (b, env)
def b_is_list : Gst := (sRet (dE (pX (gIs2 "list" "tuple" (gVar 0)))))
def q_is_list : Gfn := sFn 1 1 [false] b_is_list
def b_is_integer : Gst := (sRet (dE (pX (gAndV (gIs "int" (gVar 0)) (gNotV (gIs "bool" (gVar 0)))))))
def q_is_integer : Gfn := sFn 1 1 [false] b_is_integer
def b_is_between : Gst := (sRet (dE (pX (gAndV (gCallD (gCons (gVar 0) gNil) q_is_integer) (gCh (gCmpI (fun i j => decide (i ≤ j))) (gCmpI (fun i j => decide (i ≤ j))) (gVar 1) (gVar 0) (gVar 2))))))
def q_is_between : Gfn := sFn 3 3 [false, false, false] b_is_between
def b_many_is_right : Gst := (sRet (eCallD (xCons (pX (gVar 0)) (xCons (pX (fun _ => some (.int 2))) (xCons (pX (fun _ => some (.int 7))) xNil))) q_is_between))
def q_many_is_right : Gfn := sFn 1 1 [false] b_many_is_right
def b_window_is_right : Gst := (sRet (dE (pX (gAndV (gIs "tuple" (gVar 1)) (gAndV (g2 gEq (gA gLen (gCons (gVar 1) gNil)) (fun _ => some (.int 2))) (gA gAll (gCons (gL (gLc [2] (gSeq (gVar 1)) (nmN 2) gYes (gCallD (gCons (gVar 2) (gCons (fun _ => some (.int 1)) (gCons (g2 gSub (gVar 0) (fun _ => some (.int 1))) gNil))) q_is_between))) gNil)))))))
def q_window_is_right : Gfn := sFn 2 3 [false, false] b_window_is_right
def b_all_rows : Gst := (sSeq (sAsg 1 (dE (pX (gL (gLst (gCons (gTup gNil) gNil)))))) (sSeq (sFor (xRng1 (pX (gVar 0))) (nmN 2) (sSeq (sAsg 3 (fE (gLst gNil))) (sSeq (sFor (xSeq (pX (gVar 1))) (nmN 4) (sExt 3 (gLc [5] (gRng1 (gVar 0)) (nmN 5) (asB (g2 (gIn true) (gVar 5) (gVar 4))) (g2 gAdd (gVar 4) (gTup (gCons (gVar 5) gNil)))))) (sAsg 1 (dE (gFrz 3)))))) (sRet (dE (pX (gVar 1))))))
def q_all_rows : Gfn := sFn 1 6 [false] b_all_rows
def b_window_count : Gst := (sRet (dE (pX (gA gLen (gCons (gL (gLc [3] (gSeq (gSlA (gVar 0) (fun _ => some none) (asInt (gVar 1)))) (nmN 3) (asB (g2 (gCmpI (fun i j => decide (j ≤ i))) (gVar 3) (gVar 2))) (gVar 3))) gNil)))))
def q_window_count : Gfn := sFn 3 4 [false, false, false] b_window_count
def b_is_bound : Gst := (sSeq (sIf (tP (gOrT (gNotT (asB (gIs "tuple" (gVar 1)))) (asB (g2 gNe (gA gLen (gCons (gVar 1) gNil)) (fun _ => some (.int 3)))))) (sRet (dE (pX (fun _ => some (.bool false))))) sNil) (sRet (dE (pX (gAndV (gCallD (gCons (gVar 0) (gCons (gSlA (gVar 1) (fun _ => some none) (asInt (fun _ => some (.int 2)))) gNil)) q_window_is_right) (gCallD (gCons (g2 gIx (gVar 1) (fun _ => some (.int 2))) (gCons (fun _ => some (.int 0)) (gCons (fun _ => some (.int 7)) gNil))) q_is_between))))))
def q_is_bound : Gfn := sFn 2 2 [false, false] b_is_bound
def b_bounds_are_right : Gst := (sRet (dE (pX (gAndV (gCallD (gCons (gVar 1) gNil) q_is_list) (gAndV (g2 (gCmpI (fun i j => decide (i ≤ j))) (gA gLen (gCons (gVar 1) gNil)) (fun _ => some (.int 20))) (gA gAll (gCons (gL (gLc [2] (gSeq (gVar 1)) (nmN 2) gYes (gCallD (gCons (gVar 0) (gCons (gVar 2) gNil)) q_is_bound))) gNil)))))))
def q_bounds_are_right : Gfn := sFn 2 3 [false, false] b_bounds_are_right
def b_bad_by : Gst := (sSeq (sAsg 1 (dE (pX (gL (gLc [2, 3, 4] (gSeq (gVar 0)) (nmTup 3 (nmCons (nmN 2) (nmCons (nmN 3) (nmCons (nmN 4) nmNil)))) (asB (g2 (gCmpI (fun i j => decide (i < j))) (gVar 4) (g2 gSub (gVar 2) (gVar 3)))) (gTup (gCons (gVar 2) (gCons (gVar 3) (gCons (gVar 4) gNil))))))))) (sRet (dE (pX (gIf (asB (g2 gNe (gVar 1) (gL (gLst gNil)))) (g2 gIx (gVar 1) (fun _ => some (.int 0))) (fun _ => some .none))))))
def q_bad_by : Gfn := sFn 1 5 [false] b_bad_by
def b_bad_floor_by : Gst := (sSeq (sAsg 2 (dE (pX (gL (gLc [3, 4, 5] (gSeq (gVar 1)) (nmTup 3 (nmCons (nmN 3) (nmCons (nmN 4) (nmCons (nmN 5) nmNil)))) (gOrT (asB (g2 (gCmpI (fun i j => decide (j < i))) (gVar 5) (gVar 3))) (asB (g2 (gCmpI (fun i j => decide (j < i))) (gVar 5) (g2 gSub (gVar 0) (gVar 4))))) (gTup (gCons (gVar 3) (gCons (gVar 4) (gCons (gVar 5) gNil))))))))) (sRet (dE (pX (gIf (asB (g2 gNe (gVar 2) (gL (gLst gNil)))) (g2 gIx (gVar 2) (fun _ => some (.int 0))) (fun _ => some .none))))))
def q_bad_floor_by : Gfn := sFn 2 6 [false, false] b_bad_floor_by
def b_top_at : Gst := (sRet (dE (pX (gA gMinL (gCons (g2 gAdd (gL (gLst (gCons (gVar 2) (gCons (g2 gSub (gVar 0) (gVar 3)) gNil)))) (gL (gLc [4, 5, 6] (gSeq (gVar 1)) (nmTup 3 (nmCons (nmN 4) (nmCons (nmN 5) (nmCons (nmN 6) nmNil)))) gYes (g2 gAdd (g2 gAdd (gVar 6) (gA gMax2 (gCons (fun _ => some (.int 0)) (gCons (g2 gSub (gVar 2) (gVar 4)) gNil)))) (gA gMax2 (gCons (fun _ => some (.int 0)) (gCons (g2 gSub (gVar 5) (gVar 3)) gNil))))))) gNil)))))
def q_top_at : Gfn := sFn 4 7 [false, false, false, false] b_top_at
def b_bottom_at : Gst := (sRet (dE (pX (gA gMaxL (gCons (g2 gAdd (gL (gLst (gCons (fun _ => some (.int 0)) (gCons (g2 gSub (gVar 2) (gVar 3)) gNil)))) (gL (gLc [4, 5, 6] (gSeq (gVar 1)) (nmTup 3 (nmCons (nmN 4) (nmCons (nmN 5) (nmCons (nmN 6) nmNil)))) gYes (g2 gSub (g2 gSub (gVar 6) (gA gMax2 (gCons (fun _ => some (.int 0)) (gCons (g2 gSub (gVar 4) (gVar 2)) gNil)))) (gA gMax2 (gCons (fun _ => some (.int 0)) (gCons (g2 gSub (gVar 3) (gVar 5)) gNil))))))) gNil)))))
def q_bottom_at : Gfn := sFn 4 7 [false, false, false, false] b_bottom_at
def b_keeps_all : Gst := (sRet (dE (pX (gA gAll (gCons (gL (gLc [2, 3, 4] (gSeq (gVar 1)) (nmTup 3 (nmCons (nmN 2) (nmCons (nmN 3) (nmCons (nmN 4) nmNil)))) gYes (g2 (gCmpI (fun i j => decide (i ≤ j))) (gCallD (gCons (gVar 0) (gCons (gVar 2) (gCons (gVar 3) gNil))) q_window_count) (gVar 4)))) gNil)))))
def q_keeps_all : Gfn := sFn 2 5 [false, false] b_keeps_all
def b_keeps_up : Gst := (sRet (dE (pX (gA gAll (gCons (gL (gLc [2, 3, 4] (gSeq (gVar 1)) (nmTup 3 (nmCons (nmN 2) (nmCons (nmN 3) (nmCons (nmN 4) nmNil)))) gYes (g2 (gCmpI (fun i j => decide (j ≤ i))) (gCallD (gCons (gVar 0) (gCons (gVar 2) (gCons (gVar 3) gNil))) q_window_count) (gVar 4)))) gNil)))))
def q_keeps_up : Gfn := sFn 2 5 [false, false] b_keeps_up
def b_quarrels : Gst := (sSeq (sAsgT (pX (gVar 0)) (nTup 3 (nCons (nName 2) (nCons (nName 3) (nCons (nName 4) nNil))))) (sSeq (sAsgT (pX (gVar 1)) (nTup 3 (nCons (nName 5) (nCons (nName 6) (nCons (nName 7) nNil))))) (sRet (dE (pX (g2 (gCmpI (fun i j => decide (j < i))) (g2 gSub (g2 gSub (gVar 4) (gA gMax2 (gCons (fun _ => some (.int 0)) (gCons (g2 gSub (gVar 2) (gVar 5)) gNil)))) (gA gMax2 (gCons (fun _ => some (.int 0)) (gCons (g2 gSub (gVar 6) (gVar 3)) gNil)))) (gVar 7)))))))
def q_quarrels : Gfn := sFn 2 8 [false, false] b_quarrels
def b_check_many_bounds : Gst := (sSeq (sIf (tP (gNotT (asB (gCallD (gCons (gVar 0) gNil) q_many_is_right)))) sNot sNil) (sIf (tP (gNotT (asB (gCallD (gCons (gVar 0) (gCons (gVar 1) gNil)) q_bounds_are_right)))) sNot sNil))
def q_check_many_bounds : Gfn := sFn 2 2 [false, false] b_check_many_bounds
def b_check_many_floors : Gst := (sSeq (sIf (tP (gNotT (asB (gCallD (gCons (gVar 0) gNil) q_many_is_right)))) sNot sNil) (sIf (tP (gNotT (asB (gCallD (gCons (gVar 0) (gCons (gVar 1) gNil)) q_bounds_are_right)))) sNot sNil))
def q_check_many_floors : Gfn := sFn 2 2 [false, false] b_check_many_floors
def b_check_some_row : Gst := (sSeq (sPar2 3 4 (eCons (dE (pX (gCallD (gCons (gVar 0) (gCons (gVar 1) gNil)) q_bad_floor_by))) (eCons (dE (pX (gCallD (gCons (gVar 2) gNil) q_bad_by))) eNil))) (sSeq (sIf (tP (asB (gIsN true (gVar 3)))) sNot sNil) (sIf (tP (asB (gIsN true (gVar 4)))) sNot sNil)))
def q_check_some_row : Gfn := sFn 3 5 [false, false, false] b_check_some_row
def b_check_kept : Gst := (sSeq (sDrop (pX (gCallD (gCons (gVar 0) (gCons (gVar 1) gNil)) q_check_many_bounds))) (sDrop (pX (gCallD (gCons (gVar 0) (gCons (gL (gLst gNil)) (gCons (gVar 1) gNil))) q_check_some_row))))
def q_check_kept : Gfn := sFn 2 2 [false, false] b_check_kept
def b_check_kept_floors : Gst := (sSeq (sDrop (pX (gCallD (gCons (gVar 0) (gCons (gVar 1) gNil)) q_check_many_floors))) (sDrop (pX (gCallD (gCons (gVar 0) (gCons (gVar 1) (gCons (gL (gLst gNil)) gNil))) q_check_some_row))))
def q_check_kept_floors : Gfn := sFn 2 2 [false, false] b_check_kept_floors
def b_check_both : Gst := (sSeq (sDrop (pX (gCallD (gCons (gVar 0) (gCons (gVar 1) gNil)) q_check_many_floors))) (sSeq (sDrop (pX (gCallD (gCons (gVar 0) (gCons (gVar 2) gNil)) q_check_many_bounds))) (sDrop (pX (gCallD (gCons (gVar 0) (gCons (gVar 1) (gCons (gVar 2) gNil))) q_check_some_row)))))
def q_check_both : Gfn := sFn 3 3 [false, false, false] b_check_both
def b_top_table : Gst := (sSeq (sDrop (pX (gCallD (gCons (gVar 0) (gCons (gVar 1) gNil)) q_check_kept))) (sRet (fE (gLc [2] (gRng2 (fun _ => some (.int 1)) (gVar 0)) (nmN 2) gYes (gL (gLc [3] (gRng2 (fun _ => some (.int 1)) (gVar 0)) (nmN 3) gYes (gCallD (gCons (gVar 0) (gCons (gVar 1) (gCons (gVar 2) (gCons (gVar 3) gNil)))) q_top_at)))))))
def q_top_table : Gfn := sFn 2 4 [false, false] b_top_table
def b_bottom_table : Gst := (sSeq (sDrop (pX (gCallD (gCons (gVar 0) (gCons (gVar 1) gNil)) q_check_kept_floors))) (sRet (fE (gLc [2] (gRng2 (fun _ => some (.int 1)) (gVar 0)) (nmN 2) gYes (gL (gLc [3] (gRng2 (fun _ => some (.int 1)) (gVar 0)) (nmN 3) gYes (gCallD (gCons (gVar 0) (gCons (gVar 1) (gCons (gVar 2) (gCons (gVar 3) gNil)))) q_bottom_at)))))))
def q_bottom_table : Gfn := sFn 2 4 [false, false] b_bottom_table
def b_rows_kept_both : Gst := (sSeq (sDrop (pX (gCallD (gCons (gVar 0) (gCons (gVar 1) (gCons (gVar 2) gNil))) q_check_both))) (sRet (fE (gLc [3] (gSeq (gCallD (gCons (gVar 0) gNil) q_all_rows)) (nmN 3) (gAndT (asB (gCallD (gCons (gVar 3) (gCons (gVar 1) gNil)) q_keeps_up)) (asB (gCallD (gCons (gVar 3) (gCons (gVar 2) gNil)) q_keeps_all))) (gVar 3)))))
def q_rows_kept_both : Gfn := sFn 3 4 [false, false, false] b_rows_kept_both
def b_floor_quarrel : Gst := (sSeq (sDrop (pX (gCallD (gCons (gVar 0) (gCons (gVar 1) (gCons (gVar 2) gNil))) q_check_both))) (sSeq (sFor (xSeq (pX (gVar 1))) (nmN 3) (sSeq (sAsg 4 (dE (pX (gL (gLc [5] (gSeq (gVar 2)) (nmN 5) (asB (gCallD (gCons (gVar 3) (gCons (gVar 5) gNil)) q_quarrels)) (gVar 5)))))) (sIf (tP (asB (g2 gNe (gVar 4) (gL (gLst gNil))))) (sRet (dE (pX (gTup (gCons (gVar 3) (gCons (g2 gIx (gVar 4) (fun _ => some (.int 0))) gNil)))))) sNil))) (sRet (dE (pX (fun _ => some .none))))))
def q_floor_quarrel : Gfn := sFn 3 6 [false, false, false] b_floor_quarrel
def b_law_pot : Gst := (sSeq (sAsg 2 (dE (pX (g2 gAdd (g2 gAdd (g2 gMul (fun _ => some (.int 839)) (gVar 1)) (fun _ => some (.int 431))) (g2 gMod (gA gInt (gCons (gA gAbs (gCons (gA gSum (gCons (gL (gScSl 0 (fun _ => some none) (asInt (fun _ => some (.int 1))))) gNil)) gNil)) gNil)) (fun _ => some (.int 1000003))))))) (sSeq (sAsg 3 (dE (pX (gIf (asB (g2 (gCmpI (fun i j => decide (i < j))) (gVar 1) (gScLen 0))) (gA gAbs (gCons (gScIx 0 (gVar 1)) gNil)) (gVar 2))))) (sRet (fE (gLst (gCons (gA gMax2 (gCons (fun _ => some (.int 0)) (gCons (g2 gSub (gVar 3) (g2 gPow (fun _ => some (.int 10)) (fun _ => some (.int 18)))) gNil))) (gCons (g2 gAdd (g2 gMod (gA gInt (gCons (g2 gAdd (g2 gAdd (g2 gMul (g2 gMod (gA gInt (gCons (gVar 3) gNil)) (fun _ => some (.int 2147483579))) (fun _ => some (.int 40127))) (g2 gMul (fun _ => some (.int 6329)) (gVar 1))) (fun _ => some (.int 431))) gNil)) (fun _ => some (.int 2147483563))) (fun _ => some (.int 1))) gNil)))))))
def q_law_pot : Gfn := sFn 2 4 [false, false] b_law_pot
def b_law_draw : Gst := (sSeq (sIf (tP (asB (g2 (gCmpI (fun i j => decide (j < i))) (gIxL (gLs 0) (fun _ => some (.int 0))) (fun _ => some (.int 0))))) (sSeq (sAsg 2 (dE (pX (g2 gMod (gA gInt (gCons (gIxL (gLs 0) (fun _ => some (.int 0))) gNil)) (gVar 1))))) (sSeq (sAsgT (pX (g2 gFdiv (gA gInt (gCons (gIxL (gLs 0) (fun _ => some (.int 0))) gNil)) (gVar 1))) (nSub 0 (fun _ => some (.int 0)))) (sRet (dE (pX (gVar 2)))))) sNil) (sSeq (sAsgT (pX (g2 gMod (gA gInt (gCons (g2 gAdd (g2 gMul (gIxL (gLs 0) (fun _ => some (.int 1))) (fun _ => some (.int 40127))) (fun _ => some (.int 6329))) gNil)) (fun _ => some (.int 2147483587)))) (nSub 0 (fun _ => some (.int 1)))) (sRet (dE (pX (g2 gMod (gA gInt (gCons (g2 gFdiv (g2 gMod (gA gInt (gCons (g2 gMul (gIxL (gLs 0) (fun _ => some (.int 1))) (gIxL (gLs 0) (fun _ => some (.int 1)))) gNil)) (fun _ => some (.int 2147483549))) (fun _ => some (.int 23))) gNil)) (gVar 1)))))))
def q_law_draw : Gfn := sFn 2 3 [true, false] b_law_draw
def b_law_pick : Gst := (sRet (dE (x2 gIx (pX (gVar 1)) (eD (eCallR [some 0, none] (aR 0 (aD (pX (gA gLen (gCons (gVar 1) gNil))) aNil)) q_law_draw)))))
def q_law_pick : Gfn := sFn 2 2 [true, false] b_law_pick
def q_law_same : Nat → Gfn
  | 0 => fun _ => none
  | n + 1 => sFn 2 4 [false, false] (sSeq (sIf (tP (asB (gIsN false (gVar 1)))) (sRet (dE (pX (gIsN false (gVar 0))))) sNil) (sSeq (sIf (tP (asB (gIs "bool" (gVar 1)))) (sRet (dE (pX (gAndV (gIs "bool" (gVar 0)) (g2 gEq (gVar 0) (gVar 1)))))) sNil) (sSeq (sIf (tP (asB (gIs "str" (gVar 1)))) (sRet (dE (pX (gAndV (gIs "str" (gVar 0)) (g2 gEq (gVar 0) (gVar 1)))))) sNil) (sSeq (sIf (tP (asB (gIs "int" (gVar 1)))) (sRet (dE (pX (gAndV (gIs "int" (gVar 0)) (gAndV (gNotV (gIs "bool" (gVar 0))) (g2 gEq (gVar 0) (gVar 1))))))) sNil) (sSeq (sIf (tP (asB (gIs "tuple" (gVar 1)))) (sSeq (sIf (tP (gOrT (gNotT (asB (gIs "tuple" (gVar 0)))) (asB (g2 gNe (gA gLen (gCons (gVar 0) gNil)) (gA gLen (gCons (gVar 1) gNil)))))) (sRet (dE (pX (fun _ => some (.bool false))))) sNil) (sRet (dE (pX (gA gAll (gCons (gL (gLc [2, 3] (gZ2 (gVar 0) (gVar 1)) (nmTup 2 (nmCons (nmN 2) (nmCons (nmN 3) nmNil))) gYes (gCallD (gCons (gVar 2) (gCons (gVar 3) gNil)) (q_law_same n)))) gNil)))))) sNil) (sSeq (sIf (tP (asB (gIs "list" (gVar 1)))) (sSeq (sIf (tP (gOrT (gNotT (asB (gIs "list" (gVar 0)))) (asB (g2 gNe (gA gLen (gCons (gVar 0) gNil)) (gA gLen (gCons (gVar 1) gNil)))))) (sRet (dE (pX (fun _ => some (.bool false))))) sNil) (sRet (dE (pX (gA gAll (gCons (gL (gLc [2, 3] (gZ2 (gVar 0) (gVar 1)) (nmTup 2 (nmCons (nmN 2) (nmCons (nmN 3) nmNil))) gYes (gCallD (gCons (gVar 2) (gCons (gVar 3) gNil)) (q_law_same n)))) gNil)))))) sNil) (sRet (dE (pX (g2 gEq (gVar 0) (gVar 1)))))))))))
def b_law_count : Gst := (sRet (dE (pX (gA gLen (gCons (gL (gLc [3] (gSeq (gSlA (gVar 0) (fun _ => some none) (asInt (gVar 1)))) (nmN 3) (asB (g2 (gCmpI (fun i j => decide (j ≤ i))) (gVar 3) (gVar 2))) (gVar 3))) gNil)))))
def q_law_count : Gfn := sFn 3 4 [false, false, false] b_law_count
def b_law_rows : Gst := (sSeq (sAsg 1 (dE (pX (gL (gLst (gCons (gTup gNil) gNil)))))) (sSeq (sFor (xRng1 (pX (gVar 0))) (nmN 2) (sSeq (sAsg 3 (fE (gLst gNil))) (sSeq (sFor (xSeq (pX (gVar 1))) (nmN 4) (sExt 3 (gLc [5] (gRng1 (gVar 0)) (nmN 5) (asB (g2 (gIn true) (gVar 5) (gVar 4))) (g2 gAdd (gVar 4) (gTup (gCons (gVar 5) gNil)))))) (sAsg 1 (dE (gFrz 3)))))) (sRet (dE (pX (gVar 1))))))
def q_law_rows : Gfn := sFn 1 6 [false] b_law_rows
def b_law_bounds : Gst := (sSeq (sAsg 2 (fE (gLst gNil))) (sSeq (sFor (xRng1 (eD (eCallR [some 0, none] (aR 0 (aD (pX (fun _ => some (.int 5))) aNil)) q_law_draw))) (nmN 3) (sSeq (sPar2 4 5 (eCons (dE (x2 gAdd (pX (fun _ => some (.int 1))) (eD (eCallR [some 0, none] (aR 0 (aD (pX (g2 gSub (gVar 1) (fun _ => some (.int 1)))) aNil)) q_law_draw)))) (eCons (dE (x2 gAdd (pX (fun _ => some (.int 1))) (eD (eCallR [some 0, none] (aR 0 (aD (pX (g2 gSub (gVar 1) (fun _ => some (.int 1)))) aNil)) q_law_draw)))) eNil))) (sApp 2 (dE (xTup (xCons (pX (gVar 4)) (xCons (pX (gVar 5)) (xCons (x2 gSub (x2 gAdd (pX (gA gMax2 (gCons (fun _ => some (.int 0)) (gCons (g2 gSub (gVar 4) (gVar 5)) gNil)))) (eD (eCallR [some 0, none] (aR 0 (aD (pX (fun _ => some (.int 3))) aNil)) q_law_draw))) (xA gInt (xCons (xAnd (x2 gEq (eD (eCallR [some 0, none] (aR 0 (aD (pX (fun _ => some (.int 6))) aNil)) q_law_draw)) (pX (fun _ => some (.int 0)))) (pX (g2 (gCmpI (fun i j => decide (j < i))) (gVar 4) (gVar 5)))) xNil))) xNil)))))))) (sRet (gMv 2))))
def q_law_bounds : Gfn := sFn 2 6 [true, false] b_law_bounds
def b_law_keeps : Gst := (sRet (dE (pX (gA gAll (gCons (gL (gLc [2, 3, 4] (gSeq (gVar 1)) (nmTup 3 (nmCons (nmN 2) (nmCons (nmN 3) (nmCons (nmN 4) nmNil)))) gYes (g2 (gCmpI (fun i j => decide (i ≤ j))) (gCallD (gCons (gVar 0) (gCons (gVar 2) (gCons (gVar 3) gNil))) q_law_count) (gVar 4)))) gNil)))))
def q_law_keeps : Gfn := sFn 2 5 [false, false] b_law_keeps
def b_law_holds : Gst := (sRet (dE (pX (gA gAll (gCons (gL (gLc [2, 3, 4] (gSeq (gVar 1)) (nmTup 3 (nmCons (nmN 2) (nmCons (nmN 3) (nmCons (nmN 4) nmNil)))) gYes (g2 (gCmpI (fun i j => decide (j ≤ i))) (gCallD (gCons (gVar 0) (gCons (gVar 2) (gCons (gVar 3) gNil))) q_law_count) (gVar 4)))) gNil)))))
def q_law_holds : Gfn := sFn 2 5 [false, false] b_law_holds
def b_law_quarrel : Gst := (sSeq (sFor (xSeq (pX (gVar 0))) (nmTup 3 (nmCons (nmN 2) (nmCons (nmN 3) (nmCons (nmN 4) nmNil)))) (sFor (xSeq (pX (gVar 1))) (nmTup 3 (nmCons (nmN 5) (nmCons (nmN 6) (nmCons (nmN 7) nmNil)))) (sIf (tP (asB (g2 (gCmpI (fun i j => decide (j < i))) (g2 gSub (g2 gSub (gVar 4) (gA gMax2 (gCons (fun _ => some (.int 0)) (gCons (g2 gSub (gVar 2) (gVar 5)) gNil)))) (gA gMax2 (gCons (fun _ => some (.int 0)) (gCons (g2 gSub (gVar 6) (gVar 3)) gNil)))) (gVar 7)))) (sRet (dE (pX (gTup (gCons (gTup (gCons (gVar 2) (gCons (gVar 3) (gCons (gVar 4) gNil)))) (gCons (gTup (gCons (gVar 5) (gCons (gVar 6) (gCons (gVar 7) gNil)))) gNil)))))) sNil))) (sRet (dE (pX (fun _ => some .none)))))
def q_law_quarrel : Gfn := sFn 2 8 [false, false] b_law_quarrel
def b_law_right : Gst := (sSeq (sAsg 1 (dE (x2 gAdd (pX (fun _ => some (.int 2))) (eD (eCallR [some 0, none] (aR 0 (aD (pX (fun _ => some (.int 4))) aNil)) q_law_draw))))) (sSeq (sAsg 2 (dE (pX (gCallD (gCons (gVar 1) gNil) q_law_rows)))) (sSeq (sAsg 3 (dE (eD (eLc [14, 15, 16] (xSeq (eD (eCallR [some 0, none] (aR 0 (aD (pX (gVar 1)) aNil)) q_law_bounds))) (nmTup 3 (nmCons (nmN 14) (nmCons (nmN 15) (nmCons (nmN 16) nmNil)))) tYesE (dE (pX (gTup (gCons (gVar 14) (gCons (gVar 15) (gCons (gA gMax2 (gCons (fun _ => some (.int 0)) (gCons (gA gMin3 (gCons (gVar 14) (gCons (g2 gSub (gVar 1) (gVar 15)) (gCons (gVar 16) gNil)))) gNil))) gNil)))))))))) (sSeq (sAsg 4 (dE (eD (eLc [14, 15, 16] (xSeq (eD (eCallR [some 0, none] (aR 0 (aD (pX (gVar 1)) aNil)) q_law_bounds))) (nmTup 3 (nmCons (nmN 14) (nmCons (nmN 15) (nmCons (nmN 16) nmNil)))) tYesE (dE (pX (gTup (gCons (gVar 14) (gCons (gVar 15) (gCons (gA gMax3 (gCons (fun _ => some (.int 0)) (gCons (g2 gSub (gVar 14) (gVar 15)) (gCons (gVar 16) gNil)))) gNil)))))))))) (sSeq (sIf (xT (x2 gEq (eD (eCallR [some 0, none] (aR 0 (aD (pX (fun _ => some (.int 2))) aNil)) q_law_draw)) (pX (fun _ => some (.int 0))))) (sSeq (sAsg 5 (dE (eD (eCallR [some 0, none] (aR 0 (aD (pX (gVar 2)) aNil)) q_law_pick)))) (sSeq (sAsg 3 (dE (pX (gL (gLc [14, 15, 16] (gSeq (gVar 3)) (nmTup 3 (nmCons (nmN 14) (nmCons (nmN 15) (nmCons (nmN 16) nmNil)))) gYes (gTup (gCons (gVar 14) (gCons (gVar 15) (gCons (gCallD (gCons (gVar 5) (gCons (gVar 14) (gCons (gVar 15) gNil))) q_law_count) gNil))))))))) (sAsg 4 (dE (pX (gL (gLc [14, 15, 16] (gSeq (gVar 4)) (nmTup 3 (nmCons (nmN 14) (nmCons (nmN 15) (nmCons (nmN 16) nmNil)))) gYes (gTup (gCons (gVar 14) (gCons (gVar 15) (gCons (gA gMax2 (gCons (g2 gSub (gVar 14) (gVar 15)) (gCons (gCallD (gCons (gVar 5) (gCons (gVar 14) (gCons (gVar 15) gNil))) q_law_count) gNil))) gNil))))))))))) sNil) (sSeq (sPar2 6 7 (eCons (dE (pX (gA gRepr (gCons (gL (gLst (gCons (gVar 3) (gCons (gVar 4) gNil)))) gNil)))) (eCons (dE (pX (gCallD (gCons (gVar 3) (gCons (gVar 4) gNil)) q_law_quarrel))) eNil))) (sSeq (sAsg 8 (dE (pX (gL (gLc [17] (gSeq (gVar 2)) (nmN 17) (gAndT (asB (gCallD (gCons (gVar 17) (gCons (gVar 4) gNil)) q_law_keeps)) (asB (gCallD (gCons (gVar 17) (gCons (gVar 3) gNil)) q_law_holds))) (gVar 17)))))) (sSeq (sAsg 9 (eCallD (xCons (pX (gVar 1)) (xCons (pX (gL (gSeq (gVar 3)))) (xCons (pX (gL (gSeq (gVar 4)))) xNil))) q_rows_kept_both)) (sSeq (sIf (tP (gOrT (gNotT (asB (gCallP (gCons (gL (gLst (gCons (gCallD (gCons (gVar 1) (gCons (gL (gSeq (gVar 3))) (gCons (gL (gSeq (gVar 4))) gNil))) q_floor_quarrel) (gCons (gPk 9) gNil)))) (gCons (gL (gLst (gCons (gVar 7) (gCons (gVar 8) gNil)))) gNil)) (q_law_same 8)))) (gAndT (asB (gIsN true (gVar 7))) (asB (g2 gNe (gVar 8) (gL (gLst gNil))))))) (sRet (dE (pX (fun _ => some (.bool false))))) sNil) (sSeq (sApp 9 (dE (pX (fun _ => some .none)))) (sSeq (sIf (tP (gNotT (asB (gCallD (gCons (gL (gLst (gCons (gCallK0 [2, 1, 0] 3 (gCons (gTupA (gVar 4)) (gCons (gTupA (gVar 3)) (gCons (gVar 1) gNil))) q_floor_quarrel) (gCons (gCallK0 [2, 1, 0] 3 (gCons (gTupA (gVar 4)) (gCons (gTupA (gVar 3)) (gCons (gVar 1) gNil))) q_rows_kept_both) gNil)))) (gCons (gL (gLst (gCons (gVar 7) (gCons (gVar 8) gNil)))) gNil)) (q_law_same 8))))) (sRet (dE (pX (fun _ => some (.bool false))))) sNil) (sSeq (sPar2 10 11 (eCons (dE (pX (gCallD (gCons (gVar 1) (gCons (gL (gSeq (gVar 3))) gNil)) q_bottom_table))) (eCons (dE (pX (gCallD (gCons (gVar 1) (gCons (gL (gSeq (gVar 4))) gNil)) q_top_table))) eNil))) (sSeq (sAsg 12 (dE (pX (gA gAny (gCons (gL (gLc [18, 19] (gZ2 (gVar 10) (gVar 11)) (nmTup 2 (nmCons (nmN 18) (nmCons (nmN 19) nmNil))) gYes (gA gAny (gCons (gL (gLc [20, 21] (gZ2 (gVar 18) (gVar 19)) (nmTup 2 (nmCons (nmN 20) (nmCons (nmN 21) nmNil))) gYes (g2 (gCmpI (fun i j => decide (j < i))) (gVar 20) (gVar 21)))) gNil)))) gNil))))) (sSeq (sIf (tP (asB (g2 gNe (gVar 12) (gIsN true (gVar 7))))) (sRet (dE (pX (fun _ => some (.bool false))))) sNil) (sSeq (sAsg 13 (dE (pX (gL (gLc [17] (gSeq (gVar 2)) (nmN 17) gYes (gL (gLc [14] (gRng2 (fun _ => some (.int 1)) (gVar 1)) (nmN 14) gYes (gL (gLc [15] (gRng2 (fun _ => some (.int 1)) (gVar 1)) (nmN 15) gYes (gCallD (gCons (gVar 17) (gCons (gVar 14) (gCons (gVar 15) gNil))) q_law_count)))))))))) (sSeq (sIf (tP (gAndT (asB (gIsN false (gVar 7))) (gOrT (gAndT (asB (g2 (gIn false) (gVar 10) (gVar 13))) (asB (g2 (gIn true) (g2 gIx (gVar 2) (gIdx (gVar 13) (gVar 10))) (gVar 8)))) (gAndT (asB (g2 (gIn false) (gVar 11) (gVar 13))) (asB (g2 (gIn true) (g2 gIx (gVar 2) (gIdx (gVar 13) (gVar 11))) (gVar 8))))))) (sRet (dE (pX (fun _ => some (.bool false))))) sNil) (sRet (dE (pX (g2 gEq (gA gRepr (gCons (gL (gLst (gCons (gVar 3) (gCons (gVar 4) gNil)))) gNil)) (gVar 6)))))))))))))))))))))
def q_law_right : Gfn := sFn 1 22 [true] b_law_right
def b_law : Gst := (sSeq (sAsg 1 (eCallR [some 0, none] (aR 0 (aD (pX (fun _ => some (.int 0))) aNil)) q_law_pot)) (sRet (dE (xA gAll (xCons (eD (eLc [2] (xRng1 (pX (fun _ => some (.int 5)))) (nmN 2) tYesE (eCallR [some 1] (aR 1 aNil) q_law_right))) xNil)))))
def q_law : Gfn := sFn 1 3 [false] b_law
end Fw
namespace Fw
open PySem PySem.Spec PyProof.Rows L2
abbrev st_is_list : Stmt := PySem.Challenge.pw_standingout_k71_whole_floors_against_bou.main.body.getD 1 (.Pass ⟨0, 0, 0, 0⟩)
theorem sc_is_list : FnScope ["value"] ["value"] (defScope st_is_list) := ⟨rfl, rfl, rfl, by decide +kernel, rfl, by decide +kernel, by decide +kernel⟩
theorem pos_is_list : posOk "is_list" st_is_list ["value"] := fun us hl => match us, hl with | [u0], _ => fun _ _ _ _ _ _ => rfl
abbrev st_is_integer : Stmt := PySem.Challenge.pw_standingout_k71_whole_floors_against_bou.main.body.getD 2 (.Pass ⟨0, 0, 0, 0⟩)
theorem sc_is_integer : FnScope ["value"] ["value"] (defScope st_is_integer) := ⟨rfl, rfl, rfl, by decide +kernel, rfl, by decide +kernel, by decide +kernel⟩
theorem pos_is_integer : posOk "is_integer" st_is_integer ["value"] := fun us hl => match us, hl with | [u0], _ => fun _ _ _ _ _ _ => rfl
abbrev st_is_between : Stmt := PySem.Challenge.pw_standingout_k71_whole_floors_against_bou.main.body.getD 3 (.Pass ⟨0, 0, 0, 0⟩)
theorem sc_is_between : FnScope ["value", "low", "high"] ["value", "low", "high"] (defScope st_is_between) := ⟨rfl, rfl, rfl, by decide +kernel, rfl, by decide +kernel, by decide +kernel⟩
theorem pos_is_between : posOk "is_between" st_is_between ["value", "low", "high"] := fun us hl => match us, hl with | [u0, u1, u2], _ => fun _ _ _ _ _ _ => rfl
abbrev st_many_is_right : Stmt := PySem.Challenge.pw_standingout_k71_whole_floors_against_bou.main.body.getD 14 (.Pass ⟨0, 0, 0, 0⟩)
theorem sc_many_is_right : FnScope ["value"] ["value"] (defScope st_many_is_right) := ⟨rfl, rfl, rfl, by decide +kernel, rfl, by decide +kernel, by decide +kernel⟩
theorem pos_many_is_right : posOk "many_is_right" st_many_is_right ["value"] := fun us hl => match us, hl with | [u0], _ => fun _ _ _ _ _ _ => rfl
abbrev st_window_is_right : Stmt := PySem.Challenge.pw_standingout_k71_whole_floors_against_bou.main.body.getD 15 (.Pass ⟨0, 0, 0, 0⟩)
theorem sc_window_is_right : FnScope ["many", "value", "one"] ["many", "value"] (defScope st_window_is_right) := ⟨rfl, rfl, rfl, by decide +kernel, rfl, by decide +kernel, by decide +kernel⟩
theorem pos_window_is_right : posOk "window_is_right" st_window_is_right ["many", "value"] := fun us hl => match us, hl with | [u0, u1], _ => fun _ _ _ _ _ _ => rfl
abbrev st_all_rows : Stmt := PySem.Challenge.pw_standingout_k71_whole_floors_against_bou.main.body.getD 16 (.Pass ⟨0, 0, 0, 0⟩)
theorem sc_all_rows : FnScope ["many", "found", "turn", "longer", "row", "number"] ["many"] (defScope st_all_rows) := ⟨rfl, rfl, rfl, by decide +kernel, rfl, by decide +kernel, by decide +kernel⟩
theorem pos_all_rows : posOk "all_rows" st_all_rows ["many"] := fun us hl => match us, hl with | [u0], _ => fun _ _ _ _ _ _ => rfl
abbrev st_window_count : Stmt := PySem.Challenge.pw_standingout_k71_whole_floors_against_bou.main.body.getD 17 (.Pass ⟨0, 0, 0, 0⟩)
theorem sc_window_count : FnScope ["row", "i", "j", "number"] ["row", "i", "j"] (defScope st_window_count) := ⟨rfl, rfl, rfl, by decide +kernel, rfl, by decide +kernel, by decide +kernel⟩
theorem pos_window_count : posOk "window_count" st_window_count ["row", "i", "j"] := fun us hl => match us, hl with | [u0, u1, u2], _ => fun _ _ _ _ _ _ => rfl
abbrev st_is_bound : Stmt := PySem.Challenge.pw_standingout_k71_whole_floors_against_bou.main.body.getD 21 (.Pass ⟨0, 0, 0, 0⟩)
theorem sc_is_bound : FnScope ["many", "value"] ["many", "value"] (defScope st_is_bound) := ⟨rfl, rfl, rfl, by decide +kernel, rfl, by decide +kernel, by decide +kernel⟩
theorem pos_is_bound : posOk "is_bound" st_is_bound ["many", "value"] := fun us hl => match us, hl with | [u0, u1], _ => fun _ _ _ _ _ _ => rfl
abbrev st_bounds_are_right : Stmt := PySem.Challenge.pw_standingout_k71_whole_floors_against_bou.main.body.getD 22 (.Pass ⟨0, 0, 0, 0⟩)
theorem sc_bounds_are_right : FnScope ["many", "value", "one"] ["many", "value"] (defScope st_bounds_are_right) := ⟨rfl, rfl, rfl, by decide +kernel, rfl, by decide +kernel, by decide +kernel⟩
theorem pos_bounds_are_right : posOk "bounds_are_right" st_bounds_are_right ["many", "value"] := fun us hl => match us, hl with | [u0, u1], _ => fun _ _ _ _ _ _ => rfl
abbrev st_bad_by : Stmt := PySem.Challenge.pw_standingout_k71_whole_floors_against_bou.main.body.getD 23 (.Pass ⟨0, 0, 0, 0⟩)
theorem sc_bad_by : FnScope ["bounds", "some", "i", "j", "k"] ["bounds"] (defScope st_bad_by) := ⟨rfl, rfl, rfl, by decide +kernel, rfl, by decide +kernel, by decide +kernel⟩
theorem pos_bad_by : posOk "bad_by" st_bad_by ["bounds"] := fun us hl => match us, hl with | [u0], _ => fun _ _ _ _ _ _ => rfl
abbrev st_bad_floor_by : Stmt := PySem.Challenge.pw_standingout_k71_whole_floors_against_bou.main.body.getD 24 (.Pass ⟨0, 0, 0, 0⟩)
theorem sc_bad_floor_by : FnScope ["many", "floors", "some", "i", "j", "k"] ["many", "floors"] (defScope st_bad_floor_by) := ⟨rfl, rfl, rfl, by decide +kernel, rfl, by decide +kernel, by decide +kernel⟩
theorem pos_bad_floor_by : posOk "bad_floor_by" st_bad_floor_by ["many", "floors"] := fun us hl => match us, hl with | [u0, u1], _ => fun _ _ _ _ _ _ => rfl
abbrev st_top_at : Stmt := PySem.Challenge.pw_standingout_k71_whole_floors_against_bou.main.body.getD 25 (.Pass ⟨0, 0, 0, 0⟩)
theorem sc_top_at : FnScope ["many", "bounds", "i", "j", "a", "b", "k"] ["many", "bounds", "i", "j"] (defScope st_top_at) := ⟨rfl, rfl, rfl, by decide +kernel, rfl, by decide +kernel, by decide +kernel⟩
theorem pos_top_at : posOk "top_at" st_top_at ["many", "bounds", "i", "j"] := fun us hl => match us, hl with | [u0, u1, u2, u3], _ => fun _ _ _ _ _ _ => rfl
abbrev st_bottom_at : Stmt := PySem.Challenge.pw_standingout_k71_whole_floors_against_bou.main.body.getD 26 (.Pass ⟨0, 0, 0, 0⟩)
theorem sc_bottom_at : FnScope ["many", "floors", "i", "j", "a", "b", "k"] ["many", "floors", "i", "j"] (defScope st_bottom_at) := ⟨rfl, rfl, rfl, by decide +kernel, rfl, by decide +kernel, by decide +kernel⟩
theorem pos_bottom_at : posOk "bottom_at" st_bottom_at ["many", "floors", "i", "j"] := fun us hl => match us, hl with | [u0, u1, u2, u3], _ => fun _ _ _ _ _ _ => rfl
abbrev st_keeps_all : Stmt := PySem.Challenge.pw_standingout_k71_whole_floors_against_bou.main.body.getD 27 (.Pass ⟨0, 0, 0, 0⟩)
theorem sc_keeps_all : FnScope ["row", "bounds", "i", "j", "k"] ["row", "bounds"] (defScope st_keeps_all) := ⟨rfl, rfl, rfl, by decide +kernel, rfl, by decide +kernel, by decide +kernel⟩
theorem pos_keeps_all : posOk "keeps_all" st_keeps_all ["row", "bounds"] := fun us hl => match us, hl with | [u0, u1], _ => fun _ _ _ _ _ _ => rfl
abbrev st_keeps_up : Stmt := PySem.Challenge.pw_standingout_k71_whole_floors_against_bou.main.body.getD 28 (.Pass ⟨0, 0, 0, 0⟩)
theorem sc_keeps_up : FnScope ["row", "floors", "i", "j", "k"] ["row", "floors"] (defScope st_keeps_up) := ⟨rfl, rfl, rfl, by decide +kernel, rfl, by decide +kernel, by decide +kernel⟩
theorem pos_keeps_up : posOk "keeps_up" st_keeps_up ["row", "floors"] := fun us hl => match us, hl with | [u0, u1], _ => fun _ _ _ _ _ _ => rfl
abbrev st_quarrels : Stmt := PySem.Challenge.pw_standingout_k71_whole_floors_against_bou.main.body.getD 29 (.Pass ⟨0, 0, 0, 0⟩)
theorem sc_quarrels : FnScope ["floor", "bound", "a", "b", "k", "c", "d", "most"] ["floor", "bound"] (defScope st_quarrels) := ⟨rfl, rfl, rfl, by decide +kernel, rfl, by decide +kernel, by decide +kernel⟩
theorem pos_quarrels : posOk "quarrels" st_quarrels ["floor", "bound"] := fun us hl => match us, hl with | [u0, u1], _ => fun _ _ _ _ _ _ => rfl
abbrev st_check_many_bounds : Stmt := PySem.Challenge.pw_standingout_k71_whole_floors_against_bou.main.body.getD 30 (.Pass ⟨0, 0, 0, 0⟩)
theorem sc_check_many_bounds : FnScope ["many", "bounds"] ["many", "bounds"] (defScope st_check_many_bounds) := ⟨rfl, rfl, rfl, by decide +kernel, rfl, by decide +kernel, by decide +kernel⟩
theorem pos_check_many_bounds : posOk "check_many_bounds" st_check_many_bounds ["many", "bounds"] := fun us hl => match us, hl with | [u0, u1], _ => fun _ _ _ _ _ _ => rfl
abbrev st_check_many_floors : Stmt := PySem.Challenge.pw_standingout_k71_whole_floors_against_bou.main.body.getD 31 (.Pass ⟨0, 0, 0, 0⟩)
theorem sc_check_many_floors : FnScope ["many", "floors"] ["many", "floors"] (defScope st_check_many_floors) := ⟨rfl, rfl, rfl, by decide +kernel, rfl, by decide +kernel, by decide +kernel⟩
theorem pos_check_many_floors : posOk "check_many_floors" st_check_many_floors ["many", "floors"] := fun us hl => match us, hl with | [u0, u1], _ => fun _ _ _ _ _ _ => rfl
abbrev st_check_some_row : Stmt := PySem.Challenge.pw_standingout_k71_whole_floors_against_bou.main.body.getD 32 (.Pass ⟨0, 0, 0, 0⟩)
theorem sc_check_some_row : FnScope ["many", "floors", "bounds", "floor", "bound"] ["many", "floors", "bounds"] (defScope st_check_some_row) := ⟨rfl, rfl, rfl, by decide +kernel, rfl, by decide +kernel, by decide +kernel⟩
theorem pos_check_some_row : posOk "check_some_row" st_check_some_row ["many", "floors", "bounds"] := fun us hl => match us, hl with | [u0, u1, u2], _ => fun _ _ _ _ _ _ => rfl
abbrev st_check_kept : Stmt := PySem.Challenge.pw_standingout_k71_whole_floors_against_bou.main.body.getD 33 (.Pass ⟨0, 0, 0, 0⟩)
theorem sc_check_kept : FnScope ["many", "bounds"] ["many", "bounds"] (defScope st_check_kept) := ⟨rfl, rfl, rfl, by decide +kernel, rfl, by decide +kernel, by decide +kernel⟩
theorem pos_check_kept : posOk "check_kept" st_check_kept ["many", "bounds"] := fun us hl => match us, hl with | [u0, u1], _ => fun _ _ _ _ _ _ => rfl
abbrev st_check_kept_floors : Stmt := PySem.Challenge.pw_standingout_k71_whole_floors_against_bou.main.body.getD 34 (.Pass ⟨0, 0, 0, 0⟩)
theorem sc_check_kept_floors : FnScope ["many", "floors"] ["many", "floors"] (defScope st_check_kept_floors) := ⟨rfl, rfl, rfl, by decide +kernel, rfl, by decide +kernel, by decide +kernel⟩
theorem pos_check_kept_floors : posOk "check_kept_floors" st_check_kept_floors ["many", "floors"] := fun us hl => match us, hl with | [u0, u1], _ => fun _ _ _ _ _ _ => rfl
abbrev st_check_both : Stmt := PySem.Challenge.pw_standingout_k71_whole_floors_against_bou.main.body.getD 35 (.Pass ⟨0, 0, 0, 0⟩)
theorem sc_check_both : FnScope ["many", "floors", "bounds"] ["many", "floors", "bounds"] (defScope st_check_both) := ⟨rfl, rfl, rfl, by decide +kernel, rfl, by decide +kernel, by decide +kernel⟩
theorem pos_check_both : posOk "check_both" st_check_both ["many", "floors", "bounds"] := fun us hl => match us, hl with | [u0, u1, u2], _ => fun _ _ _ _ _ _ => rfl
abbrev st_top_table : Stmt := PySem.Challenge.pw_standingout_k71_whole_floors_against_bou.main.body.getD 36 (.Pass ⟨0, 0, 0, 0⟩)
theorem sc_top_table : FnScope ["many", "bounds", "i", "j"] ["many", "bounds"] (defScope st_top_table) := ⟨rfl, rfl, rfl, by decide +kernel, rfl, by decide +kernel, by decide +kernel⟩
theorem pos_top_table : posOk "top_table" st_top_table ["many", "bounds"] := fun us hl => match us, hl with | [u0, u1], _ => fun _ _ _ _ _ _ => rfl
abbrev st_bottom_table : Stmt := PySem.Challenge.pw_standingout_k71_whole_floors_against_bou.main.body.getD 37 (.Pass ⟨0, 0, 0, 0⟩)
theorem sc_bottom_table : FnScope ["many", "floors", "i", "j"] ["many", "floors"] (defScope st_bottom_table) := ⟨rfl, rfl, rfl, by decide +kernel, rfl, by decide +kernel, by decide +kernel⟩
theorem pos_bottom_table : posOk "bottom_table" st_bottom_table ["many", "floors"] := fun us hl => match us, hl with | [u0, u1], _ => fun _ _ _ _ _ _ => rfl
abbrev st_rows_kept_both : Stmt := PySem.Challenge.pw_standingout_k71_whole_floors_against_bou.main.body.getD 38 (.Pass ⟨0, 0, 0, 0⟩)
theorem sc_rows_kept_both : FnScope ["many", "floors", "bounds", "row"] ["many", "floors", "bounds"] (defScope st_rows_kept_both) := ⟨rfl, rfl, rfl, by decide +kernel, rfl, by decide +kernel, by decide +kernel⟩
theorem pos_rows_kept_both : posOk "rows_kept_both" st_rows_kept_both ["many", "floors", "bounds"] := fun us hl => match us, hl with | [u0, u1, u2], _ => fun _ _ _ _ _ _ => rfl
abbrev st_floor_quarrel : Stmt := PySem.Challenge.pw_standingout_k71_whole_floors_against_bou.main.body.getD 39 (.Pass ⟨0, 0, 0, 0⟩)
theorem sc_floor_quarrel : FnScope ["many", "floors", "bounds", "floor", "some", "bound"] ["many", "floors", "bounds"] (defScope st_floor_quarrel) := ⟨rfl, rfl, rfl, by decide +kernel, rfl, by decide +kernel, by decide +kernel⟩
theorem pos_floor_quarrel : posOk "floor_quarrel" st_floor_quarrel ["many", "floors", "bounds"] := fun us hl => match us, hl with | [u0, u1, u2], _ => fun _ _ _ _ _ _ => rfl
abbrev st_law_pot : Stmt := PySem.Challenge.pw_standingout_k71_whole_floors_against_bou.main.body.getD 41 (.Pass ⟨0, 0, 0, 0⟩)
theorem sc_law_pot : FnScope ["script", "k", "spare", "cell"] ["script", "k"] (defScope st_law_pot) := ⟨rfl, rfl, rfl, by decide +kernel, rfl, by decide +kernel, by decide +kernel⟩
theorem pos_law_pot : posOk "_law_pot" st_law_pot ["script", "k"] := fun us hl => match us, hl with | [u0, u1], _ => fun _ _ _ _ _ _ => rfl
abbrev st_law_draw : Stmt := PySem.Challenge.pw_standingout_k71_whole_floors_against_bou.main.body.getD 42 (.Pass ⟨0, 0, 0, 0⟩)
theorem sc_law_draw : FnScope ["pot", "many", "digit"] ["pot", "many"] (defScope st_law_draw) := ⟨rfl, rfl, rfl, by decide +kernel, rfl, by decide +kernel, by decide +kernel⟩
theorem pos_law_draw : posOk "_law_draw" st_law_draw ["pot", "many"] := fun us hl => match us, hl with | [u0, u1], _ => fun _ _ _ _ _ _ => rfl
abbrev st_law_pick : Stmt := PySem.Challenge.pw_standingout_k71_whole_floors_against_bou.main.body.getD 43 (.Pass ⟨0, 0, 0, 0⟩)
theorem sc_law_pick : FnScope ["pot", "some"] ["pot", "some"] (defScope st_law_pick) := ⟨rfl, rfl, rfl, by decide +kernel, rfl, by decide +kernel, by decide +kernel⟩
theorem pos_law_pick : posOk "_law_pick" st_law_pick ["pot", "some"] := fun us hl => match us, hl with | [u0, u1], _ => fun _ _ _ _ _ _ => rfl
abbrev st_law_same : Stmt := PySem.Challenge.pw_standingout_k71_whole_floors_against_bou.main.body.getD 44 (.Pass ⟨0, 0, 0, 0⟩)
theorem sc_law_same : FnScope ["told", "due", "near", "far"] ["told", "due"] (defScope st_law_same) := ⟨rfl, rfl, rfl, by decide +kernel, rfl, by decide +kernel, by decide +kernel⟩
theorem pos_law_same : posOk "_law_same" st_law_same ["told", "due"] := fun us hl => match us, hl with | [u0, u1], _ => fun _ _ _ _ _ _ => rfl
abbrev st_law_count : Stmt := PySem.Challenge.pw_standingout_k71_whole_floors_against_bou.main.body.getD 45 (.Pass ⟨0, 0, 0, 0⟩)
theorem sc_law_count : FnScope ["row", "i", "j", "number"] ["row", "i", "j"] (defScope st_law_count) := ⟨rfl, rfl, rfl, by decide +kernel, rfl, by decide +kernel, by decide +kernel⟩
theorem pos_law_count : posOk "_law_count" st_law_count ["row", "i", "j"] := fun us hl => match us, hl with | [u0, u1, u2], _ => fun _ _ _ _ _ _ => rfl
abbrev st_law_rows : Stmt := PySem.Challenge.pw_standingout_k71_whole_floors_against_bou.main.body.getD 46 (.Pass ⟨0, 0, 0, 0⟩)
theorem sc_law_rows : FnScope ["many", "found", "step", "later", "row", "number"] ["many"] (defScope st_law_rows) := ⟨rfl, rfl, rfl, by decide +kernel, rfl, by decide +kernel, by decide +kernel⟩
theorem pos_law_rows : posOk "_law_rows" st_law_rows ["many"] := fun us hl => match us, hl with | [u0], _ => fun _ _ _ _ _ _ => rfl
abbrev st_law_bounds : Stmt := PySem.Challenge.pw_standingout_k71_whole_floors_against_bou.main.body.getD 47 (.Pass ⟨0, 0, 0, 0⟩)
theorem sc_law_bounds : FnScope ["pot", "many", "found", "step", "i", "j"] ["pot", "many"] (defScope st_law_bounds) := ⟨rfl, rfl, rfl, by decide +kernel, rfl, by decide +kernel, by decide +kernel⟩
theorem pos_law_bounds : posOk "_law_bounds" st_law_bounds ["pot", "many"] := fun us hl => match us, hl with | [u0, u1], _ => fun _ _ _ _ _ _ => rfl
abbrev st_law_keeps : Stmt := PySem.Challenge.pw_standingout_k71_whole_floors_against_bou.main.body.getD 48 (.Pass ⟨0, 0, 0, 0⟩)
theorem sc_law_keeps : FnScope ["row", "bounds", "i", "j", "k"] ["row", "bounds"] (defScope st_law_keeps) := ⟨rfl, rfl, rfl, by decide +kernel, rfl, by decide +kernel, by decide +kernel⟩
theorem pos_law_keeps : posOk "_law_keeps" st_law_keeps ["row", "bounds"] := fun us hl => match us, hl with | [u0, u1], _ => fun _ _ _ _ _ _ => rfl
abbrev st_law_holds : Stmt := PySem.Challenge.pw_standingout_k71_whole_floors_against_bou.main.body.getD 49 (.Pass ⟨0, 0, 0, 0⟩)
theorem sc_law_holds : FnScope ["row", "floors", "i", "j", "k"] ["row", "floors"] (defScope st_law_holds) := ⟨rfl, rfl, rfl, by decide +kernel, rfl, by decide +kernel, by decide +kernel⟩
theorem pos_law_holds : posOk "_law_holds" st_law_holds ["row", "floors"] := fun us hl => match us, hl with | [u0, u1], _ => fun _ _ _ _ _ _ => rfl
abbrev st_law_quarrel : Stmt := PySem.Challenge.pw_standingout_k71_whole_floors_against_bou.main.body.getD 50 (.Pass ⟨0, 0, 0, 0⟩)
theorem sc_law_quarrel : FnScope ["floors", "bounds", "a", "b", "k", "c", "d", "m"] ["floors", "bounds"] (defScope st_law_quarrel) := ⟨rfl, rfl, rfl, by decide +kernel, rfl, by decide +kernel, by decide +kernel⟩
theorem pos_law_quarrel : posOk "_law_quarrel" st_law_quarrel ["floors", "bounds"] := fun us hl => match us, hl with | [u0, u1], _ => fun _ _ _ _ _ _ => rfl
abbrev st_law_right : Stmt := PySem.Challenge.pw_standingout_k71_whole_floors_against_bou.main.body.getD 51 (.Pass ⟨0, 0, 0, 0⟩)
theorem sc_law_right : FnScope ["pot", "many", "rows", "floors", "bounds", "own", "shown", "due", "both", "told", "low", "high", "more", "tables", "i", "j", "k", "row", "here", "there", "one", "other"] ["pot"] (defScope st_law_right) := ⟨rfl, rfl, rfl, by decide +kernel, rfl, by decide +kernel, by decide +kernel⟩
theorem pos_law_right : posOk "_law_right" st_law_right ["pot"] := fun us hl => match us, hl with | [u0], _ => fun _ _ _ _ _ _ => rfl
abbrev st_law : Stmt := PySem.Challenge.pw_standingout_k71_whole_floors_against_bou.main.body.getD 52 (.Pass ⟨0, 0, 0, 0⟩)
theorem sc_law : FnScope ["script", "pot", "step"] ["script"] (defScope st_law) := ⟨rfl, rfl, rfl, by decide +kernel, rfl, by decide +kernel, by decide +kernel⟩
theorem pos_law : posOk "law" st_law ["script"] := fun us hl => match us, hl with | [u0], _ => fun _ _ _ _ _ _ => rfl
theorem kw_rows_kept_both_0_bounds_floors_many : kwOk "rows_kept_both" st_rows_kept_both ["many", "floors", "bounds"] ["bounds", "floors", "many"] 0 [2, 1, 0] := fun us ws h1 h2 => match us, ws, h1, h2 with | [], [w0, w1, w2], _, _ => fun _ _ _ _ _ _ => rfl
theorem kw_floor_quarrel_0_bounds_floors_many : kwOk "floor_quarrel" st_floor_quarrel ["many", "floors", "bounds"] ["bounds", "floors", "many"] 0 [2, 1, 0] := fun us ws h1 h2 => match us, ws, h1, h2 with | [], [w0, w1, w2], _, _ => fun _ _ _ _ _ _ => rfl
structure Glo (mg : Str → Option Value) : Prop where
  abs : mg "abs" = none
  all : mg "all" = none
  any : mg "any" = none
  bool : mg "bool" = none
  int : mg "int" = none
  isinstance : mg "isinstance" = none
  len : mg "len" = none
  list : mg "list" = none
  max : mg "max" = none
  min : mg "min" = none
  range : mg "range" = none
  repr : mg "repr" = none
  str : mg "str" = none
  sum : mg "sum" = none
  tuple : mg "tuple" = none
  zip : mg "zip" = none
  FEWEST : ∃ t, mg "FEWEST" = some (.int 2 t)
  MOST_lines : ∃ t, mg "MOST_lines" = some (.int 7 t)
  MOST_bounds : ∃ t, mg "MOST_bounds" = some (.int 7 t)
  MOST_BOUNDS : ∃ t, mg "MOST_BOUNDS" = some (.int 20 t)
section
variable {P : Program} {w : World} {K : PySem.W.Frag} {mg : Str → Option Value} {base : Heap} {f : Addr} {fd : FuncData}
theorem ok_is_list (g : Glo mg)  (F : FunD K "is_list" "is_list" (defArgs st_is_list) (defBody st_is_list) (defScope st_is_list) [] [] f fd) (hm : mg "is_list" = some (.ref f)) : DefG P w K mg base "is_list" st_is_list 1 ["value"] q_is_list :=
  ⟨lenG_sFn, f, fd, FnG.of (k := 0) F sc_is_list (fun cdv A outer s H E hG hr =>
      have sc := sc_is_list
      (ss_one (s_ret (ev_ed (ed_pv (pv_isi2 (T1 := "list") (T2 := "tuple") (by decide) (by decide) rfl g.isinstance (pv_pk (pv_var 0)) (pe_bltn rfl g.list boot_list rfl) (pe_bltn rfl g.tuple boot_tuple rfl))))))), hm, F⟩
theorem ok_is_integer (g : Glo mg)  (F : FunD K "is_integer" "is_integer" (defArgs st_is_integer) (defBody st_is_integer) (defScope st_is_integer) [] [] f fd) (hm : mg "is_integer" = some (.ref f)) : DefG P w K mg base "is_integer" st_is_integer 1 ["value"] q_is_integer :=
  ⟨lenG_sFn, f, fd, FnG.of (k := 0) F sc_is_integer (fun cdv A outer s H E hG hr =>
      have sc := sc_is_integer
      (ss_one (s_ret (ev_ed (ed_pv (pv_and (pv_isi (T := "int") (by decide) rfl g.isinstance (pv_pk (pv_var 0)) (pe_bltn rfl g.int boot_int rfl)) (pv_one (pv_not (pv_isi (T := "bool") (by decide) rfl g.isinstance (pv_pk (pv_var 0)) (pe_bltn rfl g.bool boot_bool rfl)))))))))), hm, F⟩
theorem ok_is_between (g : Glo mg) (D_is_integer : DefG P w K mg base "is_integer" st_is_integer 1 ["value"] q_is_integer) (F : FunD K "is_between" "is_between" (defArgs st_is_between) (defBody st_is_between) (defScope st_is_between) [] [] f fd) (hm : mg "is_between" = some (.ref f)) : DefG P w K mg base "is_between" st_is_between 2 ["value", "low", "high"] q_is_between :=
  ⟨lenG_sFn, f, fd, FnG.of (k := 1) F sc_is_between (fun cdv A outer s H E hG hr =>
      have sc := sc_is_between
      (ss_one (s_ret (ev_ed (ed_pv (pv_and (pv_callD D_is_integer hG (hr.mono (by omega)) rfl pos_is_integer (pvs_cons (pv_var 0) pvs_nil)) (pv_one (pv_chain op_le (sr_cmpI (fun i j => decide (i ≤ j))) op_le (sr_cmpI (fun i j => decide (i ≤ j))) (pv_pk (pv_var 1)) (pv_pk (pv_var 0)) (pv_pk (pv_var 2)))))))))), hm, F⟩
theorem ok_many_is_right (g : Glo mg) (D_is_between : DefG P w K mg base "is_between" st_is_between 2 ["value", "low", "high"] q_is_between) (F : FunD K "many_is_right" "many_is_right" (defArgs st_many_is_right) (defBody st_many_is_right) (defScope st_many_is_right) [] [] f fd) (hm : mg "many_is_right" = some (.ref f)) : DefG P w K mg base "many_is_right" st_many_is_right 3 ["value"] q_many_is_right :=
  ⟨lenG_sFn, f, fd, FnG.of (k := 2) F sc_many_is_right (fun cdv A outer s H E hG hr =>
      have sc := sc_many_is_right
      (ss_one (s_ret (ev_callD D_is_between hG (hr.mono (by omega)) rfl pos_is_between (eds_cons (ed_pv (pv_var 0)) (eds_cons (ed_pv (pv_gint rfl g.FEWEST)) (eds_cons (ed_pv (pv_gint rfl g.MOST_lines)) eds_nil))))))), hm, F⟩
theorem ok_window_is_right (g : Glo mg) (D_is_between : DefG P w K mg base "is_between" st_is_between 2 ["value", "low", "high"] q_is_between) (F : FunD K "window_is_right" "window_is_right" (defArgs st_window_is_right) (defBody st_window_is_right) (defScope st_window_is_right) [] [] f fd) (hm : mg "window_is_right" = some (.ref f)) : DefG P w K mg base "window_is_right" st_window_is_right 3 ["many", "value"] q_window_is_right :=
  ⟨lenG_sFn, f, fd, FnG.of (k := 2) F sc_window_is_right (fun cdv A outer s H E hG hr =>
      have sc := sc_window_is_right
      (ss_one (s_ret (ev_ed (ed_pv (pv_and (pv_isi (T := "tuple") (by decide) rfl g.isinstance (pv_pk (pv_var 1)) (pe_bltn rfl g.tuple boot_tuple rfl)) (pv_and (pv_cmp (or_eq (room64 hr)) sr_eq (pv_pk (pv_cB call_len sr_len rfl g.len boot_len (pks_cons (pv_pk (pv_var 1)) pks_nil))) (pv_pk pv_int)) (pv_one (pv_cB (cr_all rfl) sr_all rfl g.all boot_all (pks_cons (pv_pk (fl_pv (fl_lc (own := [("one", 2)]) rfl sc.nd (it_pv (pv_var 1)) (blkOk_by (by kernel_rfl)) (fun _ _ _ _ _ => (ng_name 2 sc.nd rfl (by first | exact Or.inl rfl | exact Or.inr rfl))) (fun _ _ _ _ _ => tvs_nil) (fun _ _ _ _ _ => (pv_callD D_is_between hG (hr.mono (by omega)) rfl pos_is_between (pvs_cons (pv_var 2) (pvs_cons pv_int (pvs_cons (pv_op op_sub br_sub (pv_var 0) pv_int) pvs_nil))))) inB_nm))) pks_nil)))))))))), hm, F⟩
theorem ok_all_rows (g : Glo mg)  (F : FunD K "all_rows" "all_rows" (defArgs st_all_rows) (defBody st_all_rows) (defScope st_all_rows) [] [] f fd) (hm : mg "all_rows" = some (.ref f)) : DefG P w K mg base "all_rows" st_all_rows 1 ["many"] q_all_rows :=
  ⟨lenG_sFn, f, fd, FnG.of (k := 0) F sc_all_rows (fun cdv A outer s H E hG hr =>
      have sc := sc_all_rows
      (ss_cons (s_set (i := 1) sc.nd rfl (by first | exact Or.inl rfl | exact Or.inr rfl) (ev_ed (ed_pv (fl_pv (fl_lst (pvs_cons (pv_tup pvs_nil) pvs_nil)))))) (ss_cons (s_for PassesOwn.never rfl (if_rng1 rfl g.range (ed_pv (pv_var 0))) (ng_name 2 sc.nd rfl (by first | exact Or.inl rfl | exact Or.inr rfl)) (ss_cons (s_set (i := 3) sc.nd rfl (by first | exact Or.inl rfl | exact Or.inr rfl) (ev_fl (fl_lst pvs_nil))) (ss_cons (s_for PassesOwn.never rfl (if_ed (ed_pv (pv_var 1))) (ng_name 4 sc.nd rfl (by first | exact Or.inl rfl | exact Or.inr rfl)) (ss_one (s_extend (i := 3) rfl (by first | exact Or.inl rfl | exact Or.inr (Or.inl rfl) | exact Or.inr (Or.inr rfl)) (fl_ls (fl_lc (own := [("number", 5)]) rfl sc.nd (it_rng1 rfl g.range (pv_var 0)) (blkOk_by (by kernel_rfl)) (fun _ _ _ _ _ => (ng_name 5 sc.nd rfl (by first | exact Or.inl rfl | exact Or.inr rfl))) (fun _ _ _ _ _ => (tvs_one (tv_cmp (or_notIn (room65 hr)) sr_notIn (pv_pk (pv_var 5)) (pv_pk (pv_var 4))))) (fun _ _ _ _ _ => (pv_op or_add br_add (pv_var 4) (pv_tup (pvs_cons (pv_var 5) pvs_nil)))) inB_nm)) (hpe := fun he => pe_bm PySem.F.plainAttrs_list PySem.F.slot_list_extend PySem.F.type_list_extend mt_extend (pe_var rfl (by first | exact Or.inl rfl | exact Or.inr (Or.inl rfl) | exact Or.inr (Or.inr rfl))) (pa_cons he pa_nil)))) (inS_of (vs := [4]) inB_nm)) (ss_one (s_set (i := 1) sc.nd rfl (by first | exact Or.inl rfl | exact Or.inr rfl) (ev_ed (ed_var 3)))))) (inS_of (vs := [2]) inB_nm)) (ss_one (s_ret (ev_ed (ed_pv (pv_var 1)))))))), hm, F⟩
theorem ok_window_count (g : Glo mg)  (F : FunD K "window_count" "window_count" (defArgs st_window_count) (defBody st_window_count) (defScope st_window_count) [] [] f fd) (hm : mg "window_count" = some (.ref f)) : DefG P w K mg base "window_count" st_window_count 1 ["row", "i", "j"] q_window_count :=
  ⟨lenG_sFn, f, fd, FnG.of (k := 0) F sc_window_count (fun cdv A outer s H E hG hr =>
      have sc := sc_window_count
      (ss_one (s_ret (ev_ed (ed_pv (pv_cB call_len sr_len rfl g.len boot_len (pks_cons (pv_pk (fl_pv (fl_lc (own := [("number", 3)]) rfl sc.nd (it_pv (pv_slA (pv_var 0) po_no (po_so (pv_var 1)))) (blkOk_by (by kernel_rfl)) (fun _ _ _ _ _ => (ng_name 3 sc.nd rfl (by first | exact Or.inl rfl | exact Or.inr rfl))) (fun _ _ _ _ _ => (tvs_one (tv_cmp op_ge (sr_cmpI (fun i j => decide (j ≤ i))) (pv_pk (pv_var 3)) (pv_pk (pv_var 2))))) (fun _ _ _ _ _ => (pv_var 3)) inB_nm))) pks_nil))))))), hm, F⟩
theorem ok_is_bound (g : Glo mg) (D_is_between : DefG P w K mg base "is_between" st_is_between 2 ["value", "low", "high"] q_is_between) (D_window_is_right : DefG P w K mg base "window_is_right" st_window_is_right 3 ["many", "value"] q_window_is_right) (F : FunD K "is_bound" "is_bound" (defArgs st_is_bound) (defBody st_is_bound) (defScope st_is_bound) [] [] f fd) (hm : mg "is_bound" = some (.ref f)) : DefG P w K mg base "is_bound" st_is_bound 4 ["many", "value"] q_is_bound :=
  ⟨lenG_sFn, f, fd, FnG.of (k := 3) F sc_is_bound (fun cdv A outer s H E hG hr =>
      have sc := sc_is_bound
      (ss_cons (s_if (te_tv (PW.pt (tw_or (tv_not (tv_val (pv_isi (T := "tuple") (by decide) rfl g.isinstance (pv_pk (pv_var 1)) (pe_bltn rfl g.tuple boot_tuple rfl)))) (tw_or1 (tv_cmp (or_ne (room64 hr)) sr_ne (pv_pk (pv_cB call_len sr_len rfl g.len boot_len (pks_cons (pv_pk (pv_var 1)) pks_nil))) (pv_pk pv_int)))))) (ss_one (s_ret (ev_ed (ed_pv pv_bl)))) ss_nil) (ss_one (s_ret (ev_ed (ed_pv (pv_and (pv_callD D_window_is_right hG (hr.mono (by omega)) rfl pos_window_is_right (pvs_cons (pv_var 0) (pvs_cons (pv_slA (pv_var 1) po_no (po_so pv_int)) pvs_nil))) (pv_one (pv_callD D_is_between hG (hr.mono (by omega)) rfl pos_is_between (pvs_cons (pv_ixA (pv_var 1) pv_int) (pvs_cons pv_int (pvs_cons (pv_gint rfl g.MOST_bounds) pvs_nil)))))))))))), hm, F⟩
theorem ok_bounds_are_right (g : Glo mg) (D_is_bound : DefG P w K mg base "is_bound" st_is_bound 4 ["many", "value"] q_is_bound) (D_is_list : DefG P w K mg base "is_list" st_is_list 1 ["value"] q_is_list) (F : FunD K "bounds_are_right" "bounds_are_right" (defArgs st_bounds_are_right) (defBody st_bounds_are_right) (defScope st_bounds_are_right) [] [] f fd) (hm : mg "bounds_are_right" = some (.ref f)) : DefG P w K mg base "bounds_are_right" st_bounds_are_right 5 ["many", "value"] q_bounds_are_right :=
  ⟨lenG_sFn, f, fd, FnG.of (k := 4) F sc_bounds_are_right (fun cdv A outer s H E hG hr =>
      have sc := sc_bounds_are_right
      (ss_one (s_ret (ev_ed (ed_pv (pv_and (pv_callD D_is_list hG (hr.mono (by omega)) rfl pos_is_list (pvs_cons (pv_var 1) pvs_nil)) (pv_and (pv_cmp op_le (sr_cmpI (fun i j => decide (i ≤ j))) (pv_pk (pv_cB call_len sr_len rfl g.len boot_len (pks_cons (pv_pk (pv_var 1)) pks_nil))) (pv_pk (pv_gint rfl g.MOST_BOUNDS))) (pv_one (pv_cB (cr_all rfl) sr_all rfl g.all boot_all (pks_cons (pv_pk (fl_pv (fl_lc (own := [("one", 2)]) rfl sc.nd (it_pv (pv_var 1)) (blkOk_by (by kernel_rfl)) (fun _ _ _ _ _ => (ng_name 2 sc.nd rfl (by first | exact Or.inl rfl | exact Or.inr rfl))) (fun _ _ _ _ _ => tvs_nil) (fun _ _ _ _ _ => (pv_callD D_is_bound hG (hr.mono (by omega)) rfl pos_is_bound (pvs_cons (pv_var 0) (pvs_cons (pv_var 2) pvs_nil)))) inB_nm))) pks_nil)))))))))), hm, F⟩
theorem ok_bad_by (g : Glo mg)  (F : FunD K "bad_by" "bad_by" (defArgs st_bad_by) (defBody st_bad_by) (defScope st_bad_by) [] [] f fd) (hm : mg "bad_by" = some (.ref f)) : DefG P w K mg base "bad_by" st_bad_by 1 ["bounds"] q_bad_by :=
  ⟨lenG_sFn, f, fd, FnG.of (k := 0) F sc_bad_by (fun cdv A outer s H E hG hr =>
      have sc := sc_bad_by
      (ss_cons (s_setLcP (i := 1) (own := [("i", 2), ("j", 3), ("k", 4)]) (fun _ _ _ => cv_dl) rfl sc.nd rfl rfl (it_pv (pv_var 0)) (blkOk_by (by kernel_rfl)) (fun _ _ _ _ _ => (ng_tup rfl (ngs_cons (ng_name 2 sc.nd rfl (by first | exact Or.inl rfl | exact Or.inr rfl)) (ngs_cons (ng_name 3 sc.nd rfl (by first | exact Or.inl rfl | exact Or.inr rfl)) (ngs_cons (ng_name 4 sc.nd rfl (by first | exact Or.inl rfl | exact Or.inr rfl)) ngs_nil))))) (fun _ _ _ _ _ => (tvs_one (tv_cmp op_lt (sr_cmpI (fun i j => decide (i < j))) (pv_pk (pv_var 4)) (pv_pk (pv_op op_sub br_sub (pv_var 2) (pv_var 3)))))) (fun _ _ _ _ _ => (pv_tup (pvs_cons (pv_var 2) (pvs_cons (pv_var 3) (pvs_cons (pv_var 4) pvs_nil))))) (inB_tup (inBs_cons inB_nm (inBs_cons inB_nm (inBs_cons inB_nm inBs_nil))))) (ss_one (s_ret (ev_ed (ed_pv (pv_if (tv_cmp (or_ne (room64 hr)) sr_ne (pv_pk (pv_var 1)) (pv_pk (fl_pv (fl_lst pvs_nil)))) (pv_ixA (pv_var 1) pv_int) pv_non))))))), hm, F⟩
theorem ok_bad_floor_by (g : Glo mg)  (F : FunD K "bad_floor_by" "bad_floor_by" (defArgs st_bad_floor_by) (defBody st_bad_floor_by) (defScope st_bad_floor_by) [] [] f fd) (hm : mg "bad_floor_by" = some (.ref f)) : DefG P w K mg base "bad_floor_by" st_bad_floor_by 1 ["many", "floors"] q_bad_floor_by :=
  ⟨lenG_sFn, f, fd, FnG.of (k := 0) F sc_bad_floor_by (fun cdv A outer s H E hG hr =>
      have sc := sc_bad_floor_by
      (ss_cons (s_setLcP (i := 2) (own := [("i", 3), ("j", 4), ("k", 5)]) (fun _ _ _ => cv_dl) rfl sc.nd rfl rfl (it_pv (pv_var 1)) (blkOk_by (by kernel_rfl)) (fun _ _ _ _ _ => (ng_tup rfl (ngs_cons (ng_name 3 sc.nd rfl (by first | exact Or.inl rfl | exact Or.inr rfl)) (ngs_cons (ng_name 4 sc.nd rfl (by first | exact Or.inl rfl | exact Or.inr rfl)) (ngs_cons (ng_name 5 sc.nd rfl (by first | exact Or.inl rfl | exact Or.inr rfl)) ngs_nil))))) (fun _ _ _ _ _ => (tvs_one (PW.pt (tw_or (tv_cmp op_gt (sr_cmpI (fun i j => decide (j < i))) (pv_pk (pv_var 5)) (pv_pk (pv_var 3))) (tw_or1 (tv_cmp op_gt (sr_cmpI (fun i j => decide (j < i))) (pv_pk (pv_var 5)) (pv_pk (pv_op op_sub br_sub (pv_var 0) (pv_var 4))))))))) (fun _ _ _ _ _ => (pv_tup (pvs_cons (pv_var 3) (pvs_cons (pv_var 4) (pvs_cons (pv_var 5) pvs_nil))))) (inB_tup (inBs_cons inB_nm (inBs_cons inB_nm (inBs_cons inB_nm inBs_nil))))) (ss_one (s_ret (ev_ed (ed_pv (pv_if (tv_cmp (or_ne (room64 hr)) sr_ne (pv_pk (pv_var 2)) (pv_pk (fl_pv (fl_lst pvs_nil)))) (pv_ixA (pv_var 2) pv_int) pv_non))))))), hm, F⟩
theorem ok_top_at (g : Glo mg)  (F : FunD K "top_at" "top_at" (defArgs st_top_at) (defBody st_top_at) (defScope st_top_at) [] [] f fd) (hm : mg "top_at" = some (.ref f)) : DefG P w K mg base "top_at" st_top_at 1 ["many", "bounds", "i", "j"] q_top_at :=
  ⟨lenG_sFn, f, fd, FnG.of (k := 0) F sc_top_at (fun cdv A outer s H E hG hr =>
      have sc := sc_top_at
      (ss_one (s_ret (ev_ed (ed_pv (pv_cB (cr_min rfl) sr_minL rfl g.min boot_min (pks_cons (pv_pk (pv_op or_add br_add (fl_pv (fl_lst (pvs_cons (pv_var 2) (pvs_cons (pv_op op_sub br_sub (pv_var 0) (pv_var 3)) pvs_nil)))) (fl_pv (fl_lc (own := [("a", 4), ("b", 5), ("k", 6)]) rfl sc.nd (it_pv (pv_var 1)) (blkOk_by (by kernel_rfl)) (fun _ _ _ _ _ => (ng_tup rfl (ngs_cons (ng_name 4 sc.nd rfl (by first | exact Or.inl rfl | exact Or.inr rfl)) (ngs_cons (ng_name 5 sc.nd rfl (by first | exact Or.inl rfl | exact Or.inr rfl)) (ngs_cons (ng_name 6 sc.nd rfl (by first | exact Or.inl rfl | exact Or.inr rfl)) ngs_nil))))) (fun _ _ _ _ _ => tvs_nil) (fun _ _ _ _ _ => (pv_op or_add br_add (pv_op or_add br_add (pv_var 6) (pv_cB (call_max2 rfl) sr_max2 rfl g.max boot_max (pks_cons (pv_pk pv_int) (pks_cons (pv_pk (pv_op op_sub br_sub (pv_var 2) (pv_var 4))) pks_nil)))) (pv_cB (call_max2 rfl) sr_max2 rfl g.max boot_max (pks_cons (pv_pk pv_int) (pks_cons (pv_pk (pv_op op_sub br_sub (pv_var 5) (pv_var 3))) pks_nil))))) (inB_tup (inBs_cons inB_nm (inBs_cons inB_nm (inBs_cons inB_nm inBs_nil)))))))) pks_nil))))))), hm, F⟩
theorem ok_bottom_at (g : Glo mg)  (F : FunD K "bottom_at" "bottom_at" (defArgs st_bottom_at) (defBody st_bottom_at) (defScope st_bottom_at) [] [] f fd) (hm : mg "bottom_at" = some (.ref f)) : DefG P w K mg base "bottom_at" st_bottom_at 1 ["many", "floors", "i", "j"] q_bottom_at :=
  ⟨lenG_sFn, f, fd, FnG.of (k := 0) F sc_bottom_at (fun cdv A outer s H E hG hr =>
      have sc := sc_bottom_at
      (ss_one (s_ret (ev_ed (ed_pv (pv_cB (cr_max rfl) sr_maxL rfl g.max boot_max (pks_cons (pv_pk (pv_op or_add br_add (fl_pv (fl_lst (pvs_cons pv_int (pvs_cons (pv_op op_sub br_sub (pv_var 2) (pv_var 3)) pvs_nil)))) (fl_pv (fl_lc (own := [("a", 4), ("b", 5), ("k", 6)]) rfl sc.nd (it_pv (pv_var 1)) (blkOk_by (by kernel_rfl)) (fun _ _ _ _ _ => (ng_tup rfl (ngs_cons (ng_name 4 sc.nd rfl (by first | exact Or.inl rfl | exact Or.inr rfl)) (ngs_cons (ng_name 5 sc.nd rfl (by first | exact Or.inl rfl | exact Or.inr rfl)) (ngs_cons (ng_name 6 sc.nd rfl (by first | exact Or.inl rfl | exact Or.inr rfl)) ngs_nil))))) (fun _ _ _ _ _ => tvs_nil) (fun _ _ _ _ _ => (pv_op op_sub br_sub (pv_op op_sub br_sub (pv_var 6) (pv_cB (call_max2 rfl) sr_max2 rfl g.max boot_max (pks_cons (pv_pk pv_int) (pks_cons (pv_pk (pv_op op_sub br_sub (pv_var 4) (pv_var 2))) pks_nil)))) (pv_cB (call_max2 rfl) sr_max2 rfl g.max boot_max (pks_cons (pv_pk pv_int) (pks_cons (pv_pk (pv_op op_sub br_sub (pv_var 3) (pv_var 5))) pks_nil))))) (inB_tup (inBs_cons inB_nm (inBs_cons inB_nm (inBs_cons inB_nm inBs_nil)))))))) pks_nil))))))), hm, F⟩
theorem ok_keeps_all (g : Glo mg) (D_window_count : DefG P w K mg base "window_count" st_window_count 1 ["row", "i", "j"] q_window_count) (F : FunD K "keeps_all" "keeps_all" (defArgs st_keeps_all) (defBody st_keeps_all) (defScope st_keeps_all) [] [] f fd) (hm : mg "keeps_all" = some (.ref f)) : DefG P w K mg base "keeps_all" st_keeps_all 2 ["row", "bounds"] q_keeps_all :=
  ⟨lenG_sFn, f, fd, FnG.of (k := 1) F sc_keeps_all (fun cdv A outer s H E hG hr =>
      have sc := sc_keeps_all
      (ss_one (s_ret (ev_ed (ed_pv (pv_cB (cr_all rfl) sr_all rfl g.all boot_all (pks_cons (pv_pk (fl_pv (fl_lc (own := [("i", 2), ("j", 3), ("k", 4)]) rfl sc.nd (it_pv (pv_var 1)) (blkOk_by (by kernel_rfl)) (fun _ _ _ _ _ => (ng_tup rfl (ngs_cons (ng_name 2 sc.nd rfl (by first | exact Or.inl rfl | exact Or.inr rfl)) (ngs_cons (ng_name 3 sc.nd rfl (by first | exact Or.inl rfl | exact Or.inr rfl)) (ngs_cons (ng_name 4 sc.nd rfl (by first | exact Or.inl rfl | exact Or.inr rfl)) ngs_nil))))) (fun _ _ _ _ _ => tvs_nil) (fun _ _ _ _ _ => (pv_cmp op_le (sr_cmpI (fun i j => decide (i ≤ j))) (pv_pk (pv_callD D_window_count hG (hr.mono (by omega)) rfl pos_window_count (pvs_cons (pv_var 0) (pvs_cons (pv_var 2) (pvs_cons (pv_var 3) pvs_nil))))) (pv_pk (pv_var 4)))) (inB_tup (inBs_cons inB_nm (inBs_cons inB_nm (inBs_cons inB_nm inBs_nil))))))) pks_nil))))))), hm, F⟩
theorem ok_keeps_up (g : Glo mg) (D_window_count : DefG P w K mg base "window_count" st_window_count 1 ["row", "i", "j"] q_window_count) (F : FunD K "keeps_up" "keeps_up" (defArgs st_keeps_up) (defBody st_keeps_up) (defScope st_keeps_up) [] [] f fd) (hm : mg "keeps_up" = some (.ref f)) : DefG P w K mg base "keeps_up" st_keeps_up 2 ["row", "floors"] q_keeps_up :=
  ⟨lenG_sFn, f, fd, FnG.of (k := 1) F sc_keeps_up (fun cdv A outer s H E hG hr =>
      have sc := sc_keeps_up
      (ss_one (s_ret (ev_ed (ed_pv (pv_cB (cr_all rfl) sr_all rfl g.all boot_all (pks_cons (pv_pk (fl_pv (fl_lc (own := [("i", 2), ("j", 3), ("k", 4)]) rfl sc.nd (it_pv (pv_var 1)) (blkOk_by (by kernel_rfl)) (fun _ _ _ _ _ => (ng_tup rfl (ngs_cons (ng_name 2 sc.nd rfl (by first | exact Or.inl rfl | exact Or.inr rfl)) (ngs_cons (ng_name 3 sc.nd rfl (by first | exact Or.inl rfl | exact Or.inr rfl)) (ngs_cons (ng_name 4 sc.nd rfl (by first | exact Or.inl rfl | exact Or.inr rfl)) ngs_nil))))) (fun _ _ _ _ _ => tvs_nil) (fun _ _ _ _ _ => (pv_cmp op_ge (sr_cmpI (fun i j => decide (j ≤ i))) (pv_pk (pv_callD D_window_count hG (hr.mono (by omega)) rfl pos_window_count (pvs_cons (pv_var 0) (pvs_cons (pv_var 2) (pvs_cons (pv_var 3) pvs_nil))))) (pv_pk (pv_var 4)))) (inB_tup (inBs_cons inB_nm (inBs_cons inB_nm (inBs_cons inB_nm inBs_nil))))))) pks_nil))))))), hm, F⟩
theorem ok_quarrels (g : Glo mg)  (F : FunD K "quarrels" "quarrels" (defArgs st_quarrels) (defBody st_quarrels) (defScope st_quarrels) [] [] f fd) (hm : mg "quarrels" = some (.ref f)) : DefG P w K mg base "quarrels" st_quarrels 1 ["floor", "bound"] q_quarrels :=
  ⟨lenG_sFn, f, fd, FnG.of (k := 0) F sc_quarrels (fun cdv A outer s H E hG hr =>
      have sc := sc_quarrels
      (ss_cons (s_asgT (ed_pv (pv_var 0)) (tg_tup (n := 3) rfl (tgs_cons (tg_name (i := 2) sc.nd rfl (by first | exact Or.inl rfl | exact Or.inr rfl)) (tgs_cons (tg_name (i := 3) sc.nd rfl (by first | exact Or.inl rfl | exact Or.inr rfl)) (tgs_cons (tg_name (i := 4) sc.nd rfl (by first | exact Or.inl rfl | exact Or.inr rfl)) tgs_nil))))) (ss_cons (s_asgT (ed_pv (pv_var 1)) (tg_tup (n := 3) rfl (tgs_cons (tg_name (i := 5) sc.nd rfl (by first | exact Or.inl rfl | exact Or.inr rfl)) (tgs_cons (tg_name (i := 6) sc.nd rfl (by first | exact Or.inl rfl | exact Or.inr rfl)) (tgs_cons (tg_name (i := 7) sc.nd rfl (by first | exact Or.inl rfl | exact Or.inr rfl)) tgs_nil))))) (ss_one (s_ret (ev_ed (ed_pv (pv_cmp op_gt (sr_cmpI (fun i j => decide (j < i))) (pv_pk (pv_op op_sub br_sub (pv_op op_sub br_sub (pv_var 4) (pv_cB (call_max2 rfl) sr_max2 rfl g.max boot_max (pks_cons (pv_pk pv_int) (pks_cons (pv_pk (pv_op op_sub br_sub (pv_var 2) (pv_var 5))) pks_nil)))) (pv_cB (call_max2 rfl) sr_max2 rfl g.max boot_max (pks_cons (pv_pk pv_int) (pks_cons (pv_pk (pv_op op_sub br_sub (pv_var 6) (pv_var 3))) pks_nil))))) (pv_pk (pv_var 7)))))))))), hm, F⟩
theorem ok_check_many_bounds (g : Glo mg) (D_bounds_are_right : DefG P w K mg base "bounds_are_right" st_bounds_are_right 5 ["many", "value"] q_bounds_are_right) (D_many_is_right : DefG P w K mg base "many_is_right" st_many_is_right 3 ["value"] q_many_is_right) (F : FunD K "check_many_bounds" "check_many_bounds" (defArgs st_check_many_bounds) (defBody st_check_many_bounds) (defScope st_check_many_bounds) [] [] f fd) (hm : mg "check_many_bounds" = some (.ref f)) : DefG P w K mg base "check_many_bounds" st_check_many_bounds 6 ["many", "bounds"] q_check_many_bounds :=
  ⟨lenG_sFn, f, fd, FnG.of (k := 5) F sc_check_many_bounds (fun cdv A outer s H E hG hr =>
      have sc := sc_check_many_bounds
      (ss_cons (s_if (te_tv (tv_not (tv_val (pv_callD D_many_is_right hG (hr.mono (by omega)) rfl pos_many_is_right (pvs_cons (pv_var 0) pvs_nil))))) (ss_one s_never) ss_nil) (ss_one (s_if (te_tv (tv_not (tv_val (pv_callD D_bounds_are_right hG (hr.mono (by omega)) rfl pos_bounds_are_right (pvs_cons (pv_var 0) (pvs_cons (pv_var 1) pvs_nil)))))) (ss_one s_never) ss_nil)))), hm, F⟩
theorem ok_check_many_floors (g : Glo mg) (D_bounds_are_right : DefG P w K mg base "bounds_are_right" st_bounds_are_right 5 ["many", "value"] q_bounds_are_right) (D_many_is_right : DefG P w K mg base "many_is_right" st_many_is_right 3 ["value"] q_many_is_right) (F : FunD K "check_many_floors" "check_many_floors" (defArgs st_check_many_floors) (defBody st_check_many_floors) (defScope st_check_many_floors) [] [] f fd) (hm : mg "check_many_floors" = some (.ref f)) : DefG P w K mg base "check_many_floors" st_check_many_floors 6 ["many", "floors"] q_check_many_floors :=
  ⟨lenG_sFn, f, fd, FnG.of (k := 5) F sc_check_many_floors (fun cdv A outer s H E hG hr =>
      have sc := sc_check_many_floors
      (ss_cons (s_if (te_tv (tv_not (tv_val (pv_callD D_many_is_right hG (hr.mono (by omega)) rfl pos_many_is_right (pvs_cons (pv_var 0) pvs_nil))))) (ss_one s_never) ss_nil) (ss_one (s_if (te_tv (tv_not (tv_val (pv_callD D_bounds_are_right hG (hr.mono (by omega)) rfl pos_bounds_are_right (pvs_cons (pv_var 0) (pvs_cons (pv_var 1) pvs_nil)))))) (ss_one s_never) ss_nil)))), hm, F⟩
theorem ok_check_some_row (g : Glo mg) (D_bad_by : DefG P w K mg base "bad_by" st_bad_by 1 ["bounds"] q_bad_by) (D_bad_floor_by : DefG P w K mg base "bad_floor_by" st_bad_floor_by 1 ["many", "floors"] q_bad_floor_by) (F : FunD K "check_some_row" "check_some_row" (defArgs st_check_some_row) (defBody st_check_some_row) (defScope st_check_some_row) [] [] f fd) (hm : mg "check_some_row" = some (.ref f)) : DefG P w K mg base "check_some_row" st_check_some_row 2 ["many", "floors", "bounds"] q_check_some_row :=
  ⟨lenG_sFn, f, fd, FnG.of (k := 1) F sc_check_some_row (fun cdv A outer s H E hG hr =>
      have sc := sc_check_some_row
      (ss_cons (s_par2 (i := 3) (j := 4) rfl sc.nd rfl rfl (by decide) rfl rfl (evs_cons (ev_ed (ed_pv (pv_callD D_bad_floor_by hG (hr.mono (by omega)) rfl pos_bad_floor_by (pvs_cons (pv_var 0) (pvs_cons (pv_var 1) pvs_nil))))) (evs_cons (ev_ed (ed_pv (pv_callD D_bad_by hG (hr.mono (by omega)) rfl pos_bad_by (pvs_cons (pv_var 2) pvs_nil)))) evs_nil)) rfl) (ss_cons (s_if (te_tv (tv_notN (pv_pk (pv_var 3)))) (ss_one s_never) ss_nil) (ss_one (s_if (te_tv (tv_notN (pv_pk (pv_var 4)))) (ss_one s_never) ss_nil))))), hm, F⟩
theorem ok_check_kept (g : Glo mg) (D_check_many_bounds : DefG P w K mg base "check_many_bounds" st_check_many_bounds 6 ["many", "bounds"] q_check_many_bounds) (D_check_some_row : DefG P w K mg base "check_some_row" st_check_some_row 2 ["many", "floors", "bounds"] q_check_some_row) (F : FunD K "check_kept" "check_kept" (defArgs st_check_kept) (defBody st_check_kept) (defScope st_check_kept) [] [] f fd) (hm : mg "check_kept" = some (.ref f)) : DefG P w K mg base "check_kept" st_check_kept 7 ["many", "bounds"] q_check_kept :=
  ⟨lenG_sFn, f, fd, FnG.of (k := 6) F sc_check_kept (fun cdv A outer s H E hG hr =>
      have sc := sc_check_kept
      (ss_cons (s_expr (ed_pv (pv_callD D_check_many_bounds hG (hr.mono (by omega)) rfl pos_check_many_bounds (pvs_cons (pv_var 0) (pvs_cons (pv_var 1) pvs_nil))))) (ss_one (s_expr (ed_pv (pv_callD D_check_some_row hG (hr.mono (by omega)) rfl pos_check_some_row (pvs_cons (pv_var 0) (pvs_cons (fl_pv (fl_lst pvs_nil)) (pvs_cons (pv_var 1) pvs_nil))))))))), hm, F⟩
theorem ok_check_kept_floors (g : Glo mg) (D_check_many_floors : DefG P w K mg base "check_many_floors" st_check_many_floors 6 ["many", "floors"] q_check_many_floors) (D_check_some_row : DefG P w K mg base "check_some_row" st_check_some_row 2 ["many", "floors", "bounds"] q_check_some_row) (F : FunD K "check_kept_floors" "check_kept_floors" (defArgs st_check_kept_floors) (defBody st_check_kept_floors) (defScope st_check_kept_floors) [] [] f fd) (hm : mg "check_kept_floors" = some (.ref f)) : DefG P w K mg base "check_kept_floors" st_check_kept_floors 7 ["many", "floors"] q_check_kept_floors :=
  ⟨lenG_sFn, f, fd, FnG.of (k := 6) F sc_check_kept_floors (fun cdv A outer s H E hG hr =>
      have sc := sc_check_kept_floors
      (ss_cons (s_expr (ed_pv (pv_callD D_check_many_floors hG (hr.mono (by omega)) rfl pos_check_many_floors (pvs_cons (pv_var 0) (pvs_cons (pv_var 1) pvs_nil))))) (ss_one (s_expr (ed_pv (pv_callD D_check_some_row hG (hr.mono (by omega)) rfl pos_check_some_row (pvs_cons (pv_var 0) (pvs_cons (pv_var 1) (pvs_cons (fl_pv (fl_lst pvs_nil)) pvs_nil))))))))), hm, F⟩
theorem ok_check_both (g : Glo mg) (D_check_many_bounds : DefG P w K mg base "check_many_bounds" st_check_many_bounds 6 ["many", "bounds"] q_check_many_bounds) (D_check_many_floors : DefG P w K mg base "check_many_floors" st_check_many_floors 6 ["many", "floors"] q_check_many_floors) (D_check_some_row : DefG P w K mg base "check_some_row" st_check_some_row 2 ["many", "floors", "bounds"] q_check_some_row) (F : FunD K "check_both" "check_both" (defArgs st_check_both) (defBody st_check_both) (defScope st_check_both) [] [] f fd) (hm : mg "check_both" = some (.ref f)) : DefG P w K mg base "check_both" st_check_both 7 ["many", "floors", "bounds"] q_check_both :=
  ⟨lenG_sFn, f, fd, FnG.of (k := 6) F sc_check_both (fun cdv A outer s H E hG hr =>
      have sc := sc_check_both
      (ss_cons (s_expr (ed_pv (pv_callD D_check_many_floors hG (hr.mono (by omega)) rfl pos_check_many_floors (pvs_cons (pv_var 0) (pvs_cons (pv_var 1) pvs_nil))))) (ss_cons (s_expr (ed_pv (pv_callD D_check_many_bounds hG (hr.mono (by omega)) rfl pos_check_many_bounds (pvs_cons (pv_var 0) (pvs_cons (pv_var 2) pvs_nil))))) (ss_one (s_expr (ed_pv (pv_callD D_check_some_row hG (hr.mono (by omega)) rfl pos_check_some_row (pvs_cons (pv_var 0) (pvs_cons (pv_var 1) (pvs_cons (pv_var 2) pvs_nil)))))))))), hm, F⟩
theorem ok_top_table (g : Glo mg) (D_check_kept : DefG P w K mg base "check_kept" st_check_kept 7 ["many", "bounds"] q_check_kept) (D_top_at : DefG P w K mg base "top_at" st_top_at 1 ["many", "bounds", "i", "j"] q_top_at) (F : FunD K "top_table" "top_table" (defArgs st_top_table) (defBody st_top_table) (defScope st_top_table) [] [] f fd) (hm : mg "top_table" = some (.ref f)) : DefG P w K mg base "top_table" st_top_table 8 ["many", "bounds"] q_top_table :=
  ⟨lenG_sFn, f, fd, FnG.of (k := 7) F sc_top_table (fun cdv A outer s H E hG hr =>
      have sc := sc_top_table
      (ss_cons (s_expr (ed_pv (pv_callD D_check_kept hG (hr.mono (by omega)) rfl pos_check_kept (pvs_cons (pv_var 0) (pvs_cons (pv_var 1) pvs_nil))))) (ss_one (s_ret (ev_fl (fl_lc (own := [("i", 2)]) rfl sc.nd (it_rng2 rfl g.range pv_int (pv_var 0)) (blkOk_by (by kernel_rfl)) (fun _ _ _ _ _ => (ng_name 2 sc.nd rfl (by first | exact Or.inl rfl | exact Or.inr rfl))) (fun _ _ _ _ _ => tvs_nil) (fun _ _ _ _ _ => (fl_pv (fl_lc (own := [("j", 3)]) rfl sc.nd (it_rng2 rfl g.range pv_int (pv_var 0)) (blkOk_by (by kernel_rfl)) (fun _ _ _ _ _ => (ng_name 3 sc.nd rfl (by first | exact Or.inl rfl | exact Or.inr rfl))) (fun _ _ _ _ _ => tvs_nil) (fun _ _ _ _ _ => (pv_callD D_top_at hG (hr.mono (by omega)) rfl pos_top_at (pvs_cons (pv_var 0) (pvs_cons (pv_var 1) (pvs_cons (pv_var 2) (pvs_cons (pv_var 3) pvs_nil)))))) inB_nm))) inB_nm)))))), hm, F⟩
theorem ok_bottom_table (g : Glo mg) (D_bottom_at : DefG P w K mg base "bottom_at" st_bottom_at 1 ["many", "floors", "i", "j"] q_bottom_at) (D_check_kept_floors : DefG P w K mg base "check_kept_floors" st_check_kept_floors 7 ["many", "floors"] q_check_kept_floors) (F : FunD K "bottom_table" "bottom_table" (defArgs st_bottom_table) (defBody st_bottom_table) (defScope st_bottom_table) [] [] f fd) (hm : mg "bottom_table" = some (.ref f)) : DefG P w K mg base "bottom_table" st_bottom_table 8 ["many", "floors"] q_bottom_table :=
  ⟨lenG_sFn, f, fd, FnG.of (k := 7) F sc_bottom_table (fun cdv A outer s H E hG hr =>
      have sc := sc_bottom_table
      (ss_cons (s_expr (ed_pv (pv_callD D_check_kept_floors hG (hr.mono (by omega)) rfl pos_check_kept_floors (pvs_cons (pv_var 0) (pvs_cons (pv_var 1) pvs_nil))))) (ss_one (s_ret (ev_fl (fl_lc (own := [("i", 2)]) rfl sc.nd (it_rng2 rfl g.range pv_int (pv_var 0)) (blkOk_by (by kernel_rfl)) (fun _ _ _ _ _ => (ng_name 2 sc.nd rfl (by first | exact Or.inl rfl | exact Or.inr rfl))) (fun _ _ _ _ _ => tvs_nil) (fun _ _ _ _ _ => (fl_pv (fl_lc (own := [("j", 3)]) rfl sc.nd (it_rng2 rfl g.range pv_int (pv_var 0)) (blkOk_by (by kernel_rfl)) (fun _ _ _ _ _ => (ng_name 3 sc.nd rfl (by first | exact Or.inl rfl | exact Or.inr rfl))) (fun _ _ _ _ _ => tvs_nil) (fun _ _ _ _ _ => (pv_callD D_bottom_at hG (hr.mono (by omega)) rfl pos_bottom_at (pvs_cons (pv_var 0) (pvs_cons (pv_var 1) (pvs_cons (pv_var 2) (pvs_cons (pv_var 3) pvs_nil)))))) inB_nm))) inB_nm)))))), hm, F⟩
theorem ok_rows_kept_both (g : Glo mg) (D_all_rows : DefG P w K mg base "all_rows" st_all_rows 1 ["many"] q_all_rows) (D_check_both : DefG P w K mg base "check_both" st_check_both 7 ["many", "floors", "bounds"] q_check_both) (D_keeps_all : DefG P w K mg base "keeps_all" st_keeps_all 2 ["row", "bounds"] q_keeps_all) (D_keeps_up : DefG P w K mg base "keeps_up" st_keeps_up 2 ["row", "floors"] q_keeps_up) (F : FunD K "rows_kept_both" "rows_kept_both" (defArgs st_rows_kept_both) (defBody st_rows_kept_both) (defScope st_rows_kept_both) [] [] f fd) (hm : mg "rows_kept_both" = some (.ref f)) : DefG P w K mg base "rows_kept_both" st_rows_kept_both 8 ["many", "floors", "bounds"] q_rows_kept_both :=
  ⟨lenG_sFn, f, fd, FnG.of (k := 7) F sc_rows_kept_both (fun cdv A outer s H E hG hr =>
      have sc := sc_rows_kept_both
      (ss_cons (s_expr (ed_pv (pv_callD D_check_both hG (hr.mono (by omega)) rfl pos_check_both (pvs_cons (pv_var 0) (pvs_cons (pv_var 1) (pvs_cons (pv_var 2) pvs_nil)))))) (ss_one (s_ret (ev_fl (fl_lc (own := [("row", 3)]) rfl sc.nd (it_pv (pv_callD D_all_rows hG (hr.mono (by omega)) rfl pos_all_rows (pvs_cons (pv_var 0) pvs_nil))) (blkOk_by (by kernel_rfl)) (fun _ _ _ _ _ => (ng_name 3 sc.nd rfl (by first | exact Or.inl rfl | exact Or.inr rfl))) (fun _ _ _ _ _ => (tvs_one (PW.pt (tw_and (tv_val (pv_callD D_keeps_up hG (hr.mono (by omega)) rfl pos_keeps_up (pvs_cons (pv_var 3) (pvs_cons (pv_var 1) pvs_nil)))) (tw_and1 (tv_val (pv_callD D_keeps_all hG (hr.mono (by omega)) rfl pos_keeps_all (pvs_cons (pv_var 3) (pvs_cons (pv_var 2) pvs_nil))))))))) (fun _ _ _ _ _ => (pv_var 3)) inB_nm)))))), hm, F⟩
theorem ok_floor_quarrel (g : Glo mg) (D_check_both : DefG P w K mg base "check_both" st_check_both 7 ["many", "floors", "bounds"] q_check_both) (D_quarrels : DefG P w K mg base "quarrels" st_quarrels 1 ["floor", "bound"] q_quarrels) (F : FunD K "floor_quarrel" "floor_quarrel" (defArgs st_floor_quarrel) (defBody st_floor_quarrel) (defScope st_floor_quarrel) [] [] f fd) (hm : mg "floor_quarrel" = some (.ref f)) : DefG P w K mg base "floor_quarrel" st_floor_quarrel 8 ["many", "floors", "bounds"] q_floor_quarrel :=
  ⟨lenG_sFn, f, fd, FnG.of (k := 7) F sc_floor_quarrel (fun cdv A outer s H E hG hr =>
      have sc := sc_floor_quarrel
      (ss_cons (s_expr (ed_pv (pv_callD D_check_both hG (hr.mono (by omega)) rfl pos_check_both (pvs_cons (pv_var 0) (pvs_cons (pv_var 1) (pvs_cons (pv_var 2) pvs_nil)))))) (ss_cons (s_for PassesOwn.never rfl (if_ed (ed_pv (pv_var 1))) (ng_name 3 sc.nd rfl (by first | exact Or.inl rfl | exact Or.inr rfl)) (ss_cons (s_setLcP (i := 4) (own := [("bound", 5)]) (fun _ _ _ => cv_dl) rfl sc.nd rfl rfl (it_pv (pv_var 2)) (blkOk_by (by kernel_rfl)) (fun _ _ _ _ _ => (ng_name 5 sc.nd rfl (by first | exact Or.inl rfl | exact Or.inr rfl))) (fun _ _ _ _ _ => (tvs_one (tv_val (pv_callD D_quarrels hG (hr.mono (by omega)) rfl pos_quarrels (pvs_cons (pv_var 3) (pvs_cons (pv_var 5) pvs_nil)))))) (fun _ _ _ _ _ => (pv_var 5)) inB_nm) (ss_one (s_if (te_tv (tv_cmp (or_ne (room64 hr)) sr_ne (pv_pk (pv_var 4)) (pv_pk (fl_pv (fl_lst pvs_nil))))) (ss_one (s_ret (ev_ed (ed_pv (pv_tup (pvs_cons (pv_var 3) (pvs_cons (pv_ixA (pv_var 4) pv_int) pvs_nil))))))) ss_nil))) (inS_of (vs := [3]) inB_nm)) (ss_one (s_ret (ev_ed (ed_pv pv_non))))))), hm, F⟩
theorem ok_law_pot (g : Glo mg)  (F : FunD K "_law_pot" "_law_pot" (defArgs st_law_pot) (defBody st_law_pot) (defScope st_law_pot) [] [] f fd) (hm : mg "_law_pot" = some (.ref f)) : DefG P w K mg base "_law_pot" st_law_pot 1 ["script", "k"] q_law_pot :=
  ⟨lenG_sFn, f, fd, FnG.of (k := 0) F sc_law_pot (fun cdv A outer s H E hG hr =>
      have sc := sc_law_pot
      (ss_cons (s_set (i := 2) sc.nd rfl (by first | exact Or.inl rfl | exact Or.inr rfl) (ev_ed (ed_pv (pv_op or_add br_add (pv_op or_add br_add (pv_op or_mul br_mul pv_int (pv_var 1)) pv_int) (pv_op op_mod br_mod (pv_cT call_int1 sr_int rfl g.int boot_int (pks_cons (pv_pk (pv_cB call_abs sr_abs rfl g.abs boot_abs (pks_cons (pv_pk (pv_cB (cr_sum rfl) sr_sum rfl g.sum boot_sum (pks_cons (pv_pk (fl_pv (fl_scSl 0 po_no (po_so pv_int)))) pks_nil))) pks_nil))) pks_nil)) pv_int))))) (ss_cons (s_set (i := 3) sc.nd rfl (by first | exact Or.inl rfl | exact Or.inr rfl) (ev_ed (ed_pv (pv_if (tv_cmp op_lt (sr_cmpI (fun i j => decide (i < j))) (pv_pk (pv_var 1)) (pv_pk (pv_scLen 0 rfl g.len))) (pv_cB call_abs sr_abs rfl g.abs boot_abs (pks_cons (pv_pk (pv_scIx 0 (pv_var 1))) pks_nil)) (pv_var 2))))) (ss_one (s_ret (ev_fl (fl_lst (pvs_cons (pv_cB (call_max2 rfl) sr_max2 rfl g.max boot_max (pks_cons (pv_pk pv_int) (pks_cons (pv_pk (pv_op op_sub br_sub (pv_var 3) (pv_op op_pow br_pow pv_int pv_int))) pks_nil))) (pvs_cons (pv_op or_add br_add (pv_op op_mod br_mod (pv_cT call_int1 sr_int rfl g.int boot_int (pks_cons (pv_pk (pv_op or_add br_add (pv_op or_add br_add (pv_op or_mul br_mul (pv_op op_mod br_mod (pv_cT call_int1 sr_int rfl g.int boot_int (pks_cons (pv_pk (pv_var 3)) pks_nil)) pv_int) pv_int) (pv_op or_mul br_mul pv_int (pv_var 1))) pv_int)) pks_nil)) pv_int) pv_int) pvs_nil))))))))), hm, F⟩
theorem ok_law_draw (g : Glo mg)  (F : FunD K "_law_draw" "_law_draw" (defArgs st_law_draw) (defBody st_law_draw) (defScope st_law_draw) [] [] f fd) (hm : mg "_law_draw" = some (.ref f)) : DefG P w K mg base "_law_draw" st_law_draw 1 ["pot", "many"] q_law_draw :=
  ⟨lenG_sFn, f, fd, FnG.of (k := 0) F sc_law_draw (fun cdv A outer s H E hG hr =>
      have sc := sc_law_draw
      (ss_cons (s_if (te_tv (tv_cmp op_gt (sr_cmpI (fun i j => decide (j < i))) (pv_pk (pv_ixL (ls_var 0) pv_int)) (pv_pk pv_int))) (ss_cons (s_set (i := 2) sc.nd rfl (by first | exact Or.inl rfl | exact Or.inr rfl) (ev_ed (ed_pv (pv_op op_mod br_mod (pv_cT call_int1 sr_int rfl g.int boot_int (pks_cons (pv_pk (pv_ixL (ls_var 0) pv_int)) pks_nil)) (pv_var 1))))) (ss_cons (s_asgT (ed_pv (pv_op op_fdiv br_fdiv (pv_cT call_int1 sr_int rfl g.int boot_int (pks_cons (pv_pk (pv_ixL (ls_var 0) pv_int)) pks_nil)) (pv_var 1))) (tg_sub (i := 0) rfl (by first | exact Or.inl rfl | exact Or.inr (Or.inl rfl) | exact Or.inr (Or.inr rfl)) pv_int)) (ss_one (s_ret (ev_ed (ed_pv (pv_var 2))))))) ss_nil) (ss_cons (s_asgT (ed_pv (pv_op op_mod br_mod (pv_cT call_int1 sr_int rfl g.int boot_int (pks_cons (pv_pk (pv_op or_add br_add (pv_op or_mul br_mul (pv_ixL (ls_var 0) pv_int) pv_int) pv_int)) pks_nil)) pv_int)) (tg_sub (i := 0) rfl (by first | exact Or.inl rfl | exact Or.inr (Or.inl rfl) | exact Or.inr (Or.inr rfl)) pv_int)) (ss_one (s_ret (ev_ed (ed_pv (pv_op op_mod br_mod (pv_cT call_int1 sr_int rfl g.int boot_int (pks_cons (pv_pk (pv_op op_fdiv br_fdiv (pv_op op_mod br_mod (pv_cT call_int1 sr_int rfl g.int boot_int (pks_cons (pv_pk (pv_op or_mul br_mul (pv_ixL (ls_var 0) pv_int) (pv_ixL (ls_var 0) pv_int))) pks_nil)) pv_int) pv_int)) pks_nil)) (pv_var 1))))))))), hm, F⟩
theorem ok_law_pick (g : Glo mg) (D_law_draw : DefG P w K mg base "_law_draw" st_law_draw 1 ["pot", "many"] q_law_draw) (F : FunD K "_law_pick" "_law_pick" (defArgs st_law_pick) (defBody st_law_pick) (defScope st_law_pick) [] [] f fd) (hm : mg "_law_pick" = some (.ref f)) : DefG P w K mg base "_law_pick" st_law_pick 2 ["pot", "some"] q_law_pick :=
  ⟨lenG_sFn, f, fd, FnG.of (k := 1) F sc_law_pick (fun cdv A outer s H E hG hr =>
      have sc := sc_law_pick
      (ss_one (s_ret (ev_ed (ed_ix (ed_pv (pv_var 1)) (ed_ev (ev_callR D_law_draw hG (hr.mono (by omega)) rfl pos_law_draw (ar_r 0 (ar_d (ed_pv (pv_cB call_len sr_len rfl g.len boot_len (pks_cons (pv_pk (pv_var 1)) pks_nil))) ar_nil))))))))), hm, F⟩
theorem ok_law_same (g : Glo mg)  (F : FunD K "_law_same" "_law_same" (defArgs st_law_same) (defBody st_law_same) (defScope st_law_same) [] [] f fd) (hm : mg "_law_same" = some (.ref f)) : ∀ n : Nat, DefG P w K mg base "_law_same" st_law_same n ["told", "due"] (q_law_same n)
  | 0 => ⟨fun _ _ h => (nomatch h), f, fd, ⟨fun _ _ _ _ _ _ _ _ _ _ _ _ _ _ _ _ _ _ _ _ h => (nomatch h)⟩, hm, F⟩
  | n + 1 => ⟨lenG_sFn, f, fd, FnG.of F sc_law_same (fun cdv A outer s H E hG hr =>
      have sc := sc_law_same
      have D_law_same := ok_law_same g F hm n
      (ss_cons (s_if (te_tv (tv_isN (pv_pk (pv_var 1)))) (ss_one (s_ret (ev_ed (ed_pv (pv_isN (pv_pk (pv_var 0))))))) ss_nil) (ss_cons (s_if (te_tv (tv_val (pv_isi (T := "bool") (by decide) rfl g.isinstance (pv_pk (pv_var 1)) (pe_bltn rfl g.bool boot_bool rfl)))) (ss_one (s_ret (ev_ed (ed_pv (pv_and (pv_isi (T := "bool") (by decide) rfl g.isinstance (pv_pk (pv_var 0)) (pe_bltn rfl g.bool boot_bool rfl)) (pv_one (pv_cmp (or_eq (room64 hr)) sr_eq (pv_pk (pv_var 0)) (pv_pk (pv_var 1))))))))) ss_nil) (ss_cons (s_if (te_tv (tv_val (pv_isi (T := "str") (by decide) rfl g.isinstance (pv_pk (pv_var 1)) (pe_bltn rfl g.str boot_str rfl)))) (ss_one (s_ret (ev_ed (ed_pv (pv_and (pv_isi (T := "str") (by decide) rfl g.isinstance (pv_pk (pv_var 0)) (pe_bltn rfl g.str boot_str rfl)) (pv_one (pv_cmp (or_eq (room64 hr)) sr_eq (pv_pk (pv_var 0)) (pv_pk (pv_var 1))))))))) ss_nil) (ss_cons (s_if (te_tv (tv_val (pv_isi (T := "int") (by decide) rfl g.isinstance (pv_pk (pv_var 1)) (pe_bltn rfl g.int boot_int rfl)))) (ss_one (s_ret (ev_ed (ed_pv (pv_and (pv_isi (T := "int") (by decide) rfl g.isinstance (pv_pk (pv_var 0)) (pe_bltn rfl g.int boot_int rfl)) (pv_and (pv_not (pv_isi (T := "bool") (by decide) rfl g.isinstance (pv_pk (pv_var 0)) (pe_bltn rfl g.bool boot_bool rfl))) (pv_one (pv_cmp (or_eq (room64 hr)) sr_eq (pv_pk (pv_var 0)) (pv_pk (pv_var 1)))))))))) ss_nil) (ss_cons (s_if (te_tv (tv_val (pv_isi (T := "tuple") (by decide) rfl g.isinstance (pv_pk (pv_var 1)) (pe_bltn rfl g.tuple boot_tuple rfl)))) (ss_cons (s_if (te_tv (PW.pt (tw_or (tv_not (tv_val (pv_isi (T := "tuple") (by decide) rfl g.isinstance (pv_pk (pv_var 0)) (pe_bltn rfl g.tuple boot_tuple rfl)))) (tw_or1 (tv_cmp (or_ne (room64 hr)) sr_ne (pv_pk (pv_cB call_len sr_len rfl g.len boot_len (pks_cons (pv_pk (pv_var 0)) pks_nil))) (pv_pk (pv_cB call_len sr_len rfl g.len boot_len (pks_cons (pv_pk (pv_var 1)) pks_nil)))))))) (ss_one (s_ret (ev_ed (ed_pv pv_bl)))) ss_nil) (ss_one (s_ret (ev_ed (ed_pv (pv_cB (cr_all rfl) sr_all rfl g.all boot_all (pks_cons (pv_pk (fl_pv (fl_lc (own := [("near", 2), ("far", 3)]) rfl sc.nd (it_z2 rfl g.zip (pv_var 0) (pv_var 1)) (blkOk_by (by kernel_rfl)) (fun _ _ _ _ _ => (ng_tup rfl (ngs_cons (ng_name 2 sc.nd rfl (by first | exact Or.inl rfl | exact Or.inr rfl)) (ngs_cons (ng_name 3 sc.nd rfl (by first | exact Or.inl rfl | exact Or.inr rfl)) ngs_nil)))) (fun _ _ _ _ _ => tvs_nil) (fun _ _ _ _ _ => (pv_callD D_law_same hG (hr.mono (Nat.le_refl _)) rfl pos_law_same (pvs_cons (pv_var 2) (pvs_cons (pv_var 3) pvs_nil)))) (inB_tup (inBs_cons inB_nm (inBs_cons inB_nm inBs_nil)))))) pks_nil))))))) ss_nil) (ss_cons (s_if (te_tv (tv_val (pv_isi (T := "list") (by decide) rfl g.isinstance (pv_pk (pv_var 1)) (pe_bltn rfl g.list boot_list rfl)))) (ss_cons (s_if (te_tv (PW.pt (tw_or (tv_not (tv_val (pv_isi (T := "list") (by decide) rfl g.isinstance (pv_pk (pv_var 0)) (pe_bltn rfl g.list boot_list rfl)))) (tw_or1 (tv_cmp (or_ne (room64 hr)) sr_ne (pv_pk (pv_cB call_len sr_len rfl g.len boot_len (pks_cons (pv_pk (pv_var 0)) pks_nil))) (pv_pk (pv_cB call_len sr_len rfl g.len boot_len (pks_cons (pv_pk (pv_var 1)) pks_nil)))))))) (ss_one (s_ret (ev_ed (ed_pv pv_bl)))) ss_nil) (ss_one (s_ret (ev_ed (ed_pv (pv_cB (cr_all rfl) sr_all rfl g.all boot_all (pks_cons (pv_pk (fl_pv (fl_lc (own := [("near", 2), ("far", 3)]) rfl sc.nd (it_z2 rfl g.zip (pv_var 0) (pv_var 1)) (blkOk_by (by kernel_rfl)) (fun _ _ _ _ _ => (ng_tup rfl (ngs_cons (ng_name 2 sc.nd rfl (by first | exact Or.inl rfl | exact Or.inr rfl)) (ngs_cons (ng_name 3 sc.nd rfl (by first | exact Or.inl rfl | exact Or.inr rfl)) ngs_nil)))) (fun _ _ _ _ _ => tvs_nil) (fun _ _ _ _ _ => (pv_callD D_law_same hG (hr.mono (Nat.le_refl _)) rfl pos_law_same (pvs_cons (pv_var 2) (pvs_cons (pv_var 3) pvs_nil)))) (inB_tup (inBs_cons inB_nm (inBs_cons inB_nm inBs_nil)))))) pks_nil))))))) ss_nil) (ss_one (s_ret (ev_ed (ed_pv (pv_cmp (or_eq (room64 hr)) sr_eq (pv_pk (pv_var 0)) (pv_pk (pv_var 1)))))))))))))), hm, F⟩
theorem ok_law_count (g : Glo mg)  (F : FunD K "_law_count" "_law_count" (defArgs st_law_count) (defBody st_law_count) (defScope st_law_count) [] [] f fd) (hm : mg "_law_count" = some (.ref f)) : DefG P w K mg base "_law_count" st_law_count 1 ["row", "i", "j"] q_law_count :=
  ⟨lenG_sFn, f, fd, FnG.of (k := 0) F sc_law_count (fun cdv A outer s H E hG hr =>
      have sc := sc_law_count
      (ss_one (s_ret (ev_ed (ed_pv (pv_cB call_len sr_len rfl g.len boot_len (pks_cons (pv_pk (fl_pv (fl_lc (own := [("number", 3)]) rfl sc.nd (it_pv (pv_slA (pv_var 0) po_no (po_so (pv_var 1)))) (blkOk_by (by kernel_rfl)) (fun _ _ _ _ _ => (ng_name 3 sc.nd rfl (by first | exact Or.inl rfl | exact Or.inr rfl))) (fun _ _ _ _ _ => (tvs_one (tv_cmp op_ge (sr_cmpI (fun i j => decide (j ≤ i))) (pv_pk (pv_var 3)) (pv_pk (pv_var 2))))) (fun _ _ _ _ _ => (pv_var 3)) inB_nm))) pks_nil))))))), hm, F⟩
theorem ok_law_rows (g : Glo mg)  (F : FunD K "_law_rows" "_law_rows" (defArgs st_law_rows) (defBody st_law_rows) (defScope st_law_rows) [] [] f fd) (hm : mg "_law_rows" = some (.ref f)) : DefG P w K mg base "_law_rows" st_law_rows 1 ["many"] q_law_rows :=
  ⟨lenG_sFn, f, fd, FnG.of (k := 0) F sc_law_rows (fun cdv A outer s H E hG hr =>
      have sc := sc_law_rows
      (ss_cons (s_set (i := 1) sc.nd rfl (by first | exact Or.inl rfl | exact Or.inr rfl) (ev_ed (ed_pv (fl_pv (fl_lst (pvs_cons (pv_tup pvs_nil) pvs_nil)))))) (ss_cons (s_for PassesOwn.never rfl (if_rng1 rfl g.range (ed_pv (pv_var 0))) (ng_name 2 sc.nd rfl (by first | exact Or.inl rfl | exact Or.inr rfl)) (ss_cons (s_set (i := 3) sc.nd rfl (by first | exact Or.inl rfl | exact Or.inr rfl) (ev_fl (fl_lst pvs_nil))) (ss_cons (s_for PassesOwn.never rfl (if_ed (ed_pv (pv_var 1))) (ng_name 4 sc.nd rfl (by first | exact Or.inl rfl | exact Or.inr rfl)) (ss_one (s_extend (i := 3) rfl (by first | exact Or.inl rfl | exact Or.inr (Or.inl rfl) | exact Or.inr (Or.inr rfl)) (fl_ls (fl_lc (own := [("number", 5)]) rfl sc.nd (it_rng1 rfl g.range (pv_var 0)) (blkOk_by (by kernel_rfl)) (fun _ _ _ _ _ => (ng_name 5 sc.nd rfl (by first | exact Or.inl rfl | exact Or.inr rfl))) (fun _ _ _ _ _ => (tvs_one (tv_cmp (or_notIn (room65 hr)) sr_notIn (pv_pk (pv_var 5)) (pv_pk (pv_var 4))))) (fun _ _ _ _ _ => (pv_op or_add br_add (pv_var 4) (pv_tup (pvs_cons (pv_var 5) pvs_nil)))) inB_nm)) (hpe := fun he => pe_bm PySem.F.plainAttrs_list PySem.F.slot_list_extend PySem.F.type_list_extend mt_extend (pe_var rfl (by first | exact Or.inl rfl | exact Or.inr (Or.inl rfl) | exact Or.inr (Or.inr rfl))) (pa_cons he pa_nil)))) (inS_of (vs := [4]) inB_nm)) (ss_one (s_set (i := 1) sc.nd rfl (by first | exact Or.inl rfl | exact Or.inr rfl) (ev_ed (ed_var 3)))))) (inS_of (vs := [2]) inB_nm)) (ss_one (s_ret (ev_ed (ed_pv (pv_var 1)))))))), hm, F⟩
theorem ok_law_bounds (g : Glo mg) (D_law_draw : DefG P w K mg base "_law_draw" st_law_draw 1 ["pot", "many"] q_law_draw) (F : FunD K "_law_bounds" "_law_bounds" (defArgs st_law_bounds) (defBody st_law_bounds) (defScope st_law_bounds) [] [] f fd) (hm : mg "_law_bounds" = some (.ref f)) : DefG P w K mg base "_law_bounds" st_law_bounds 2 ["pot", "many"] q_law_bounds :=
  ⟨lenG_sFn, f, fd, FnG.of (k := 1) F sc_law_bounds (fun cdv A outer s H E hG hr =>
      have sc := sc_law_bounds
      (ss_cons (s_set (i := 2) sc.nd rfl (by first | exact Or.inl rfl | exact Or.inr rfl) (ev_fl (fl_lst pvs_nil))) (ss_cons (s_for PassesOwn.never rfl (if_rng1 rfl g.range (ed_ev (ev_callR D_law_draw hG (hr.mono (by omega)) rfl pos_law_draw (ar_r 0 (ar_d (ed_pv pv_int) ar_nil))))) (ng_name 3 sc.nd rfl (by first | exact Or.inl rfl | exact Or.inr rfl)) (ss_cons (s_par2 (i := 4) (j := 5) rfl sc.nd rfl rfl (by decide) rfl rfl (evs_cons (ev_ed (ed_op or_add br_add (ed_pv pv_int) (ed_ev (ev_callR D_law_draw hG (hr.mono (by omega)) rfl pos_law_draw (ar_r 0 (ar_d (ed_pv (pv_op op_sub br_sub (pv_var 1) pv_int)) ar_nil)))))) (evs_cons (ev_ed (ed_op or_add br_add (ed_pv pv_int) (ed_ev (ev_callR D_law_draw hG (hr.mono (by omega)) rfl pos_law_draw (ar_r 0 (ar_d (ed_pv (pv_op op_sub br_sub (pv_var 1) pv_int)) ar_nil)))))) evs_nil)) rfl) (ss_one (s_append (i := 2) rfl (by first | exact Or.inl rfl | exact Or.inr (Or.inl rfl) | exact Or.inr (Or.inr rfl)) (ev_ed (ed_tup (eds_cons (ed_pv (pv_var 4)) (eds_cons (ed_pv (pv_var 5)) (eds_cons (ed_op op_sub br_sub (ed_op or_add br_add (ed_pv (pv_cB (call_max2 rfl) sr_max2 rfl g.max boot_max (pks_cons (pv_pk pv_int) (pks_cons (pv_pk (pv_op op_sub br_sub (pv_var 4) (pv_var 5))) pks_nil)))) (ed_ev (ev_callR D_law_draw hG (hr.mono (by omega)) rfl pos_law_draw (ar_r 0 (ar_d (ed_pv pv_int) ar_nil))))) (ed_cT call_int1 sr_int.br rfl g.int boot_int (eds_cons (ed_and (ed_cmp (or_eq (room64 hr)) sr_eq (ed_ev (ev_callR D_law_draw hG (hr.mono (by omega)) rfl pos_law_draw (ar_r 0 (ar_d (ed_pv pv_int) ar_nil)))) (ed_pv pv_int)) (ed_one (ed_pv (pv_cmp op_gt (sr_cmpI (fun i j => decide (j < i))) (pv_pk (pv_var 4)) (pv_pk (pv_var 5)))))) eds_nil))) eds_nil))))) (hpe := fun he => pe_bm PySem.F.plainAttrs_list PySem.F.slot_list_append PySem.F.type_list_append mt_append (pe_var rfl (by first | exact Or.inl rfl | exact Or.inr (Or.inl rfl) | exact Or.inr (Or.inr rfl))) (pa_cons he pa_nil))))) (inS_of (vs := [3]) inB_nm)) (ss_one (s_ret (ev_mv 2)))))), hm, F⟩
theorem ok_law_keeps (g : Glo mg) (D_law_count : DefG P w K mg base "_law_count" st_law_count 1 ["row", "i", "j"] q_law_count) (F : FunD K "_law_keeps" "_law_keeps" (defArgs st_law_keeps) (defBody st_law_keeps) (defScope st_law_keeps) [] [] f fd) (hm : mg "_law_keeps" = some (.ref f)) : DefG P w K mg base "_law_keeps" st_law_keeps 2 ["row", "bounds"] q_law_keeps :=
  ⟨lenG_sFn, f, fd, FnG.of (k := 1) F sc_law_keeps (fun cdv A outer s H E hG hr =>
      have sc := sc_law_keeps
      (ss_one (s_ret (ev_ed (ed_pv (pv_cB (cr_all rfl) sr_all rfl g.all boot_all (pks_cons (pv_pk (fl_pv (fl_lc (own := [("i", 2), ("j", 3), ("k", 4)]) rfl sc.nd (it_pv (pv_var 1)) (blkOk_by (by kernel_rfl)) (fun _ _ _ _ _ => (ng_tup rfl (ngs_cons (ng_name 2 sc.nd rfl (by first | exact Or.inl rfl | exact Or.inr rfl)) (ngs_cons (ng_name 3 sc.nd rfl (by first | exact Or.inl rfl | exact Or.inr rfl)) (ngs_cons (ng_name 4 sc.nd rfl (by first | exact Or.inl rfl | exact Or.inr rfl)) ngs_nil))))) (fun _ _ _ _ _ => tvs_nil) (fun _ _ _ _ _ => (pv_cmp op_le (sr_cmpI (fun i j => decide (i ≤ j))) (pv_pk (pv_callD D_law_count hG (hr.mono (by omega)) rfl pos_law_count (pvs_cons (pv_var 0) (pvs_cons (pv_var 2) (pvs_cons (pv_var 3) pvs_nil))))) (pv_pk (pv_var 4)))) (inB_tup (inBs_cons inB_nm (inBs_cons inB_nm (inBs_cons inB_nm inBs_nil))))))) pks_nil))))))), hm, F⟩
theorem ok_law_holds (g : Glo mg) (D_law_count : DefG P w K mg base "_law_count" st_law_count 1 ["row", "i", "j"] q_law_count) (F : FunD K "_law_holds" "_law_holds" (defArgs st_law_holds) (defBody st_law_holds) (defScope st_law_holds) [] [] f fd) (hm : mg "_law_holds" = some (.ref f)) : DefG P w K mg base "_law_holds" st_law_holds 2 ["row", "floors"] q_law_holds :=
  ⟨lenG_sFn, f, fd, FnG.of (k := 1) F sc_law_holds (fun cdv A outer s H E hG hr =>
      have sc := sc_law_holds
      (ss_one (s_ret (ev_ed (ed_pv (pv_cB (cr_all rfl) sr_all rfl g.all boot_all (pks_cons (pv_pk (fl_pv (fl_lc (own := [("i", 2), ("j", 3), ("k", 4)]) rfl sc.nd (it_pv (pv_var 1)) (blkOk_by (by kernel_rfl)) (fun _ _ _ _ _ => (ng_tup rfl (ngs_cons (ng_name 2 sc.nd rfl (by first | exact Or.inl rfl | exact Or.inr rfl)) (ngs_cons (ng_name 3 sc.nd rfl (by first | exact Or.inl rfl | exact Or.inr rfl)) (ngs_cons (ng_name 4 sc.nd rfl (by first | exact Or.inl rfl | exact Or.inr rfl)) ngs_nil))))) (fun _ _ _ _ _ => tvs_nil) (fun _ _ _ _ _ => (pv_cmp op_ge (sr_cmpI (fun i j => decide (j ≤ i))) (pv_pk (pv_callD D_law_count hG (hr.mono (by omega)) rfl pos_law_count (pvs_cons (pv_var 0) (pvs_cons (pv_var 2) (pvs_cons (pv_var 3) pvs_nil))))) (pv_pk (pv_var 4)))) (inB_tup (inBs_cons inB_nm (inBs_cons inB_nm (inBs_cons inB_nm inBs_nil))))))) pks_nil))))))), hm, F⟩
theorem ok_law_quarrel (g : Glo mg)  (F : FunD K "_law_quarrel" "_law_quarrel" (defArgs st_law_quarrel) (defBody st_law_quarrel) (defScope st_law_quarrel) [] [] f fd) (hm : mg "_law_quarrel" = some (.ref f)) : DefG P w K mg base "_law_quarrel" st_law_quarrel 1 ["floors", "bounds"] q_law_quarrel :=
  ⟨lenG_sFn, f, fd, FnG.of (k := 0) F sc_law_quarrel (fun cdv A outer s H E hG hr =>
      have sc := sc_law_quarrel
      (ss_cons (s_for PassesOwn.never rfl (if_ed (ed_pv (pv_var 0))) (ng_tup rfl (ngs_cons (ng_name 2 sc.nd rfl (by first | exact Or.inl rfl | exact Or.inr rfl)) (ngs_cons (ng_name 3 sc.nd rfl (by first | exact Or.inl rfl | exact Or.inr rfl)) (ngs_cons (ng_name 4 sc.nd rfl (by first | exact Or.inl rfl | exact Or.inr rfl)) ngs_nil)))) (ss_one (s_for PassesOwn.never rfl (if_ed (ed_pv (pv_var 1))) (ng_tup rfl (ngs_cons (ng_name 5 sc.nd rfl (by first | exact Or.inl rfl | exact Or.inr rfl)) (ngs_cons (ng_name 6 sc.nd rfl (by first | exact Or.inl rfl | exact Or.inr rfl)) (ngs_cons (ng_name 7 sc.nd rfl (by first | exact Or.inl rfl | exact Or.inr rfl)) ngs_nil)))) (ss_one (s_if (te_tv (tv_cmp op_gt (sr_cmpI (fun i j => decide (j < i))) (pv_pk (pv_op op_sub br_sub (pv_op op_sub br_sub (pv_var 4) (pv_cB (call_max2 rfl) sr_max2 rfl g.max boot_max (pks_cons (pv_pk pv_int) (pks_cons (pv_pk (pv_op op_sub br_sub (pv_var 2) (pv_var 5))) pks_nil)))) (pv_cB (call_max2 rfl) sr_max2 rfl g.max boot_max (pks_cons (pv_pk pv_int) (pks_cons (pv_pk (pv_op op_sub br_sub (pv_var 6) (pv_var 3))) pks_nil))))) (pv_pk (pv_var 7)))) (ss_one (s_ret (ev_ed (ed_pv (pv_tup (pvs_cons (pv_tup (pvs_cons (pv_var 2) (pvs_cons (pv_var 3) (pvs_cons (pv_var 4) pvs_nil)))) (pvs_cons (pv_tup (pvs_cons (pv_var 5) (pvs_cons (pv_var 6) (pvs_cons (pv_var 7) pvs_nil)))) pvs_nil))))))) ss_nil)) (inS_of (vs := [5, 6, 7]) (inB_tup (inBs_cons inB_nm (inBs_cons inB_nm (inBs_cons inB_nm inBs_nil))))))) (inS_of (vs := [2, 3, 4]) (inB_tup (inBs_cons inB_nm (inBs_cons inB_nm (inBs_cons inB_nm inBs_nil)))))) (ss_one (s_ret (ev_ed (ed_pv pv_non)))))), hm, F⟩
theorem ok_law_right (g : Glo mg) (D_law_bounds : DefG P w K mg base "_law_bounds" st_law_bounds 2 ["pot", "many"] q_law_bounds) (D_law_count : DefG P w K mg base "_law_count" st_law_count 1 ["row", "i", "j"] q_law_count) (D_law_draw : DefG P w K mg base "_law_draw" st_law_draw 1 ["pot", "many"] q_law_draw) (D_law_holds : DefG P w K mg base "_law_holds" st_law_holds 2 ["row", "floors"] q_law_holds) (D_law_keeps : DefG P w K mg base "_law_keeps" st_law_keeps 2 ["row", "bounds"] q_law_keeps) (D_law_pick : DefG P w K mg base "_law_pick" st_law_pick 2 ["pot", "some"] q_law_pick) (D_law_quarrel : DefG P w K mg base "_law_quarrel" st_law_quarrel 1 ["floors", "bounds"] q_law_quarrel) (D_law_rows : DefG P w K mg base "_law_rows" st_law_rows 1 ["many"] q_law_rows) (D_law_same : DefG P w K mg base "_law_same" st_law_same 8 ["told", "due"] (q_law_same 8)) (D_bottom_table : DefG P w K mg base "bottom_table" st_bottom_table 8 ["many", "floors"] q_bottom_table) (D_floor_quarrel : DefG P w K mg base "floor_quarrel" st_floor_quarrel 8 ["many", "floors", "bounds"] q_floor_quarrel) (D_rows_kept_both : DefG P w K mg base "rows_kept_both" st_rows_kept_both 8 ["many", "floors", "bounds"] q_rows_kept_both) (D_top_table : DefG P w K mg base "top_table" st_top_table 8 ["many", "bounds"] q_top_table) (F : FunD K "_law_right" "_law_right" (defArgs st_law_right) (defBody st_law_right) (defScope st_law_right) [] [] f fd) (hm : mg "_law_right" = some (.ref f)) : DefG P w K mg base "_law_right" st_law_right 9 ["pot"] q_law_right :=
  ⟨lenG_sFn, f, fd, FnG.of (k := 8) F sc_law_right (fun cdv A outer s H E hG hr =>
      have sc := sc_law_right
      (ss_cons (s_set (i := 1) sc.nd rfl (by first | exact Or.inl rfl | exact Or.inr rfl) (ev_ed (ed_op or_add br_add (ed_pv pv_int) (ed_ev (ev_callR D_law_draw hG (hr.mono (by omega)) rfl pos_law_draw (ar_r 0 (ar_d (ed_pv pv_int) ar_nil))))))) (ss_cons (s_set (i := 2) sc.nd rfl (by first | exact Or.inl rfl | exact Or.inr rfl) (ev_ed (ed_pv (pv_callD D_law_rows hG (hr.mono (by omega)) rfl pos_law_rows (pvs_cons (pv_var 1) pvs_nil))))) (ss_cons (s_set (i := 3) sc.nd rfl (by first | exact Or.inl rfl | exact Or.inr rfl) (ev_ed (ed_ev (ev_lc (own := [("i", 14), ("j", 15), ("k", 16)]) rfl sc.nd (if_ed (ed_ev (ev_callR D_law_bounds hG (hr.mono (by omega)) rfl pos_law_bounds (ar_r 0 (ar_d (ed_pv (pv_var 1)) ar_nil))))) (blkOk_by (by kernel_rfl)) (fun _ _ _ _ _ => (ng_tup rfl (ngs_cons (ng_name 14 sc.nd rfl (by first | exact Or.inl rfl | exact Or.inr rfl)) (ngs_cons (ng_name 15 sc.nd rfl (by first | exact Or.inl rfl | exact Or.inr rfl)) (ngs_cons (ng_name 16 sc.nd rfl (by first | exact Or.inl rfl | exact Or.inr rfl)) ngs_nil))))) (fun _ _ _ _ _ => tes_nil) (fun _ _ _ _ _ => (ev_ed (ed_pv (pv_tup (pvs_cons (pv_var 14) (pvs_cons (pv_var 15) (pvs_cons (pv_cB (call_max2 rfl) sr_max2 rfl g.max boot_max (pks_cons (pv_pk pv_int) (pks_cons (pv_pk (pv_cB (call_min3Nu rfl) sr_min3 rfl g.min boot_min (pks_cons (pv_pk (pv_var 14)) (pks_cons (pv_pk (pv_op op_sub br_sub (pv_var 1) (pv_var 15))) (pks_cons (pv_pk (pv_var 16)) pks_nil))))) pks_nil))) pvs_nil))))))) (inB_tup (inBs_cons inB_nm (inBs_cons inB_nm (inBs_cons inB_nm inBs_nil)))))))) (ss_cons (s_set (i := 4) sc.nd rfl (by first | exact Or.inl rfl | exact Or.inr rfl) (ev_ed (ed_ev (ev_lc (own := [("i", 14), ("j", 15), ("k", 16)]) rfl sc.nd (if_ed (ed_ev (ev_callR D_law_bounds hG (hr.mono (by omega)) rfl pos_law_bounds (ar_r 0 (ar_d (ed_pv (pv_var 1)) ar_nil))))) (blkOk_by (by kernel_rfl)) (fun _ _ _ _ _ => (ng_tup rfl (ngs_cons (ng_name 14 sc.nd rfl (by first | exact Or.inl rfl | exact Or.inr rfl)) (ngs_cons (ng_name 15 sc.nd rfl (by first | exact Or.inl rfl | exact Or.inr rfl)) (ngs_cons (ng_name 16 sc.nd rfl (by first | exact Or.inl rfl | exact Or.inr rfl)) ngs_nil))))) (fun _ _ _ _ _ => tes_nil) (fun _ _ _ _ _ => (ev_ed (ed_pv (pv_tup (pvs_cons (pv_var 14) (pvs_cons (pv_var 15) (pvs_cons (pv_cB (call_max3Nu rfl) sr_max3 rfl g.max boot_max (pks_cons (pv_pk pv_int) (pks_cons (pv_pk (pv_op op_sub br_sub (pv_var 14) (pv_var 15))) (pks_cons (pv_pk (pv_var 16)) pks_nil)))) pvs_nil))))))) (inB_tup (inBs_cons inB_nm (inBs_cons inB_nm (inBs_cons inB_nm inBs_nil)))))))) (ss_cons (s_if (te_cmp (or_eq (room64 hr)) sr_eq (ed_ev (ev_callR D_law_draw hG (hr.mono (by omega)) rfl pos_law_draw (ar_r 0 (ar_d (ed_pv pv_int) ar_nil)))) (ed_pv pv_int)) (ss_cons (s_set (i := 5) sc.nd rfl (by first | exact Or.inl rfl | exact Or.inr rfl) (ev_ed (ed_ev (ev_callR D_law_pick hG (hr.mono (by omega)) rfl pos_law_pick (ar_r 0 (ar_d (ed_pv (pv_var 2)) ar_nil)))))) (ss_cons (s_set (i := 3) sc.nd rfl (by first | exact Or.inl rfl | exact Or.inr rfl) (ev_ed (ed_pv (fl_pv (fl_lc (own := [("i", 14), ("j", 15), ("k", 16)]) rfl sc.nd (it_pv (pv_var 3)) (blkOk_by (by kernel_rfl)) (fun _ _ _ _ _ => (ng_tup rfl (ngs_cons (ng_name 14 sc.nd rfl (by first | exact Or.inl rfl | exact Or.inr rfl)) (ngs_cons (ng_name 15 sc.nd rfl (by first | exact Or.inl rfl | exact Or.inr rfl)) (ngs_cons (ng_name 16 sc.nd rfl (by first | exact Or.inl rfl | exact Or.inr rfl)) ngs_nil))))) (fun _ _ _ _ _ => tvs_nil) (fun _ _ _ _ _ => (pv_tup (pvs_cons (pv_var 14) (pvs_cons (pv_var 15) (pvs_cons (pv_callD D_law_count hG (hr.mono (by omega)) rfl pos_law_count (pvs_cons (pv_var 5) (pvs_cons (pv_var 14) (pvs_cons (pv_var 15) pvs_nil)))) pvs_nil))))) (inB_tup (inBs_cons inB_nm (inBs_cons inB_nm (inBs_cons inB_nm inBs_nil))))))))) (ss_one (s_set (i := 4) sc.nd rfl (by first | exact Or.inl rfl | exact Or.inr rfl) (ev_ed (ed_pv (fl_pv (fl_lc (own := [("i", 14), ("j", 15), ("k", 16)]) rfl sc.nd (it_pv (pv_var 4)) (blkOk_by (by kernel_rfl)) (fun _ _ _ _ _ => (ng_tup rfl (ngs_cons (ng_name 14 sc.nd rfl (by first | exact Or.inl rfl | exact Or.inr rfl)) (ngs_cons (ng_name 15 sc.nd rfl (by first | exact Or.inl rfl | exact Or.inr rfl)) (ngs_cons (ng_name 16 sc.nd rfl (by first | exact Or.inl rfl | exact Or.inr rfl)) ngs_nil))))) (fun _ _ _ _ _ => tvs_nil) (fun _ _ _ _ _ => (pv_tup (pvs_cons (pv_var 14) (pvs_cons (pv_var 15) (pvs_cons (pv_cB (call_max2 rfl) sr_max2 rfl g.max boot_max (pks_cons (pv_pk (pv_op op_sub br_sub (pv_var 14) (pv_var 15))) (pks_cons (pv_pk (pv_callD D_law_count hG (hr.mono (by omega)) rfl pos_law_count (pvs_cons (pv_var 5) (pvs_cons (pv_var 14) (pvs_cons (pv_var 15) pvs_nil))))) pks_nil))) pvs_nil))))) (inB_tup (inBs_cons inB_nm (inBs_cons inB_nm (inBs_cons inB_nm inBs_nil)))))))))))) ss_nil) (ss_cons (s_par2 (i := 6) (j := 7) rfl sc.nd rfl rfl (by decide) rfl rfl (evs_cons (ev_ed (ed_pv (pv_cB (call_repr hG (room66 hr)) sr_repr rfl g.repr boot_repr (pks_cons (pv_pk (fl_pv (fl_lst (pvs_cons (pv_var 3) (pvs_cons (pv_var 4) pvs_nil))))) pks_nil)))) (evs_cons (ev_ed (ed_pv (pv_callD D_law_quarrel hG (hr.mono (by omega)) rfl pos_law_quarrel (pvs_cons (pv_var 3) (pvs_cons (pv_var 4) pvs_nil))))) evs_nil)) rfl) (ss_cons (s_setLcP (i := 8) (own := [("row", 17)]) (fun _ _ _ => cv_dl) rfl sc.nd rfl rfl (it_pv (pv_var 2)) (blkOk_by (by kernel_rfl)) (fun _ _ _ _ _ => (ng_name 17 sc.nd rfl (by first | exact Or.inl rfl | exact Or.inr rfl))) (fun _ _ _ _ _ => (tvs_one (PW.pt (tw_and (tv_val (pv_callD D_law_keeps hG (hr.mono (by omega)) rfl pos_law_keeps (pvs_cons (pv_var 17) (pvs_cons (pv_var 4) pvs_nil)))) (tw_and1 (tv_val (pv_callD D_law_holds hG (hr.mono (by omega)) rfl pos_law_holds (pvs_cons (pv_var 17) (pvs_cons (pv_var 3) pvs_nil))))))))) (fun _ _ _ _ _ => (pv_var 17)) inB_nm) (ss_cons (s_set (i := 9) sc.nd rfl (by first | exact Or.inl rfl | exact Or.inr rfl) (ev_callD D_rows_kept_both hG (hr.mono (by omega)) rfl pos_rows_kept_both (eds_cons (ed_pv (pv_var 1)) (eds_cons (ed_pv (fl_pv (fl_listA rfl g.list (pv_var 3)))) (eds_cons (ed_pv (fl_pv (fl_listA rfl g.list (pv_var 4)))) eds_nil))))) (ss_cons (s_if (te_tv (PW.pt (tw_or (tv_not (tv_val (pv_callP D_law_same hG (hr.mono (by omega)) rfl pos_law_same (pks_cons (pk_lst (pks_cons (pv_pk (pv_callD D_floor_quarrel hG (hr.mono (by omega)) rfl pos_floor_quarrel (pvs_cons (pv_var 1) (pvs_cons (fl_pv (fl_listA rfl g.list (pv_var 3))) (pvs_cons (fl_pv (fl_listA rfl g.list (pv_var 4))) pvs_nil))))) (pks_cons (pk_var 9) pks_nil))) (pks_cons (pv_pk (fl_pv (fl_lst (pvs_cons (pv_var 7) (pvs_cons (pv_var 8) pvs_nil))))) pks_nil))))) (tw_or1 (PW.pt (tw_and (tv_notN (pv_pk (pv_var 7))) (tw_and1 (tv_cmp (or_ne (room64 hr)) sr_ne (pv_pk (pv_var 8)) (pv_pk (fl_pv (fl_lst pvs_nil))))))))))) (ss_one (s_ret (ev_ed (ed_pv pv_bl)))) ss_nil) (ss_cons (s_append (i := 9) rfl (by first | exact Or.inl rfl | exact Or.inr (Or.inl rfl) | exact Or.inr (Or.inr rfl)) (ev_ed (ed_pv pv_non)) (hpe := fun he => pe_bm PySem.F.plainAttrs_list PySem.F.slot_list_append PySem.F.type_list_append mt_append (pe_var rfl (by first | exact Or.inl rfl | exact Or.inr (Or.inl rfl) | exact Or.inr (Or.inr rfl))) (pa_cons he pa_nil))) (ss_cons (s_if (te_tv (tv_not (tv_val (pv_callD D_law_same hG (hr.mono (by omega)) rfl pos_law_same (pvs_cons (fl_pv (fl_lst (pvs_cons (pv_callK0 (ks := ["bounds", "floors", "many"]) D_floor_quarrel hG (hr.mono (by omega)) rfl kw_floor_quarrel_0_bounds_floors_many (kv_cons (pv_tupA rfl g.tuple (pv_var 4)) (kv_cons (pv_tupA rfl g.tuple (pv_var 3)) (kv_cons (pv_var 1) kv_nil)))) (pvs_cons (pv_callK0 (ks := ["bounds", "floors", "many"]) D_rows_kept_both hG (hr.mono (by omega)) rfl kw_rows_kept_both_0_bounds_floors_many (kv_cons (pv_tupA rfl g.tuple (pv_var 4)) (kv_cons (pv_tupA rfl g.tuple (pv_var 3)) (kv_cons (pv_var 1) kv_nil)))) pvs_nil)))) (pvs_cons (fl_pv (fl_lst (pvs_cons (pv_var 7) (pvs_cons (pv_var 8) pvs_nil)))) pvs_nil)))))) (ss_one (s_ret (ev_ed (ed_pv pv_bl)))) ss_nil) (ss_cons (s_par2 (i := 10) (j := 11) rfl sc.nd rfl rfl (by decide) rfl rfl (evs_cons (ev_ed (ed_pv (pv_callD D_bottom_table hG (hr.mono (by omega)) rfl pos_bottom_table (pvs_cons (pv_var 1) (pvs_cons (fl_pv (fl_listA rfl g.list (pv_var 3))) pvs_nil))))) (evs_cons (ev_ed (ed_pv (pv_callD D_top_table hG (hr.mono (by omega)) rfl pos_top_table (pvs_cons (pv_var 1) (pvs_cons (fl_pv (fl_listA rfl g.list (pv_var 4))) pvs_nil))))) evs_nil)) rfl) (ss_cons (s_set (i := 12) sc.nd rfl (by first | exact Or.inl rfl | exact Or.inr rfl) (ev_ed (ed_pv (pv_cB (cr_any rfl) sr_any rfl g.any boot_any (pks_cons (pv_pk (fl_pv (fl_lc (own := [("here", 18), ("there", 19)]) rfl sc.nd (it_z2 rfl g.zip (pv_var 10) (pv_var 11)) (blkOk_by (by kernel_rfl)) (fun _ _ _ _ _ => (ng_tup rfl (ngs_cons (ng_name 18 sc.nd rfl (by first | exact Or.inl rfl | exact Or.inr rfl)) (ngs_cons (ng_name 19 sc.nd rfl (by first | exact Or.inl rfl | exact Or.inr rfl)) ngs_nil)))) (fun _ _ _ _ _ => tvs_nil) (fun _ _ _ _ _ => (pv_cB (cr_any rfl) sr_any rfl g.any boot_any (pks_cons (pv_pk (fl_pv (fl_lc (own := [("one", 20), ("other", 21)]) rfl sc.nd (it_z2 rfl g.zip (pv_var 18) (pv_var 19)) (blkOk_by (by kernel_rfl)) (fun _ _ _ _ _ => (ng_tup rfl (ngs_cons (ng_name 20 sc.nd rfl (by first | exact Or.inl rfl | exact Or.inr rfl)) (ngs_cons (ng_name 21 sc.nd rfl (by first | exact Or.inl rfl | exact Or.inr rfl)) ngs_nil)))) (fun _ _ _ _ _ => tvs_nil) (fun _ _ _ _ _ => (pv_cmp op_gt (sr_cmpI (fun i j => decide (j < i))) (pv_pk (pv_var 20)) (pv_pk (pv_var 21)))) (inB_tup (inBs_cons inB_nm (inBs_cons inB_nm inBs_nil)))))) pks_nil))) (inB_tup (inBs_cons inB_nm (inBs_cons inB_nm inBs_nil)))))) pks_nil))))) (ss_cons (s_if (te_tv (tv_cmp (or_ne (room64 hr)) sr_ne (pv_pk (pv_var 12)) (pv_pk (pv_notN (pv_pk (pv_var 7)))))) (ss_one (s_ret (ev_ed (ed_pv pv_bl)))) ss_nil) (ss_cons (s_setLcP (i := 13) (own := [("row", 17)]) (fun _ _ _ => cv_dl) rfl sc.nd rfl rfl (it_pv (pv_var 2)) (blkOk_by (by kernel_rfl)) (fun _ _ _ _ _ => (ng_name 17 sc.nd rfl (by first | exact Or.inl rfl | exact Or.inr rfl))) (fun _ _ _ _ _ => tvs_nil) (fun _ _ _ _ _ => (fl_pv (fl_lc (own := [("i", 14)]) rfl sc.nd (it_rng2 rfl g.range pv_int (pv_var 1)) (blkOk_by (by kernel_rfl)) (fun _ _ _ _ _ => (ng_name 14 sc.nd rfl (by first | exact Or.inl rfl | exact Or.inr rfl))) (fun _ _ _ _ _ => tvs_nil) (fun _ _ _ _ _ => (fl_pv (fl_lc (own := [("j", 15)]) rfl sc.nd (it_rng2 rfl g.range pv_int (pv_var 1)) (blkOk_by (by kernel_rfl)) (fun _ _ _ _ _ => (ng_name 15 sc.nd rfl (by first | exact Or.inl rfl | exact Or.inr rfl))) (fun _ _ _ _ _ => tvs_nil) (fun _ _ _ _ _ => (pv_callD D_law_count hG (hr.mono (by omega)) rfl pos_law_count (pvs_cons (pv_var 17) (pvs_cons (pv_var 14) (pvs_cons (pv_var 15) pvs_nil))))) inB_nm))) inB_nm))) inB_nm) (ss_cons (s_if (te_tv (PW.pt (tw_and (tv_isN (pv_pk (pv_var 7))) (tw_and1 (PW.pt (tw_or (PW.pt (tw_and (tv_cmp (or_in (room65 hr)) sr_in (pv_pk (pv_var 10)) (pv_pk (pv_var 13))) (tw_and1 (tv_cmp (or_notIn (room65 hr)) sr_notIn (pv_pk (pv_ixA (pv_var 2) (pv_idx (fun ho he => pe_bm PySem.F.plainAttrs_list PySem.F.slot_list_index PySem.F.type_list_index (mt_indexD (room65 hr)) ho (pa_cons he pa_nil)) (pv_var 13) (pv_var 10)))) (pv_pk (pv_var 8)))))) (tw_or1 (PW.pt (tw_and (tv_cmp (or_in (room65 hr)) sr_in (pv_pk (pv_var 11)) (pv_pk (pv_var 13))) (tw_and1 (tv_cmp (or_notIn (room65 hr)) sr_notIn (pv_pk (pv_ixA (pv_var 2) (pv_idx (fun ho he => pe_bm PySem.F.plainAttrs_list PySem.F.slot_list_index PySem.F.type_list_index (mt_indexD (room65 hr)) ho (pa_cons he pa_nil)) (pv_var 13) (pv_var 11)))) (pv_pk (pv_var 8))))))))))))) (ss_one (s_ret (ev_ed (ed_pv pv_bl)))) ss_nil) (ss_one (s_ret (ev_ed (ed_pv (pv_cmp (or_eq (room64 hr)) sr_eq (pv_pk (pv_cB (call_repr hG (room66 hr)) sr_repr rfl g.repr boot_repr (pks_cons (pv_pk (fl_pv (fl_lst (pvs_cons (pv_var 3) (pvs_cons (pv_var 4) pvs_nil))))) pks_nil))) (pv_pk (pv_var 6)))))))))))))))))))))))), hm, F⟩
theorem fng_law (g : Glo mg) (D_law_pot : DefG P w K mg base "_law_pot" st_law_pot 1 ["script", "k"] q_law_pot) (D_law_right : DefG P w K mg base "_law_right" st_law_right 9 ["pot"] q_law_right) (F : FunD K "law" "law" (defArgs st_law) (defBody st_law) (defScope st_law) [] [] f fd) (hm : mg "law" = some (.ref f)) : FnG P w K mg base 10 f fd ["script"] q_law :=
  FnG.of (k := 9) F sc_law (fun cdv A outer s H E hG hr =>
      have sc := sc_law
      (ss_cons (s_set (i := 1) sc.nd rfl (by first | exact Or.inl rfl | exact Or.inr rfl) (ev_callR D_law_pot hG (hr.mono (by omega)) rfl pos_law_pot (ar_r 0 (ar_d (ed_pv pv_int) ar_nil)))) (ss_one (s_ret (ev_ed (ed_cB (cr_all rfl) sr_all.br rfl g.all boot_all (eds_cons (ed_ev (ev_lc (own := [("step", 2)]) rfl sc.nd (if_rng1 rfl g.range (ed_pv pv_int)) (blkOk_by (by kernel_rfl)) (fun _ _ _ _ _ => (ng_name 2 sc.nd rfl (by first | exact Or.inl rfl | exact Or.inr rfl))) (fun _ _ _ _ _ => tes_nil) (fun _ _ _ _ _ => (ev_callR D_law_right hG (hr.mono (by omega)) rfl pos_law_right (ar_r 1 ar_nil))) inB_nm)) eds_nil)))))))
end
end Fw
namespace Fw
open PySem PySem.Spec PyProof.Rows L2
def lo0 : List Str := ["is_list", "is_integer", "is_between", "StandError", "StateError", "InvalidMany", "InvalidBounds", "InvalidFloors", "NoRow", "FEWEST", "MOST_lines", "many_is_right", "window_is_right", "all_rows", "window_count", "MOST_bounds", "MOST_BOUNDS", "is_bound", "bounds_are_right", "bad_by", "bad_floor_by", "top_at", "bottom_at", "keeps_all", "keeps_up", "quarrels", "check_many_bounds", "check_many_floors", "check_some_row", "check_kept"]
def lo1 : List Str := ["check_kept_floors", "check_both", "top_table", "bottom_table", "rows_kept_both", "floor_quarrel", "_law_pot", "_law_draw", "_law_pick", "_law_same", "_law_count", "_law_rows", "_law_bounds", "_law_keeps", "_law_holds", "_law_quarrel", "_law_right"]
def loose : List Str := lo0 ++ lo1
def d_is_list : He.DefD := ⟨("is_list", none), "is_list", "is_list", defArgs st_is_list, defBody st_is_list, defScope st_is_list, [], []⟩
def d_is_integer : He.DefD := ⟨("is_integer", none), "is_integer", "is_integer", defArgs st_is_integer, defBody st_is_integer, defScope st_is_integer, [], []⟩
def d_is_between : He.DefD := ⟨("is_between", none), "is_between", "is_between", defArgs st_is_between, defBody st_is_between, defScope st_is_between, [], []⟩
def d_many_is_right : He.DefD := ⟨("many_is_right", none), "many_is_right", "many_is_right", defArgs st_many_is_right, defBody st_many_is_right, defScope st_many_is_right, [], []⟩
def d_window_is_right : He.DefD := ⟨("window_is_right", none), "window_is_right", "window_is_right", defArgs st_window_is_right, defBody st_window_is_right, defScope st_window_is_right, [], []⟩
def d_all_rows : He.DefD := ⟨("all_rows", none), "all_rows", "all_rows", defArgs st_all_rows, defBody st_all_rows, defScope st_all_rows, [], []⟩
def d_window_count : He.DefD := ⟨("window_count", none), "window_count", "window_count", defArgs st_window_count, defBody st_window_count, defScope st_window_count, [], []⟩
def d_is_bound : He.DefD := ⟨("is_bound", none), "is_bound", "is_bound", defArgs st_is_bound, defBody st_is_bound, defScope st_is_bound, [], []⟩
def d_bounds_are_right : He.DefD := ⟨("bounds_are_right", none), "bounds_are_right", "bounds_are_right", defArgs st_bounds_are_right, defBody st_bounds_are_right, defScope st_bounds_are_right, [], []⟩
def d_bad_by : He.DefD := ⟨("bad_by", none), "bad_by", "bad_by", defArgs st_bad_by, defBody st_bad_by, defScope st_bad_by, [], []⟩
def d_bad_floor_by : He.DefD := ⟨("bad_floor_by", none), "bad_floor_by", "bad_floor_by", defArgs st_bad_floor_by, defBody st_bad_floor_by, defScope st_bad_floor_by, [], []⟩
def d_top_at : He.DefD := ⟨("top_at", none), "top_at", "top_at", defArgs st_top_at, defBody st_top_at, defScope st_top_at, [], []⟩
def d_bottom_at : He.DefD := ⟨("bottom_at", none), "bottom_at", "bottom_at", defArgs st_bottom_at, defBody st_bottom_at, defScope st_bottom_at, [], []⟩
def d_keeps_all : He.DefD := ⟨("keeps_all", none), "keeps_all", "keeps_all", defArgs st_keeps_all, defBody st_keeps_all, defScope st_keeps_all, [], []⟩
def d_keeps_up : He.DefD := ⟨("keeps_up", none), "keeps_up", "keeps_up", defArgs st_keeps_up, defBody st_keeps_up, defScope st_keeps_up, [], []⟩
def d_quarrels : He.DefD := ⟨("quarrels", none), "quarrels", "quarrels", defArgs st_quarrels, defBody st_quarrels, defScope st_quarrels, [], []⟩
def d_check_many_bounds : He.DefD := ⟨("check_many_bounds", none), "check_many_bounds", "check_many_bounds", defArgs st_check_many_bounds, defBody st_check_many_bounds, defScope st_check_many_bounds, [], []⟩
def d_check_many_floors : He.DefD := ⟨("check_many_floors", none), "check_many_floors", "check_many_floors", defArgs st_check_many_floors, defBody st_check_many_floors, defScope st_check_many_floors, [], []⟩
def d_check_some_row : He.DefD := ⟨("check_some_row", none), "check_some_row", "check_some_row", defArgs st_check_some_row, defBody st_check_some_row, defScope st_check_some_row, [], []⟩
def d_check_kept : He.DefD := ⟨("check_kept", none), "check_kept", "check_kept", defArgs st_check_kept, defBody st_check_kept, defScope st_check_kept, [], []⟩
def d_check_kept_floors : He.DefD := ⟨("check_kept_floors", none), "check_kept_floors", "check_kept_floors", defArgs st_check_kept_floors, defBody st_check_kept_floors, defScope st_check_kept_floors, [], []⟩
def d_check_both : He.DefD := ⟨("check_both", none), "check_both", "check_both", defArgs st_check_both, defBody st_check_both, defScope st_check_both, [], []⟩
def d_top_table : He.DefD := ⟨("top_table", none), "top_table", "top_table", defArgs st_top_table, defBody st_top_table, defScope st_top_table, [], []⟩
def d_bottom_table : He.DefD := ⟨("bottom_table", none), "bottom_table", "bottom_table", defArgs st_bottom_table, defBody st_bottom_table, defScope st_bottom_table, [], []⟩
def d_rows_kept_both : He.DefD := ⟨("rows_kept_both", none), "rows_kept_both", "rows_kept_both", defArgs st_rows_kept_both, defBody st_rows_kept_both, defScope st_rows_kept_both, [], []⟩
def d_floor_quarrel : He.DefD := ⟨("floor_quarrel", none), "floor_quarrel", "floor_quarrel", defArgs st_floor_quarrel, defBody st_floor_quarrel, defScope st_floor_quarrel, [], []⟩
def d_law_pot : He.DefD := ⟨("_law_pot", none), "_law_pot", "_law_pot", defArgs st_law_pot, defBody st_law_pot, defScope st_law_pot, [], []⟩
def d_law_draw : He.DefD := ⟨("_law_draw", none), "_law_draw", "_law_draw", defArgs st_law_draw, defBody st_law_draw, defScope st_law_draw, [], []⟩
def d_law_pick : He.DefD := ⟨("_law_pick", none), "_law_pick", "_law_pick", defArgs st_law_pick, defBody st_law_pick, defScope st_law_pick, [], []⟩
def d_law_same : He.DefD := ⟨("_law_same", none), "_law_same", "_law_same", defArgs st_law_same, defBody st_law_same, defScope st_law_same, [], []⟩
def d_law_count : He.DefD := ⟨("_law_count", none), "_law_count", "_law_count", defArgs st_law_count, defBody st_law_count, defScope st_law_count, [], []⟩
def d_law_rows : He.DefD := ⟨("_law_rows", none), "_law_rows", "_law_rows", defArgs st_law_rows, defBody st_law_rows, defScope st_law_rows, [], []⟩
def d_law_bounds : He.DefD := ⟨("_law_bounds", none), "_law_bounds", "_law_bounds", defArgs st_law_bounds, defBody st_law_bounds, defScope st_law_bounds, [], []⟩
def d_law_keeps : He.DefD := ⟨("_law_keeps", none), "_law_keeps", "_law_keeps", defArgs st_law_keeps, defBody st_law_keeps, defScope st_law_keeps, [], []⟩
def d_law_holds : He.DefD := ⟨("_law_holds", none), "_law_holds", "_law_holds", defArgs st_law_holds, defBody st_law_holds, defScope st_law_holds, [], []⟩
def d_law_quarrel : He.DefD := ⟨("_law_quarrel", none), "_law_quarrel", "_law_quarrel", defArgs st_law_quarrel, defBody st_law_quarrel, defScope st_law_quarrel, [], []⟩
def d_law_right : He.DefD := ⟨("_law_right", none), "_law_right", "_law_right", defArgs st_law_right, defBody st_law_right, defScope st_law_right, [], []⟩
def d_law : He.DefD := ⟨("law", none), "law", "law", defArgs st_law, defBody st_law, defScope st_law, [], []⟩
def fnL0 : List He.DefD := [d_is_list, d_is_integer, d_is_between, d_many_is_right, d_window_is_right, d_all_rows, d_window_count, d_is_bound, d_bounds_are_right, d_bad_by, d_bad_floor_by, d_top_at, d_bottom_at, d_keeps_all, d_keeps_up, d_quarrels, d_check_many_bounds, d_check_many_floors, d_check_some_row, d_check_kept, d_check_kept_floors, d_check_both, d_top_table, d_bottom_table, d_rows_kept_both, d_floor_quarrel, d_law_pot, d_law_draw, d_law_pick, d_law_same]
def fnL1 : List He.DefD := [d_law_count, d_law_rows, d_law_bounds, d_law_keeps, d_law_holds, d_law_quarrel, d_law_right, d_law]
def fnL : List He.DefD := fnL0 ++ fnL1
def faL0 : List He.Fa := [.glo "is_list", .glo "is_integer", .glo "is_between", .glo "many_is_right", .glo "window_is_right", .glo "all_rows", .glo "window_count", .glo "is_bound", .glo "bounds_are_right", .glo "bad_by", .glo "bad_floor_by", .glo "top_at", .glo "bottom_at", .glo "keeps_all", .glo "keeps_up", .glo "quarrels", .glo "check_many_bounds", .glo "check_many_floors", .glo "check_some_row", .glo "check_kept", .glo "check_kept_floors", .glo "check_both", .glo "top_table", .glo "bottom_table", .glo "rows_kept_both", .glo "floor_quarrel", .glo "_law_pot", .glo "_law_draw", .glo "_law_pick", .glo "_law_same"]
def faL1 : List He.Fa := [.glo "_law_count", .glo "_law_rows", .glo "_law_bounds", .glo "_law_keeps", .glo "_law_holds", .glo "_law_quarrel", .glo "_law_right", .glo "law", .free "abs", .free "all", .free "any", .free "bool", .free "int", .free "isinstance", .free "len", .free "list", .free "max", .free "min", .free "range", .free "repr", .free "str", .free "sum", .free "tuple", .free "zip", .int "FEWEST" 2, .int "MOST_lines" 7, .int "MOST_bounds" 7, .int "MOST_BOUNDS" 20]
def faL : List He.Fa := faL0 ++ faL1
abbrev RR : PySem.W.OpenRow := PySem.W.OpenLaw.row PySem.Challenge.rw_standingout_k71_whole_floors_against_bou
abbrev hkL : PySem.W.Hook := He.hookD 4 faL fnL
def obL (s : PySem.W.SharedT) : He.AlD := He.obsDG 4 faL fnL (HandSHeadRun.getT s)
theorem obL_eq (s : PySem.W.SharedT) : obL s = hkL.obs s.abs := He.obsDG_eq (HandSHeadRun.getT_eq s)
theorem runL (w : World) : HandSHeadRun.RunEq RR (PySem.W.view RR.prog [52]) hkL obL 14000 loose w := by
  intro os
  kernel_rfl
theorem factsL {P : Program} {w : World} {K : PySem.W.Frag} {h : Heap} {mg : Str → Option Value} {f : Addr} (X : K.In h) (G : h.Ns mainGlobals mg) (hfa : mg ("law" : Str) = some (.ref f)) (c : He.SaysD faL fnL K) :
    ∃ fd : FuncData, (∀ (s : Shared) (v : Value), BindsTo s fd ⟨[v], []⟩ [("script", v)]) ∧ ∀ base : Heap, K.In base → base.Ns mainGlobals mg → FnG P w K mg base 10 f fd ["script"] q_law := by
  obtain ⟨fd_is_list, F_is_list⟩ := c.def_ 0 (d := d_is_list) rfl
  obtain ⟨fd_is_integer, F_is_integer⟩ := c.def_ 1 (d := d_is_integer) rfl
  obtain ⟨fd_is_between, F_is_between⟩ := c.def_ 2 (d := d_is_between) rfl
  obtain ⟨fd_many_is_right, F_many_is_right⟩ := c.def_ 3 (d := d_many_is_right) rfl
  obtain ⟨fd_window_is_right, F_window_is_right⟩ := c.def_ 4 (d := d_window_is_right) rfl
  obtain ⟨fd_all_rows, F_all_rows⟩ := c.def_ 5 (d := d_all_rows) rfl
  obtain ⟨fd_window_count, F_window_count⟩ := c.def_ 6 (d := d_window_count) rfl
  obtain ⟨fd_is_bound, F_is_bound⟩ := c.def_ 7 (d := d_is_bound) rfl
  obtain ⟨fd_bounds_are_right, F_bounds_are_right⟩ := c.def_ 8 (d := d_bounds_are_right) rfl
  obtain ⟨fd_bad_by, F_bad_by⟩ := c.def_ 9 (d := d_bad_by) rfl
  obtain ⟨fd_bad_floor_by, F_bad_floor_by⟩ := c.def_ 10 (d := d_bad_floor_by) rfl
  obtain ⟨fd_top_at, F_top_at⟩ := c.def_ 11 (d := d_top_at) rfl
  obtain ⟨fd_bottom_at, F_bottom_at⟩ := c.def_ 12 (d := d_bottom_at) rfl
  obtain ⟨fd_keeps_all, F_keeps_all⟩ := c.def_ 13 (d := d_keeps_all) rfl
  obtain ⟨fd_keeps_up, F_keeps_up⟩ := c.def_ 14 (d := d_keeps_up) rfl
  obtain ⟨fd_quarrels, F_quarrels⟩ := c.def_ 15 (d := d_quarrels) rfl
  obtain ⟨fd_check_many_bounds, F_check_many_bounds⟩ := c.def_ 16 (d := d_check_many_bounds) rfl
  obtain ⟨fd_check_many_floors, F_check_many_floors⟩ := c.def_ 17 (d := d_check_many_floors) rfl
  obtain ⟨fd_check_some_row, F_check_some_row⟩ := c.def_ 18 (d := d_check_some_row) rfl
  obtain ⟨fd_check_kept, F_check_kept⟩ := c.def_ 19 (d := d_check_kept) rfl
  obtain ⟨fd_check_kept_floors, F_check_kept_floors⟩ := c.def_ 20 (d := d_check_kept_floors) rfl
  obtain ⟨fd_check_both, F_check_both⟩ := c.def_ 21 (d := d_check_both) rfl
  obtain ⟨fd_top_table, F_top_table⟩ := c.def_ 22 (d := d_top_table) rfl
  obtain ⟨fd_bottom_table, F_bottom_table⟩ := c.def_ 23 (d := d_bottom_table) rfl
  obtain ⟨fd_rows_kept_both, F_rows_kept_both⟩ := c.def_ 24 (d := d_rows_kept_both) rfl
  obtain ⟨fd_floor_quarrel, F_floor_quarrel⟩ := c.def_ 25 (d := d_floor_quarrel) rfl
  obtain ⟨fd_law_pot, F_law_pot⟩ := c.def_ 26 (d := d_law_pot) rfl
  obtain ⟨fd_law_draw, F_law_draw⟩ := c.def_ 27 (d := d_law_draw) rfl
  obtain ⟨fd_law_pick, F_law_pick⟩ := c.def_ 28 (d := d_law_pick) rfl
  obtain ⟨fd_law_same, F_law_same⟩ := c.def_ 29 (d := d_law_same) rfl
  obtain ⟨fd_law_count, F_law_count⟩ := c.def_ 30 (d := d_law_count) rfl
  obtain ⟨fd_law_rows, F_law_rows⟩ := c.def_ 31 (d := d_law_rows) rfl
  obtain ⟨fd_law_bounds, F_law_bounds⟩ := c.def_ 32 (d := d_law_bounds) rfl
  obtain ⟨fd_law_keeps, F_law_keeps⟩ := c.def_ 33 (d := d_law_keeps) rfl
  obtain ⟨fd_law_holds, F_law_holds⟩ := c.def_ 34 (d := d_law_holds) rfl
  obtain ⟨fd_law_quarrel, F_law_quarrel⟩ := c.def_ 35 (d := d_law_quarrel) rfl
  obtain ⟨fd_law_right, F_law_right⟩ := c.def_ 36 (d := d_law_right) rfl
  obtain ⟨fd_law, F_law⟩ := c.def_ 37 (d := d_law) rfl
  cases hfa.symm.trans (He.glo_ok X G (c.fact 37 (f := .glo "law") rfl))
  have g : Glo mg := ⟨He.free_ok X G (c.fact 38 (f := .free "abs") rfl), He.free_ok X G (c.fact 39 (f := .free "all") rfl), He.free_ok X G (c.fact 40 (f := .free "any") rfl), He.free_ok X G (c.fact 41 (f := .free "bool") rfl), He.free_ok X G (c.fact 42 (f := .free "int") rfl), He.free_ok X G (c.fact 43 (f := .free "isinstance") rfl), He.free_ok X G (c.fact 44 (f := .free "len") rfl), He.free_ok X G (c.fact 45 (f := .free "list") rfl), He.free_ok X G (c.fact 46 (f := .free "max") rfl), He.free_ok X G (c.fact 47 (f := .free "min") rfl), He.free_ok X G (c.fact 48 (f := .free "range") rfl), He.free_ok X G (c.fact 49 (f := .free "repr") rfl), He.free_ok X G (c.fact 50 (f := .free "str") rfl), He.free_ok X G (c.fact 51 (f := .free "sum") rfl), He.free_ok X G (c.fact 52 (f := .free "tuple") rfl), He.free_ok X G (c.fact 53 (f := .free "zip") rfl), He.int_ok X G (c.fact 54 (f := .int "FEWEST" 2) rfl), He.int_ok X G (c.fact 55 (f := .int "MOST_lines" 7) rfl), He.int_ok X G (c.fact 56 (f := .int "MOST_bounds" 7) rfl), He.int_ok X G (c.fact 57 (f := .int "MOST_BOUNDS" 20) rfl)⟩
  have b := FunD.bindsA (ps := ["script"]) F_law fun _ _ _ _ _ _ us hl => match us, hl with | [_], _ => rfl
  refine ⟨fd_law, fun s v => b s [v] rfl, fun base _ _ => ?_⟩
  have D_is_list : DefG P w K mg base "is_list" st_is_list 1 ["value"] q_is_list := ok_is_list g  F_is_list (He.glo_ok X G (c.fact 0 (f := .glo "is_list") rfl))
  have D_is_integer : DefG P w K mg base "is_integer" st_is_integer 1 ["value"] q_is_integer := ok_is_integer g  F_is_integer (He.glo_ok X G (c.fact 1 (f := .glo "is_integer") rfl))
  have D_is_between : DefG P w K mg base "is_between" st_is_between 2 ["value", "low", "high"] q_is_between := ok_is_between g D_is_integer F_is_between (He.glo_ok X G (c.fact 2 (f := .glo "is_between") rfl))
  have D_many_is_right : DefG P w K mg base "many_is_right" st_many_is_right 3 ["value"] q_many_is_right := ok_many_is_right g D_is_between F_many_is_right (He.glo_ok X G (c.fact 3 (f := .glo "many_is_right") rfl))
  have D_window_is_right : DefG P w K mg base "window_is_right" st_window_is_right 3 ["many", "value"] q_window_is_right := ok_window_is_right g D_is_between F_window_is_right (He.glo_ok X G (c.fact 4 (f := .glo "window_is_right") rfl))
  have D_all_rows : DefG P w K mg base "all_rows" st_all_rows 1 ["many"] q_all_rows := ok_all_rows g  F_all_rows (He.glo_ok X G (c.fact 5 (f := .glo "all_rows") rfl))
  have D_window_count : DefG P w K mg base "window_count" st_window_count 1 ["row", "i", "j"] q_window_count := ok_window_count g  F_window_count (He.glo_ok X G (c.fact 6 (f := .glo "window_count") rfl))
  have D_is_bound : DefG P w K mg base "is_bound" st_is_bound 4 ["many", "value"] q_is_bound := ok_is_bound g D_is_between D_window_is_right F_is_bound (He.glo_ok X G (c.fact 7 (f := .glo "is_bound") rfl))
  have D_bounds_are_right : DefG P w K mg base "bounds_are_right" st_bounds_are_right 5 ["many", "value"] q_bounds_are_right := ok_bounds_are_right g D_is_bound D_is_list F_bounds_are_right (He.glo_ok X G (c.fact 8 (f := .glo "bounds_are_right") rfl))
  have D_bad_by : DefG P w K mg base "bad_by" st_bad_by 1 ["bounds"] q_bad_by := ok_bad_by g  F_bad_by (He.glo_ok X G (c.fact 9 (f := .glo "bad_by") rfl))
  have D_bad_floor_by : DefG P w K mg base "bad_floor_by" st_bad_floor_by 1 ["many", "floors"] q_bad_floor_by := ok_bad_floor_by g  F_bad_floor_by (He.glo_ok X G (c.fact 10 (f := .glo "bad_floor_by") rfl))
  have D_top_at : DefG P w K mg base "top_at" st_top_at 1 ["many", "bounds", "i", "j"] q_top_at := ok_top_at g  F_top_at (He.glo_ok X G (c.fact 11 (f := .glo "top_at") rfl))
  have D_bottom_at : DefG P w K mg base "bottom_at" st_bottom_at 1 ["many", "floors", "i", "j"] q_bottom_at := ok_bottom_at g  F_bottom_at (He.glo_ok X G (c.fact 12 (f := .glo "bottom_at") rfl))
  have D_keeps_all : DefG P w K mg base "keeps_all" st_keeps_all 2 ["row", "bounds"] q_keeps_all := ok_keeps_all g D_window_count F_keeps_all (He.glo_ok X G (c.fact 13 (f := .glo "keeps_all") rfl))
  have D_keeps_up : DefG P w K mg base "keeps_up" st_keeps_up 2 ["row", "floors"] q_keeps_up := ok_keeps_up g D_window_count F_keeps_up (He.glo_ok X G (c.fact 14 (f := .glo "keeps_up") rfl))
  have D_quarrels : DefG P w K mg base "quarrels" st_quarrels 1 ["floor", "bound"] q_quarrels := ok_quarrels g  F_quarrels (He.glo_ok X G (c.fact 15 (f := .glo "quarrels") rfl))
  have D_check_many_bounds : DefG P w K mg base "check_many_bounds" st_check_many_bounds 6 ["many", "bounds"] q_check_many_bounds := ok_check_many_bounds g D_bounds_are_right D_many_is_right F_check_many_bounds (He.glo_ok X G (c.fact 16 (f := .glo "check_many_bounds") rfl))
  have D_check_many_floors : DefG P w K mg base "check_many_floors" st_check_many_floors 6 ["many", "floors"] q_check_many_floors := ok_check_many_floors g D_bounds_are_right D_many_is_right F_check_many_floors (He.glo_ok X G (c.fact 17 (f := .glo "check_many_floors") rfl))
  have D_check_some_row : DefG P w K mg base "check_some_row" st_check_some_row 2 ["many", "floors", "bounds"] q_check_some_row := ok_check_some_row g D_bad_by D_bad_floor_by F_check_some_row (He.glo_ok X G (c.fact 18 (f := .glo "check_some_row") rfl))
  have D_check_kept : DefG P w K mg base "check_kept" st_check_kept 7 ["many", "bounds"] q_check_kept := ok_check_kept g D_check_many_bounds D_check_some_row F_check_kept (He.glo_ok X G (c.fact 19 (f := .glo "check_kept") rfl))
  have D_check_kept_floors : DefG P w K mg base "check_kept_floors" st_check_kept_floors 7 ["many", "floors"] q_check_kept_floors := ok_check_kept_floors g D_check_many_floors D_check_some_row F_check_kept_floors (He.glo_ok X G (c.fact 20 (f := .glo "check_kept_floors") rfl))
  have D_check_both : DefG P w K mg base "check_both" st_check_both 7 ["many", "floors", "bounds"] q_check_both := ok_check_both g D_check_many_bounds D_check_many_floors D_check_some_row F_check_both (He.glo_ok X G (c.fact 21 (f := .glo "check_both") rfl))
  have D_top_table : DefG P w K mg base "top_table" st_top_table 8 ["many", "bounds"] q_top_table := ok_top_table g D_check_kept D_top_at F_top_table (He.glo_ok X G (c.fact 22 (f := .glo "top_table") rfl))
  have D_bottom_table : DefG P w K mg base "bottom_table" st_bottom_table 8 ["many", "floors"] q_bottom_table := ok_bottom_table g D_bottom_at D_check_kept_floors F_bottom_table (He.glo_ok X G (c.fact 23 (f := .glo "bottom_table") rfl))
  have D_rows_kept_both : DefG P w K mg base "rows_kept_both" st_rows_kept_both 8 ["many", "floors", "bounds"] q_rows_kept_both := ok_rows_kept_both g D_all_rows D_check_both D_keeps_all D_keeps_up F_rows_kept_both (He.glo_ok X G (c.fact 24 (f := .glo "rows_kept_both") rfl))
  have D_floor_quarrel : DefG P w K mg base "floor_quarrel" st_floor_quarrel 8 ["many", "floors", "bounds"] q_floor_quarrel := ok_floor_quarrel g D_check_both D_quarrels F_floor_quarrel (He.glo_ok X G (c.fact 25 (f := .glo "floor_quarrel") rfl))
  have D_law_pot : DefG P w K mg base "_law_pot" st_law_pot 1 ["script", "k"] q_law_pot := ok_law_pot g  F_law_pot (He.glo_ok X G (c.fact 26 (f := .glo "_law_pot") rfl))
  have D_law_draw : DefG P w K mg base "_law_draw" st_law_draw 1 ["pot", "many"] q_law_draw := ok_law_draw g  F_law_draw (He.glo_ok X G (c.fact 27 (f := .glo "_law_draw") rfl))
  have D_law_pick : DefG P w K mg base "_law_pick" st_law_pick 2 ["pot", "some"] q_law_pick := ok_law_pick g D_law_draw F_law_pick (He.glo_ok X G (c.fact 28 (f := .glo "_law_pick") rfl))
  have D_law_same : DefG P w K mg base "_law_same" st_law_same 8 ["told", "due"] (q_law_same 8) := ok_law_same g  F_law_same (He.glo_ok X G (c.fact 29 (f := .glo "_law_same") rfl)) 8
  have D_law_count : DefG P w K mg base "_law_count" st_law_count 1 ["row", "i", "j"] q_law_count := ok_law_count g  F_law_count (He.glo_ok X G (c.fact 30 (f := .glo "_law_count") rfl))
  have D_law_rows : DefG P w K mg base "_law_rows" st_law_rows 1 ["many"] q_law_rows := ok_law_rows g  F_law_rows (He.glo_ok X G (c.fact 31 (f := .glo "_law_rows") rfl))
  have D_law_bounds : DefG P w K mg base "_law_bounds" st_law_bounds 2 ["pot", "many"] q_law_bounds := ok_law_bounds g D_law_draw F_law_bounds (He.glo_ok X G (c.fact 32 (f := .glo "_law_bounds") rfl))
  have D_law_keeps : DefG P w K mg base "_law_keeps" st_law_keeps 2 ["row", "bounds"] q_law_keeps := ok_law_keeps g D_law_count F_law_keeps (He.glo_ok X G (c.fact 33 (f := .glo "_law_keeps") rfl))
  have D_law_holds : DefG P w K mg base "_law_holds" st_law_holds 2 ["row", "floors"] q_law_holds := ok_law_holds g D_law_count F_law_holds (He.glo_ok X G (c.fact 34 (f := .glo "_law_holds") rfl))
  have D_law_quarrel : DefG P w K mg base "_law_quarrel" st_law_quarrel 1 ["floors", "bounds"] q_law_quarrel := ok_law_quarrel g  F_law_quarrel (He.glo_ok X G (c.fact 35 (f := .glo "_law_quarrel") rfl))
  have D_law_right : DefG P w K mg base "_law_right" st_law_right 9 ["pot"] q_law_right := ok_law_right g D_law_bounds D_law_count D_law_draw D_law_holds D_law_keeps D_law_pick D_law_quarrel D_law_rows D_law_same D_bottom_table D_floor_quarrel D_rows_kept_both D_top_table F_law_right (He.glo_ok X G (c.fact 36 (f := .glo "_law_right") rfl))
  exact fng_law g D_law_pot D_law_right F_law (He.glo_ok X G (c.fact 37 (f := .glo "law") rfl))
end Fw
section
open PySem PySem.W PySem.Calls PyProof.Rows
theorem Fw.holds_of (hsem : ∀ ns : List Int, ns.length ≤ 63 → ∃ rs, Fw.q_law [.scr ns] = some (.lf (.bool true), rs)) : PySem.Challenge.rw_standingout_k71_whole_floors_against_bou.Holds := by
  w_on; o_law
  refine HandSHeadRun.head_any (r := OpenLaw.row PySem.Challenge.rw_standingout_k71_whole_floors_against_bou) (q := view (OpenLaw.row PySem.Challenge.rw_standingout_k71_whole_floors_against_bou).prog [52]) (H := Fw.hkL) (ob := Fw.obL) (M := 14000) (loose := Fw.loose) (d := HandSHeadRun.topDef (OpenLaw.row PySem.Challenge.rw_standingout_k71_whole_floors_against_bou).prog 52) (kwd := []) Fw.obL_eq
    (by kernel_rfl) (fun s => by kernel_rfl) Fw.runL (by kernel_rfl) (by kernel_rfl) (by kernel_rfl) (by rfl) (by first | assumption | decide +kernel) (by decide +kernel) ⟨rfl, rfl, rfl, rfl, rfl, by decide +kernel⟩ ?hw ?hc
  case hw => w_witness2
  case hc =>
    refine Fw.walk_G (l := PySem.Challenge.rw_standingout_k71_whole_floors_against_bou) (n := 63) (k := 10) (x := "script") rfl (by decide) (by kernel_rfl) ⟨rfl, by decide, by decide⟩ ?F hsem
    intro w mg fa h Y G hmg0
    obtain ⟨K, KX, c⟩ := Y
    have hmg : mg ("law" : PySem.Str) = some (.ref fa) := by
      have e : (HandSHeadRun.topDef (OpenLaw.row PySem.Challenge.rw_standingout_k71_whole_floors_against_bou).prog 52).name = ("law" : PySem.Str) := by kernel_rfl
      rw [← e]
      exact hmg0
    obtain ⟨fd, hb, hF⟩ := Fw.factsL (P := (PySem.Challenge.rw_standingout_k71_whole_floors_against_bou).prog) (w := w) KX G hmg c
    exact ⟨K, fd, KX, hb, hF⟩
end
namespace Fw
open PySem PySem.Spec PyProof.Rows L2
/-! ### the sense of things, unfolded -/
section
variable {env : List Sl} {i j k : Nat} {d x y : Dt} {t : OT} {ds : List Dt}
@[simp] theorem x_sFn (np n : Nat) (m : List Bool) (b : Gst) (As : List Sl) : sFn np n m b As = if As.length = np ∧ okA m As = true then (b (As ++ List.replicate (n - np) .un)).bind fun p => (match p.1 with
  | .rt t => some (t, mixL m p.2 As)
  | .nx => some (.lf .none, mixL m p.2 As)
  | _ => none) else none := (rfl)
@[simp] theorem x_sSeq (f g : Gst) : sSeq f g env = (f env).bind fun p => match p.1 with
  | .nx => g p.2
  | fl => some (fl, p.2) := (rfl)
@[simp] theorem x_sNil : sNil env = some (.nx, env) := (rfl)
@[simp] theorem x_sIf (c : Gt) (f g : Gst) : sIf c f g env = (c env).bind fun p => if p.1 = true then f p.2 else g p.2 := (rfl)
@[simp] theorem x_sRet (f : Ge) : sRet f env = (f env).map fun p => (.rt p.1, p.2) := (rfl)
@[simp] theorem x_sRetN : sRetN env = some (.rt (.lf .none), env) := (rfl)
@[simp] theorem x_sNot : sNot env = none := (rfl)
@[simp] theorem x_sDrop (f : Gx) : sDrop f env = (f env).map fun p => (.nx, p.2) := (rfl)
@[simp] theorem x_sAsg (f : Ge) : sAsg i f env = (f env).map fun p => (.nx, p.2.set i (.v p.1)) := (rfl)
@[simp] theorem x_sAsgT (f : Gx) (g : Dt → List Sl → Option (List Sl)) : sAsgT f g env = (f env).bind fun p => (g p.1 p.2).map fun e2 => (.nx, e2) := (rfl)
@[simp] theorem x_sPar2 (f : Ges) : sPar2 i j f env = (f env).bind fun p => match p.1 with
  | [t, u] => some (.nx, (p.2.set i (.v t)).set j (.v u))
  | _ => none := (rfl)
@[simp] theorem x_sFor (fi : Gxs) (n : Dt → Option Bd) (f : Gst) : sFor fi n f env = (fi env).bind fun p => sLoop n f p.1 p.2 := (rfl)
@[simp] theorem x_nName : nName i d env = some (env.set i (.v (.lf d))) := (rfl)
@[simp] theorem x_nNil0 : nNil [] env = some env := (rfl)
@[simp] theorem x_nCons (g : Dt → List Sl → Option (List Sl)) (gs : List Dt → List Sl → Option (List Sl)) : nCons g gs (d :: ds) env = (g d env).bind fun e1 => gs ds e1 := (rfl)
@[simp] theorem x_nTup (gs : List Dt → List Sl → Option (List Sl)) : nTup k gs (.tuple ds) env = if ds.length = k then gs ds env else none := (rfl)
@[simp] theorem x_dE (f : Gx) : dE f env = (f env).map fun p => (.lf p.1, p.2) := (rfl)
@[simp] theorem x_eD (f : Ge) : eD f env = (f env).map fun p => (p.1.d, p.2) := (rfl)
@[simp] theorem x_pX (g : Gd) : pX g env = (g env).map fun d => (d, env) := (rfl)
@[simp] theorem x_fE (g : Gs) : fE g env = (g env).map fun ds => (.nd (ds.map .lf), env) := (rfl)
@[simp] theorem x_tP (g : List Sl → Option Bool) : tP g env = (g env).map fun b => (b, env) := (rfl)
@[simp] theorem x_gL (g : Gs) : gL g env = (g env).map .list := (rfl)
@[simp] theorem x_gNil : gNil env = some [] := (rfl)
@[simp] theorem x_gCons (a : Gd) (r : Gs) : gCons a r env = (a env).bind fun x => (r env).map (x :: ·) := (rfl)
@[simp] theorem x_gTup (g : Gs) : gTup g env = (g env).bind fun ds => if ds.length ≤ 1000 then some (.tuple ds) else none := (rfl)
@[simp] theorem x_gLst (g : Gs) : gLst g env = (g env).bind fun ds => if ds.length ≤ 1000 then some ds else none := (rfl)
@[simp] theorem x_gA (g : List Dt → Option Dt) (gs : Gs) : gA g gs env = (gs env).bind g := (rfl)
@[simp] theorem x_gF (g : List Dt → Option (List Dt)) (gs : Gs) : gF g gs env = (gs env).bind g := (rfl)
@[simp] theorem x_g2 (g : Dt → Dt → Option Dt) (a b : Gd) : g2 g a b env = (a env).bind fun x => (b env).bind fun y => g x y := (rfl)
@[simp] theorem x_g1 (g : Dt → Option Dt) (a : Gd) : g1 g a env = (a env).bind g := (rfl)
@[simp] theorem x_gVar : gVar i env = match env[i]? with
  | some (.v (.lf d)) => some d
  | _ => none := (rfl)
@[simp] theorem x_gPk : gPk i env = match env[i]? with
  | some (.v t) => some t.d
  | _ => none := (rfl)
@[simp] theorem x_gLs : gLs i env = match env[i]? with
  | some (.v (.nd ts)) => leafs ts
  | some (.v (.lf (.list ds))) => some ds
  | _ => none := (rfl)
@[simp] theorem x_asB (g : Gd) : asB g env = match g env with
  | some (.bool b) => some b
  | _ => none := (rfl)
@[simp] theorem x_asInt (g : Gd) : asInt g env = match g env with
  | some (.int i) => some (some i)
  | _ => none := (rfl)
@[simp] theorem x_asList (g : Gd) : asList g env = match g env with
  | some (.list ds) => some ds
  | _ => none := (rfl)
@[simp] theorem x_gAndV (a b : Gd) : gAndV a b env = match a env with
  | some (.bool true) => b env
  | some (.bool false) => some (.bool false)
  | _ => none := (rfl)
@[simp] theorem x_gOrV (a b : Gd) : gOrV a b env = match a env with
  | some (.bool false) => b env
  | some (.bool true) => some (.bool true)
  | _ => none := (rfl)
@[simp] theorem x_gNotV (a : Gd) : gNotV a env = match a env with
  | some (.bool b) => some (.bool !b)
  | _ => none := (rfl)
@[simp] theorem x_gAndT (a b : List Sl → Option Bool) : gAndT a b env = match a env with
  | some true => b env
  | some false => some false
  | none => none := (rfl)
@[simp] theorem x_gOrT (a b : List Sl → Option Bool) : gOrT a b env = match a env with
  | some false => b env
  | some true => some true
  | none => none := (rfl)
@[simp] theorem x_gNotT (a : List Sl → Option Bool) : gNotT a env = (a env).map (!·) := (rfl)
@[simp] theorem x_gIf (t : List Sl → Option Bool) (a b : Gd) : gIf t a b env = match t env with
  | some true => a env
  | some false => b env
  | none => none := (rfl)
@[simp] theorem x_gCh (g g' : Dt → Dt → Option Dt) (a b c : Gd) : gCh g g' a b c env = (a env).bind fun x => (b env).bind fun y => (g x y).bind fun z => match z with
  | .bool true => (c env).bind fun w => g' y w
  | .bool false => some (.bool false)
  | _ => none := (rfl)
@[simp] theorem x_gIsN (b : Bool) (g : Gd) : gIsN b g env = (g env).map fun d => .bool (b ^^ isNon d) := (rfl)
@[simp] theorem x_gIs (T : String) (g : Gd) : gIs T g env = (g env).bind fun d => match d with
  | .dict _ => none
  | d => some (.bool (isD T d)) := (rfl)
@[simp] theorem x_gIs2 (T U : String) (g : Gd) : gIs2 T U g env = (g env).bind fun d => match d with
  | .dict _ => none
  | d => some (.bool (isD T d || isD U d)) := (rfl)
@[simp] theorem x_gSeq (g : Gd) : gSeq g env = (g env).bind seqOf := (rfl)
@[simp] theorem x_gSlA (g : Gd) (l h : List Sl → Option (Option Int)) : gSlA g l h env = (g env).bind fun d => (l env).bind fun lo => (h env).bind fun hi => match d with
  | .tuple ds => some (.tuple (cut ds lo hi))
  | .list ds => some (.list (cut ds lo hi))
  | _ => none := (rfl)
@[simp] theorem x_gIxL (l : Gs) (g : Gd) : gIxL l g env = (l env).bind fun ds => (g env).bind fun i => match i with
  | .int i => atI ds i
  | _ => none := (rfl)
@[simp] theorem x_gRng1 (a : Gd) : gRng1 a env = (a env).bind rg1? := (rfl)
@[simp] theorem x_gRng2 (a b : Gd) : gRng2 a b env = (a env).bind fun x => (b env).bind fun y => rg2? x y := (rfl)
@[simp] theorem x_gLc (vs : List Nat) (gi : Gs) (n : Dt → Option Bd) (gt : List Sl → Option Bool) (ge : Gd) : gLc vs gi n gt ge env = (gi env).bind fun ds => if ds.length ≤ SZ then lcG n gt ge (wipeE env vs) ds else none := (rfl)
@[simp] theorem x_gYes : gYes env = some true := (rfl)
@[simp] theorem x_tYesE : tYesE env = some (true, env) := (rfl)
@[simp] theorem x_gCallD (ga : Gs) (q : Gfn) : gCallD ga q env = (ga env).bind fun ds => (q (ds.map lfS)).map fun r => r.1.d := (rfl)
@[simp] theorem x_gCallP (ga : Gs) (q : Gfn) : gCallP ga q env = (ga env).bind fun ds => (q (ds.map lfS)).bind fun r => if (sc r.1.d).isSome = true then some r.1.d else none := (rfl)
@[simp] theorem x_gCallK0 (pm : List Nat) (m : Nat) (gk : Gs) (q : Gfn) : gCallK0 pm m gk q env = (gk env).bind fun es => if es.length = m then (q ((pick pm es).map lfS)).map fun r => r.1.d else none := (rfl)
@[simp] theorem x_eCallD (fa : Gxs) (q : Gfn) : eCallD fa q env = (fa env).bind fun p => (q (p.1.map lfS)).map fun r => (r.1, p.2) := (rfl)
@[simp] theorem x_eCallR (L : List (Option Nat)) (fa : Gar) (q : Gfn) : eCallR L fa q env = (fa env).bind fun p => (takeR L p.1 p.2).bind fun z => (q z.1).map fun r => (r.1, putR L r.2 z.2) := (rfl)
@[simp] theorem x_aNil : aNil env = some ([], env) := (rfl)
@[simp] theorem x_aD (f : Gx) (r : Gar) : aD f r env = (f env).bind fun p => (r p.2).map fun q => (lfS p.1 :: q.1, q.2) := (rfl)
@[simp] theorem x_aE (f : Ge) (r : Gar) : aE f r env = (f env).bind fun p => (r p.2).map fun q => (.v p.1 :: q.1, q.2) := (rfl)
@[simp] theorem x_aR (r : Gar) : aR i r env = match env[i]? with
  | some (.v (.nd _)) => (r env).map fun q => (.un :: q.1, q.2)
  | some (.scr _) => (r env).map fun q => (.un :: q.1, q.2)
  | _ => none := (rfl)
@[simp] theorem x_x2 (g : Dt → Dt → Option Dt) (a b : Gx) : x2 g a b env = (a env).bind fun p => (b p.2).bind fun q => (g p.1 q.1).map fun d => (d, q.2) := (rfl)
@[simp] theorem x_xNil : xNil env = some ([], env) := (rfl)
@[simp] theorem x_xCons (a : Gx) (r : Gxs) : xCons a r env = (a env).bind fun p => (r p.2).map fun q => (p.1 :: q.1, q.2) := (rfl)
@[simp] theorem x_xA (g : List Dt → Option Dt) (f : Gxs) : xA g f env = (f env).bind fun p => (g p.1).map fun d => (d, p.2) := (rfl)
@[simp] theorem x_xTup (f : Gxs) : xTup f env = (f env).bind fun p => if p.1.length ≤ 1000 then some (.tuple p.1, p.2) else none := (rfl)
@[simp] theorem x_xAnd (a b : Gx) : xAnd a b env = (a env).bind fun p => match p.1 with
  | .bool true => b p.2
  | .bool false => some (.bool false, p.2)
  | _ => none := (rfl)
@[simp] theorem x_xSeq (f : Gx) : xSeq f env = (f env).bind fun p => (seqOf p.1).map fun ds => (ds, p.2) := (rfl)
@[simp] theorem x_xRng1 (f : Gx) : xRng1 f env = (f env).bind fun p => (rg1? p.1).map fun ds => (ds, p.2) := (rfl)
@[simp] theorem x_xRng2 (f g : Gx) : xRng2 f g env = (f env).bind fun p => (g p.2).bind fun q => (rg2? p.1 q.1).map fun ds => (ds, q.2) := (rfl)
@[simp] theorem x_xT (f : Gx) : xT f env = (f env).bind fun p => match p.1 with
  | .bool b => some (b, p.2)
  | _ => none := (rfl)
@[simp] theorem x_eNil : eNil env = some ([], env) := (rfl)
@[simp] theorem x_eCons (a : Ge) (r : Ges) : eCons a r env = (a env).bind fun p => (r p.2).map fun q => (p.1 :: q.1, q.2) := (rfl)
@[simp] theorem x_eLst (f : Ges) : eLst f env = (f env).bind fun p => if p.1.length ≤ 1000 then some (.nd p.1, p.2) else none := (rfl)
@[simp] theorem x_eLc (vs : List Nat) (fi : Gxs) (n : Dt → Option Bd) (ft : Gt) (fe : Ge) : eLc vs fi n ft fe env = (fi env).bind fun p => if p.1.length ≤ SZ then (lcE vs n ft fe p.1 p.2).map fun w => (.nd w.1, backE p.2 vs (wipeE w.2 vs)) else none := (rfl)
@[simp] theorem x_gMv : gMv i env = match env[i]? with
  | some (.v t) => some (t, env.set i .un)
  | _ => none := (rfl)
@[simp] theorem x_gFrz : gFrz i env = match env[i]? with
  | some (.v t) => some (t.d, env.set i (.v (.lf t.d)))
  | _ => none := (rfl)
@[simp] theorem x_nSub (gi : Gd) : nSub i gi d env = match env[i]? with
  | some (.v (.nd ts)) => match gi env with
    | some (.int k) => (ixN ts.length k).map fun j => env.set i (.v (.nd (ts.set j (.lf d))))
    | _ => none
  | _ => none := (rfl)
@[simp] theorem x_sApp (f : Ge) : sApp i f env = if isNd i env = true then (f env).bind fun p => (match p.2[i]? with
  | some (.v (.nd ts)) => if ts.length < SZ then some (.nx, p.2.set i (.v (.nd (ts ++ [p.1])))) else none
  | _ => none) else none := (rfl)
@[simp] theorem x_sExt (f : Gs) : sExt i f env = (f env).bind fun ds => match env[i]? with
  | some (.v (.nd ts)) => if ts.length + ds.length ≤ SZ then some (.nx, env.set i (.v (.nd (ts ++ ds.map .lf)))) else none
  | _ => none := (rfl)
@[simp] theorem x_isNd : isNd i env = match env[i]? with
  | some (.v (.nd _)) => true
  | _ => false := (rfl)
@[simp] theorem x_okA0 (m : List Bool) : okA m [] = true := by cases m <;> rfl
@[simp] theorem x_okAf (m : List Bool) (a : Sl) (As : List Sl) : okA (false :: m) (a :: As) = (frozen a && okA m As) := (rfl)
@[simp] theorem x_okAt (m : List Bool) (a : Sl) (As : List Sl) : okA (true :: m) (a :: As) = okA m As := (rfl)
@[simp] theorem x_frz (d : Dt) : frozen (lfS d) = true := (rfl)
@[simp] theorem x_frz2 (d : Dt) : frozen (.v (.lf d)) = true := (rfl)
@[simp] theorem x_frz3 (ns : List Int) : frozen (.scr ns) = true := (rfl)
@[simp] theorem x_mix0 (m : List Bool) (e : List Sl) : mixL m e [] = [] := by cases m <;> rfl
@[simp] theorem x_mixf (m : List Bool) (e : List Sl) (a : Sl) (As : List Sl) : mixL (false :: m) e (a :: As) = a :: mixL m e.tail As := (rfl)
@[simp] theorem x_mixt (m : List Bool) (e : List Sl) (a : Sl) (As : List Sl) : mixL (true :: m) e (a :: As) = e.headD .un :: mixL m e.tail As := (rfl)
@[simp] theorem x_lfS (d : Dt) : lfS d = .v (.lf d) := (rfl)
@[simp] theorem x_d (d : Dt) : (OT.lf d).d = d := by rw [OT.d]
@[simp] theorem x_dnd (ds : List Dt) : (OT.nd (ds.map .lf)).d = .list ds := by rw [OT.d, ds_map]
@[simp] theorem x_dnd0 : (OT.nd []).d = .list [] := by rw [OT.d, OT.ds]
@[simp] theorem x_leafs (ds : List Dt) : leafs (ds.map .lf) = some ds := leafs_map ds
@[simp] theorem x_leafs0 : leafs [] = some [] := (rfl)
@[simp] theorem x_leafs1 (d : Dt) (r : List OT) : leafs (.lf d :: r) = (leafs r).map (d :: ·) := (rfl)
@[simp] theorem x_wipe0 : wipeE env [] = env := (rfl)
@[simp] theorem x_wipe1 (v : Nat) (vs : List Nat) : wipeE env (v :: vs) = (wipeE env vs).set v .un := (rfl)
@[simp] theorem x_seqL : seqOf (.list ds) = some ds := (rfl)
@[simp] theorem x_seqT : seqOf (.tuple ds) = some ds := (rfl)
@[simp] theorem x_nm : nmN i d = some [(i, d)] := (rfl)
@[simp] theorem x_nmNil : nmNil [] = some [] := (rfl)
@[simp] theorem x_nmCons (n : Dt → Option Bd) (ns : List Dt → Option Bd) : nmCons n ns (d :: ds) = (n d).bind fun a => (ns ds).map fun b => a ++ b := (rfl)
@[simp] theorem x_nmTup (ns : List Dt → Option Bd) : nmTup k ns (.tuple ds) = if ds.length = k then ns ds else none := (rfl)
@[simp] theorem x_setE0 : setE env [] = env := (rfl)
@[simp] theorem x_setE1 (q : Nat × Dt) (r : Bd) : setE env (q :: r) = setE (env.set q.1 (.v (.lf q.2))) r := (rfl)
@[simp] theorem x_lc0 (n : Dt → Option Bd) (gt : List Sl → Option Bool) (ge : Gd) : lcG n gt ge env [] = some [] := (rfl)
@[simp] theorem x_lc1 (n : Dt → Option Bd) (gt : List Sl → Option Bool) (ge : Gd) : lcG n gt ge env (d :: ds) = (n d).bind fun bs => (gt (setE env bs)).bind fun b => if b = true then (ge (setE env bs)).bind fun y => (lcG n gt ge env ds).map (y :: ·) else lcG n gt ge env ds := (rfl)
@[simp] theorem x_isD1 (T : String) : isD T .none = (("NoneType" : String) == T || (("NoneType" : String) == "bool" && T == "int")) := (rfl)
end
section
variable {a b c : Int} {xs ys : List Dt}
@[simp] theorem v_add : gAdd (.int a) (.int b) = some (.int (a + b)) := (rfl)
@[simp] theorem v_addT : gAdd (.tuple xs) (.tuple ys) = if xs.length + ys.length ≤ SZ then some (.tuple (xs ++ ys)) else none := (rfl)
@[simp] theorem v_addL : gAdd (.list xs) (.list ys) = if xs.length + ys.length ≤ SZ then some (.list (xs ++ ys)) else none := (rfl)
@[simp] theorem v_sub : gSub (.int a) (.int b) = some (.int (a - b)) := (rfl)
@[simp] theorem v_cmp (p : Int → Int → Bool) : gCmpI p (.int a) (.int b) = some (.bool (p a b)) := (rfl)
@[simp] theorem v_lenL : gLen [.list xs] = some (.int xs.length) := (rfl)
@[simp] theorem v_lenT : gLen [.tuple xs] = some (.int xs.length) := (rfl)
@[simp] theorem v_max2 : gMax2 [.int a, .int b] = some (.int (max a b)) := by
  show some (PyData.int (if b > a then b else a)) = _
  congr 2
  split <;> omega
@[simp] theorem v_min2 : gMin2 [.int a, .int b] = some (.int (min a b)) := by
  show some (PyData.int (if b < a then b else a)) = _
  congr 2
  split <;> omega
@[simp] theorem v_max3 : gMax3 [.int a, .int b, .int c] = some (.int (max (max a b) c)) := (rfl)
@[simp] theorem v_min3 : gMin3 [.int a, .int b, .int c] = some (.int (min (min a b) c)) := (rfl)
@[simp] theorem v_int : gInt [.int a] = some (.int a) := (rfl)
@[simp] theorem v_intb (q : Bool) : gInt [.bool q] = some (.int (if q then 1 else 0)) := (rfl)
@[simp] theorem v_eqI : gEq (.int a) (.int b) = some (.bool (decide (a = b))) := by
  have h1 : SeqAt.shaped (.int a) = true := (rfl)
  have h2 : SeqAt.shaped (.int b) = true := (rfl)
  unfold gEq
  show (if _ then _ else _) = _
  rw [if_pos ⟨h1, h2⟩]
  have e : (a == b) = decide (a = b) := by by_cases h : a = b <;> simp [h]
  simp [PyData.eqv, e]
@[simp] theorem v_neI : gNe (.int a) (.int b) = some (.bool (!decide (a = b))) := by
  have h1 : SeqAt.shaped (.int a) = true := (rfl)
  have h2 : SeqAt.shaped (.int b) = true := (rfl)
  unfold gNe
  show (if _ then _ else _) = _
  rw [if_pos ⟨h1, h2⟩]
  have e : (a == b) = decide (a = b) := by by_cases h : a = b <;> simp [h]
  simp [PyData.eqv, e]
@[simp] theorem v_isI : isD "int" (.int a) = true := (rfl)
@[simp] theorem v_isB : isD "bool" (.int a) = false := (rfl)
@[simp] theorem v_isS : isD "str" (.int a) = false := (rfl)
@[simp] theorem v_isT : isD "tuple" (.tuple xs) = true := (rfl)
@[simp] theorem v_isTL : isD "tuple" (.list xs) = false := (rfl)
@[simp] theorem v_isLT : isD "list" (.tuple xs) = false := (rfl)
@[simp] theorem v_isL : isD "list" (.list xs) = true := (rfl)
end
@[simp] theorem v_all (xs : List Dt) : gAll [.list xs] = (bools? xs).map fun ns => .bool (ns.all id) := (rfl)
@[simp] theorem v_any (xs : List Dt) : gAny [.list xs] = (bools? xs).map fun ns => .bool (ns.any id) := (rfl)
@[simp] theorem v_sum (xs : List Dt) : gSum [.list xs] = (ints? xs).map fun ns => .int ns.sum := (rfl)
@[simp] theorem v_maxL (xs : List Dt) : gMaxL [.list xs] = (ints? xs).bind fun ns => if ns = [] then none else some (.int (maxI ns)) := (rfl)
@[simp] theorem v_minL (xs : List Dt) : gMinL [.list xs] = (ints? xs).bind fun ns => if ns = [] then none else some (.int (minI ns)) := (rfl)
@[simp] theorem bools0 : bools? [] = some [] := (rfl)
@[simp] theorem bools1 (b : Bool) (r : List Dt) : bools? (.bool b :: r) = (bools? r).map (b :: ·) := (rfl)
@[simp] theorem ints0 : ints? [] = some [] := (rfl)
@[simp] theorem ints1 (b : Int) (r : List Dt) : ints? (.int b :: r) = (ints? r).map (b :: ·) := (rfl)
/-- a comprehension over typed things -/
theorem lcG_of {α : Type} {n : Dt → Option Bd} {gt : List Sl → Option Bool} {ge : Gd} {env : List Sl} (enc : α → Dt) (p : α → Bool) (f : α → Dt) : ∀ {xs : List α}, (∀ x ∈ xs, ∃ bs, n (enc x) = some bs ∧ gt (setE env bs) = some (p x) ∧ (p x = true → ge (setE env bs) = some (f x))) →
    lcG n gt ge env (xs.map enc) = some ((xs.filter p).map f)
  | [], _ => rfl
  | x :: xs, h => by
    obtain ⟨bs, h1, h2, h3⟩ := h x List.mem_cons_self
    have ih := lcG_of (xs := xs) enc p f fun y hy => h y (List.mem_cons_of_mem _ hy)
    rw [List.map_cons, x_lc1, h1, Option.bind_some, h2, Option.bind_some, ih]
    cases hp : p x with
    | false => simp [hp]
    | true =>
      rw [if_pos rfl, h3 hp]
      simp [hp]
theorem lcG_all {α : Type} {n : Dt → Option Bd} {ge : Gd} {env : List Sl} (enc : α → Dt) (f : α → Dt) {xs : List α} (h : ∀ x ∈ xs, ∃ bs, n (enc x) = some bs ∧ ge (setE env bs) = some (f x)) :
    lcG n gYes ge env (xs.map enc) = some (xs.map f) := by
  have := lcG_of enc (fun _ => true) f (gt := gYes) (n := n) (ge := ge) (env := env) (xs := xs) fun x hx => by
    obtain ⟨bs, h1, h2⟩ := h x hx
    exact ⟨bs, h1, rfl, fun _ => h2⟩
  rw [this, List.filter_eq_self.mpr fun _ _ => rfl]
@[simp] theorem bools_map' {α : Type} (f : α → Bool) (xs : List α) : bools? (xs.map fun x => PyData.bool (f x)) = some (xs.map f) := by
  have := bools_map (xs.map f)
  rw [List.map_map] at this
  exact this
@[simp] theorem ints_map' {α : Type} (f : α → Int) (xs : List α) : ints? (xs.map fun x => PyData.int (f x)) = some (xs.map f) := by
  have := ints_map (xs.map f)
  rw [List.map_map] at this
  exact this
end Fw
namespace Fw
open PySem PySem.Spec PyProof.Rows L2
abbrev T3 := Int × Int × Int
def e3 (t : T3) : Dt := .tuple [.int t.1, .int t.2.1, .int t.2.2]
def eR (r : List Int) : Dt := .tuple (r.map .int)
/-- a list, a tuple of triples -/
def eS (b : Bool) (xs : List T3) : Dt := if b = true then .list (xs.map e3) else .tuple (xs.map e3)
@[simp] theorem eS_seq (b : Bool) (xs : List T3) : seqOf (eS b xs) = some (xs.map e3) := by cases b <;> rfl
theorem cut_pre {α β : Type} (f : α → β) (xs : List α) {i : Int} (h : 0 ≤ i) : cut (xs.map f) none (some i) = (xs.take i.toNat).map f := by
  have e1 : HT.sIx (xs.map f).length 0 none = 0 := rfl
  have e2 : HT.sIx (xs.map f).length (xs.map f).length (some i) = min i.toNat xs.length := by
    show (if i < 0 then (i + ((xs.map f).length : Int)).toNat else min i.toNat (xs.map f).length) = _
    rw [if_neg (by omega), List.length_map]
  unfold cut
  rw [e1, e2, List.drop_zero, Nat.sub_zero, ← List.map_take]
  congr 1
  rw [List.take_eq_take_iff]
  omega
@[simp] theorem m_is_list (b : Bool) (xs : List T3) : q_is_list [.v (.lf (eS b xs))] = some (.lf (.bool true), [.v (.lf (eS b xs))]) := by
  cases b <;> simp [q_is_list, b_is_list, eS]
@[simp] theorem m_is_integer (v : Int) : q_is_integer [.v (.lf (.int v))] = some (.lf (.bool true), [.v (.lf (.int v))]) := by
  simp [q_is_integer, b_is_integer]
@[simp] theorem m_is_between (v lo hi : Int) : q_is_between [.v (.lf (.int v)), .v (.lf (.int lo)), .v (.lf (.int hi))] = some (.lf (.bool (decide (lo ≤ v ∧ v ≤ hi))), [.v (.lf (.int v)), .v (.lf (.int lo)), .v (.lf (.int hi))]) := by
  by_cases h : lo ≤ v <;> by_cases h2 : v ≤ hi <;> simp [q_is_between, b_is_between, h, h2]
@[simp] theorem m_many_is_right (v : Int) : q_many_is_right [.v (.lf (.int v))] = some (.lf (.bool (decide (2 ≤ v ∧ v ≤ 7))), [.v (.lf (.int v))]) := by
  simp [q_many_is_right, b_many_is_right]
@[simp] theorem m_window_is_right (m i j : Int) : q_window_is_right [.v (.lf (.int m)), .v (.lf (.tuple [.int i, .int j]))] = some (.lf (.bool (decide ((1 ≤ i ∧ i ≤ m - 1) ∧ 1 ≤ j ∧ j ≤ m - 1))), [.v (.lf (.int m)), .v (.lf (.tuple [.int i, .int j]))]) := by
  simp [q_window_is_right, b_window_is_right, SZ]
def ok3 (m : Int) (t : T3) : Prop := (1 ≤ t.1 ∧ t.1 ≤ m - 1) ∧ (1 ≤ t.2.1 ∧ t.2.1 ≤ m - 1) ∧ (0 ≤ t.2.2 ∧ t.2.2 ≤ 7)
theorem m_is_bound {m : Int} {t : T3} (h : ok3 m t) : q_is_bound [.v (.lf (.int m)), .v (.lf (e3 t))] = some (.lf (.bool true), [.v (.lf (.int m)), .v (.lf (e3 t))]) := by
  obtain ⟨⟨h1, h2⟩, ⟨h3, h4⟩, h5, h6⟩ := h
  simp [q_is_bound, b_is_bound, e3, SZ, cut, HT.sIx, gIx, atI, ixN, h1, h2, h3, h4, h5, h6]
theorem m_bounds_are_right {m : Int} {b : Bool} {xs : List T3} (h : ∀ t ∈ xs, ok3 m t) (hl : xs.length ≤ 20) : q_bounds_are_right [.v (.lf (.int m)), .v (.lf (eS b xs))] = some (.lf (.bool true), [.v (.lf (.int m)), .v (.lf (eS b xs))]) := by
  have hl2 : gLen [eS b xs] = some (.int xs.length) := by cases b <;> simp [eS]
  have hs : xs.length ≤ SZ := by unfold SZ; omega
  have hl3 : (xs.length : Int) ≤ 20 := by omega
  have hc : ∀ (env : List Sl), env[0]? = some (.v (.lf (.int m))) → env.length = 3 → lcG (nmN 2) gYes (gCallD (gCons (gVar 0) (gCons (gVar 2) gNil)) q_is_bound) env (xs.map e3) = some (xs.map fun _ => .bool true) := by
    intro env h0 h3
    match env, h3 with
    | [a, b, c], _ =>
      refine lcG_all e3 (fun _ => .bool true) fun t ht => ⟨_, rfl, ?_⟩
      simp at h0
      subst h0
      simp [m_is_bound (h t ht)]
  simp [q_bounds_are_right, b_bounds_are_right, hl2, hs, hl3, hc]
def cnt (r : List Int) (i j : Int) : Int := (((r.take i.toNat).filter fun x => decide (j ≤ x)).length : Nat)
theorem m_window_count {r : List Int} {i j : Int} (hi : 0 ≤ i) (hl : r.length ≤ 1000) : q_window_count [.v (.lf (eR r)), .v (.lf (.int i)), .v (.lf (.int j))] = some (.lf (.int (cnt r i j)), [.v (.lf (eR r)), .v (.lf (.int i)), .v (.lf (.int j))]) := by
  have hs : min i.toNat r.length ≤ SZ := by unfold SZ; omega
  have hc : ∀ (env : List Sl), env[2]? = some (.v (.lf (.int j))) → env.length = 4 → ∀ ys : List Int, lcG (nmN 3) (asB (g2 (gCmpI (fun i j => decide (j ≤ i))) (gVar 3) (gVar 2))) (gVar 3) env (ys.map PyData.int) = some ((ys.filter fun x => decide (j ≤ x)).map .int) := by
    intro env h0 h3 ys
    match env, h3 with
    | [a, b, c, d], _ =>
      refine lcG_of PyData.int (fun x => decide (j ≤ x)) PyData.int fun t ht => ⟨_, rfl, ?_, fun _ => ?_⟩
      · simp at h0
        subst h0
        simp
      · simp
  simp [-List.map_take, q_window_count, b_window_count, eR, cut_pre _ _ hi, hs, hc, cnt]
end Fw
namespace Fw
open PySem PySem.Spec PyProof.Rows L2
@[simp] theorem v_ne_nil : gNe (.list []) (.list []) = some (.bool false) := rfl
@[simp] theorem v_eq_nil : gEq (.list []) (.list []) = some (.bool true) := rfl
theorem lc_e3 {n1 n2 n3 : Nat} {gt : List Sl → Option Bool} {ge : Gd} {env : List Sl} (p : T3 → Bool) (f : T3 → Dt) {xs : List T3} (h : ∀ t ∈ xs, gt (((env.set n1 (.v (.lf (.int t.1)))).set n2 (.v (.lf (.int t.2.1)))).set n3 (.v (.lf (.int t.2.2)))) = some (p t) ∧
    (p t = true → ge (((env.set n1 (.v (.lf (.int t.1)))).set n2 (.v (.lf (.int t.2.1)))).set n3 (.v (.lf (.int t.2.2)))) = some (f t))) :
    lcG (nmTup 3 (nmCons (nmN n1) (nmCons (nmN n2) (nmCons (nmN n3) nmNil)))) gt ge env (xs.map e3) = some ((xs.filter p).map f) := by
  refine lcG_of e3 p f fun t ht => ⟨[(n1, .int t.1), (n2, .int t.2.1), (n3, .int t.2.2)], by simp [e3], ?_, ?_⟩
  · simpa using (h t ht).1
  · intro hp
    simpa using (h t ht).2 hp
theorem m_bad_by {b : Bool} {xs : List T3} (h : ∀ t ∈ xs, t.1 - t.2.1 ≤ t.2.2) (hl : xs.length ≤ 20) : q_bad_by [.v (.lf (eS b xs))] = some (.lf .none, [.v (.lf (eS b xs))]) := by
  have hs : xs.length ≤ SZ := by unfold SZ; omega
  have hf : xs.filter (fun t => decide (t.2.2 < t.1 - t.2.1)) = [] := List.filter_eq_nil_iff.mpr fun t ht => by
    have := h t ht
    simp; omega
  have hc := lc_e3 (n1 := 2) (n2 := 3) (n3 := 4) (gt := asB (g2 (gCmpI (fun i j => decide (i < j))) (gVar 4) (g2 gSub (gVar 2) (gVar 3)))) (ge := gTup (gCons (gVar 2) (gCons (gVar 3) (gCons (gVar 4) gNil)))) (env := [.v (.lf (eS b xs)), .un, .un, .un, .un])
    (fun t => decide (t.2.2 < t.1 - t.2.1)) e3 (xs := xs) fun t ht => by simp [e3]
  rw [hf] at hc
  simp [q_bad_by, b_bad_by, hs, hc]
theorem m_bad_floor_by {m : Int} {b : Bool} {xs : List T3} (h : ∀ t ∈ xs, t.2.2 ≤ t.1 ∧ t.2.2 ≤ m - t.2.1) (hl : xs.length ≤ 20) : q_bad_floor_by [.v (.lf (.int m)), .v (.lf (eS b xs))] = some (.lf .none, [.v (.lf (.int m)), .v (.lf (eS b xs))]) := by
  have hs : xs.length ≤ SZ := by unfold SZ; omega
  have hf : xs.filter (fun t => decide (t.1 < t.2.2 ∨ m - t.2.1 < t.2.2)) = [] := List.filter_eq_nil_iff.mpr fun t ht => by
    have := h t ht
    simp; omega
  have hc := lc_e3 (n1 := 3) (n2 := 4) (n3 := 5) (gt := gOrT (asB (g2 (gCmpI (fun i j => decide (j < i))) (gVar 5) (gVar 3))) (asB (g2 (gCmpI (fun i j => decide (j < i))) (gVar 5) (g2 gSub (gVar 0) (gVar 4))))) (ge := gTup (gCons (gVar 3) (gCons (gVar 4) (gCons (gVar 5) gNil)))) (env := [.v (.lf (.int m)), .v (.lf (eS b xs)), .un, .un, .un, .un])
    (fun t => decide (t.1 < t.2.2 ∨ m - t.2.1 < t.2.2)) e3 (xs := xs) fun t ht => by
      by_cases h1 : t.1 < t.2.2 <;> by_cases h2 : m - t.2.1 < t.2.2 <;> simp [e3, h1, h2]
  rw [hf] at hc
  simp [q_bad_floor_by, b_bad_floor_by, hs, hc]
/-- bounds, floors that are right and none bad -/
structure OkB (m : Int) (xs : List T3) : Prop where
  m2 : 2 ≤ m
  m7 : m ≤ 7
  ok : ∀ t ∈ xs, ok3 m t
  len : xs.length ≤ 20
theorem m_check_many_bounds {m : Int} {b : Bool} {xs : List T3} (h : OkB m xs) : q_check_many_bounds [.v (.lf (.int m)), .v (.lf (eS b xs))] = some (.lf .none, [.v (.lf (.int m)), .v (.lf (eS b xs))]) := by
  simp [q_check_many_bounds, b_check_many_bounds, m_bounds_are_right h.ok h.len, h.m2, h.m7]
theorem m_check_many_floors {m : Int} {b : Bool} {xs : List T3} (h : OkB m xs) : q_check_many_floors [.v (.lf (.int m)), .v (.lf (eS b xs))] = some (.lf .none, [.v (.lf (.int m)), .v (.lf (eS b xs))]) := by
  simp [q_check_many_floors, b_check_many_floors, m_bounds_are_right h.ok h.len, h.m2, h.m7]
def noBadB (xs : List T3) : Prop := ∀ t ∈ xs, t.1 - t.2.1 ≤ t.2.2
def noBadF (m : Int) (xs : List T3) : Prop := ∀ t ∈ xs, t.2.2 ≤ t.1 ∧ t.2.2 ≤ m - t.2.1
theorem m_check_some_row {m : Int} {b c : Bool} {fs bs : List T3} (hf : noBadF m fs) (hb : noBadB bs) (lf : fs.length ≤ 20) (lb : bs.length ≤ 20) :
    q_check_some_row [.v (.lf (.int m)), .v (.lf (eS c fs)), .v (.lf (eS b bs))] = some (.lf .none, [.v (.lf (.int m)), .v (.lf (eS c fs)), .v (.lf (eS b bs))]) := by
  simp [q_check_some_row, b_check_some_row, m_bad_by hb lb, m_bad_floor_by hf lf, isNon]
theorem m_check_kept {m : Int} {b : Bool} {xs : List T3} (h : OkB m xs) (hb : noBadB xs) : q_check_kept [.v (.lf (.int m)), .v (.lf (eS b xs))] = some (.lf .none, [.v (.lf (.int m)), .v (.lf (eS b xs))]) := by
  have := m_check_some_row (m := m) (c := true) (b := b) (fs := []) (bs := xs) (fun _ h => by cases h) hb (by simp) h.len
  have e : eS true [] = .list [] := rfl
  rw [e] at this
  simp [q_check_kept, b_check_kept, m_check_many_bounds h, this]
theorem m_check_kept_floors {m : Int} {b : Bool} {xs : List T3} (h : OkB m xs) (hb : noBadF m xs) : q_check_kept_floors [.v (.lf (.int m)), .v (.lf (eS b xs))] = some (.lf .none, [.v (.lf (.int m)), .v (.lf (eS b xs))]) := by
  have := m_check_some_row (m := m) (c := b) (b := true) (fs := xs) (bs := []) hb (fun _ h => by cases h) h.len (by simp)
  have e : eS true [] = .list [] := rfl
  rw [e] at this
  simp [q_check_kept_floors, b_check_kept_floors, m_check_many_floors h, this]
theorem m_check_both {m : Int} {b c : Bool} {fs bs : List T3} (h1 : OkB m fs) (h2 : OkB m bs) (hf : noBadF m fs) (hb : noBadB bs) :
    q_check_both [.v (.lf (.int m)), .v (.lf (eS c fs)), .v (.lf (eS b bs))] = some (.lf .none, [.v (.lf (.int m)), .v (.lf (eS c fs)), .v (.lf (eS b bs))]) := by
  simp [q_check_both, b_check_both, m_check_many_floors h1, m_check_many_bounds h2, m_check_some_row hf hb h1.len h2.len]
end Fw
namespace Fw
open PySem PySem.Spec PyProof.Rows L2
def topI (m : Int) (xs : List T3) (i j : Int) : Int := minI (i :: (m - j) :: xs.map fun t => t.2.2 + max 0 (i - t.1) + max 0 (t.2.1 - j))
def botI (xs : List T3) (i j : Int) : Int := maxI (0 :: (i - j) :: xs.map fun t => t.2.2 - max 0 (t.1 - i) - max 0 (j - t.2.1))
theorem m_top_at {m i j : Int} {b : Bool} {xs : List T3} (hl : xs.length ≤ 20) : q_top_at [.v (.lf (.int m)), .v (.lf (eS b xs)), .v (.lf (.int i)), .v (.lf (.int j))] = some (.lf (.int (topI m xs i j)), [.v (.lf (.int m)), .v (.lf (eS b xs)), .v (.lf (.int i)), .v (.lf (.int j))]) := by
  have hs : xs.length ≤ SZ := by unfold SZ; omega
  have hs2 : 2 + xs.length ≤ SZ := by unfold SZ; omega
  have hs3 : xs.length + 1 + 1 ≤ SZ := by unfold SZ; omega
  have hc := lc_e3 (n1 := 4) (n2 := 5) (n3 := 6) (gt := gYes) (ge := g2 gAdd (g2 gAdd (gVar 6) (gA gMax2 (gCons (fun _ => some (.int 0)) (gCons (g2 gSub (gVar 2) (gVar 4)) gNil)))) (gA gMax2 (gCons (fun _ => some (.int 0)) (gCons (g2 gSub (gVar 5) (gVar 3)) gNil))))
    (env := [.v (.lf (.int m)), .v (.lf (eS b xs)), .v (.lf (.int i)), .v (.lf (.int j)), .un, .un, .un]) (fun _ => true) (fun t => .int (t.2.2 + max 0 (i - t.1) + max 0 (t.2.1 - j))) (xs := xs) fun t ht => by simp
  rw [List.filter_eq_self.mpr fun _ _ => rfl] at hc
  simp [q_top_at, b_top_at, hs, hs2, hs3, hc, topI]
theorem m_bottom_at {m i j : Int} {b : Bool} {xs : List T3} (hl : xs.length ≤ 20) : q_bottom_at [.v (.lf (.int m)), .v (.lf (eS b xs)), .v (.lf (.int i)), .v (.lf (.int j))] = some (.lf (.int (botI xs i j)), [.v (.lf (.int m)), .v (.lf (eS b xs)), .v (.lf (.int i)), .v (.lf (.int j))]) := by
  have hs : xs.length ≤ SZ := by unfold SZ; omega
  have hs2 : 2 + xs.length ≤ SZ := by unfold SZ; omega
  have hs3 : xs.length + 1 + 1 ≤ SZ := by unfold SZ; omega
  have hc := lc_e3 (n1 := 4) (n2 := 5) (n3 := 6) (gt := gYes) (ge := g2 gSub (g2 gSub (gVar 6) (gA gMax2 (gCons (fun _ => some (.int 0)) (gCons (g2 gSub (gVar 4) (gVar 2)) gNil)))) (gA gMax2 (gCons (fun _ => some (.int 0)) (gCons (g2 gSub (gVar 3) (gVar 5)) gNil))))
    (env := [.v (.lf (.int m)), .v (.lf (eS b xs)), .v (.lf (.int i)), .v (.lf (.int j)), .un, .un, .un]) (fun _ => true) (fun t => .int (t.2.2 - max 0 (t.1 - i) - max 0 (j - t.2.1))) (xs := xs) fun t ht => by simp
  rw [List.filter_eq_self.mpr fun _ _ => rfl] at hc
  simp [q_bottom_at, b_bottom_at, hs, hs2, hs3, hc, botI]
theorem rg2_some {a b : Int} (h : a.natAbs < 4611686018427387904 ∧ b.natAbs < 4611686018427387904) : rg2? (.int a) (.int b) = some (rgD a (b - a).toNat) := if_pos h
theorem rg1_some {n : Int} (h : n.natAbs < 4611686018427387904) : rg1? (.int n) = some (rgD 0 n.toNat) := if_pos h
theorem rg2_m (m : Nat) (h2 : (2 : Int) ≤ m) (h7 : (m : Int) ≤ 7) : rg2? (.int 1) (.int (m : Int)) = some (rgD 1 (m - 1)) := by
  rw [rg2_some (by omega)]
  have e : ((m : Int) - 1).toNat = m - 1 := by omega
  rw [e]
theorem gRng2_of {a b : Gd} {env : List Sl} {x y : Int} {ds : List Dt} (h1 : a env = some (.int x)) (h2 : b env = some (.int y)) (hr : rg2? (.int x) (.int y) = some ds) : gRng2 a b env = some ds := by
  unfold gRng2
  rw [h1, Option.bind_some, h2, Option.bind_some]
  exact hr
theorem gRng1_of {a : Gd} {env : List Sl} {x : Int} {ds : List Dt} (h1 : a env = some (.int x)) (hr : rg1? (.int x) = some ds) : gRng1 a env = some ds := by
  unfold gRng1
  rw [h1, Option.bind_some]
  exact hr
/-- a table's rows -/
def tblR (f : Int → Int → Int) (m : Nat) : List Dt := (List.range m).map fun (i : Nat) => .list ((List.range m).map fun (j : Nat) => .int (f (1 + i) (1 + j)))
theorem lc_tbl {n1 n2 : Nat} {ge : Gd} {gi : Gs} {env : List Sl} (f : Int → Int → Int) (m : Nat) (hm : m ≤ 1000)
    (h1 : ∀ i : Nat, gi (env.set n1 (.v (.lf (.int (1 + (i : Int)))))) = some (rgD 1 m))
    (h : ∀ i j : Nat, ge ((((env.set n1 (.v (.lf (.int (1 + (i : Int)))))).set n2 .un)).set n2 (.v (.lf (.int (1 + (j : Int)))))) = some (.int (f (1 + i) (1 + j)))) :
    lcG (nmN n1) gYes (gL (gLc [n2] gi (nmN n2) gYes ge)) env (rgD 1 m) = some (tblR f m) := by
  have hs : m ≤ SZ := by unfold SZ; omega
  unfold rgD tblR
  refine lcG_all (fun (i : Nat) => PyData.int (1 + (i : Int))) _ fun i hi => ⟨_, rfl, ?_⟩
  have e := lcG_all (n := nmN n2) (ge := ge) (env := (env.set n1 (.v (.lf (.int (1 + (i : Int)))))).set n2 .un) (fun (j : Nat) => PyData.int (1 + (j : Int))) (fun (j : Nat) => .int (f (1 + i) (1 + j))) (xs := List.range m) fun j hj => ⟨_, rfl, h i j⟩
  have h1' := h1 i
  unfold rgD at h1'
  simp [h1', hs, e]
theorem s_one {f : Gst} {g : Gst} {env e1 : List Sl} (h : f env = some (.nx, e1)) : sSeq f g env = g e1 := by
  unfold sSeq
  rw [h]
  rfl
theorem gLc_of {vs : List Nat} {gi : Gs} {n : Dt → Option Bd} {gt : List Sl → Option Bool} {ge : Gd} {env : List Sl} {ds r : List Dt} (h1 : gi env = some ds) (h2 : ds.length ≤ SZ) (h3 : lcG n gt ge (wipeE env vs) ds = some r) : gLc vs gi n gt ge env = some r := by
  unfold gLc
  rw [h1, Option.bind_some, if_pos h2]
  exact h3
theorem m_top_table {m : Nat} {b : Bool} {xs : List T3} (h : OkB m xs) (hb : noBadB xs) : q_top_table [.v (.lf (.int m)), .v (.lf (eS b xs))] = some (.nd ((tblR (topI m xs) (m - 1)).map .lf), [.v (.lf (.int m)), .v (.lf (eS b xs))]) := by
  have h2 := h.m2
  have h7 := h.m7
  have hr := rg2_m m h2 h7
  have hl : (rgD 1 (m - 1)).length ≤ SZ := by simp [rgD, SZ]; omega
  have hc := lc_tbl (n1 := 2) (n2 := 3) (gi := gRng2 (fun _ => some (.int 1)) (gVar 0)) (ge := gCallD (gCons (gVar 0) (gCons (gVar 1) (gCons (gVar 2) (gCons (gVar 3) gNil)))) q_top_at) (env := [.v (.lf (.int m)), .v (.lf (eS b xs)), .un, .un]) (topI m xs) (m - 1) (by omega)
    (fun i => gRng2_of (x := 1) (y := m) (by simp) (by simp) hr) (fun i j => by simp [m_top_at h.len])
  have hg : gRng2 (fun _ => some (.int 1)) (gVar 0) [.v (.lf (.int m)), .v (.lf (eS b xs)), .un, .un] = some (rgD 1 (m - 1)) := gRng2_of (x := 1) (y := m) rfl rfl hr
  have hk := m_check_kept h hb (b := b)
  have h0 : b_top_table [.v (.lf (.int m)), .v (.lf (eS b xs)), .un, .un] = some (.rt (.nd ((tblR (topI m xs) (m - 1)).map .lf)), [.v (.lf (.int m)), .v (.lf (eS b xs)), .un, .un]) := by
    unfold b_top_table
    rw [s_one (e1 := [.v (.lf (.int m)), .v (.lf (eS b xs)), .un, .un]) (by simp [hk])]
    unfold sRet fE
    rw [gLc_of hg hl hc]
    rfl
  unfold q_top_table
  simp [h0]
theorem m_bottom_table {m : Nat} {b : Bool} {xs : List T3} (h : OkB m xs) (hb : noBadF m xs) : q_bottom_table [.v (.lf (.int m)), .v (.lf (eS b xs))] = some (.nd ((tblR (botI xs) (m - 1)).map .lf), [.v (.lf (.int m)), .v (.lf (eS b xs))]) := by
  have h2 := h.m2
  have h7 := h.m7
  have hr := rg2_m m h2 h7
  have hl : (rgD 1 (m - 1)).length ≤ SZ := by simp [rgD, SZ]; omega
  have hc := lc_tbl (n1 := 2) (n2 := 3) (gi := gRng2 (fun _ => some (.int 1)) (gVar 0)) (ge := gCallD (gCons (gVar 0) (gCons (gVar 1) (gCons (gVar 2) (gCons (gVar 3) gNil)))) q_bottom_at) (env := [.v (.lf (.int m)), .v (.lf (eS b xs)), .un, .un]) (botI xs) (m - 1) (by omega)
    (fun i => gRng2_of (x := 1) (y := m) (by simp) (by simp) hr) (fun i j => by simp [m_bottom_at h.len])
  have hg : gRng2 (fun _ => some (.int 1)) (gVar 0) [.v (.lf (.int m)), .v (.lf (eS b xs)), .un, .un] = some (rgD 1 (m - 1)) := gRng2_of (x := 1) (y := m) rfl rfl hr
  have hk := m_check_kept_floors h hb (b := b)
  have h0 : b_bottom_table [.v (.lf (.int m)), .v (.lf (eS b xs)), .un, .un] = some (.rt (.nd ((tblR (botI xs) (m - 1)).map .lf)), [.v (.lf (.int m)), .v (.lf (eS b xs)), .un, .un]) := by
    unfold b_bottom_table
    rw [s_one (e1 := [.v (.lf (.int m)), .v (.lf (eS b xs)), .un, .un]) (by simp [hk])]
    unfold sRet fE
    rw [gLc_of hg hl hc]
    rfl
  unfold q_bottom_table
  simp [h0]
def kpB (xs : List T3) (r : List Int) : Bool := xs.all fun t => decide (cnt r t.1 t.2.1 ≤ t.2.2)
def kpF (xs : List T3) (r : List Int) : Bool := xs.all fun t => decide (t.2.2 ≤ cnt r t.1 t.2.1)
theorem m_keeps_all {r : List Int} {b : Bool} {xs : List T3} (hr : r.length ≤ 1000) (hi : ∀ t ∈ xs, 0 ≤ t.1) (hl : xs.length ≤ 20) : q_keeps_all [.v (.lf (eR r)), .v (.lf (eS b xs))] = some (.lf (.bool (kpB xs r)), [.v (.lf (eR r)), .v (.lf (eS b xs))]) := by
  have hs : xs.length ≤ SZ := by unfold SZ; omega
  have hc := lc_e3 (n1 := 2) (n2 := 3) (n3 := 4) (gt := gYes) (ge := g2 (gCmpI (fun i j => decide (i ≤ j))) (gCallD (gCons (gVar 0) (gCons (gVar 2) (gCons (gVar 3) gNil))) q_window_count) (gVar 4)) (env := [.v (.lf (eR r)), .v (.lf (eS b xs)), .un, .un, .un])
    (fun _ => true) (fun t => .bool (decide (cnt r t.1 t.2.1 ≤ t.2.2))) (xs := xs) fun t ht => by simp [m_window_count (hi t ht) hr]
  rw [List.filter_eq_self.mpr fun _ _ => rfl] at hc
  simp [q_keeps_all, b_keeps_all, hs, hc, kpB, List.all_map, Function.comp_def]
theorem m_keeps_up {r : List Int} {b : Bool} {xs : List T3} (hr : r.length ≤ 1000) (hi : ∀ t ∈ xs, 0 ≤ t.1) (hl : xs.length ≤ 20) : q_keeps_up [.v (.lf (eR r)), .v (.lf (eS b xs))] = some (.lf (.bool (kpF xs r)), [.v (.lf (eR r)), .v (.lf (eS b xs))]) := by
  have hs : xs.length ≤ SZ := by unfold SZ; omega
  have hc := lc_e3 (n1 := 2) (n2 := 3) (n3 := 4) (gt := gYes) (ge := g2 (gCmpI (fun i j => decide (j ≤ i))) (gCallD (gCons (gVar 0) (gCons (gVar 2) (gCons (gVar 3) gNil))) q_window_count) (gVar 4)) (env := [.v (.lf (eR r)), .v (.lf (eS b xs)), .un, .un, .un])
    (fun _ => true) (fun t => .bool (decide (t.2.2 ≤ cnt r t.1 t.2.1))) (xs := xs) fun t ht => by simp [m_window_count (hi t ht) hr]
  rw [List.filter_eq_self.mpr fun _ _ => rfl] at hc
  simp [q_keeps_up, b_keeps_up, hs, hc, kpF, List.all_map, Function.comp_def]
end Fw
namespace Fw
open PySem PySem.Spec PyProof.Rows L2
def stepR (m : Nat) (rs : List (List Int)) : List (List Int) := rs.flatMap fun r => ((List.range m).filter fun (x : Nat) => !r.contains (x : Int)).map fun (x : Nat) => r ++ [(x : Int)]
def rowsF (m : Nat) : Nat → List (List Int)
  | 0 => [[]]
  | k + 1 => stepR m (rowsF m k)
theorem rows2 : q_all_rows [.v (.lf (.int 2))] = some (.lf (.list ((rowsF 2 2).map eR)), [.v (.lf (.int 2))]) := by kernel_rfl
theorem rows3 : q_all_rows [.v (.lf (.int 3))] = some (.lf (.list ((rowsF 3 3).map eR)), [.v (.lf (.int 3))]) := by kernel_rfl
theorem rows4 : q_all_rows [.v (.lf (.int 4))] = some (.lf (.list ((rowsF 4 4).map eR)), [.v (.lf (.int 4))]) := by kernel_rfl
theorem rows5 : q_all_rows [.v (.lf (.int 5))] = some (.lf (.list ((rowsF 5 5).map eR)), [.v (.lf (.int 5))]) := by kernel_rfl
theorem rows_ok : ∀ m ∈ [2, 3, 4, 5], (rowsF m m).all (fun r => decide (r.length = m) && r.all (fun x => decide (0 ≤ x) && decide (x < m)) && decide r.Nodup) = true ∧ (rowsF m m).length ≤ 120 ∧ 0 < (rowsF m m).length := by decide +kernel
end Fw
namespace Fw
open PySem PySem.Spec PyProof.Rows L2
theorem lay_e3 : ∀ xs : List T3, PyData.canLayAll0 (xs.map e3) = true
  | [] => by simp [PyData.canLayAll0]
  | t :: xs => by simp [PyData.canLayAll0, lay_e3 xs, e3, PyData.canLay0]
theorem dep_e3 : ∀ xs : List T3, PyData.depthAll (xs.map e3) ≤ 1
  | [] => by simp [PyData.depthAll]
  | t :: xs => by
    have := dep_e3 xs
    simp [PyData.depthAll, e3, PyData.depth]
    omega
theorem shaped_e3 (xs : List T3) : SeqAt.shaped (.list (xs.map e3)) = true := by
  have := dep_e3 xs
  simp [SeqAt.shaped, PyData.canLay0, lay_e3 xs, PyData.depth]
  omega
theorem v_ne_cons {x : Dt} {xs : List Dt} (h : SeqAt.shaped (.list (x :: xs)) = true) : gNe (.list (x :: xs)) (.list []) = some (.bool true) := by
  have h2 : SeqAt.shaped (.list []) = true := by decide
  unfold gNe
  show (if _ then _ else _) = _
  rw [if_pos ⟨h, h2⟩]
  simp [PyData.eqv, PyData.eqvAll]
def qr (f b : T3) : Bool := decide (b.2.2 < f.2.2 - max 0 (f.1 - b.1) - max 0 (b.2.1 - f.2.1))
theorem m_quarrels (f b : T3) : q_quarrels [.v (.lf (e3 f)), .v (.lf (e3 b))] = some (.lf (.bool (qr f b)), [.v (.lf (e3 f)), .v (.lf (e3 b))]) := by
  simp [q_quarrels, b_quarrels, e3, qr]
def fq : List T3 → List T3 → Dt
  | [], _ => .none
  | f :: fs, bs => match bs.filter (qr f) with
    | [] => fq fs bs
    | b :: _ => .tuple [e3 f, e3 b]
def flOf (d : Dt) : Fl := match d with
  | .none => .nx
  | d => .rt (.lf d)
theorem lc_q {f : T3} {bs : List T3} {env : List Sl} (h0 : env[3]? = some (.v (.lf (e3 f)))) (hl : env.length = 6) : lcG (nmN 5) (asB (gCallD (gCons (gVar 3) (gCons (gVar 5) gNil)) q_quarrels)) (gVar 5) env (bs.map e3) = some ((bs.filter (qr f)).map e3) := by
  match env, hl with
  | [a, b, c, d, e, g], _ =>
    simp at h0
    subst h0
    exact lcG_of e3 (qr f) e3 fun t ht => ⟨_, rfl, by simp [m_quarrels], fun _ => by simp⟩
theorem loop_fq {M : Sl} {B : Sl} {F : Sl} {b : Bool} {bs : List T3} (hb : bs.length ≤ 20) (hB : B = .v (.lf (eS b bs))) : ∀ (fs : List T3) (s3 s4 s5 : Sl), ∃ env', sLoop (nmN 3) (sSeq (sAsg 4 (dE (pX (gL (gLc [5] (gSeq (gVar 2)) (nmN 5) (asB (gCallD (gCons (gVar 3) (gCons (gVar 5) gNil)) q_quarrels)) (gVar 5)))))) (sIf (tP (asB (g2 gNe (gVar 4) (gL (gLst gNil))))) (sRet (dE (pX (gTup (gCons (gVar 3) (gCons (g2 gIx (gVar 4) (fun _ => some (.int 0))) gNil)))))) sNil)) (fs.map e3) [M, F, B, s3, s4, s5] = some (flOf (fq fs bs), env')
  | [], s3, s4, s5 => ⟨_, rfl⟩
  | f :: fs, s3, s4, s5 => by
    subst hB
    have hs : bs.length ≤ SZ := by unfold SZ; omega
    have hc := lc_q (f := f) (bs := bs) (env := [M, F, .v (.lf (eS b bs)), .v (.lf (e3 f)), s4, .un]) rfl rfl
    have hg : gLc [5] (gSeq (gVar 2)) (nmN 5) (asB (gCallD (gCons (gVar 3) (gCons (gVar 5) gNil)) q_quarrels)) (gVar 5) [M, F, .v (.lf (eS b bs)), .v (.lf (e3 f)), s4, s5] = some ((bs.filter (qr f)).map e3) := gLc_of (ds := bs.map e3) (by simp) (by simpa using hs) hc
    rw [List.map_cons]
    cases hq : bs.filter (qr f) with
    | nil =>
      rw [hq] at hg
      obtain ⟨env', ih⟩ := loop_fq (M := M) (F := F) hb rfl fs (.v (.lf (e3 f))) (.v (.lf (.list []))) s5
      refine ⟨env', ?_⟩
      have e : fq (f :: fs) bs = fq fs bs := by simp [fq, hq]
      rw [e]
      unfold sLoop
      rw [x_nm, Option.bind_some, x_setE1, x_setE0]
      simp [-x_gLc, hg]
      exact ih
    | cons c cs =>
      rw [hq] at hg
      have e : fq (f :: fs) bs = .tuple [e3 f, e3 c] := by simp [fq, hq]
      have hsh : SeqAt.shaped (.list (e3 c :: cs.map e3)) = true := shaped_e3 (c :: cs)
      rw [e]
      unfold sLoop
      rw [x_nm, Option.bind_some, x_setE1, x_setE0]
      simp [-x_gLc, hg, v_ne_cons hsh, gIx, atI, ixN, flOf]
theorem m_floor_quarrel {m : Int} {b c : Bool} {fs bs : List T3} (h1 : OkB m fs) (h2 : OkB m bs) (hf : noBadF m fs) (hb : noBadB bs) :
    q_floor_quarrel [.v (.lf (.int m)), .v (.lf (eS c fs)), .v (.lf (eS b bs))] = some (.lf (fq fs bs), [.v (.lf (.int m)), .v (.lf (eS c fs)), .v (.lf (eS b bs))]) := by
  obtain ⟨env', hlo⟩ := loop_fq (M := .v (.lf (.int m))) (F := .v (.lf (eS c fs))) (b := b) h2.len rfl fs .un .un .un
  have hk := m_check_both h1 h2 hf hb (b := b) (c := c)
  have hh : ∀ d, d = fq fs bs → (flOf d = .nx ∧ d = .none) ∨ flOf d = .rt (.lf d) := by
    intro d hd
    cases d <;> simp [flOf]
  rcases hh _ rfl with ⟨z1, z2⟩ | z
  · rw [z1] at hlo
    simp [q_floor_quarrel, b_floor_quarrel, hk, hlo, z2]
  · rw [z] at hlo
    simp [q_floor_quarrel, b_floor_quarrel, hk, hlo]
def isM (m : Nat) : Prop := m = 2 ∨ m = 3 ∨ m = 4 ∨ m = 5
theorem rows_eq {m : Nat} (h : isM m) : q_all_rows [.v (.lf (.int m))] = some (.lf (.list ((rowsF m m).map eR)), [.v (.lf (.int m))]) := by
  rcases h with rfl | rfl | rfl | rfl
  · exact rows2
  · exact rows3
  · exact rows4
  · exact rows5
structure RowOk (m : Nat) (r : List Int) : Prop where
  len : r.length = m
  lo : ∀ x ∈ r, 0 ≤ x
  hi : ∀ x ∈ r, x < m
  nd : r.Nodup
theorem row_ok {m : Nat} (h : isM m) {r : List Int} (hr : r ∈ rowsF m m) : RowOk m r := by
  have := (rows_ok m (by rcases h with rfl | rfl | rfl | rfl <;> simp)).1
  rw [List.all_eq_true] at this
  have q := this r hr
  simp only [Bool.and_eq_true, decide_eq_true_eq, List.all_eq_true] at q
  exact ⟨q.1.1, fun x hx => (q.1.2 x hx).1, fun x hx => (q.1.2 x hx).2, q.2⟩
theorem rows_len {m : Nat} (h : isM m) : (rowsF m m).length ≤ 120 := (rows_ok m (by rcases h with rfl | rfl | rfl | rfl <;> simp)).2.1
theorem rows_pos {m : Nat} (h : isM m) : 0 < (rowsF m m).length := (rows_ok m (by rcases h with rfl | rfl | rfl | rfl <;> simp)).2.2
theorem m_rows_kept_both {m : Nat} (hm : isM m) {b c : Bool} {fs bs : List T3} (h1 : OkB m fs) (h2 : OkB m bs) (hf : noBadF m fs) (hb : noBadB bs) :
    q_rows_kept_both [.v (.lf (.int m)), .v (.lf (eS c fs)), .v (.lf (eS b bs))] = some (.nd ((((rowsF m m).filter fun r => kpF fs r && kpB bs r).map eR).map .lf), [.v (.lf (.int m)), .v (.lf (eS c fs)), .v (.lf (eS b bs))]) := by
  have hk := m_check_both h1 h2 hf hb (b := b) (c := c)
  have hl := rows_len hm
  have hs : ((rowsF m m).map eR).length ≤ SZ := by rw [List.length_map]; unfold SZ; omega
  have hc : lcG (nmN 3) (gAndT (asB (gCallD (gCons (gVar 3) (gCons (gVar 1) gNil)) q_keeps_up)) (asB (gCallD (gCons (gVar 3) (gCons (gVar 2) gNil)) q_keeps_all))) (gVar 3) [.v (.lf (.int m)), .v (.lf (eS c fs)), .v (.lf (eS b bs)), .un] ((rowsF m m).map eR) = some (((rowsF m m).filter fun r => kpF fs r && kpB bs r).map eR) := by
    refine lcG_of eR (fun r => kpF fs r && kpB bs r) eR fun r hr => ⟨_, rfl, ?_, fun _ => by simp⟩
    have hrl : r.length ≤ 1000 := by
      have := (row_ok hm hr).len
      rcases hm with h | h | h | h <;> omega
    have e1 := m_keeps_up (b := c) hrl (fun t ht => by have := (h1.ok t ht).1; omega) h1.len
    have e2 := m_keeps_all (b := b) hrl (fun t ht => by have := (h2.ok t ht).1; omega) h2.len
    cases hq : kpF fs r <;> simp [e1, e2, hq]
  have h0 : b_rows_kept_both [.v (.lf (.int m)), .v (.lf (eS c fs)), .v (.lf (eS b bs)), .un] = some (.rt (.nd ((((rowsF m m).filter fun r => kpF fs r && kpB bs r).map eR).map .lf)), [.v (.lf (.int m)), .v (.lf (eS c fs)), .v (.lf (eS b bs)), .un]) := by
    unfold b_rows_kept_both
    rw [s_one (e1 := [.v (.lf (.int m)), .v (.lf (eS c fs)), .v (.lf (eS b bs)), .un]) (by simp [hk])]
    unfold sRet fE
    rw [gLc_of (ds := (rowsF m m).map eR) (by simp [rows_eq hm]) hs hc]
    rfl
  unfold q_rows_kept_both
  simp [h0]
theorem law_count : q_law_count = q_window_count := rfl
theorem law_rows : q_law_rows = q_all_rows := rfl
theorem law_keeps : q_law_keeps = q_keeps_all := rfl
theorem law_holds : q_law_holds = q_keeps_up := rfl
end Fw
namespace Fw
open PySem PySem.Spec PyProof.Rows L2
abbrev PotS (a b : Int) : Sl := .v (.nd [.lf (.int a), .lf (.int b)])
theorem m_draw (a b : Int) {m : Int} (h0 : 0 < m) : ∃ d a' b' : Int, 0 ≤ d ∧ d < m ∧ (m.natAbs < 1000 → q_law_draw [PotS a b, .v (.lf (.int m))] = some (.lf (.int d), [PotS a' b', .v (.lf (.int m))])) := by
  by_cases ha : 0 < a
  · refine ⟨a % m, a / m, b, Int.emod_nonneg _ (by omega), Int.emod_lt_of_pos _ h0, fun h1 => ?_⟩
    have h2 : m.natAbs < 1073741824 := by omega
    simp [q_law_draw, b_law_draw, atI, ixN, ha, gMod, gFdiv, h0, h2]
  · have hb : ((b * 40127 + 6329) % 2147483587).natAbs < 18446744073709551616 := by omega
    refine ⟨(((b * 40127 + 6329) % 2147483587) * ((b * 40127 + 6329) % 2147483587) % 2147483549 / 23) % m, a, (b * 40127 + 6329) % 2147483587, Int.emod_nonneg _ (by omega), Int.emod_lt_of_pos _ h0, fun h1 => ?_⟩
    simp [q_law_draw, b_law_draw, atI, ixN, ha, gMod, gFdiv, gMul, h0, hb]
@[simp] theorem x_take0 (env : List Sl) : takeR [] [] env = some ([], env) := (rfl)
@[simp] theorem x_take1 (L : List (Option Nat)) (a : Sl) (As env : List Sl) : takeR (none :: L) (a :: As) env = (takeR L As env).map fun p => (a :: p.1, p.2) := (rfl)
@[simp] theorem x_take2 (i : Nat) (L : List (Option Nat)) (a : Sl) (As env : List Sl) : takeR (some i :: L) (a :: As) env = (env[i]?).bind fun s => (takeR L As (env.set i .un)).map fun p => (s :: p.1, p.2) := (rfl)
@[simp] theorem x_put0 (env : List Sl) : putR [] [] env = env := (rfl)
@[simp] theorem x_put1 (L : List (Option Nat)) (a : Sl) (As env : List Sl) : putR (none :: L) (a :: As) env = putR L As env := (rfl)
@[simp] theorem x_put2 (i : Nat) (L : List (Option Nat)) (a : Sl) (As env : List Sl) : putR (some i :: L) (a :: As) env = putR L As (env.set i a) := (rfl)
def okD (m : Int) (t : T3) : Prop := (1 ≤ t.1 ∧ t.1 ≤ m - 1) ∧ (1 ≤ t.2.1 ∧ t.2.1 ≤ m - 1) ∧ 0 ≤ t.2.2 ∧ t.2.2 ≤ m + 1
def bodyB : Gst := (sSeq (sPar2 4 5 (eCons (dE (x2 gAdd (pX (fun _ => some (.int 1))) (eD (eCallR [some 0, none] (aR 0 (aD (pX (g2 gSub (gVar 1) (fun _ => some (.int 1)))) aNil)) q_law_draw)))) (eCons (dE (x2 gAdd (pX (fun _ => some (.int 1))) (eD (eCallR [some 0, none] (aR 0 (aD (pX (g2 gSub (gVar 1) (fun _ => some (.int 1)))) aNil)) q_law_draw)))) eNil))) (sApp 2 (dE (xTup (xCons (pX (gVar 4)) (xCons (pX (gVar 5)) (xCons (x2 gSub (x2 gAdd (pX (gA gMax2 (gCons (fun _ => some (.int 0)) (gCons (g2 gSub (gVar 4) (gVar 5)) gNil)))) (eD (eCallR [some 0, none] (aR 0 (aD (pX (fun _ => some (.int 3))) aNil)) q_law_draw))) (xA gInt (xCons (xAnd (x2 gEq (eD (eCallR [some 0, none] (aR 0 (aD (pX (fun _ => some (.int 6))) aNil)) q_law_draw)) (pX (fun _ => some (.int 0)))) (pX (g2 (gCmpI (fun i j => decide (j < i))) (gVar 4) (gVar 5)))) xNil))) xNil)))))))
theorem law_bounds_body : b_law_bounds = (sSeq (sAsg 2 (fE (gLst gNil))) (sSeq (sFor (xRng1 (eD (eCallR [some 0, none] (aR 0 (aD (pX (fun _ => some (.int 5))) aNil)) q_law_draw))) (nmN 3) bodyB) (sRet (gMv 2)))) := rfl
theorem one_body (a b : Int) {m : Int} (h2 : 2 ≤ m) (h7 : m ≤ 7) (ts : List OT) (hl : ts.length < 100) (s3 s4 s5 : Sl) : ∃ (t : T3) (a' b' i j : Int), okD m t ∧
    bodyB [PotS a b, .v (.lf (.int m)), .v (.nd ts), s3, s4, s5] = some (.nx, [PotS a' b', .v (.lf (.int m)), .v (.nd (ts ++ [.lf (e3 t)])), s3, .v (.lf (.int i)), .v (.lf (.int j))]) := by
  obtain ⟨d1, a1, b1, p1, q1, e1⟩ := m_draw a b (m := m - 1) (by omega)
  obtain ⟨d2, a2, b2, p2, q2, e2⟩ := m_draw a1 b1 (m := m - 1) (by omega)
  obtain ⟨d3, a3, b3, p3, q3, e3'⟩ := m_draw a2 b2 (m := 3) (by omega)
  obtain ⟨d4, a4, b4, p4, q4, e4⟩ := m_draw a3 b3 (m := 6) (by omega)
  have e1 := e1 (by omega)
  have e2 := e2 (by omega)
  have e3' := e3' (by omega)
  have e4 := e4 (by omega)
  have hs : ts.length < SZ := by unfold SZ; omega
  by_cases h4 : d4 = 0
  · by_cases hij : 1 + d2 < 1 + d1
    · refine ⟨(1 + d1, 1 + d2, max 0 (1 + d1 - (1 + d2)) + d3 - 1), a4, b4, 1 + d1, 1 + d2, ⟨⟨by dsimp only; omega, by dsimp only; omega⟩, ⟨by dsimp only; omega, by dsimp only; omega⟩, by dsimp only; omega, by dsimp only; omega⟩, ?_⟩
      simp [bodyB, e1, e2, e3', e4, h4, hij, hs, e3]
    · refine ⟨(1 + d1, 1 + d2, max 0 (1 + d1 - (1 + d2)) + d3 - 0), a4, b4, 1 + d1, 1 + d2, ⟨⟨by dsimp only; omega, by dsimp only; omega⟩, ⟨by dsimp only; omega, by dsimp only; omega⟩, by dsimp only; omega, by dsimp only; omega⟩, ?_⟩
      simp [bodyB, e1, e2, e3', e4, h4, hij, hs, e3]
  · refine ⟨(1 + d1, 1 + d2, max 0 (1 + d1 - (1 + d2)) + d3 - 0), a4, b4, 1 + d1, 1 + d2, ⟨⟨by dsimp only; omega, by dsimp only; omega⟩, ⟨by dsimp only; omega, by dsimp only; omega⟩, by dsimp only; omega, by dsimp only; omega⟩, ?_⟩
    simp [bodyB, e1, e2, e3', e4, h4, hs, e3]
theorem loop_body {m : Int} (h2 : 2 ≤ m) (h7 : m ≤ 7) : ∀ (ds : List Dt) (a b : Int) (ts : List T3) (s3 s4 s5 : Sl), ts.length + ds.length ≤ 20 → ∃ (us : List T3) (a' b' : Int) (z3 z4 z5 : Sl), us.length = ds.length ∧ (∀ t ∈ us, okD m t) ∧
    sLoop (nmN 3) bodyB ds [PotS a b, .v (.lf (.int m)), .v (.nd ((ts.map e3).map .lf)), s3, s4, s5] = some (.nx, [PotS a' b', .v (.lf (.int m)), .v (.nd (((ts ++ us).map e3).map .lf)), z3, z4, z5])
  | [], a, b, ts, s3, s4, s5, hl => ⟨[], a, b, s3, s4, s5, rfl, (fun t h => by cases h), (by rw [List.append_nil]; rfl)⟩
  | d :: ds, a, b, ts, s3, s4, s5, hl => by
    simp only [List.length_cons] at hl
    obtain ⟨t, a1, b1, i, j, h1, h3⟩ := one_body a b h2 h7 ((ts.map e3).map .lf) (by simp; omega) (.v (.lf d)) s4 s5
    obtain ⟨us, a', b', z3, z4, z5, k1, k2, k3⟩ := loop_body h2 h7 ds a1 b1 (ts ++ [t]) (.v (.lf d)) (.v (.lf (.int i))) (.v (.lf (.int j))) (by simp; omega)
    refine ⟨t :: us, a', b', z3, z4, z5, by simp [k1], fun u hu => ?_, ?_⟩
    · rcases List.mem_cons.mp hu with e | hu
      · rw [e]; exact h1
      · exact k2 u hu
    · unfold sLoop
      rw [x_nm, Option.bind_some, x_setE1, x_setE0]
      have e : [PotS a b, Sl.v (.lf (.int m)), .v (.nd ((ts.map e3).map .lf)), s3, s4, s5].set 3 (.v (.lf d)) = [PotS a b, .v (.lf (.int m)), .v (.nd ((ts.map e3).map .lf)), .v (.lf d), s4, s5] := rfl
      dsimp only
      rw [e, h3, Option.bind_some]
      have e2 : (List.map e3 ts).map OT.lf ++ [OT.lf (e3 t)] = ((ts ++ [t]).map e3).map .lf := by simp
      dsimp only
      rw [e2, k3]
      simp
theorem m_law_bounds (a b : Int) {m : Int} (h2 : 2 ≤ m) (h7 : m ≤ 7) : ∃ (us : List T3) (a' b' : Int), us.length ≤ 4 ∧ (∀ t ∈ us, okD m t) ∧
    q_law_bounds [PotS a b, .v (.lf (.int m))] = some (.nd ((us.map e3).map .lf), [PotS a' b', .v (.lf (.int m))]) := by
  obtain ⟨d, a1, b1, p1, q1, e1⟩ := m_draw a b (m := 5) (by omega)
  have e1 := e1 (by omega)
  have hr : rg1? (.int d) = some (rgD 0 d.toNat) := rg1_some (by omega)
  have hl : (rgD 0 d.toNat).length ≤ 4 := by simp [rgD]; omega
  obtain ⟨us, a', b', z3, z4, z5, k1, k2, k3⟩ := loop_body h2 h7 (rgD 0 d.toNat) a1 b1 [] .un .un .un (by simp; omega)
  refine ⟨us, a', b', by omega, k2, ?_⟩
  have h0 : b_law_bounds [PotS a b, .v (.lf (.int m)), .un, .un, .un, .un] = some (.rt (.nd ((us.map e3).map .lf)), [PotS a' b', .v (.lf (.int m)), .un, z3, z4, z5]) := by
    rw [law_bounds_body, s_one (e1 := [PotS a b, .v (.lf (.int m)), .v (.nd []), .un, .un, .un]) (by simp), s_one (e1 := [PotS a' b', .v (.lf (.int m)), .v (.nd ((us.map e3).map .lf)), z3, z4, z5])]
    · simp
    · unfold sFor
      have hx : xRng1 (eD (eCallR [some 0, none] (aR 0 (aD (pX (fun _ => some (.int 5))) aNil)) q_law_draw)) [PotS a b, .v (.lf (.int m)), .v (.nd []), .un, .un, .un] = some (rgD 0 d.toNat, [PotS a1 b1, .v (.lf (.int m)), .v (.nd []), .un, .un, .un]) := by
        unfold xRng1
        have hy : eD (eCallR [some 0, none] (aR 0 (aD (pX (fun _ => some (.int 5))) aNil)) q_law_draw) [PotS a b, .v (.lf (.int m)), .v (.nd []), .un, .un, .un] = some (.int d, [PotS a1 b1, .v (.lf (.int m)), .v (.nd []), .un, .un, .un]) := by
          simp [e1]
        rw [hy, Option.bind_some, hr]
        rfl
      rw [hx, Option.bind_some]
      exact k3
  unfold q_law_bounds
  simp [h0]
end Fw
namespace Fw
open PySem PySem.Spec PyProof.Rows L2
abbrev tg3 (a b c : Nat) : Dt → Option Bd := nmTup 3 (nmCons (nmN a) (nmCons (nmN b) (nmCons (nmN c) nmNil)))
theorem tg3_e3 (a b c : Nat) (t : T3) : tg3 a b c (e3 t) = some [(a, .int t.1), (b, .int t.2.1), (c, .int t.2.2)] := by simp [tg3, e3]
def bodyQ : Gst := (sIf (tP (asB (g2 (gCmpI (fun i j => decide (j < i))) (g2 gSub (g2 gSub (gVar 4) (gA gMax2 (gCons (fun _ => some (.int 0)) (gCons (g2 gSub (gVar 2) (gVar 5)) gNil)))) (gA gMax2 (gCons (fun _ => some (.int 0)) (gCons (g2 gSub (gVar 6) (gVar 3)) gNil)))) (gVar 7)))) (sRet (dE (pX (gTup (gCons (gTup (gCons (gVar 2) (gCons (gVar 3) (gCons (gVar 4) gNil)))) (gCons (gTup (gCons (gVar 5) (gCons (gVar 6) (gCons (gVar 7) gNil)))) gNil)))))) sNil)
theorem quarrel_body : b_law_quarrel = (sSeq (sFor (xSeq (pX (gVar 0))) (tg3 2 3 4) (sFor (xSeq (pX (gVar 1))) (tg3 5 6 7) bodyQ)) (sRet (dE (pX (fun _ => some .none))))) := rfl
def fq1 (f : T3) (bs : List T3) : Dt := match bs.filter (qr f) with
  | [] => .none
  | b :: _ => .tuple [e3 f, e3 b]
theorem loop_in (F B : Sl) (f : T3) : ∀ (bs : List T3) (s5 s6 s7 : Sl), ∃ z5 z6 z7, sLoop (tg3 5 6 7) bodyQ (bs.map e3) [F, B, .v (.lf (.int f.1)), .v (.lf (.int f.2.1)), .v (.lf (.int f.2.2)), s5, s6, s7] =
    some (flOf (fq1 f bs), [F, B, .v (.lf (.int f.1)), .v (.lf (.int f.2.1)), .v (.lf (.int f.2.2)), z5, z6, z7])
  | [], s5, s6, s7 => ⟨s5, s6, s7, rfl⟩
  | b :: bs, s5, s6, s7 => by
    rw [List.map_cons]
    unfold sLoop
    rw [tg3_e3, Option.bind_some]
    by_cases hq : b.2.2 < f.2.2 - max 0 (f.1 - b.1) - max 0 (b.2.1 - f.2.1)
    · have e : fq1 f (b :: bs) = .tuple [e3 f, e3 b] := by simp [fq1, qr, hq]
      rw [e]
      exact ⟨_, _, _, by simp [bodyQ, hq, flOf, e3]; exact ⟨rfl, rfl, rfl⟩⟩
    · obtain ⟨z5, z6, z7, ih⟩ := loop_in F B f bs (.v (.lf (.int b.1))) (.v (.lf (.int b.2.1))) (.v (.lf (.int b.2.2)))
      refine ⟨z5, z6, z7, ?_⟩
      have e : fq1 f (b :: bs) = fq1 f bs := by simp [fq1, qr, hq]
      rw [e, ← ih]
      simp [bodyQ, hq]
theorem loop_out (b : Bool) (F : Sl) (bs : List T3) : ∀ (fs : List T3) (s2 s3 s4 s5 s6 s7 : Sl), ∃ env', sLoop (tg3 2 3 4) (sFor (xSeq (pX (gVar 1))) (tg3 5 6 7) bodyQ) (fs.map e3) [F, .v (.lf (eS b bs)), s2, s3, s4, s5, s6, s7] = some (flOf (fq fs bs), env')
  | [], _, _, _, _, _, _ => ⟨_, rfl⟩
  | f :: fs, s2, s3, s4, s5, s6, s7 => by
    rw [List.map_cons]
    unfold sLoop
    rw [tg3_e3, Option.bind_some]
    obtain ⟨z5, z6, z7, h⟩ := loop_in F (.v (.lf (eS b bs))) f bs s5 s6 s7
    have hx : sFor (xSeq (pX (gVar 1))) (tg3 5 6 7) bodyQ [F, .v (.lf (eS b bs)), .v (.lf (.int f.1)), .v (.lf (.int f.2.1)), .v (.lf (.int f.2.2)), s5, s6, s7] = some (flOf (fq1 f bs), [F, .v (.lf (eS b bs)), .v (.lf (.int f.1)), .v (.lf (.int f.2.1)), .v (.lf (.int f.2.2)), z5, z6, z7]) := by
      unfold sFor
      have hy : xSeq (pX (gVar 1)) [F, .v (.lf (eS b bs)), .v (.lf (.int f.1)), .v (.lf (.int f.2.1)), .v (.lf (.int f.2.2)), s5, s6, s7] = some (bs.map e3, [F, .v (.lf (eS b bs)), .v (.lf (.int f.1)), .v (.lf (.int f.2.1)), .v (.lf (.int f.2.2)), s5, s6, s7]) := by simp
      rw [hy, Option.bind_some]
      exact h
    have hs : setE [F, Sl.v (.lf (eS b bs)), s2, s3, s4, s5, s6, s7] [(2, PyData.int f.1), (3, .int f.2.1), (4, .int f.2.2)] = [F, .v (.lf (eS b bs)), .v (.lf (.int f.1)), .v (.lf (.int f.2.1)), .v (.lf (.int f.2.2)), s5, s6, s7] := rfl
    rw [hs, hx, Option.bind_some]
    unfold fq1
    cases hq : bs.filter (qr f) with
    | nil =>
      obtain ⟨env', ih⟩ := loop_out b F bs fs (.v (.lf (.int f.1))) (.v (.lf (.int f.2.1))) (.v (.lf (.int f.2.2))) z5 z6 z7
      refine ⟨env', ?_⟩
      have e : fq (f :: fs) bs = fq fs bs := by simp [fq, hq]
      rw [e]
      exact ih
    | cons c cs =>
      have e : fq (f :: fs) bs = .tuple [e3 f, e3 c] := by simp [fq, hq]
      rw [e]
      exact ⟨_, rfl⟩
theorem m_law_quarrel {b c : Bool} {fs bs : List T3} : q_law_quarrel [.v (.lf (eS c fs)), .v (.lf (eS b bs))] = some (.lf (fq fs bs), [.v (.lf (eS c fs)), .v (.lf (eS b bs))]) := by
  obtain ⟨env', hlo⟩ := loop_out b (.v (.lf (eS c fs))) bs fs .un .un .un .un .un .un
  have hh : ∀ d, d = fq fs bs → (flOf d = .nx ∧ d = .none) ∨ flOf d = .rt (.lf d) := by
    intro d hd
    cases d <;> simp [flOf]
  unfold q_law_quarrel
  rw [quarrel_body]
  rcases hh _ rfl with ⟨z1, z2⟩ | z
  · rw [z1] at hlo
    simp [hlo, z2]
  · rw [z] at hlo
    simp [hlo]
/-! _law_same -/
def okS : Nat → Dt → Bool
  | 0, _ => false
  | n + 1, .list ds => decide (ds.length ≤ SZ) && ds.all (okS n)
  | n + 1, .tuple ds => decide (ds.length ≤ SZ) && ds.all (okS n)
  | _ + 1, .dict _ => false
  | _ + 1, _ => true
@[simp] theorem x_gZ2 (a b : Gd) (env : List Sl) : gZ2 a b env = (gSeq a env).bind fun ds => (gSeq b env).map fun es => z2D ds es := (rfl)
theorem z2_self : ∀ ds : List Dt, z2D ds ds = ds.map fun d => .tuple [d, d]
  | [] => rfl
  | d :: r => by
    have := z2_self r
    unfold z2D at this ⊢
    rw [List.zipWith_cons_cons, this]
    rfl
theorem same_l {n : Nat} {ds : List Dt} (h : ∀ d ∈ ds, q_law_same n [.v (.lf d), .v (.lf d)] = some (.lf (.bool true), [.v (.lf d), .v (.lf d)])) (hl : ds.length ≤ SZ) (x : Dt) :
    lcG (nmTup 2 (nmCons (nmN 2) (nmCons (nmN 3) nmNil))) gYes (gCallD (gCons (gVar 2) (gCons (gVar 3) gNil)) (q_law_same n)) [.v (.lf x), .v (.lf x), .un, .un] (z2D ds ds) = some (ds.map fun _ => .bool true) ∧ (z2D ds ds).length ≤ SZ := by
  rw [z2_self, List.length_map]
  exact ⟨lcG_all (fun d => PyData.tuple [d, d]) (fun _ => .bool true) fun d hd => ⟨[(2, d), (3, d)], by simp, by simp [h d hd]⟩, hl⟩
theorem m_same : ∀ (n : Nat) (d : Dt), okS n d = true → q_law_same n [.v (.lf d), .v (.lf d)] = some (.lf (.bool true), [.v (.lf d), .v (.lf d)])
  | 0, d, h => by cases h
  | n + 1, d, h => by
    unfold q_law_same
    cases d with
    | none => simp [isNon]
    | bool b =>
      have e : gEq (.bool b) (.bool b) = some (.bool true) := by cases b <;> rfl
      have e2 : isD "bool" (.bool b) = true := rfl
      simp [isNon, e, e2]
    | int i => simp [isNon]
    | str x =>
      have e : gEq (.str x) (.str x) = some (.bool true) := by simp [gEq, eqS]
      have e2 : isD "bool" (.str x) = false := rfl
      have e3 : isD "str" (.str x) = true := rfl
      simp [isNon, e, e2, e3]
    | list ds =>
      simp only [okS, Bool.and_eq_true, decide_eq_true_eq, List.all_eq_true] at h
      have e2 : isD "bool" (.list ds) = false := rfl
      have e3 : isD "str" (.list ds) = false := rfl
      have e4 : isD "int" (.list ds) = false := rfl
      have hh := same_l (fun d hd => m_same n d (h.2 d hd)) h.1 (.list ds)
      simp [isNon, e2, e3, e4, hh.1, hh.2]
    | tuple ds =>
      simp only [okS, Bool.and_eq_true, decide_eq_true_eq, List.all_eq_true] at h
      have e2 : isD "bool" (.tuple ds) = false := rfl
      have e3 : isD "str" (.tuple ds) = false := rfl
      have e4 : isD "int" (.tuple ds) = false := rfl
      have hh := same_l (fun d hd => m_same n d (h.2 d hd)) h.1 (.tuple ds)
      simp [isNon, e2, e3, e4, hh.1, hh.2]
    | dict k => simp [okS] at h
end Fw
namespace Fw
open PySem PySem.Spec PyProof.Rows L2
theorem small_int : ∀ n : Nat, n < 10 → (PyData.int (n : Nat)).showable = true ∧ (PyData.int (n : Nat)).leavesShort 13 = true := by decide +kernel
theorem small_i {i : Int} (h0 : 0 ≤ i) (h9 : i ≤ 9) : (PyData.int i).showable = true ∧ (PyData.int i).leavesShort 13 = true := by
  have := small_int i.toNat (by omega)
  have e : ((i.toNat : Nat) : Int) = i := by omega
  rw [e] at this
  exact this
def sm3 (t : T3) : Prop := (0 ≤ t.1 ∧ t.1 ≤ 9) ∧ (0 ≤ t.2.1 ∧ t.2.1 ≤ 9) ∧ 0 ≤ t.2.2 ∧ t.2.2 ≤ 9
theorem show_e3 : ∀ xs : List T3, (∀ t ∈ xs, sm3 t) → PyData.showableAll (xs.map e3) = true ∧ PyData.leavesShortAll 13 (xs.map e3) = true ∧ PyData.bulkAll (xs.map e3) = 4 * xs.length
  | [], _ => ⟨rfl, rfl, rfl⟩
  | t :: xs, h => by
    obtain ⟨i1, i2, i3⟩ := show_e3 xs fun u hu => h u (List.mem_cons_of_mem _ hu)
    obtain ⟨⟨a1, a2⟩, ⟨b1, b2⟩, c1, c2⟩ := h t List.mem_cons_self
    have q1 := small_i a1 a2
    have q2 := small_i b1 b2
    have q3 := small_i c1 c2
    refine ⟨?_, ?_, ?_⟩
    · simp [PyData.showableAll, e3, PyData.showable, i1]
      have r1 := q1.1; have r2 := q2.1; have r3 := q3.1
      simp [PyData.showable] at r1 r2 r3
      exact ⟨r1, r2, r3⟩
    · simp [PyData.leavesShortAll, e3, PyData.leavesShort, i2]
      have r1 := q1.2; have r2 := q2.2; have r3 := q3.2
      simp [PyData.leavesShort] at r1 r2 r3
      exact ⟨r1, r2, r3⟩
    · simp [PyData.bulkAll, e3, PyData.bulk, i3]
      omega
theorem repr_two {fs bs : List T3} (h1 : ∀ t ∈ fs, sm3 t) (h2 : ∀ t ∈ bs, sm3 t) (l1 : fs.length ≤ 20) (l2 : bs.length ≤ 20) : ∃ s : Str, gRepr [.list [eS true fs, eS true bs]] = some (.str s) := by
  obtain ⟨a1, a2, a3⟩ := show_e3 fs h1
  obtain ⟨b1, b2, b3⟩ := show_e3 bs h2
  have d1 := dep_e3 fs
  have d2 := dep_e3 bs
  refine ⟨PyData.shown (.list [eS true fs, eS true bs]), if_pos ⟨rfl, ?_, ?_, ?_, ?_⟩⟩
  · simp [SeqAt.shaped, PyData.canLay0, PyData.canLayAll0, eS, lay_e3, PyData.depth, PyData.depthAll]
    omega
  · simp [PyData.showable, PyData.showableAll, eS, a1, b1]
  · simp [PyData.leavesShort, PyData.leavesShortAll, eS, a2, b2]
  · simp [PyData.bulk, PyData.bulkAll, eS, a3, b3]
    omega
theorem m_pick (a b : Int) {xs : List Dt} (h0 : 0 < xs.length) (hl : xs.length < 1000) : ∃ (i : Nat) (x : Dt) (a' b' : Int), xs[i]? = some x ∧ q_law_pick [PotS a b, .v (.lf (.list xs))] = some (.lf x, [PotS a' b', .v (.lf (.list xs))]) := by
  obtain ⟨d, a1, b1, p1, q1, e1⟩ := m_draw a b (m := (xs.length : Nat)) (by omega)
  have e1 := e1 (by omega)
  have hd : d.toNat < xs.length := by omega
  have hx : xs[d.toNat]? = some xs[d.toNat] := List.getElem?_eq_getElem hd
  refine ⟨d.toNat, xs[d.toNat], a1, b1, hx, ?_⟩
  simp [q_law_pick, b_law_pick, e1, gIx, atI, ixN, p1, q1, hx]
theorem m_law_pot (ns : List Int) : ∃ a b : Int, q_law_pot [.scr ns, .v (.lf (.int 0))] = some (.nd [.lf (.int a), .lf (.int b)], [.scr ns, .v (.lf (.int 0))]) := by
  have hp : gPow (.int 10) (.int 18) = some (.int (10 ^ 18)) := rfl
  have hsl : ∀ (env : List Sl), env[0]? = some (.scr ns) → gScSl 0 (fun _ => some none) (asInt fun _ => some (.int 1)) env = some ((ns.take 1).map .int) := by
    intro env h
    simp only [gScSl, gScr, h, asInt, Option.bind_some]
    rw [cut_pre _ _ (by omega)]
    rfl
  cases ns with
  | nil => exact ⟨_, _, by simp [q_law_pot, b_law_pot, hsl, gMul, gMod, gAbs, hp, gScLen, gScr]; exact ⟨rfl, rfl⟩⟩
  | cons n ns => exact ⟨_, _, by simp [q_law_pot, b_law_pot, hsl, gMul, gMod, gAbs, hp, gScLen, gScr, gScIx, atI, ixN]; exact ⟨rfl, rfl⟩⟩
/-! tables -/
def tbl (f : Int → Int → Int) (n : Nat) : Dt := .list (tblR f n)
theorem eqvAll_map {α : Type} (F G : α → Dt) : ∀ xs : List α, PyData.eqvAll (xs.map F) (xs.map G) = xs.all fun x => PyData.eqv (F x) (G x)
  | [] => rfl
  | x :: xs => by rw [List.map_cons, List.map_cons, PyData.eqvAll, eqvAll_map F G xs, List.all_cons]
theorem tbl_eqv (f g : Int → Int → Int) (n : Nat) : PyData.eqv (tbl f n) (tbl g n) = true ↔ ∀ i j : Nat, i < n → j < n → f (1 + i) (1 + j) = g (1 + i) (1 + j) := by
  unfold tbl
  rw [PyData.eqv]
  unfold tblR
  rw [eqvAll_map, List.all_eq_true]
  constructor
  · intro h i j hi hj
    have := h i (List.mem_range.mpr hi)
    rw [PyData.eqv, eqvAll_map, List.all_eq_true] at this
    have := this j (List.mem_range.mpr hj)
    simpa [PyData.eqv] using this
  · intro h i hi
    rw [PyData.eqv, eqvAll_map, List.all_eq_true]
    intro j hj
    have := h i j (List.mem_range.mp hi) (List.mem_range.mp hj)
    simpa [PyData.eqv] using this
theorem lay_ints : ∀ xs : List Int, PyData.canLayAll0 (xs.map .int) = true
  | [] => by simp [PyData.canLayAll0]
  | x :: xs => by simp [PyData.canLayAll0, PyData.canLay0, lay_ints xs]
theorem dep_ints : ∀ xs : List Int, PyData.depthAll (xs.map .int) = 0
  | [] => by simp [PyData.depthAll]
  | x :: xs => by simp [PyData.depthAll, PyData.depth, dep_ints xs]
theorem lay_map {α : Type} (F : α → Dt) (h : ∀ x, (F x).canLay0 = true) : ∀ xs : List α, PyData.canLayAll0 (xs.map F) = true
  | [] => by simp [PyData.canLayAll0]
  | x :: xs => by simp [PyData.canLayAll0, h x, lay_map F h xs]
theorem dep_map {α : Type} (F : α → Dt) (k : Nat) (h : ∀ x, (F x).depth ≤ k) : ∀ xs : List α, PyData.depthAll (xs.map F) ≤ k
  | [] => by simp [PyData.depthAll]
  | x :: xs => by
    have := h x
    have := dep_map F k h xs
    simp [PyData.depthAll]
    omega
theorem lay_tbl (f : Int → Int → Int) (n : Nat) : (tbl f n).canLay0 = true ∧ (tbl f n).depth ≤ 2 := by
  unfold tbl tblR
  constructor
  · simp only [PyData.canLay0]
    exact lay_map _ (fun i => by simp only [PyData.canLay0]; exact lay_map _ (fun j => by simp [PyData.canLay0]) _) _
  · simp only [PyData.depth]
    have := dep_map (fun i : Nat => PyData.list ((List.range n).map fun (j : Nat) => .int (f (1 + i) (1 + j)))) 1 (fun i => by
      simp only [PyData.depth]
      have := dep_map (fun j : Nat => PyData.int (f (1 + (i : Int)) (1 + (j : Int)))) 0 (fun j => by simp [PyData.depth]) (List.range n)
      omega) (List.range n)
    omega
theorem lay_row (r : List Int) : (eR r).canLay0 = true ∧ (eR r).depth ≤ 1 := by
  unfold eR
  simp [PyData.canLay0, lay_ints, PyData.depth, dep_ints]
theorem shaped_tbl (f : Int → Int → Int) (n : Nat) : SeqAt.shaped (tbl f n) = true := by
  obtain ⟨h1, h2⟩ := lay_tbl f n
  simp only [SeqAt.shaped, h1, Bool.true_and, decide_eq_true_eq]
  omega
theorem shaped_tbls {α : Type} (f : α → Int → Int → Int) (n : Nat) (xs : List α) : SeqAt.shaped (.list (xs.map fun r => tbl (f r) n)) = true := by
  have h1 := lay_map (fun r => tbl (f r) n) (fun r => (lay_tbl _ _).1) xs
  have h2 := dep_map (fun r => tbl (f r) n) 2 (fun r => (lay_tbl _ _).2) xs
  simp [SeqAt.shaped, PyData.canLay0, PyData.depth, h1]
  omega
theorem shaped_rows (xs : List (List Int)) : SeqAt.shaped (.list (xs.map eR)) = true := by
  have h1 := lay_map eR (fun r => (lay_row _).1) xs
  have h2 := dep_map eR 1 (fun r => (lay_row _).2) xs
  simp [SeqAt.shaped, PyData.canLay0, PyData.depth, h1]
  omega
theorem shaped_row (r : List Int) : SeqAt.shaped (eR r) = true := by
  obtain ⟨h1, h2⟩ := lay_row r
  simp only [SeqAt.shaped, h1, Bool.true_and, decide_eq_true_eq]
  omega
end Fw
namespace Fw
open PySem PySem.Spec PyProof.Rows L2
def r1 : Gst := (sAsg 1 (dE (x2 gAdd (pX (fun _ => some (.int 2))) (eD (eCallR [some 0, none] (aR 0 (aD (pX (fun _ => some (.int 4))) aNil)) q_law_draw)))))
def r2 : Gst := (sAsg 2 (dE (pX (gCallD (gCons (gVar 1) gNil) q_law_rows))))
def r3 : Gst := (sAsg 3 (dE (eD (eLc [14, 15, 16] (xSeq (eD (eCallR [some 0, none] (aR 0 (aD (pX (gVar 1)) aNil)) q_law_bounds))) (nmTup 3 (nmCons (nmN 14) (nmCons (nmN 15) (nmCons (nmN 16) nmNil)))) tYesE (dE (pX (gTup (gCons (gVar 14) (gCons (gVar 15) (gCons (gA gMax2 (gCons (fun _ => some (.int 0)) (gCons (gA gMin3 (gCons (gVar 14) (gCons (g2 gSub (gVar 1) (gVar 15)) (gCons (gVar 16) gNil)))) gNil))) gNil))))))))))
def r4 : Gst := (sAsg 4 (dE (eD (eLc [14, 15, 16] (xSeq (eD (eCallR [some 0, none] (aR 0 (aD (pX (gVar 1)) aNil)) q_law_bounds))) (nmTup 3 (nmCons (nmN 14) (nmCons (nmN 15) (nmCons (nmN 16) nmNil)))) tYesE (dE (pX (gTup (gCons (gVar 14) (gCons (gVar 15) (gCons (gA gMax3 (gCons (fun _ => some (.int 0)) (gCons (g2 gSub (gVar 14) (gVar 15)) (gCons (gVar 16) gNil)))) gNil))))))))))
def r5 : Gst := (sIf (xT (x2 gEq (eD (eCallR [some 0, none] (aR 0 (aD (pX (fun _ => some (.int 2))) aNil)) q_law_draw)) (pX (fun _ => some (.int 0))))) (sSeq (sAsg 5 (dE (eD (eCallR [some 0, none] (aR 0 (aD (pX (gVar 2)) aNil)) q_law_pick)))) (sSeq (sAsg 3 (dE (pX (gL (gLc [14, 15, 16] (gSeq (gVar 3)) (nmTup 3 (nmCons (nmN 14) (nmCons (nmN 15) (nmCons (nmN 16) nmNil)))) gYes (gTup (gCons (gVar 14) (gCons (gVar 15) (gCons (gCallD (gCons (gVar 5) (gCons (gVar 14) (gCons (gVar 15) gNil))) q_law_count) gNil))))))))) (sAsg 4 (dE (pX (gL (gLc [14, 15, 16] (gSeq (gVar 4)) (nmTup 3 (nmCons (nmN 14) (nmCons (nmN 15) (nmCons (nmN 16) nmNil)))) gYes (gTup (gCons (gVar 14) (gCons (gVar 15) (gCons (gA gMax2 (gCons (g2 gSub (gVar 14) (gVar 15)) (gCons (gCallD (gCons (gVar 5) (gCons (gVar 14) (gCons (gVar 15) gNil))) q_law_count) gNil))) gNil))))))))))) sNil)
def r6 : Gst := (sPar2 6 7 (eCons (dE (pX (gA gRepr (gCons (gL (gLst (gCons (gVar 3) (gCons (gVar 4) gNil)))) gNil)))) (eCons (dE (pX (gCallD (gCons (gVar 3) (gCons (gVar 4) gNil)) q_law_quarrel))) eNil)))
def r7 : Gst := (sAsg 8 (dE (pX (gL (gLc [17] (gSeq (gVar 2)) (nmN 17) (gAndT (asB (gCallD (gCons (gVar 17) (gCons (gVar 4) gNil)) q_law_keeps)) (asB (gCallD (gCons (gVar 17) (gCons (gVar 3) gNil)) q_law_holds))) (gVar 17))))))
def r8 : Gst := (sAsg 9 (eCallD (xCons (pX (gVar 1)) (xCons (pX (gL (gSeq (gVar 3)))) (xCons (pX (gL (gSeq (gVar 4)))) xNil))) q_rows_kept_both))
def r9 : Gst := (sIf (tP (gOrT (gNotT (asB (gCallP (gCons (gL (gLst (gCons (gCallD (gCons (gVar 1) (gCons (gL (gSeq (gVar 3))) (gCons (gL (gSeq (gVar 4))) gNil))) q_floor_quarrel) (gCons (gPk 9) gNil)))) (gCons (gL (gLst (gCons (gVar 7) (gCons (gVar 8) gNil)))) gNil)) (q_law_same 8)))) (gAndT (asB (gIsN true (gVar 7))) (asB (g2 gNe (gVar 8) (gL (gLst gNil))))))) (sRet (dE (pX (fun _ => some (.bool false))))) sNil)
def r10 : Gst := (sApp 9 (dE (pX (fun _ => some .none))))
def r11 : Gst := (sIf (tP (gNotT (asB (gCallD (gCons (gL (gLst (gCons (gCallK0 [2, 1, 0] 3 (gCons (gTupA (gVar 4)) (gCons (gTupA (gVar 3)) (gCons (gVar 1) gNil))) q_floor_quarrel) (gCons (gCallK0 [2, 1, 0] 3 (gCons (gTupA (gVar 4)) (gCons (gTupA (gVar 3)) (gCons (gVar 1) gNil))) q_rows_kept_both) gNil)))) (gCons (gL (gLst (gCons (gVar 7) (gCons (gVar 8) gNil)))) gNil)) (q_law_same 8))))) (sRet (dE (pX (fun _ => some (.bool false))))) sNil)
def r12 : Gst := (sPar2 10 11 (eCons (dE (pX (gCallD (gCons (gVar 1) (gCons (gL (gSeq (gVar 3))) gNil)) q_bottom_table))) (eCons (dE (pX (gCallD (gCons (gVar 1) (gCons (gL (gSeq (gVar 4))) gNil)) q_top_table))) eNil)))
def r13 : Gst := (sAsg 12 (dE (pX (gA gAny (gCons (gL (gLc [18, 19] (gZ2 (gVar 10) (gVar 11)) (nmTup 2 (nmCons (nmN 18) (nmCons (nmN 19) nmNil))) gYes (gA gAny (gCons (gL (gLc [20, 21] (gZ2 (gVar 18) (gVar 19)) (nmTup 2 (nmCons (nmN 20) (nmCons (nmN 21) nmNil))) gYes (g2 (gCmpI (fun i j => decide (j < i))) (gVar 20) (gVar 21)))) gNil)))) gNil)))))
def r14 : Gst := (sIf (tP (asB (g2 gNe (gVar 12) (gIsN true (gVar 7))))) (sRet (dE (pX (fun _ => some (.bool false))))) sNil)
def r15 : Gst := (sAsg 13 (dE (pX (gL (gLc [17] (gSeq (gVar 2)) (nmN 17) gYes (gL (gLc [14] (gRng2 (fun _ => some (.int 1)) (gVar 1)) (nmN 14) gYes (gL (gLc [15] (gRng2 (fun _ => some (.int 1)) (gVar 1)) (nmN 15) gYes (gCallD (gCons (gVar 17) (gCons (gVar 14) (gCons (gVar 15) gNil))) q_law_count))))))))))
def r16 : Gst := (sIf (tP (gAndT (asB (gIsN false (gVar 7))) (gOrT (gAndT (asB (g2 (gIn false) (gVar 10) (gVar 13))) (asB (g2 (gIn true) (g2 gIx (gVar 2) (gIdx (gVar 13) (gVar 10))) (gVar 8)))) (gAndT (asB (g2 (gIn false) (gVar 11) (gVar 13))) (asB (g2 (gIn true) (g2 gIx (gVar 2) (gIdx (gVar 13) (gVar 11))) (gVar 8))))))) (sRet (dE (pX (fun _ => some (.bool false))))) sNil)
def r17 : Gst := (sRet (dE (pX (g2 gEq (gA gRepr (gCons (gL (gLst (gCons (gVar 3) (gCons (gVar 4) gNil)))) gNil)) (gVar 6)))))
theorem law_right_eq : b_law_right = (sSeq r1 (sSeq r2 (sSeq r3 (sSeq r4 (sSeq r5 (sSeq r6 (sSeq r7 (sSeq r8 (sSeq r9 (sSeq r10 (sSeq r11 (sSeq r12 (sSeq r13 (sSeq r14 (sSeq r15 (sSeq r16 r17)))))))))))))))) := rfl
abbrev EV (p m r F B o s d bo t lo hi mo tb : Sl) : List Sl := [p, m, r, F, B, o, s, d, bo, t, lo, hi, mo, tb, .un, .un, .un, .un, .un, .un, .un, .un]
theorem fq_cases (fs bs : List T3) : fq fs bs = .none ∨ ∃ f b, f ∈ fs ∧ b ∈ bs ∧ qr f b = true ∧ fq fs bs = .tuple [e3 f, e3 b] := by
  induction fs with
  | nil => exact .inl rfl
  | cons f fs ih =>
    cases hq : bs.filter (qr f) with
    | nil =>
      have e : fq (f :: fs) bs = fq fs bs := by simp [fq, hq]
      rw [e]
      rcases ih with h | ⟨g, b, h1, h2, h3, h4⟩
      · exact .inl h
      · exact .inr ⟨g, b, List.mem_cons_of_mem _ h1, h2, h3, h4⟩
    | cons c cs =>
      have e : fq (f :: fs) bs = .tuple [e3 f, e3 c] := by simp [fq, hq]
      have hc : c ∈ bs.filter (qr f) := by rw [hq]; exact List.mem_cons_self
      exact .inr ⟨f, c, List.mem_cons_self, (List.mem_filter.mp hc).1, (List.mem_filter.mp hc).2, e⟩
theorem fq_none {fs bs : List T3} (h : fq fs bs = .none) : ∀ f ∈ fs, ∀ b ∈ bs, qr f b = false := by
  induction fs with
  | nil => intro f hf; cases hf
  | cons f fs ih =>
    cases hq : bs.filter (qr f) with
    | nil =>
      have e : fq (f :: fs) bs = fq fs bs := by simp [fq, hq]
      rw [e] at h
      intro g hg b hb
      rcases List.mem_cons.mp hg with rfl | hg
      · cases hqq : qr g b with
        | false => rfl
        | true =>
          have : b ∈ bs.filter (qr g) := List.mem_filter.mpr ⟨hb, hqq⟩
          rw [hq] at this
          cases this
      · exact ih h g hg b hb
    | cons c cs =>
      have e : fq (f :: fs) bs = .tuple [e3 f, e3 c] := by simp [fq, hq]
      rw [e] at h
      cases h
section
variable {m : Nat} {fs bs : List T3} {p o : Sl}
abbrev Mv (m : Nat) : Sl := .v (.lf (.int (m : Int)))
abbrev Rv (m : Nat) : Sl := .v (.lf (.list ((rowsF m m).map eR)))
abbrev bothR (m : Nat) (fs bs : List T3) : List (List Int) := (rowsF m m).filter fun r => kpF fs r && kpB bs r
structure Fin (m : Nat) (fs bs : List T3) : Prop where
  hm : isM m
  f : OkB m fs
  b : OkB m bs
  nf : noBadF m fs
  nb : noBadB bs
  sf : ∀ t ∈ fs, sm3 t
  sb : ∀ t ∈ bs, sm3 t
theorem st6 (h : Fin m fs bs) (s d bo t lo hi mo tb : Sl) : ∃ x : Str, gRepr [.list [eS true fs, eS true bs]] = some (.str x) ∧ r6 (EV p (Mv m) (Rv m) (.v (.lf (eS true fs))) (.v (.lf (eS true bs))) o s d bo t lo hi mo tb) = some (.nx, EV p (Mv m) (Rv m) (.v (.lf (eS true fs))) (.v (.lf (eS true bs))) o (.v (.lf (.str x))) (.v (.lf (fq fs bs))) bo t lo hi mo tb) := by
  obtain ⟨x, hx⟩ := repr_two h.sf h.sb h.f.len h.b.len
  exact ⟨x, hx, by simp [r6, hx, m_law_quarrel]⟩
theorem st7 (h : Fin m fs bs) (s d bo t lo hi mo tb : Sl) : r7 (EV p (Mv m) (Rv m) (.v (.lf (eS true fs))) (.v (.lf (eS true bs))) o s d bo t lo hi mo tb) = some (.nx, EV p (Mv m) (Rv m) (.v (.lf (eS true fs))) (.v (.lf (eS true bs))) o s d (.v (.lf (.list ((bothR m fs bs).map eR)))) t lo hi mo tb) := by
  have hl := rows_len h.hm
  have hs : ((rowsF m m).map eR).length ≤ SZ := by rw [List.length_map]; unfold SZ; omega
  have hc : lcG (nmN 17) (gAndT (asB (gCallD (gCons (gVar 17) (gCons (gVar 4) gNil)) q_law_keeps)) (asB (gCallD (gCons (gVar 17) (gCons (gVar 3) gNil)) q_law_holds))) (gVar 17) (EV p (Mv m) (Rv m) (.v (.lf (eS true fs))) (.v (.lf (eS true bs))) o s d bo t lo hi mo tb) ((rowsF m m).map eR) = some ((bothR m fs bs).map eR) := by
    have q := lcG_of (n := nmN 17) (gt := gAndT (asB (gCallD (gCons (gVar 17) (gCons (gVar 4) gNil)) q_law_keeps)) (asB (gCallD (gCons (gVar 17) (gCons (gVar 3) gNil)) q_law_holds))) (ge := gVar 17) (env := EV p (Mv m) (Rv m) (.v (.lf (eS true fs))) (.v (.lf (eS true bs))) o s d bo t lo hi mo tb) eR (fun r => kpB bs r && kpF fs r) eR (xs := rowsF m m) fun r hr => ⟨_, rfl, by
      have hrl : r.length ≤ 1000 := by
        have := (row_ok h.hm hr).len
        rcases h.hm with h | h | h | h <;> omega
      have e1 := m_keeps_up (b := true) hrl (fun t ht => by have := (h.f.ok t ht).1; omega) h.f.len
      have e2 := m_keeps_all (b := true) hrl (fun t ht => by have := (h.b.ok t ht).1; omega) h.b.len
      cases hq : kpB bs r <;> simp [law_keeps, law_holds, e1, e2, hq], fun _ => by simp⟩
    rw [q]
    congr 3
    funext r
    exact Bool.and_comm _ _
  have hg := gLc_of (vs := [17]) (gi := gSeq (gVar 2)) (env := EV p (Mv m) (Rv m) (.v (.lf (eS true fs))) (.v (.lf (eS true bs))) o s d bo t lo hi mo tb) (ds := (rowsF m m).map eR) (by simp) hs hc
  unfold r7
  simp [-x_gLc, hg]
theorem st8 (h : Fin m fs bs) (s d bo t lo hi mo tb : Sl) : r8 (EV p (Mv m) (Rv m) (.v (.lf (eS true fs))) (.v (.lf (eS true bs))) o s d bo t lo hi mo tb) = some (.nx, EV p (Mv m) (Rv m) (.v (.lf (eS true fs))) (.v (.lf (eS true bs))) o s d bo (.v (.nd (((bothR m fs bs).map eR).map .lf))) lo hi mo tb) := by
  have e := m_rows_kept_both h.hm h.f h.b h.nf h.nb (b := true) (c := true)
  have e2 : ∀ xs, eS true xs = .list (xs.map e3) := fun _ => rfl
  rw [e2, e2] at e
  unfold r8
  simp [e]
theorem ok_rows (xs : List (List Int)) (hl : ∀ r ∈ xs, r.length ≤ 1000) : ∀ d ∈ xs.map eR, okS 3 d = true := by
  intro d hd
  obtain ⟨r, hr, rfl⟩ := List.mem_map.mp hd
  have := hl r hr
  simp [okS, eR, SZ]
  omega
theorem okS_e3 (t : T3) : okS 3 (e3 t) = true := by simp [okS, e3, SZ]
theorem okS_all (h : Fin m fs bs) : okS 8 (.list [fq fs bs, .list ((bothR m fs bs).map eR)]) = true := by
  have hl := rows_len h.hm
  have hb : (bothR m fs bs).length ≤ 120 := Nat.le_trans (List.length_filter_le _ _) hl
  have mono : ∀ (n k : Nat) (d : Dt), okS n d = true → n ≤ k → okS k d = true := by
    intro n
    induction n with
    | zero => intro k d hd; cases hd
    | succ n ih =>
      intro k d hd hk
      obtain ⟨k, rfl⟩ : ∃ j, k = j + 1 := ⟨k - 1, by omega⟩
      cases d <;> simp_all [okS] <;> (intro x hx; exact ih k x (hd.2 x hx) hk)
  have h1 : okS 7 (.list ((bothR m fs bs).map eR)) = true := by
    simp only [okS, Bool.and_eq_true, decide_eq_true_eq, List.all_eq_true]
    refine ⟨by rw [List.length_map]; unfold SZ; omega, fun d hd => mono 3 6 d (ok_rows _ (fun r hr => ?_) d hd) (by omega)⟩
    have := (row_ok h.hm (List.mem_filter.mp hr).1).len
    rcases h.hm with h | h | h | h <;> omega
  have h2 : okS 7 (fq fs bs) = true := by
    rcases fq_cases fs bs with e | ⟨f, b, _, _, _, e⟩
    · rw [e]; rfl
    · rw [e]
      have q1 := mono 3 6 _ (okS_e3 f) (by omega)
      have q2 := mono 3 6 _ (okS_e3 b) (by omega)
      unfold okS
      simp [q1, q2, SZ]
  unfold okS
  simp [h1, h2, SZ]
end
end Fw
namespace Fw
open PySem PySem.Spec PyProof.Rows L2
/-! the law of counts, at all rows of two to five numbers -/
def cntC (m : Nat) (r : List Int) : Bool := (List.range m).all fun a => (List.range m).all fun b => a == 0 || b == 0 || (decide (cnt r a b ≤ a) && decide (cnt r a b ≤ m - b) && (List.range m).all fun c => (List.range m).all fun d => c == 0 || d == 0 || decide (cnt r a b ≤ cnt r c d + max 0 ((a : Int) - c) + max 0 ((d : Int) - b)))
theorem cnt_dec : ∀ m ∈ [2, 3, 4, 5], (rowsF m m).all (cntC m) = true := by decide +kernel
theorem cnt_at {m : Nat} (hm : isM m) {r : List Int} (hr : r ∈ rowsF m m) {a b : Int} (ha : 1 ≤ a ∧ a ≤ (m : Int) - 1) (hb : 1 ≤ b ∧ b ≤ (m : Int) - 1) : cnt r a b ≤ a ∧ cnt r a b ≤ m - b ∧ ∀ c d : Int, (1 ≤ c ∧ c ≤ (m : Int) - 1) → (1 ≤ d ∧ d ≤ (m : Int) - 1) → cnt r a b ≤ cnt r c d + max 0 (a - c) + max 0 (d - b) := by
  have h := cnt_dec m (by rcases hm with rfl | rfl | rfl | rfl <;> simp)
  rw [List.all_eq_true] at h
  have h := h r hr
  have nat : ∀ x : Int, 1 ≤ x → ((x.toNat : Nat) : Int) = x := fun x hx => by omega
  unfold cntC at h
  rw [List.all_eq_true] at h
  have h := h a.toNat (List.mem_range.mpr (by omega))
  rw [List.all_eq_true] at h
  have h := h b.toNat (List.mem_range.mpr (by omega))
  have a0 : (a.toNat == 0) = false := by simp; omega
  have b0 : (b.toNat == 0) = false := by simp; omega
  rw [a0, b0, nat a ha.1, nat b hb.1] at h
  simp only [Bool.false_or, Bool.and_eq_true, decide_eq_true_eq] at h
  refine ⟨h.1.1, h.1.2, fun c d hc hd => ?_⟩
  have h := h.2
  rw [List.all_eq_true] at h
  have h := h c.toNat (List.mem_range.mpr (by omega))
  rw [List.all_eq_true] at h
  have h := h d.toNat (List.mem_range.mpr (by omega))
  have c0 : (c.toNat == 0) = false := by simp; omega
  have d0 : (d.toNat == 0) = false := by simp; omega
  rw [c0, d0, nat c hc.1, nat d hd.1] at h
  simpa using h
theorem cnt_nn (r : List Int) (a b : Int) : 0 ≤ cnt r a b := by unfold cnt; omega
section
variable {m : Nat} {fs bs : List T3} {p o : Sl}
theorem bot_ge (fs : List T3) (i j : Int) : 0 ≤ botI fs i j ∧ i - j ≤ botI fs i j ∧ ∀ f ∈ fs, f.2.2 - max 0 (f.1 - i) - max 0 (j - f.2.1) ≤ botI fs i j := by
  have h := (maxI_mem (ns := 0 :: (i - j) :: fs.map fun t => t.2.2 - max 0 (t.1 - i) - max 0 (j - t.2.1)) (by simp)).2
  exact ⟨h _ (by simp), h _ (by simp), fun f hf => h _ (List.mem_cons_of_mem _ (List.mem_cons_of_mem _ (List.mem_map.mpr ⟨f, hf, rfl⟩)))⟩
theorem bot_is (fs : List T3) (i j : Int) : botI fs i j = 0 ∨ botI fs i j = i - j ∨ ∃ f ∈ fs, botI fs i j = f.2.2 - max 0 (f.1 - i) - max 0 (j - f.2.1) := by
  have h := (maxI_mem (ns := 0 :: (i - j) :: fs.map fun t => t.2.2 - max 0 (t.1 - i) - max 0 (j - t.2.1)) (by simp)).1
  rcases List.mem_cons.mp h with e | h
  · exact .inl e
  · rcases List.mem_cons.mp h with e | h
    · exact .inr (.inl e)
    · obtain ⟨f, hf, e⟩ := List.mem_map.mp h
      exact .inr (.inr ⟨f, hf, e.symm⟩)
theorem top_le (m : Int) (bs : List T3) (i j : Int) : topI m bs i j ≤ i ∧ topI m bs i j ≤ m - j ∧ ∀ b ∈ bs, topI m bs i j ≤ b.2.2 + max 0 (i - b.1) + max 0 (b.2.1 - j) := by
  have h := (minI_mem (ns := i :: (m - j) :: bs.map fun t => t.2.2 + max 0 (i - t.1) + max 0 (t.2.1 - j)) (by simp)).2
  exact ⟨h _ (by simp), h _ (by simp), fun f hf => h _ (List.mem_cons_of_mem _ (List.mem_cons_of_mem _ (List.mem_map.mpr ⟨f, hf, rfl⟩)))⟩
theorem top_is (m : Int) (bs : List T3) (i j : Int) : topI m bs i j = i ∨ topI m bs i j = m - j ∨ ∃ b ∈ bs, topI m bs i j = b.2.2 + max 0 (i - b.1) + max 0 (b.2.1 - j) := by
  have h := (minI_mem (ns := i :: (m - j) :: bs.map fun t => t.2.2 + max 0 (i - t.1) + max 0 (t.2.1 - j)) (by simp)).1
  rcases List.mem_cons.mp h with e | h
  · exact .inl e
  · rcases List.mem_cons.mp h with e | h
    · exact .inr (.inl e)
    · obtain ⟨f, hf, e⟩ := List.mem_map.mp h
      exact .inr (.inr ⟨f, hf, e.symm⟩)
/-- no quarrel: the bottom table is within the top table -/
theorem within (h : Fin m fs bs) (hq : fq fs bs = .none) {i j : Int} (hi : 1 ≤ i ∧ i ≤ (m : Int) - 1) (hj : 1 ≤ j ∧ j ≤ (m : Int) - 1) : botI fs i j ≤ topI m bs i j := by
  have hn := fq_none hq
  rcases bot_is fs i j with e | e | ⟨f, hf, e⟩ <;> rcases top_is m bs i j with e' | e' | ⟨b, hb, e'⟩ <;> rw [e, e']
  · omega
  · omega
  · have := (h.b.ok b hb).2.2; omega
  · omega
  · omega
  · have := h.nb b hb; omega
  · have := h.nf f hf; omega
  · have := h.nf f hf; omega
  · have q := hn f hf b hb
    unfold qr at q
    have q := of_decide_eq_false q
    omega
theorem quarrel_none (h : Fin m fs bs) {f b : T3} (hf : f ∈ fs) (hb : b ∈ bs) (hq : qr f b = true) : bothR m fs bs = [] := by
  refine List.filter_eq_nil_iff.mpr fun r hr hk => ?_
  simp only [Bool.and_eq_true] at hk
  have k1 := of_decide_eq_true (List.all_eq_true.mp hk.1 f hf)
  have k2 := of_decide_eq_true (List.all_eq_true.mp hk.2 b hb)
  have q := of_decide_eq_true hq
  have of := h.f.ok f hf
  have ob := h.b.ok b hb
  have := (cnt_at h.hm hr of.1 of.2.1).2.2 b.1 b.2.1 ob.1 ob.2.1
  omega
theorem low_in (h : Fin m fs bs) (hq : fq fs bs = .none) {r : List Int} (hr : r ∈ rowsF m m) (he : ∀ i j : Nat, i < m - 1 → j < m - 1 → cnt r (1 + i) (1 + j) = botI fs (1 + i) (1 + j)) : r ∈ bothR m fs bs := by
  have he2 : ∀ i j : Int, (1 ≤ i ∧ i ≤ (m : Int) - 1) → (1 ≤ j ∧ j ≤ (m : Int) - 1) → cnt r i j = botI fs i j := fun i j hi hj => by
    have := he (i - 1).toNat (j - 1).toNat (by omega) (by omega)
    have e1 : (1 : Int) + ((i - 1).toNat : Nat) = i := by omega
    have e2 : (1 : Int) + ((j - 1).toNat : Nat) = j := by omega
    rw [e1, e2] at this
    exact this
  refine List.mem_filter.mpr ⟨hr, ?_⟩
  rw [Bool.and_eq_true]
  refine ⟨List.all_eq_true.mpr fun f hf => decide_eq_true ?_, List.all_eq_true.mpr fun b hb => decide_eq_true ?_⟩
  · have of := h.f.ok f hf
    have := (bot_ge fs f.1 f.2.1).2.2 f hf
    rw [he2 _ _ of.1 of.2.1]
    omega
  · have ob := h.b.ok b hb
    have w := within h hq ob.1 ob.2.1
    have := (top_le m bs b.1 b.2.1).2.2 b hb
    rw [he2 _ _ ob.1 ob.2.1]
    omega
theorem high_in (h : Fin m fs bs) (hq : fq fs bs = .none) {r : List Int} (hr : r ∈ rowsF m m) (he : ∀ i j : Nat, i < m - 1 → j < m - 1 → cnt r (1 + i) (1 + j) = topI m bs (1 + i) (1 + j)) : r ∈ bothR m fs bs := by
  have he2 : ∀ i j : Int, (1 ≤ i ∧ i ≤ (m : Int) - 1) → (1 ≤ j ∧ j ≤ (m : Int) - 1) → cnt r i j = topI m bs i j := fun i j hi hj => by
    have := he (i - 1).toNat (j - 1).toNat (by omega) (by omega)
    have e1 : (1 : Int) + ((i - 1).toNat : Nat) = i := by omega
    have e2 : (1 : Int) + ((j - 1).toNat : Nat) = j := by omega
    rw [e1, e2] at this
    exact this
  refine List.mem_filter.mpr ⟨hr, ?_⟩
  rw [Bool.and_eq_true]
  refine ⟨List.all_eq_true.mpr fun f hf => decide_eq_true ?_, List.all_eq_true.mpr fun b hb => decide_eq_true ?_⟩
  · have of := h.f.ok f hf
    have w := within h hq of.1 of.2.1
    have := (bot_ge fs f.1 f.2.1).2.2 f hf
    rw [he2 _ _ of.1 of.2.1]
    omega
  · have ob := h.b.ok b hb
    have := (top_le m bs b.1 b.2.1).2.2 b hb
    rw [he2 _ _ ob.1 ob.2.1]
    omega
def moreB (m : Nat) (fs bs : List T3) : Bool := (List.range (m - 1)).any fun i => (List.range (m - 1)).any fun j => decide (topI m bs (1 + (i : Int)) (1 + (j : Int)) < botI fs (1 + (i : Int)) (1 + (j : Int)))
theorem more_none (h : Fin m fs bs) (hq : fq fs bs = .none) : moreB m fs bs = false := by
  unfold moreB
  rw [List.any_eq_false]
  intro i hi
  rw [Bool.not_eq_true, List.any_eq_false]
  intro j hj
  have h1 := List.mem_range.mp hi
  have h2 := List.mem_range.mp hj
  have := within h hq (i := 1 + (i : Int)) (j := 1 + (j : Int)) (by omega) (by omega)
  simp
  exact this
theorem more_some (h : Fin m fs bs) {f b : T3} (hf : f ∈ fs) (hb : b ∈ bs) (hq : qr f b = true) : moreB m fs bs = true := by
  have q := of_decide_eq_true hq
  have ob := h.b.ok b hb
  have t := (top_le m bs b.1 b.2.1).2.2 b hb
  have u := (bot_ge fs b.1 b.2.1).2.2 f hf
  unfold moreB
  rw [List.any_eq_true]
  refine ⟨(b.1 - 1).toNat, List.mem_range.mpr (by have := ob.1; omega), ?_⟩
  rw [List.any_eq_true]
  refine ⟨(b.2.1 - 1).toNat, List.mem_range.mpr (by have := ob.2.1; omega), decide_eq_true ?_⟩
  have e1 : (1 : Int) + ((b.1 - 1).toNat : Nat) = b.1 := by have := ob.1; omega
  have e2 : (1 : Int) + ((b.2.1 - 1).toNat : Nat) = b.2.1 := by have := ob.2.1; omega
  rw [e1, e2]
  omega
end
end Fw
namespace Fw
open PySem PySem.Spec PyProof.Rows L2
section
variable {m : Nat} {fs bs : List T3} {p o : Sl}
abbrev Fv (fs : List T3) : Sl := .v (.lf (eS true fs))
@[simp] theorem v_neB (a b : Bool) : gNe (.bool a) (.bool b) = some (.bool (a != b)) := by cases a <;> cases b <;> rfl
theorem eSt (xs : List T3) : PyData.list (xs.map e3) = eS true xs := rfl
theorem eSf (xs : List T3) : PyData.tuple (xs.map e3) = eS false xs := rfl
theorem st9 (h : Fin m fs bs) (s lo hi mo tb : Sl) : r9 (EV p (Mv m) (Rv m) (Fv fs) (Fv bs) o s (.v (.lf (fq fs bs))) (.v (.lf (.list ((bothR m fs bs).map eR)))) (.v (.nd (((bothR m fs bs).map eR).map .lf))) lo hi mo tb) =
    some (.nx, EV p (Mv m) (Rv m) (Fv fs) (Fv bs) o s (.v (.lf (fq fs bs))) (.v (.lf (.list ((bothR m fs bs).map eR)))) (.v (.nd (((bothR m fs bs).map eR).map .lf))) lo hi mo tb) := by
  have e1 := m_floor_quarrel h.f h.b h.nf h.nb (b := true) (c := true)
  have e2 := m_same 8 _ (okS_all h)
  have e3' : (sc (PyData.bool true)).isSome = true := rfl
  rcases fq_cases fs bs with hq | ⟨f, b, hf, hb, hqr, hq⟩
  · rw [hq] at e1 e2 ⊢
    unfold r9
    simp [-List.map_map, eSt, e1, e2, e3', isNon]
  · have hn := quarrel_none h hf hb hqr
    rw [hn] at e2 ⊢
    rw [hq] at e1 e2 ⊢
    have e2 : q_law_same 8 [.v (.lf (.list [.tuple [e3 f, e3 b], .list []])), .v (.lf (.list [.tuple [e3 f, e3 b], .list []]))] = _ := e2
    unfold r9
    simp [-List.map_map, eSt, e1, e2, e3', isNon]
theorem st10 (h : Fin m fs bs) (s d bo lo hi mo tb : Sl) : r10 (EV p (Mv m) (Rv m) (Fv fs) (Fv bs) o s d bo (.v (.nd (((bothR m fs bs).map eR).map .lf))) lo hi mo tb) =
    some (.nx, EV p (Mv m) (Rv m) (Fv fs) (Fv bs) o s d bo (.v (.nd ((((bothR m fs bs).map eR).map .lf) ++ [.lf .none]))) lo hi mo tb) := by
  have hl := rows_len h.hm
  have hb : (bothR m fs bs).length ≤ 120 := Nat.le_trans (List.length_filter_le _ _) hl
  have hs : (bothR m fs bs).length < SZ := by unfold SZ; omega
  unfold r10
  simp [-List.map_map, hs]
theorem st11 (h : Fin m fs bs) (s t lo hi mo tb : Sl) : r11 (EV p (Mv m) (Rv m) (Fv fs) (Fv bs) o s (.v (.lf (fq fs bs))) (.v (.lf (.list ((bothR m fs bs).map eR)))) t lo hi mo tb) =
    some (.nx, EV p (Mv m) (Rv m) (Fv fs) (Fv bs) o s (.v (.lf (fq fs bs))) (.v (.lf (.list ((bothR m fs bs).map eR)))) t lo hi mo tb) := by
  have e1 := m_floor_quarrel h.f h.b h.nf h.nb (b := false) (c := false)
  have e2 := m_same 8 _ (okS_all h)
  have e4 := m_rows_kept_both h.hm h.f h.b h.nf h.nb (b := false) (c := false)
  unfold r11
  simp [-List.map_map, gTupA, eSf, pick, e1, e2, e4]
theorem st12 (h : Fin m fs bs) (s d bo t lo hi mo tb : Sl) : r12 (EV p (Mv m) (Rv m) (Fv fs) (Fv bs) o s d bo t lo hi mo tb) =
    some (.nx, EV p (Mv m) (Rv m) (Fv fs) (Fv bs) o s d bo t (.v (.lf (tbl (botI fs) (m - 1)))) (.v (.lf (tbl (topI m bs) (m - 1)))) mo tb) := by
  have e1 := m_bottom_table h.f h.nf (b := true)
  have e2 := m_top_table h.b h.nb (b := true)
  unfold r12
  simp [eSt, e1, e2, tbl]
theorem z2_map {α : Type} (F G : α → Dt) : ∀ xs : List α, z2D (xs.map F) (xs.map G) = xs.map fun x => .tuple [F x, G x]
  | [] => rfl
  | x :: xs => by
    have := z2_map F G xs
    unfold z2D at this ⊢
    rw [List.map_cons, List.map_cons, List.zipWith_cons_cons, this]
    rfl
theorem st13 (h : Fin m fs bs) (s d bo t mo tb : Sl) : r13 (EV p (Mv m) (Rv m) (Fv fs) (Fv bs) o s d bo t (.v (.lf (tbl (botI fs) (m - 1)))) (.v (.lf (tbl (topI m bs) (m - 1)))) mo tb) =
    some (.nx, EV p (Mv m) (Rv m) (Fv fs) (Fv bs) o s d bo t (.v (.lf (tbl (botI fs) (m - 1)))) (.v (.lf (tbl (topI m bs) (m - 1)))) (.v (.lf (.bool (moreB m fs bs)))) tb) := by
  have hm7 := h.f.m7
  have hs : m - 1 ≤ SZ := by unfold SZ; omega
  have inner : ∀ (env : List Sl) (i : Nat), env[18]? = some (.v (.lf (.list ((List.range (m - 1)).map fun (j : Nat) => .int (botI fs (1 + (i : Int)) (1 + (j : Int))))))) → env[19]? = some (.v (.lf (.list ((List.range (m - 1)).map fun (j : Nat) => .int (topI m bs (1 + (i : Int)) (1 + (j : Int))))))) → env.length = 22 →
      gA gAny (gCons (gL (gLc [20, 21] (gZ2 (gVar 18) (gVar 19)) (nmTup 2 (nmCons (nmN 20) (nmCons (nmN 21) nmNil))) gYes (g2 (gCmpI (fun i j => decide (j < i))) (gVar 20) (gVar 21)))) gNil) env = some (.bool ((List.range (m - 1)).any fun j => decide (topI m bs (1 + (i : Int)) (1 + (j : Int)) < botI fs (1 + (i : Int)) (1 + (j : Int))))) := by
    intro env i h18 h19 hl
    have hg := gLc_of (vs := [20, 21]) (gi := gZ2 (gVar 18) (gVar 19)) (n := nmTup 2 (nmCons (nmN 20) (nmCons (nmN 21) nmNil))) (gt := gYes) (ge := g2 (gCmpI (fun i j => decide (j < i))) (gVar 20) (gVar 21)) (env := env)
      (ds := (List.range (m - 1)).map fun (j : Nat) => .tuple [.int (botI fs (1 + (i : Int)) (1 + (j : Int))), .int (topI m bs (1 + (i : Int)) (1 + (j : Int)))])
      (r := (List.range (m - 1)).map fun (j : Nat) => .bool (decide (topI m bs (1 + (i : Int)) (1 + (j : Int)) < botI fs (1 + (i : Int)) (1 + (j : Int)))))
      (by simp [h18, h19, z2_map]) (by simpa using hs) (lcG_all (fun (j : Nat) => PyData.tuple [.int (botI fs (1 + (i : Int)) (1 + (j : Int))), .int (topI m bs (1 + (i : Int)) (1 + (j : Int)))]) _ fun j hj => ⟨[(20, .int (botI fs (1 + (i : Int)) (1 + (j : Int)))), (21, .int (topI m bs (1 + (i : Int)) (1 + (j : Int))))], by simp, by simp [hl]⟩)
    simp [-x_gLc, hg]
  have hc := gLc_of (vs := [18, 19]) (gi := gZ2 (gVar 10) (gVar 11)) (n := nmTup 2 (nmCons (nmN 18) (nmCons (nmN 19) nmNil))) (gt := gYes)
    (ge := gA gAny (gCons (gL (gLc [20, 21] (gZ2 (gVar 18) (gVar 19)) (nmTup 2 (nmCons (nmN 20) (nmCons (nmN 21) nmNil))) gYes (g2 (gCmpI (fun i j => decide (j < i))) (gVar 20) (gVar 21)))) gNil))
    (env := EV p (Mv m) (Rv m) (Fv fs) (Fv bs) o s d bo t (.v (.lf (tbl (botI fs) (m - 1)))) (.v (.lf (tbl (topI m bs) (m - 1)))) mo tb)
    (ds := (List.range (m - 1)).map fun (i : Nat) => .tuple [.list ((List.range (m - 1)).map fun (j : Nat) => .int (botI fs (1 + (i : Int)) (1 + (j : Int)))), .list ((List.range (m - 1)).map fun (j : Nat) => .int (topI m bs (1 + (i : Int)) (1 + (j : Int))))])
    (r := (List.range (m - 1)).map fun (i : Nat) => .bool ((List.range (m - 1)).any fun j => decide (topI m bs (1 + (i : Int)) (1 + (j : Int)) < botI fs (1 + (i : Int)) (1 + (j : Int)))))
    (by simp [tbl, tblR, z2_map]) (by simpa using hs) (lcG_all (fun (i : Nat) => PyData.tuple [.list ((List.range (m - 1)).map fun (j : Nat) => .int (botI fs (1 + (i : Int)) (1 + (j : Int)))), .list ((List.range (m - 1)).map fun (j : Nat) => .int (topI m bs (1 + (i : Int)) (1 + (j : Int))))]) _ fun i hi => ⟨[(18, .list ((List.range (m - 1)).map fun (j : Nat) => .int (botI fs (1 + (i : Int)) (1 + (j : Int))))), (19, .list ((List.range (m - 1)).map fun (j : Nat) => .int (topI m bs (1 + (i : Int)) (1 + (j : Int)))))], by simp, inner _ i rfl rfl rfl⟩)
  unfold r13
  simp [-x_gLc, hc, moreB]
theorem st14 (h : Fin m fs bs) (s bo t lo hi tb : Sl) : r14 (EV p (Mv m) (Rv m) (Fv fs) (Fv bs) o s (.v (.lf (fq fs bs))) bo t lo hi (.v (.lf (.bool (moreB m fs bs)))) tb) =
    some (.nx, EV p (Mv m) (Rv m) (Fv fs) (Fv bs) o s (.v (.lf (fq fs bs))) bo t lo hi (.v (.lf (.bool (moreB m fs bs)))) tb) := by
  unfold r14
  rcases fq_cases fs bs with hq | ⟨f, b, hf, hb, hqr, hq⟩
  · rw [more_none h hq, hq]
    simp [isNon]
  · rw [more_some h hf hb hqr, hq]
    simp [isNon]
theorem st15 (h : Fin m fs bs) (s d bo t lo hi mo tb : Sl) : r15 (EV p (Mv m) (Rv m) (Fv fs) (Fv bs) o s d bo t lo hi mo tb) =
    some (.nx, EV p (Mv m) (Rv m) (Fv fs) (Fv bs) o s d bo t lo hi mo (.v (.lf (.list ((rowsF m m).map fun r => tbl (cnt r) (m - 1)))))) := by
  have hl := rows_len h.hm
  have h2 := h.f.m2
  have h7 := h.f.m7
  have hr := rg2_m m h2 h7
  have hs : ((rowsF m m).map eR).length ≤ SZ := by rw [List.length_map]; unfold SZ; omega
  have hl2 : (rgD 1 (m - 1)).length ≤ SZ := by simp [rgD, SZ]; omega
  have hc := gLc_of (vs := [17]) (gi := gSeq (gVar 2)) (n := nmN 17) (gt := gYes) (ge := gL (gLc [14] (gRng2 (fun _ => some (.int 1)) (gVar 1)) (nmN 14) gYes (gL (gLc [15] (gRng2 (fun _ => some (.int 1)) (gVar 1)) (nmN 15) gYes (gCallD (gCons (gVar 17) (gCons (gVar 14) (gCons (gVar 15) gNil))) q_law_count)))))
    (env := EV p (Mv m) (Rv m) (Fv fs) (Fv bs) o s d bo t lo hi mo tb) (ds := (rowsF m m).map eR) (r := (rowsF m m).map fun r => tbl (cnt r) (m - 1)) (by simp) hs (lcG_all eR _ fun r hrr => ⟨[(17, eR r)], rfl, by
      have hrl : r.length ≤ 1000 := by
        have := (row_ok h.hm hrr).len
        rcases h.hm with h | h | h | h <;> omega
      have e := lc_tbl (n1 := 14) (n2 := 15) (gi := gRng2 (fun _ => some (.int 1)) (gVar 1)) (ge := gCallD (gCons (gVar 17) (gCons (gVar 14) (gCons (gVar 15) gNil))) q_law_count) (env := [p, Mv m, Rv m, Fv fs, Fv bs, o, s, d, bo, t, lo, hi, mo, tb, .un, .un, .un, .v (.lf (eR r)), .un, .un, .un, .un]) (cnt r) (m - 1) (by omega)
        (fun i => gRng2_of (x := 1) (y := m) (by simp) (by simp) hr) (fun i j => by simp [law_count, m_window_count (show (0 : Int) ≤ 1 + (i : Int) by omega) hrl])
      have g := gLc_of (vs := [14]) (gi := gRng2 (fun _ => some (.int 1)) (gVar 1)) (env := [p, Mv m, Rv m, Fv fs, Fv bs, o, s, d, bo, t, lo, hi, mo, tb, .un, .un, .un, .v (.lf (eR r)), .un, .un, .un, .un]) (gRng2_of (x := 1) (y := m) rfl rfl hr) hl2 e
      show (gLc _ _ _ _ _ [p, Mv m, Rv m, Fv fs, Fv bs, o, s, d, bo, t, lo, hi, mo, tb, .un, .un, .un, .v (.lf (eR r)), .un, .un, .un, .un]).map PyData.list = _
      rw [g]
      rfl⟩)
  unfold r15
  simp [-x_gLc, hc]
end
end Fw
namespace Fw
open PySem PySem.Spec PyProof.Rows L2
section
variable {m : Nat} {fs bs : List T3} {p o : Sl}
theorem andT_tt {a b : List Sl → Option Bool} {env : List Sl} (h : a env = some true) : gAndT a b env = b env := by
  unfold gAndT
  rw [h]
theorem orT_ff {a b : List Sl → Option Bool} {env : List Sl} (h : a env = some false) : gOrT a b env = b env := by
  unfold gOrT
  rw [h]
theorem idx_of {d : Dt} : ∀ {ds : List Dt}, inD d ds = true → ∃ j, idxD d ds = some j
  | [], h => by cases h
  | z :: r, h => by
    unfold idxD
    by_cases e : PyData.eqv z d = true
    · exact ⟨0, if_pos e⟩
    · have h' : inD d r = true := by
        unfold inD at h ⊢
        rw [List.any_cons] at h
        simpa [e] using h
      obtain ⟨j, hj⟩ := idx_of h'
      exact ⟨j + 1, by rw [if_neg e, hj]; rfl⟩
theorem test_in (h : Fin m fs bs) (g : Int → Int → Int) (hin : ∀ r ∈ rowsF m m, (∀ i j : Nat, i < m - 1 → j < m - 1 → cnt r (1 + i) (1 + j) = g (1 + i) (1 + j)) → r ∈ bothR m fs bs) {k : Nat} {env : List Sl} (hk : gVar k env = some (tbl g (m - 1))) (h13 : gVar 13 env = some (.list ((rowsF m m).map fun r => tbl (cnt r) (m - 1)))) (h2 : gVar 2 env = some (.list ((rowsF m m).map eR))) (h8 : gVar 8 env = some (.list ((bothR m fs bs).map eR))) :
    gAndT (asB (g2 (gIn false) (gVar k) (gVar 13))) (asB (g2 (gIn true) (g2 gIx (gVar 2) (gIdx (gVar 13) (gVar k))) (gVar 8))) env = some false := by
  have s1 := shaped_tbl g (m - 1)
  have s2 := shaped_tbls cnt (m - 1) (rowsF m m)
  have e1 : g2 (gIn false) (gVar k) (gVar 13) env = some (.bool (inD (tbl g (m - 1)) ((rowsF m m).map fun r => tbl (cnt r) (m - 1)))) := by
    unfold g2
    rw [hk, Option.bind_some, h13, Option.bind_some]
    unfold gIn
    dsimp only
    rw [if_pos ⟨s1, s2⟩, Bool.false_xor]
  cases hd : inD (tbl g (m - 1)) ((rowsF m m).map fun r => tbl (cnt r) (m - 1)) with
  | false =>
    rw [hd] at e1
    unfold gAndT asB
    rw [e1]
  | true =>
    rw [hd] at e1
    obtain ⟨j, hj⟩ := idx_of hd
    obtain ⟨z, z1, z2, _⟩ := idxD_ok hj
    rw [List.getElem?_map] at z1
    obtain ⟨r, r1, r2⟩ := Option.map_eq_some_iff.mp z1
    subst r2
    have hrm : r ∈ rowsF m m := List.mem_of_getElem? r1
    have hb := hin r hrm ((tbl_eqv (cnt r) g (m - 1)).mp z2)
    have e2 : gIdx (gVar 13) (gVar k) env = some (.int (j : Nat)) := by
      unfold gIdx
      rw [h13, Option.bind_some, hk, Option.bind_some]
      dsimp only
      rw [if_pos ⟨s2, s1⟩, hj]
      rfl
    have hjl : j < (rowsF m m).length := (List.getElem?_eq_some_iff.mp r1).1
    have e3' : gIx (.list ((rowsF m m).map eR)) (.int (j : Nat)) = some (eR r) := by
      show atI ((rowsF m m).map eR) (j : Nat) = _
      rw [atI_map]
      have : atI (rowsF m m) (j : Nat) = some r := by
        unfold atI ixN
        rw [if_pos (by omega), if_pos (by omega)]
        simpa using r1
      rw [this]
      rfl
    have e4 : g2 gIx (gVar 2) (gIdx (gVar 13) (gVar k)) env = some (eR r) := by
      unfold g2
      rw [h2, Option.bind_some, e2, Option.bind_some]
      exact e3'
    have hin2 : inD (eR r) ((bothR m fs bs).map eR) = true := by
      unfold inD
      rw [List.any_eq_true]
      exact ⟨eR r, List.mem_map.mpr ⟨r, hb, rfl⟩, SeqAt.eqv_refl _ (lay_row r).1⟩
    have e5 : g2 (gIn true) (g2 gIx (gVar 2) (gIdx (gVar 13) (gVar k))) (gVar 8) env = some (.bool false) := by
      have q : ∀ (a b : Gd) (x y : Dt), a env = some x → b env = some y → g2 (gIn true) a b env = gIn true x y := by
        intro a b x y ha hb
        unfold g2
        rw [ha, Option.bind_some, hb, Option.bind_some]
      rw [q _ _ _ _ e4 h8]
      unfold gIn
      dsimp only
      rw [if_pos ⟨shaped_row r, shaped_rows _⟩, hin2]
      rfl
    unfold gAndT asB
    rw [e1]
    dsimp only
    rw [e5]
theorem st16 (h : Fin m fs bs) (s t mo : Sl) : r16 (EV p (Mv m) (Rv m) (Fv fs) (Fv bs) o s (.v (.lf (fq fs bs))) (.v (.lf (.list ((bothR m fs bs).map eR)))) t (.v (.lf (tbl (botI fs) (m - 1)))) (.v (.lf (tbl (topI m bs) (m - 1)))) mo (.v (.lf (.list ((rowsF m m).map fun r => tbl (cnt r) (m - 1)))))) =
    some (.nx, EV p (Mv m) (Rv m) (Fv fs) (Fv bs) o s (.v (.lf (fq fs bs))) (.v (.lf (.list ((bothR m fs bs).map eR)))) t (.v (.lf (tbl (botI fs) (m - 1)))) (.v (.lf (tbl (topI m bs) (m - 1)))) mo (.v (.lf (.list ((rowsF m m).map fun r => tbl (cnt r) (m - 1)))))) := by
  rcases fq_cases fs bs with hq | ⟨f, b, hf, hb, hqr, hq⟩
  · have q1 := test_in h (botI fs) (fun r hr he => low_in h hq hr he) (k := 10) (env := EV p (Mv m) (Rv m) (Fv fs) (Fv bs) o s (.v (.lf (fq fs bs))) (.v (.lf (.list ((bothR m fs bs).map eR)))) t (.v (.lf (tbl (botI fs) (m - 1)))) (.v (.lf (tbl (topI m bs) (m - 1)))) mo (.v (.lf (.list ((rowsF m m).map fun r => tbl (cnt r) (m - 1)))))) rfl rfl rfl rfl
    have q2 := test_in h (topI m bs) (fun r hr he => high_in h hq hr he) (k := 11) (env := EV p (Mv m) (Rv m) (Fv fs) (Fv bs) o s (.v (.lf (fq fs bs))) (.v (.lf (.list ((bothR m fs bs).map eR)))) t (.v (.lf (tbl (botI fs) (m - 1)))) (.v (.lf (tbl (topI m bs) (m - 1)))) mo (.v (.lf (.list ((rowsF m m).map fun r => tbl (cnt r) (m - 1)))))) rfl rfl rfl rfl
    have q3 : gAndT (asB (gIsN false (gVar 7))) (gOrT (gAndT (asB (g2 (gIn false) (gVar 10) (gVar 13))) (asB (g2 (gIn true) (g2 gIx (gVar 2) (gIdx (gVar 13) (gVar 10))) (gVar 8)))) (gAndT (asB (g2 (gIn false) (gVar 11) (gVar 13))) (asB (g2 (gIn true) (g2 gIx (gVar 2) (gIdx (gVar 13) (gVar 11))) (gVar 8)))))
        (EV p (Mv m) (Rv m) (Fv fs) (Fv bs) o s (.v (.lf (fq fs bs))) (.v (.lf (.list ((bothR m fs bs).map eR)))) t (.v (.lf (tbl (botI fs) (m - 1)))) (.v (.lf (tbl (topI m bs) (m - 1)))) mo (.v (.lf (.list ((rowsF m m).map fun r => tbl (cnt r) (m - 1)))))) = some false := by
      have q0 : asB (gIsN false (gVar 7)) (EV p (Mv m) (Rv m) (Fv fs) (Fv bs) o s (.v (.lf (fq fs bs))) (.v (.lf (.list ((bothR m fs bs).map eR)))) t (.v (.lf (tbl (botI fs) (m - 1)))) (.v (.lf (tbl (topI m bs) (m - 1)))) mo (.v (.lf (.list ((rowsF m m).map fun r => tbl (cnt r) (m - 1)))))) = some true := by
        simp [hq, isNon]
      rw [andT_tt q0, orT_ff q1]
      exact q2
    unfold r16
    unfold sIf
    unfold tP
    rw [q3]
    rfl
  · unfold r16
    simp [hq, isNon]
theorem st17 (h : Fin m fs bs) {x : Str} (hx : gRepr [.list [eS true fs, eS true bs]] = some (.str x)) (d bo t lo hi mo tb : Sl) : r17 (EV p (Mv m) (Rv m) (Fv fs) (Fv bs) o (.v (.lf (.str x))) d bo t lo hi mo tb) =
    some (.rt (.lf (.bool true)), EV p (Mv m) (Rv m) (Fv fs) (Fv bs) o (.v (.lf (.str x))) d bo t lo hi mo tb) := by
  have e : gEq (.str x) (.str x) = some (.bool true) := by simp [gEq, eqS]
  unfold r17
  simp [hx, e]
def tailB : Gst := (sSeq r6 (sSeq r7 (sSeq r8 (sSeq r9 (sSeq r10 (sSeq r11 (sSeq r12 (sSeq r13 (sSeq r14 (sSeq r15 (sSeq r16 r17)))))))))))
theorem tail_ok (h : Fin m fs bs) (p o : Sl) : ∃ env', tailB (EV p (Mv m) (Rv m) (Fv fs) (Fv bs) o .un .un .un .un .un .un .un .un) = some (.rt (.lf (.bool true)), p :: env') := by
  obtain ⟨x, hx, h6⟩ := st6 h .un .un .un .un .un .un .un .un (p := p) (o := o)
  unfold tailB
  rw [s_one h6, s_one (st7 h _ _ _ _ _ _ _ _), s_one (st8 h _ _ _ _ _ _ _ _), s_one (st9 h _ _ _ _ _), s_one (st10 h _ _ _ _ _ _ _), s_one (st11 h _ _ _ _ _ _), s_one (st12 h _ _ _ _ _ _ _ _), s_one (st13 h _ _ _ _ _ _), s_one (st14 h _ _ _ _ _ _), s_one (st15 h _ _ _ _ _ _ _ _), s_one (st16 h _ _ _), st17 h hx]
  exact ⟨_, rfl⟩
end
end Fw
namespace Fw
open PySem PySem.Spec PyProof.Rows L2
abbrev L14 (p m r F B o s d bo t lo hi mo tb x y z : Sl) : List Sl := [p, m, r, F, B, o, s, d, bo, t, lo, hi, mo, tb, x, y, z, .un, .un, .un, .un, .un]
theorem lcE_ok {p m r F B o s d bo t lo hi mo tb : Sl} {ge : Gd} (g : T3 → Dt) (hge : ∀ u : T3, ge (L14 p m r F B o s d bo t lo hi mo tb (.v (.lf (.int u.1))) (.v (.lf (.int u.2.1))) (.v (.lf (.int u.2.2)))) = some (g u)) : ∀ (us : List T3) (x y z : Sl), ∃ x' y' z',
    lcE [14, 15, 16] (nmTup 3 (nmCons (nmN 14) (nmCons (nmN 15) (nmCons (nmN 16) nmNil)))) tYesE (dE (pX ge)) (us.map e3) (L14 p m r F B o s d bo t lo hi mo tb x y z) = some ((us.map g).map .lf, L14 p m r F B o s d bo t lo hi mo tb x' y' z')
  | [], x, y, z => ⟨x, y, z, rfl⟩
  | u :: us, x, y, z => by
    obtain ⟨x', y', z', ih⟩ := lcE_ok g hge us (.v (.lf (.int u.1))) (.v (.lf (.int u.2.1))) (.v (.lf (.int u.2.2)))
    refine ⟨x', y', z', ?_⟩
    rw [List.map_cons]
    unfold lcE
    rw [show nmTup 3 (nmCons (nmN 14) (nmCons (nmN 15) (nmCons (nmN 16) nmNil))) (e3 u) = some [(14, PyData.int u.1), (15, .int u.2.1), (16, .int u.2.2)] from tg3_e3 14 15 16 u, Option.bind_some]
    have hs : setE (wipeE (L14 p m r F B o s d bo t lo hi mo tb x y z) [14, 15, 16]) [(14, PyData.int u.1), (15, .int u.2.1), (16, .int u.2.2)] = L14 p m r F B o s d bo t lo hi mo tb (.v (.lf (.int u.1))) (.v (.lf (.int u.2.1))) (.v (.lf (.int u.2.2))) := rfl
    have he : dE (pX ge) (L14 p m r F B o s d bo t lo hi mo tb (.v (.lf (.int u.1))) (.v (.lf (.int u.2.1))) (.v (.lf (.int u.2.2)))) = some (.lf (g u), L14 p m r F B o s d bo t lo hi mo tb (.v (.lf (.int u.1))) (.v (.lf (.int u.2.1))) (.v (.lf (.int u.2.2)))) := by
      unfold dE pX
      rw [hge u]
      rfl
    rw [hs, x_tYesE, Option.bind_some, if_pos rfl]
    dsimp only
    rw [he, Option.bind_some]
    dsimp only
    rw [ih]
    rfl
theorem eLc_ok {p p' m r F B o s d bo t lo hi mo tb : Sl} {ge : Gd} {fi : Gxs} (g : T3 → Dt) (us : List T3) (hl : us.length ≤ 20) (hfi : fi (L14 p m r F B o s d bo t lo hi mo tb .un .un .un) = some (us.map e3, L14 p' m r F B o s d bo t lo hi mo tb .un .un .un))
    (hge : ∀ u : T3, ge (L14 p' m r F B o s d bo t lo hi mo tb (.v (.lf (.int u.1))) (.v (.lf (.int u.2.1))) (.v (.lf (.int u.2.2)))) = some (g u)) :
    eLc [14, 15, 16] fi (nmTup 3 (nmCons (nmN 14) (nmCons (nmN 15) (nmCons (nmN 16) nmNil)))) tYesE (dE (pX ge)) (L14 p m r F B o s d bo t lo hi mo tb .un .un .un) = some (.nd ((us.map g).map .lf), L14 p' m r F B o s d bo t lo hi mo tb .un .un .un) := by
  obtain ⟨x, y, z, e⟩ := lcE_ok g hge us .un .un .un
  have hs : (us.map e3).length ≤ SZ := by rw [List.length_map]; unfold SZ; omega
  unfold eLc
  rw [hfi, Option.bind_some, if_pos hs, e]
  rfl
theorem asgE {k : Nat} {f : Ge} {env e' : List Sl} {t : OT} (h : f env = some (t, e')) : sAsg k (dE (eD f)) env = some (.nx, e'.set k (.v (.lf t.d))) := by
  unfold sAsg
  show Option.map _ (Option.map _ (Option.map _ (f env))) = _
  rw [h]
  rfl
def fF (m : Int) (t : T3) : T3 := (t.1, t.2.1, max 0 (min (min t.1 (m - t.2.1)) t.2.2))
def fB (t : T3) : T3 := (t.1, t.2.1, max (max 0 (t.1 - t.2.1)) t.2.2)
def oF (r : List Int) (t : T3) : T3 := (t.1, t.2.1, cnt r t.1 t.2.1)
def oB (r : List Int) (t : T3) : T3 := (t.1, t.2.1, max (t.1 - t.2.1) (cnt r t.1 t.2.1))
section
variable {m : Nat}
theorem fin_f (hm : isM m) {us ws : List T3} (h1 : ∀ t ∈ us, okD m t) (h2 : ∀ t ∈ ws, okD m t) (l1 : us.length ≤ 4) (l2 : ws.length ≤ 4) : Fin m (us.map (fF m)) (ws.map fB) := by
  have m5 : (m : Int) ≤ 5 ∧ 2 ≤ (m : Int) := by rcases hm with h | h | h | h <;> omega
  have kf : ∀ t ∈ us.map (fF m), ok3 m t ∧ sm3 t ∧ t.2.2 ≤ m - t.2.1 ∧ t.2.2 ≤ t.1 := fun t ht => by
    obtain ⟨u, hu, rfl⟩ := List.mem_map.mp ht
    obtain ⟨⟨a1, a2⟩, ⟨b1, b2⟩, c1, c2⟩ := h1 u hu
    simp only [ok3, fF, sm3]
    omega
  have kb : ∀ t ∈ ws.map fB, ok3 m t ∧ sm3 t ∧ t.1 - t.2.1 ≤ t.2.2 := fun t ht => by
    obtain ⟨u, hu, rfl⟩ := List.mem_map.mp ht
    obtain ⟨⟨a1, a2⟩, ⟨b1, b2⟩, c1, c2⟩ := h2 u hu
    simp only [ok3, fB, sm3]
    omega
  refine ⟨hm, ⟨by omega, by omega, fun t ht => (kf t ht).1, by rw [List.length_map]; omega⟩, ⟨by omega, by omega, fun t ht => (kb t ht).1, by rw [List.length_map]; omega⟩, fun t ht => ?_, fun t ht => ?_, fun t ht => (kf t ht).2.1, fun t ht => (kb t ht).2.1⟩
  · have := kf t ht
    omega
  · have := kb t ht
    omega
theorem fin_o (hm : isM m) {r : List Int} (hr : r ∈ rowsF m m) {us ws : List T3} (h1 : ∀ t ∈ us, okD m t) (h2 : ∀ t ∈ ws, okD m t) (l1 : us.length ≤ 4) (l2 : ws.length ≤ 4) : Fin m ((us.map (fF m)).map (oF r)) ((ws.map fB).map (oB r)) := by
  have m5 : (m : Int) ≤ 5 ∧ 2 ≤ (m : Int) := by rcases hm with h | h | h | h <;> omega
  have key : ∀ u : T3, okD m u → 0 ≤ cnt r u.1 u.2.1 ∧ cnt r u.1 u.2.1 ≤ u.1 ∧ cnt r u.1 u.2.1 ≤ m - u.2.1 := fun u hu => by
    have := cnt_at hm hr hu.1 hu.2.1
    exact ⟨cnt_nn _ _ _, this.1, this.2.1⟩
  have kf : ∀ t ∈ (us.map (fF m)).map (oF r), ok3 m t ∧ sm3 t ∧ t.2.2 ≤ m - t.2.1 ∧ t.2.2 ≤ t.1 := fun t ht => by
    obtain ⟨v, hv, rfl⟩ := List.mem_map.mp ht
    obtain ⟨u, hu, rfl⟩ := List.mem_map.mp hv
    have ku := key u (h1 u hu)
    obtain ⟨⟨a1, a2⟩, ⟨b1, b2⟩, c1, c2⟩ := h1 u hu
    simp only [ok3, fF, oF, sm3]
    omega
  have kb : ∀ t ∈ (ws.map fB).map (oB r), ok3 m t ∧ sm3 t ∧ t.1 - t.2.1 ≤ t.2.2 := fun t ht => by
    obtain ⟨v, hv, rfl⟩ := List.mem_map.mp ht
    obtain ⟨u, hu, rfl⟩ := List.mem_map.mp hv
    have ku := key u (h2 u hu)
    obtain ⟨⟨a1, a2⟩, ⟨b1, b2⟩, c1, c2⟩ := h2 u hu
    simp only [ok3, fB, oB, sm3]
    omega
  refine ⟨hm, ⟨by omega, by omega, fun t ht => (kf t ht).1, by rw [List.length_map, List.length_map]; omega⟩, ⟨by omega, by omega, fun t ht => (kb t ht).1, by rw [List.length_map, List.length_map]; omega⟩, fun t ht => ?_, fun t ht => ?_, fun t ht => (kf t ht).2.1, fun t ht => (kb t ht).2.1⟩
  · have := kf t ht
    omega
  · have := kb t ht
    omega
theorem m_law_right (a b : Int) : ∃ a' b' : Int, q_law_right [PotS a b] = some (.lf (.bool true), [PotS a' b']) := by
  obtain ⟨d, a1, b1, p1, q1, e1⟩ := m_draw a b (m := 4) (by omega)
  have e1 := e1 (by omega)
  obtain ⟨m, hm1⟩ : ∃ m : Nat, (m : Int) = 2 + d := ⟨(2 + d).toNat, by omega⟩
  have hm : isM m := by unfold isM; omega
  have h2 : (2 : Int) ≤ m := by omega
  have h7 : (m : Int) ≤ 7 := by omega
  have s1 : r1 (EV (PotS a b) .un .un .un .un .un .un .un .un .un .un .un .un .un) = some (.nx, EV (PotS a1 b1) (Mv m) .un .un .un .un .un .un .un .un .un .un .un .un) := by
    unfold r1
    simp [e1, hm1]
  have s2 : r2 (EV (PotS a1 b1) (Mv m) .un .un .un .un .un .un .un .un .un .un .un .un) = some (.nx, EV (PotS a1 b1) (Mv m) (Rv m) .un .un .un .un .un .un .un .un .un .un .un) := by
    unfold r2
    simp [law_rows, rows_eq hm]
  obtain ⟨us, a2, b2, l1, o1, e2⟩ := m_law_bounds a1 b1 h2 h7
  have s3 : r3 (EV (PotS a1 b1) (Mv m) (Rv m) .un .un .un .un .un .un .un .un .un .un .un) = some (.nx, EV (PotS a2 b2) (Mv m) (Rv m) (Fv (us.map (fF m))) .un .un .un .un .un .un .un .un .un .un) := by
    have q := eLc_ok (p := PotS a1 b1) (p' := PotS a2 b2) (m := Mv m) (r := Rv m) (F := .un) (B := .un) (o := .un) (s := .un) (d := .un) (bo := .un) (t := .un) (lo := .un) (hi := .un) (mo := .un) (tb := .un)
      (fi := xSeq (eD (eCallR [some 0, none] (aR 0 (aD (pX (gVar 1)) aNil)) q_law_bounds))) (ge := gTup (gCons (gVar 14) (gCons (gVar 15) (gCons (gA gMax2 (gCons (fun _ => some (.int 0)) (gCons (gA gMin3 (gCons (gVar 14) (gCons (g2 gSub (gVar 1) (gVar 15)) (gCons (gVar 16) gNil)))) gNil))) gNil)))) (fun u => e3 (fF m u)) us (by omega) (by simp [-List.map_map, e2]) (fun u => by simp [e3, fF])
    unfold r3
    have e : (OT.nd ((us.map fun u => e3 (fF m u)).map .lf)).d = eS true (us.map (fF m)) := by rw [x_dnd, ← eSt, List.map_map]; rfl
    rw [asgE q, e]
    rfl
  obtain ⟨ws, a3, b3, l2, o2, e3'⟩ := m_law_bounds a2 b2 h2 h7
  have s4 : r4 (EV (PotS a2 b2) (Mv m) (Rv m) (Fv (us.map (fF m))) .un .un .un .un .un .un .un .un .un .un) = some (.nx, EV (PotS a3 b3) (Mv m) (Rv m) (Fv (us.map (fF m))) (Fv (ws.map fB)) .un .un .un .un .un .un .un .un .un) := by
    have q := eLc_ok (p := PotS a2 b2) (p' := PotS a3 b3) (m := Mv m) (r := Rv m) (F := Fv (us.map (fF m))) (B := .un) (o := .un) (s := .un) (d := .un) (bo := .un) (t := .un) (lo := .un) (hi := .un) (mo := .un) (tb := .un)
      (fi := xSeq (eD (eCallR [some 0, none] (aR 0 (aD (pX (gVar 1)) aNil)) q_law_bounds))) (ge := gTup (gCons (gVar 14) (gCons (gVar 15) (gCons (gA gMax3 (gCons (fun _ => some (.int 0)) (gCons (g2 gSub (gVar 14) (gVar 15)) (gCons (gVar 16) gNil)))) gNil)))) (fun u => e3 (fB u)) ws (by omega) (by simp [-List.map_map, e3']) (fun u => by simp [e3, fB])
    unfold r4
    have e : (OT.nd ((ws.map fun u => e3 (fB u)).map .lf)).d = eS true (ws.map fB) := by rw [x_dnd, ← eSt, List.map_map]; rfl
    rw [asgE q, e]
    rfl
  obtain ⟨g, a4, b4, p4, q4, e4⟩ := m_draw a3 b3 (m := 2) (by omega)
  have e4 := e4 (by omega)
  have s5 : ∃ (fs bs : List T3) (a5 b5 : Int) (o : Sl), Fin m fs bs ∧ r5 (EV (PotS a3 b3) (Mv m) (Rv m) (Fv (us.map (fF m))) (Fv (ws.map fB)) .un .un .un .un .un .un .un .un .un) = some (.nx, EV (PotS a5 b5) (Mv m) (Rv m) (Fv fs) (Fv bs) o .un .un .un .un .un .un .un .un) := by
    by_cases hg : g = 0
    · have hrl := rows_len hm
      obtain ⟨i, x, a5, b5, hx, e5⟩ := m_pick a4 b4 (xs := (rowsF m m).map eR) (by rw [List.length_map]; exact rows_pos hm) (by rw [List.length_map]; omega)
      rw [List.getElem?_map] at hx
      obtain ⟨r, hr1, hr2⟩ := Option.map_eq_some_iff.mp hx
      subst hr2
      have hr : r ∈ rowsF m m := List.mem_of_getElem? hr1
      have hrlen : r.length ≤ 1000 := by
        have := (row_ok hm hr).len
        rcases hm with h | h | h | h <;> omega
      refine ⟨_, _, a5, b5, .v (.lf (eR r)), fin_o hm hr o1 o2 l1 l2, ?_⟩
      have c1 := lc_e3 (n1 := 14) (n2 := 15) (n3 := 16) (gt := gYes) (ge := gTup (gCons (gVar 14) (gCons (gVar 15) (gCons (gCallD (gCons (gVar 5) (gCons (gVar 14) (gCons (gVar 15) gNil))) q_law_count) gNil)))) (env := EV (PotS a5 b5) (Mv m) (Rv m) (Fv (us.map (fF m))) (Fv (ws.map fB)) (.v (.lf (eR r))) .un .un .un .un .un .un .un .un)
        (fun _ => true) (fun t => e3 (oF r t)) (xs := us.map (fF m)) fun t ht => by
          obtain ⟨u, hu, rfl⟩ := List.mem_map.mp ht
          have := (o1 u hu).1
          have h0 : 0 ≤ (fF m u).1 := by simp only [fF]; omega
          simp [law_count, m_window_count h0 hrlen, e3, oF]
      rw [List.filter_eq_self.mpr fun _ _ => rfl] at c1
      have g1 := gLc_of (vs := [14, 15, 16]) (gi := gSeq (gVar 3)) (env := EV (PotS a5 b5) (Mv m) (Rv m) (Fv (us.map (fF m))) (Fv (ws.map fB)) (.v (.lf (eR r))) .un .un .un .un .un .un .un .un) (ds := (us.map (fF m)).map e3) (by simp) (by simp [SZ]; omega) c1
      have c2 := lc_e3 (n1 := 14) (n2 := 15) (n3 := 16) (gt := gYes) (ge := gTup (gCons (gVar 14) (gCons (gVar 15) (gCons (gA gMax2 (gCons (g2 gSub (gVar 14) (gVar 15)) (gCons (gCallD (gCons (gVar 5) (gCons (gVar 14) (gCons (gVar 15) gNil))) q_law_count) gNil))) gNil)))) (env := EV (PotS a5 b5) (Mv m) (Rv m) (Fv ((us.map (fF m)).map (oF r))) (Fv (ws.map fB)) (.v (.lf (eR r))) .un .un .un .un .un .un .un .un)
        (fun _ => true) (fun t => e3 (oB r t)) (xs := ws.map fB) fun t ht => by
          obtain ⟨u, hu, rfl⟩ := List.mem_map.mp ht
          have := (o2 u hu).1
          have h0 : 0 ≤ (fB u).1 := by simp only [fB]; omega
          simp [law_count, m_window_count h0 hrlen, e3, oB]
      rw [List.filter_eq_self.mpr fun _ _ => rfl] at c2
      have g2' := gLc_of (vs := [14, 15, 16]) (gi := gSeq (gVar 4)) (env := EV (PotS a5 b5) (Mv m) (Rv m) (Fv ((us.map (fF m)).map (oF r))) (Fv (ws.map fB)) (.v (.lf (eR r))) .un .un .un .un .un .un .un .un) (ds := (ws.map fB).map e3) (by simp) (by simp [SZ]; omega) c2
      have i1 : xT (x2 gEq (eD (eCallR [some 0, none] (aR 0 (aD (pX (fun _ => some (.int 2))) aNil)) q_law_draw)) (pX (fun _ => some (.int 0)))) (EV (PotS a3 b3) (Mv m) (Rv m) (Fv (us.map (fF m))) (Fv (ws.map fB)) .un .un .un .un .un .un .un .un .un) = some (true, EV (PotS a4 b4) (Mv m) (Rv m) (Fv (us.map (fF m))) (Fv (ws.map fB)) .un .un .un .un .un .un .un .un .un) := by
        simp [e4, hg]
      have i2 : sAsg 5 (dE (eD (eCallR [some 0, none] (aR 0 (aD (pX (gVar 2)) aNil)) q_law_pick))) (EV (PotS a4 b4) (Mv m) (Rv m) (Fv (us.map (fF m))) (Fv (ws.map fB)) .un .un .un .un .un .un .un .un .un) = some (.nx, EV (PotS a5 b5) (Mv m) (Rv m) (Fv (us.map (fF m))) (Fv (ws.map fB)) (.v (.lf (eR r))) .un .un .un .un .un .un .un .un) := by
        simp [e5]
      have w1 : PyData.list ((us.map (fF m)).map fun t => e3 (oF r t)) = eS true ((us.map (fF m)).map (oF r)) := by rw [← eSt, List.map_map (f := oF r)]; rfl
      have w2 : PyData.list ((ws.map fB).map fun t => e3 (oB r t)) = eS true ((ws.map fB).map (oB r)) := by rw [← eSt, List.map_map (f := oB r)]; rfl
      have asg : ∀ (k : Nat) (G : Gs) (env : List Sl) (ds : List Dt), G env = some ds → sAsg k (dE (pX (gL G))) env = some (.nx, env.set k (.v (.lf (.list ds)))) := by
        intro k G env ds hG
        unfold sAsg dE pX gL
        rw [hG]
        rfl
      have i3 := asg 3 _ _ _ g1
      have i4 := asg 4 _ _ _ g2'
      rw [w1] at i3
      rw [w2] at i4
      unfold r5 sIf
      rw [i1, Option.bind_some, if_pos rfl]
      dsimp only
      rw [s_one i2, s_one i3]
      exact i4
    · refine ⟨_, _, a4, b4, .un, fin_f hm o1 o2 l1 l2, ?_⟩
      unfold r5
      simp [e4, hg]
  obtain ⟨fs, bs, a5, b5, o, hfin, s5⟩ := s5
  obtain ⟨env', ht⟩ := tail_ok hfin (PotS a5 b5) o
  refine ⟨a5, b5, ?_⟩
  have hb : b_law_right (EV (PotS a b) .un .un .un .un .un .un .un .un .un .un .un .un .un) = some (.rt (.lf (.bool true)), PotS a5 b5 :: env') := by
    rw [law_right_eq, s_one s1, s_one s2, s_one s3, s_one s4, s_one s5]
    exact ht
  have hu : q_law_right = sFn 1 22 [true] b_law_right := rfl
  have ha : [PotS a b] ++ List.replicate (22 - 1) Sl.un = EV (PotS a b) .un .un .un .un .un .un .un .un .un .un .un .un .un := rfl
  rw [hu]
  unfold sFn
  rw [if_pos ⟨rfl, rfl⟩, ha, hb]
  rfl
end
theorem loop_law (s : Sl) : ∀ (ds : List Dt) (a b : Int) (x : Sl), ∃ (a' b' : Int) (x' : Sl), lcE [2] (nmN 2) tYesE (eCallR [some 1] (aR 1 aNil) q_law_right) ds [s, PotS a b, x] = some (ds.map fun _ => .lf (.bool true), [s, PotS a' b', x'])
  | [], a, b, x => ⟨a, b, x, rfl⟩
  | d :: ds, a, b, x => by
    obtain ⟨a1, b1, e1⟩ := m_law_right a b
    obtain ⟨a', b', x', ih⟩ := loop_law s ds a1 b1 (.v (.lf d))
    refine ⟨a', b', x', ?_⟩
    unfold lcE
    rw [x_nm, Option.bind_some, x_tYesE, Option.bind_some, if_pos rfl]
    have he : eCallR [some 1] (aR 1 aNil) q_law_right [s, PotS a b, .v (.lf d)] = some (.lf (.bool true), [s, PotS a1 b1, .v (.lf d)]) := by simp [e1]
    have hw : setE (wipeE [s, PotS a b, x] [2]) [(2, d)] = [s, PotS a b, .v (.lf d)] := rfl
    dsimp only
    rw [hw, he, Option.bind_some]
    dsimp only
    rw [ih]
    rfl
theorem law_true (ns : List Int) (hl : ns.length ≤ 63) : ∃ rs, q_law [.scr ns] = some (.lf (.bool true), rs) := by
  obtain ⟨a, b, e⟩ := m_law_pot ns
  obtain ⟨a', b', x', e2⟩ := loop_law (.scr ns) (rgD 0 5) a b .un
  have hr : rg1? (.int 5) = some (rgD 0 5) := rfl
  have h1 : sAsg 1 (eCallR [some 0, none] (aR 0 (aD (pX (fun _ => some (.int 0))) aNil)) q_law_pot) [.scr ns, .un, .un] = some (.nx, [.scr ns, PotS a b, .un]) := by simp [e]
  have h2 : eLc [2] (xRng1 (pX (fun _ => some (.int 5)))) (nmN 2) tYesE (eCallR [some 1] (aR 1 aNil) q_law_right) [.scr ns, PotS a b, .un] = some (.nd ((rgD 0 5).map fun _ => .lf (.bool true)), [.scr ns, PotS a' b', .un]) := by
    have hx : xRng1 (pX (fun _ => some (.int 5))) [.scr ns, PotS a b, .un] = some (rgD 0 5, [.scr ns, PotS a b, .un]) := rfl
    have hs : (rgD 0 5).length ≤ SZ := by decide
    unfold eLc
    rw [hx, Option.bind_some, if_pos hs, e2]
    rfl
  have hb : b_law [.scr ns, .un, .un] = some (.rt (.lf (.bool true)), [.scr ns, PotS a' b', .un]) := by
    unfold b_law
    rw [s_one h1]
    unfold sRet dE xA xCons eD xNil
    rw [h2]
    rfl
  refine ⟨[.scr ns], ?_⟩
  have hu : q_law = sFn 1 3 [false] b_law := rfl
  have ha : [Sl.scr ns] ++ List.replicate (3 - 1) Sl.un = [.scr ns, .un, .un] := rfl
  rw [hu]
  unfold sFn
  rw [if_pos ⟨rfl, rfl⟩, ha, hb]
  rfl
end Fw
theorem PySem.Challenge.cw_standingout_k71_whole_floors_against_bou_holds : PySem.Challenge.rw_standingout_k71_whole_floors_against_bou.Holds := by
  exact Fw.holds_of Fw.law_true
