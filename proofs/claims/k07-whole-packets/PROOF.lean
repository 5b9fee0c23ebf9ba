import PyProof.Rows.All
import Wide.All
import OpenK.AllK
import Wide.FinOn
import HandS.ForMost
import HandS.Walk
import HandS.Lambda
import HandS.Style
import HandS.Deep
import HandS.More
import HandS.IsInst
import HandS.TupAny
import HandS.Zip
import PySem.Challenge.RW_quillrun_k07_whole_packets_bring_deeds
import PyProof.StrBlock2
import PyProof.EnumMake
import PyProof.WalksEnum
import PyProof.Draws
import KE.KDictKeyed
import HandS.DictComp
import KE.SortKeyHeap
import KE.SortData
import HandS.EndTab
import KE.KLam
import KE.KNestM
set_option Elab.async false
set_option linter.all false
set_option maxRecDepth 100000
set_option maxHeartbeats 4000000
/-! The G layer, part 1: data in the heap, slots, states, what an expression evaluates to (heap-free). -/
namespace G
open PySem L2

abbrev Tab := List (Addr × Str)
/-- all that was tracked is as it was, the tables of code objects apart, which only grow -/
structure XT (T : Tab) (H H' : Hp) : Prop where
  kp : LamX.ExtN H H'
  al : ∀ b, H' b = none → H b = none
  tb : LamX.Tabs T H → LamX.Tabs T H'
theorem XT.refl (T : Tab) (H : Hp) : XT T H H := ⟨LamX.ExtN.refl H, fun _ h => h, id⟩
theorem XT.trans {T : Tab} {H H1 H2 : Hp} (a : XT T H H1) (b : XT T H1 H2) : XT T H H2 := ⟨a.kp.trans b.kp, fun c h => a.al c (b.al c h), fun t => b.tb (a.tb t)⟩
theorem XT.of {T : Tab} {H H' : Hp} (h : ∀ b o, H b = some o → H' b = some o) : XT T H H' := ⟨LamX.ExtN.of h, fun b e => by
  cases q : H b with
  | none => rfl
  | some o =>
    rw [h b o q] at e
    exact absurd e (by simp), fun t => t.ext h⟩
theorem XT.new {T : Tab} {H : Hp} {p : Addr} {o : HO} (h : H p = none) : XT T H (upd H p o) := .of fun b u e => by
  rw [upd_ne (ne_of_none e h)]
  exact e
/-- an object that was not tracked before may be changed -/
theorem XT.mut {T : Tab} {H H' : Hp} {p : Addr} {o u : HO} (e : XT T H H') (h : H p = none) (hp : H' p = some u) (hu : ∀ ps, u ≠ .tbl ps) (hc : ∀ q, u ≠ LamX.CodeO p q) : XT T H (upd H' p o) := by
  refine ⟨fun b v hb hn => ?_, fun b hb => ?_, fun t => ?_⟩
  · rw [upd_ne (ne_of_none hb h)]
    exact e.kp b v hb hn
  · by_cases q : b = p
    · rw [q]
      exact h
    · rw [upd_ne q] at hb
      exact e.al b hb
  · intro x hx
    obtain ⟨ps, h1, h2, h3⟩ := e.tb t x hx
    refine ⟨ps, ?_, h2, fun pos cv hcv => ?_⟩
    · rw [upd_ne (fun z => by rw [z, hp] at h1; exact hu ps (Option.some.inj h1))]
      exact h1
    · obtain ⟨c, e1, e2⟩ := h3 pos cv hcv
      refine ⟨c, e1, ?_⟩
      rw [upd_ne (fun z => by subst z; rw [hp] at e2; exact hc _ (Option.some.inj e2))]
      exact e2

/-! ### data -/
def flds (a : Addr) : List (Str × V) := putF "rows" (.ref a) []
/-- the datum of a Deeds object -/
def objD (rs : List PyData) : PyData := .dict [(.str "Deeds", .list rs)]
mutual
inductive Rp (C : Addr) (H : Hp) : V → PyData → Prop
  | non : Rp C H .non .none
  | bl (b : Bool) : Rp C H (.bl b) (.bool b)
  | int (i : Int) : Rp C H (.int i) (.int i)
  | str (x : Str) : Rp C H (.str x) (.str x)
  | lst {a : Addr} {xs : List V} {ds : List PyData} : H a = some (.lst xs) → RpA C H xs ds → Rp C H (.ref a) (.list ds)
  | tup {a : Addr} {xs : List V} {ds : List PyData} : H a = some (.tup xs) → RpA C H xs ds → Rp C H (.ref a) (.tuple ds)
  | obj {o dx a : Addr} {xs : List V} {rs : List PyData} : H o = some (.ins C dx (flds a)) → H a = some (.lst xs) → RpA C H xs rs → Rp C H (.ref o) (.dict [(.str "Deeds", .list rs)])
inductive RpA (C : Addr) (H : Hp) : List V → List PyData → Prop
  | nil : RpA C H [] []
  | cons {v : V} {vs : List V} {d : PyData} {ds : List PyData} : Rp C H v d → RpA C H vs ds → RpA C H (v :: vs) (d :: ds)
end
section
variable {C : Addr} {H H' : Hp} {K : PySem.W.Frag}
mutual
theorem Rp.mono (e : LamX.ExtN H H') : ∀ {v : V} {d : PyData}, Rp C H v d → Rp C H' v d
  | _, _, .non => .non
  | _, _, .bl b => .bl b
  | _, _, .int i => .int i
  | _, _, .str x => .str x
  | _, _, .lst h r => .lst (e _ _ h (fun _ q => by cases q)) (RpA.mono e r)
  | _, _, .tup h r => .tup (e _ _ h (fun _ q => by cases q)) (RpA.mono e r)
  | _, _, .obj h h2 r => .obj (e _ _ h (fun _ q => by cases q)) (e _ _ h2 (fun _ q => by cases q)) (RpA.mono e r)
theorem RpA.mono (e : LamX.ExtN H H') : ∀ {vs : List V} {ds : List PyData}, RpA C H vs ds → RpA C H' vs ds
  | _, _, .nil => .nil
  | _, _, .cons h r => .cons (Rp.mono e h) (RpA.mono e r)
end
theorem RpA.length : ∀ {vs : List V} {ds : List PyData}, RpA C H vs ds → vs.length = ds.length
  | _, _, .nil => rfl
  | _, _, .cons _ r => by rw [List.length_cons, List.length_cons, r.length]
theorem RpA.get : ∀ {vs : List V} {ds : List PyData} {i : Nat} {d : PyData}, RpA C H vs ds → ds[i]? = some d → ∃ v, vs[i]? = some v ∧ Rp C H v d
  | _, _, _, _, .nil, e => by simp at e
  | _, _, 0, _, .cons h _, e => by simp at e; subst e; exact ⟨_, rfl, h⟩
  | _, _, i + 1, d, .cons _ r, e => by
    obtain ⟨v, h1, h2⟩ := RpA.get (i := i) (d := d) r (by simpa using e)
    exact ⟨v, by simpa using h1, h2⟩
theorem RpA.getV {vs : List V} {ds : List PyData} {i : Nat} {v : V} (r : RpA C H vs ds) (e : vs[i]? = some v) : ∃ d, ds[i]? = some d ∧ Rp C H v d := by
  have hl := r.length
  obtain ⟨hi, _⟩ := List.getElem?_eq_some_iff.mp e
  have hd : ds[i]? = some (ds[i]'(by omega)) := List.getElem?_eq_getElem (by omega)
  obtain ⟨w, h1, h2⟩ := r.get hd
  rw [e] at h1
  cases h1
  exact ⟨_, hd, h2⟩
theorem RpA.append : ∀ {vs ws : List V} {ds es : List PyData}, RpA C H vs ds → RpA C H ws es → RpA C H (vs ++ ws) (ds ++ es)
  | _, _, _, _, .nil, s => s
  | _, _, _, _, .cons h r, s => .cons h (r.append s)
theorem RpA.take : ∀ {vs : List V} {ds : List PyData} (n : Nat), RpA C H vs ds → RpA C H (vs.take n) (ds.take n)
  | _, _, 0, _ => .nil
  | _, _, _ + 1, .nil => .nil
  | _, _, n + 1, .cons h r => .cons h (r.take n)
theorem RpA.drop : ∀ {vs : List V} {ds : List PyData} (n : Nat), RpA C H vs ds → RpA C H (vs.drop n) (ds.drop n)
  | _, _, 0, r => r
  | _, _, _ + 1, .nil => .nil
  | _, _, n + 1, .cons _ r => RpA.drop n r
theorem RpA.set {x : V} {d : PyData} (h : Rp C H x d) : ∀ {vs : List V} {ds : List PyData} (n : Nat), RpA C H vs ds → RpA C H (vs.set n x) (ds.set n d)
  | _, _, _, .nil => .nil
  | _, _, 0, .cons _ r => .cons h r
  | _, _, n + 1, .cons q r => .cons q (r.set h n)
theorem RpA.snoc {vs : List V} {ds : List PyData} {v : V} {d : PyData} (r : RpA C H vs ds) (h : Rp C H v d) : RpA C H (vs ++ [v]) (ds ++ [d]) := r.append (.cons h .nil)
theorem RpA.reverse : ∀ {vs : List V} {ds : List PyData}, RpA C H vs ds → RpA C H vs.reverse ds.reverse
  | _, _, .nil => .nil
  | _, _, .cons h r => by
    rw [List.reverse_cons, List.reverse_cons]
    exact r.reverse.snoc h
theorem RpA.ints : ∀ {vs : List V} {ns : List Int}, RpA C H vs (ns.map PyData.int) → vs = ns.map V.int
  | _, [], .nil => rfl
  | _, n :: ns, .cons h r => by
    cases h
    rw [List.map_cons, r.ints]
theorem RpA.bls : ∀ {vs : List V} {ns : List Bool}, RpA C H vs (ns.map PyData.bool) → vs = ns.map V.bl
  | _, [], .nil => rfl
  | _, n :: ns, .cons h r => by
    cases h
    rw [List.map_cons, r.bls]
theorem RpA.strs : ∀ {vs : List V} {ns : List Str}, RpA C H vs (ns.map PyData.str) → vs = ns.map V.str
  | _, [], .nil => rfl
  | _, n :: ns, .cons h r => by
    cases h
    rw [List.map_cons, r.strs]
theorem Rp.int_eq {v : V} {i : Int} (h : Rp C H v (.int i)) : v = .int i := by cases h; rfl
theorem Rp.bl_eq {v : V} {i : Bool} (h : Rp C H v (.bool i)) : v = .bl i := by cases h; rfl
theorem Rp.str_eq {v : V} {i : Str} (h : Rp C H v (.str i)) : v = .str i := by cases h; rfl
theorem Rp.list_at {v : V} {ds : List PyData} (h : Rp C H v (.list ds)) : ∃ a xs, v = .ref a ∧ H a = some (.lst xs) ∧ RpA C H xs ds := by
  cases h with
  | lst h r => exact ⟨_, _, rfl, h, r⟩
theorem Rp.tup_at {v : V} {ds : List PyData} (h : Rp C H v (.tuple ds)) : ∃ a xs, v = .ref a ∧ H a = some (.tup xs) ∧ RpA C H xs ds := by
  cases h with
  | tup h r => exact ⟨_, _, rfl, h, r⟩
theorem Rp.obj_at {v : V} {rs : List PyData} (h : Rp C H v (objD rs)) : ∃ o dx a xs, v = .ref o ∧ H o = some (.ins C dx (flds a)) ∧ H a = some (.lst xs) ∧ RpA C H xs rs := by
  unfold objD at h
  cases h with
  | obj h h2 r => exact ⟨_, _, _, _, rfl, h, h2, r⟩
/- no object in it -/
mutual
def pln : PyData → Bool
  | .none => true
  | .bool _ => true
  | .int _ => true
  | .str _ => true
  | .list xs => plnA xs
  | .tuple xs => plnA xs
  | .dict _ => false
def plnA : List PyData → Bool
  | [] => true
  | x :: xs => pln x && plnA xs
end
mutual
theorem Rp.dp : ∀ {v : V} {d : PyData}, Rp C H v d → pln d = true → Dp K H v d
  | _, _, .non, _ => .non
  | _, _, .bl b, _ => .bl b
  | _, _, .int i, _ => .int i
  | _, _, .str x, _ => .str x
  | _, _, .lst h r, e => .lst (SqL.of h) (RpA.dp r (by unfold pln at e; exact e))
  | _, _, .tup h r, e => .tup (SqT.of h) (RpA.dp r (by unfold pln at e; exact e))
  | _, _, .obj h h2 r, e => by unfold pln at e; cases e
theorem RpA.dp : ∀ {vs : List V} {ds : List PyData}, RpA C H vs ds → plnA ds = true → DpAll K H vs ds
  | _, _, .nil, _ => .nil
  | _, _, .cons h r, e => by
    unfold plnA at e
    rw [Bool.and_eq_true] at e
    exact .cons (Rp.dp h e.1) (RpA.dp r e.2)
end
/- no list and no object in it: nothing that may change -/
mutual
def frm : PyData → Bool
  | .none => true
  | .bool _ => true
  | .int _ => true
  | .str _ => true
  | .list _ => false
  | .tuple xs => frmA xs
  | .dict _ => false
def frmA : List PyData → Bool
  | [] => true
  | x :: xs => frm x && frmA xs
end
mutual
theorem Rp.move (e : ∀ b xs, H b = some (.tup xs) → H' b = some (.tup xs)) : ∀ {v : V} {d : PyData}, Rp C H v d → frm d = true → Rp C H' v d
  | _, _, .non, _ => .non
  | _, _, .bl b, _ => .bl b
  | _, _, .int i, _ => .int i
  | _, _, .str x, _ => .str x
  | _, _, .lst h r, q => by unfold frm at q; cases q
  | _, _, .tup h r, q => .tup (e _ _ h) (RpA.move e r (by unfold frm at q; exact q))
  | _, _, .obj h h2 r, q => by unfold frm at q; cases q
theorem RpA.move (e : ∀ b xs, H b = some (.tup xs) → H' b = some (.tup xs)) : ∀ {vs : List V} {ds : List PyData}, RpA C H vs ds → frmA ds = true → RpA C H' vs ds
  | _, _, .nil, _ => .nil
  | _, _, .cons h r, q => by
    unfold frmA at q
    rw [Bool.and_eq_true] at q
    exact .cons (Rp.move e h q.1) (RpA.move e r q.2)
end
end

/-! ### hidden addresses -/
abbrev AS := Addr → Prop
open Classical in
noncomputable def Wo (M : AS) (H : Hp) : Hp := fun a => if M a then none else H a
theorem Wo_in {M : AS} {H : Hp} {a : Addr} (h : M a) : Wo M H a = none := if_pos h
theorem Wo_out {M : AS} {H : Hp} {a : Addr} (h : ¬ M a) : Wo M H a = H a := if_neg h
theorem Wo_some {M : AS} {H : Hp} {a : Addr} {o : HO} (h : Wo M H a = some o) : ¬ M a ∧ H a = some o := by
  by_cases q : M a
  · rw [Wo_in q] at h
    cases h
  · rw [Wo_out q] at h
    exact ⟨q, h⟩
theorem Wo_sub {M : AS} {H : Hp} : LamX.ExtN (Wo M H) H := fun b o e _ => (Wo_some e).2
theorem Wo_ext {M M' : AS} {H H' : Hp} (hm : ∀ b o, ¬ M b → H b = some o → ¬ M' b) (e : LamX.ExtN H H') : LamX.ExtN (Wo M H) (Wo M' H') := fun b o h n => by
  obtain ⟨h1, h2⟩ := Wo_some h
  rw [Wo_out (hm b o h1 h2)]
  exact e b o h2 n
theorem Wo_less {M M' : AS} {H : Hp} (hm : ∀ b, M' b → M b) : LamX.ExtN (Wo M H) (Wo M' H) := Wo_ext (fun b _ h _ q => h (hm b q)) (LamX.ExtN.refl H)
/-- a hidden object changes -/
theorem Wo_upd {M : AS} {H : Hp} {p : Addr} {o : HO} (h : M p) : Wo M (upd H p o) = Wo M H := by
  funext a
  by_cases q : M a
  · rw [Wo_in q, Wo_in q]
  · rw [Wo_out q, Wo_out q, upd_ne (fun z => q (by rw [z]; exact h))]
/-- what may be hidden -/
def HotO : HO → Prop
  | .lst _ => True
  | .dK _ => True
  | .dT _ => True
  | .ins _ _ _ => True
  | _ => False
theorem HotO.nt {o : HO} (h : HotO o) : ∀ ps, o ≠ .tbl ps := fun ps e => by rw [e] at h; exact h
theorem HotO.nu {o : HO} (h : HotO o) : ∀ ps, o ≠ .tup ps := fun ps e => by rw [e] at h; exact h
theorem HotO.nc {o : HO} (h : HotO o) : ∀ c q, o ≠ LamX.CodeO c q := fun c q e => by rw [e] at h; exact h

/-! ### slots -/
inductive Sl where
  | un
  | dat (d : PyData)
  | own (ds : List PyData)
  | own2 (dss : List (List PyData))
  | obj (dss : List (List PyData))
  | rcv (dss : List (List PyData)) (ts : List PyData)
  | dI (kvs : List (Int × PyData))
  | dT (kvs : List (List Key × PyData))
  | scr (K : PySem.W.Frag) (ns : List Int)
/-- lists of data at addresses -/
def Rows (C : Addr) (W H : Hp) : List Addr → List (List PyData) → Prop := Paired fun l ds => ∃ xs, H l = some (.lst xs) ∧ RpA C W xs ds
def DKs {κ κ' : Type} (C : Addr) (W : Hp) (f : κ' → κ) : List (κ × V) → List (κ' × PyData) → Prop := Paired fun q r => q.1 = f r.1 ∧ Rp C W q.2 r.2
def SlOk (C : Addr) (W H : Hp) : Sl → Option V → List Addr → Prop
  | .un, _, fp => fp = []
  | .dat d, ov, fp => fp = [] ∧ ∃ v, ov = some v ∧ Rp C W v d
  | .own ds, ov, fp => ∃ l xs, ov = some (.ref l) ∧ fp = [l] ∧ H l = some (.lst xs) ∧ RpA C W xs ds
  | .own2 dss, ov, fp => ∃ l as, ov = some (.ref l) ∧ fp = l :: as ∧ H l = some (.lst (as.map V.ref)) ∧ Rows C W H as dss
  | .obj dss, ov, fp => ∃ o dx a as, ov = some (.ref o) ∧ fp = o :: a :: as ∧ H o = some (.ins C dx (flds a)) ∧ H a = some (.lst (as.map V.ref)) ∧ Rows C W H as dss
  | .rcv dss ts, ov, fp => ∃ t vt o dx a as, ov = some (.ref t) ∧ fp = o :: a :: as ∧ H t = some (.tup [.ref o, vt]) ∧ H o = some (.ins C dx (flds a)) ∧ H a = some (.lst (as.map V.ref)) ∧ Rows C W H as dss ∧ Rp C W vt (.list ts)
  | .dI kvs, ov, fp => ∃ p ks, ov = some (.ref p) ∧ fp = [p] ∧ H p = some (.dK ks) ∧ DKs C W (Sum.inl : Int → Key) ks kvs
  | .dT kvs, ov, fp => ∃ p ks, ov = some (.ref p) ∧ fp = [p] ∧ H p = some (.dT ks) ∧ DKs C W (id : List Key → List Key) ks kvs
  | .scr K ns, ov, fp => fp = [] ∧ ∃ a, ov = some (.ref a) ∧ SqL K W a (ns.map V.int)
theorem sqL_ext {K : PySem.W.Frag} {H H' : Hp} {a : Addr} {xs : List V} (h : SqL K H a xs) (e : LamX.ExtN H H') : SqL K H' a xs := by
  rcases h with (h | ⟨o, h⟩) | h
  · exact .inl (.inl (e _ _ h (fun _ q => by cases q)))
  · exact .inl (.inr ⟨o, e _ _ h (fun _ q => by cases q)⟩)
  · exact .inr h
section
variable {C : Addr} {W W' H H' : Hp}
theorem Rows.mono : ∀ {as : List Addr} {dss : List (List PyData)}, Rows C W H as dss → LamX.ExtN W W' → (∀ b, b ∈ as → ∀ xs, H b = some (.lst xs) → H' b = some (.lst xs)) → Rows C W' H' as dss
  | _, _, .nil, _, _ => .nil
  | _, _, .cons ⟨xs, h, r⟩ t, e, k => .cons ⟨xs, k _ (List.mem_cons_self) _ h, r.mono e⟩ (Rows.mono t e fun b hb => k b (List.mem_cons_of_mem _ hb))
theorem Rows.length : ∀ {as : List Addr} {dss : List (List PyData)}, Rows C W H as dss → as.length = dss.length := fun r => Paired.length r
theorem Rows.get : ∀ {as : List Addr} {dss : List (List PyData)} {i : Nat} {ds : List PyData}, Rows C W H as dss → dss[i]? = some ds → ∃ l xs, as[i]? = some l ∧ H l = some (.lst xs) ∧ RpA C W xs ds
  | _, _, _, _, .nil, e => by simp at e
  | _, _, 0, _, .cons ⟨xs, h, r⟩ _, e => by simp at e; subst e; exact ⟨_, xs, rfl, h, r⟩
  | _, _, i + 1, ds, .cons _ t, e => by
    obtain ⟨l, xs, h1, h2⟩ := Rows.get (i := i) (ds := ds) t (by simpa using e)
    exact ⟨l, xs, by simpa using h1, h2⟩
theorem Rows.all : ∀ {as : List Addr} {dss : List (List PyData)}, Rows C W H as dss → ∀ b ∈ as, ∃ xs, H b = some (.lst xs)
  | _, _, .nil, b, hb => by cases hb
  | _, _, .cons ⟨xs, h, r⟩ t, b, hb => by
    rcases List.mem_cons.mp hb with rfl | hb
    · exact ⟨xs, h⟩
    · exact Rows.all t b hb
theorem Rows.rpA : ∀ {as : List Addr} {dss : List (List PyData)}, Rows C W H as dss → LamX.ExtN W W' → (∀ b, b ∈ as → ∀ xs, H b = some (.lst xs) → W' b = some (.lst xs)) → RpA C W' (as.map V.ref) (dss.map PyData.list)
  | _, _, .nil, _, _ => .nil
  | _, _, .cons ⟨xs, h, r⟩ t, e, k => .cons (.lst (k _ (List.mem_cons_self) _ h) (r.mono e)) (Rows.rpA t e fun b hb => k b (List.mem_cons_of_mem _ hb))
theorem DKs.mono {κ κ' : Type} {f : κ' → κ} : ∀ {ks : List (κ × V)} {kvs : List (κ' × PyData)}, DKs C W f ks kvs → LamX.ExtN W W' → DKs C W' f ks kvs
  | _, _, .nil, _ => .nil
  | _, _, .cons h t, e => .cons ⟨h.1, h.2.mono e⟩ (DKs.mono t e)
theorem SlOk.mono {s : Sl} {ov : Option V} {fp : List Addr} (h : SlOk C W H s ov fp) (e : LamX.ExtN W W') (k : ∀ b o, H b = some o → (b ∈ fp ∨ ∃ xs, o = .tup xs) → H' b = some o) : SlOk C W' H' s ov fp := by
  cases s with
  | un => exact h
  | dat d =>
    obtain ⟨h1, v, h2, h3⟩ := h
    exact ⟨h1, v, h2, h3.mono e⟩
  | own ds =>
    obtain ⟨l, xs, h1, h2, h3, h4⟩ := h
    exact ⟨l, xs, h1, h2, k _ _ h3 (.inl (by rw [h2]; exact List.mem_cons_self)), h4.mono e⟩
  | own2 dss =>
    obtain ⟨l, as, h1, h2, h3, h4⟩ := h
    exact ⟨l, as, h1, h2, k _ _ h3 (.inl (by rw [h2]; exact List.mem_cons_self)), h4.mono e fun b hb xs hx => k _ _ hx (.inl (by rw [h2]; exact List.mem_cons_of_mem _ hb))⟩
  | obj dss =>
    obtain ⟨o, dx, a, as, h1, h2, h3, h4, h5⟩ := h
    exact ⟨o, dx, a, as, h1, h2, k _ _ h3 (.inl (by rw [h2]; exact List.mem_cons_self)), k _ _ h4 (.inl (by rw [h2]; exact List.mem_cons_of_mem _ List.mem_cons_self)),
      h5.mono e fun b hb xs hx => k _ _ hx (.inl (by rw [h2]; exact List.mem_cons_of_mem _ (List.mem_cons_of_mem _ hb)))⟩
  | rcv dss ts =>
    obtain ⟨t, vt, o, dx, a, as, h1, h2, h0, h3, h4, h5, h6⟩ := h
    exact ⟨t, vt, o, dx, a, as, h1, h2, k _ _ h0 (.inr ⟨_, rfl⟩), k _ _ h3 (.inl (by rw [h2]; exact List.mem_cons_self)), k _ _ h4 (.inl (by rw [h2]; exact List.mem_cons_of_mem _ List.mem_cons_self)),
      h5.mono e fun b hb xs hx => k _ _ hx (.inl (by rw [h2]; exact List.mem_cons_of_mem _ (List.mem_cons_of_mem _ hb))), h6.mono e⟩
  | dI kvs =>
    obtain ⟨p, ks, h1, h2, h3, h4⟩ := h
    exact ⟨p, ks, h1, h2, k _ _ h3 (.inl (by rw [h2]; exact List.mem_cons_self)), h4.mono e⟩
  | dT kvs =>
    obtain ⟨p, ks, h1, h2, h3, h4⟩ := h
    exact ⟨p, ks, h1, h2, k _ _ h3 (.inl (by rw [h2]; exact List.mem_cons_self)), h4.mono e⟩
  | scr K ns =>
    obtain ⟨h1, a, h2, h3⟩ := h
    exact ⟨h1, a, h2, sqL_ext h3 e⟩
theorem SlOk.hot {s : Sl} {ov : Option V} {fp : List Addr} (h : SlOk C W H s ov fp) : ∀ l ∈ fp, ∃ o, H l = some o ∧ HotO o := by
  cases s with
  | un => intro l hl; rw [show fp = [] from h] at hl; cases hl
  | dat d => intro l hl; rw [h.1] at hl; cases hl
  | own ds =>
    obtain ⟨l, xs, h1, rfl, h3, h4⟩ := h
    intro b hb
    rw [List.mem_singleton.mp hb]
    exact ⟨_, h3, trivial⟩
  | own2 dss =>
    obtain ⟨l, as, h1, rfl, h3, h4⟩ := h
    intro b hb
    rcases List.mem_cons.mp hb with rfl | hb
    · exact ⟨_, h3, trivial⟩
    · obtain ⟨xs, hx⟩ := h4.all b hb
      exact ⟨_, hx, trivial⟩
  | obj dss =>
    obtain ⟨o, dx, a, as, h1, rfl, h3, h4, h5⟩ := h
    intro b hb
    rcases List.mem_cons.mp hb with rfl | hb
    · exact ⟨_, h3, trivial⟩
    rcases List.mem_cons.mp hb with rfl | hb
    · exact ⟨_, h4, trivial⟩
    · obtain ⟨xs, hx⟩ := h5.all b hb
      exact ⟨_, hx, trivial⟩
  | rcv dss ts =>
    obtain ⟨t, vt, o, dx, a, as, h1, rfl, h0, h3, h4, h5, h6⟩ := h
    intro b hb
    rcases List.mem_cons.mp hb with rfl | hb
    · exact ⟨_, h3, trivial⟩
    rcases List.mem_cons.mp hb with rfl | hb
    · exact ⟨_, h4, trivial⟩
    · obtain ⟨xs, hx⟩ := h5.all b hb
      exact ⟨_, hx, trivial⟩
  | dI kvs =>
    obtain ⟨p, ks, h1, rfl, h3, h4⟩ := h
    intro b hb
    rw [List.mem_singleton.mp hb]
    exact ⟨_, h3, trivial⟩
  | dT kvs =>
    obtain ⟨p, ks, h1, rfl, h3, h4⟩ := h
    intro b hb
    rw [List.mem_singleton.mp hb]
    exact ⟨_, h3, trivial⟩
  | scr K ns => intro l hl; rw [h.1] at hl; cases hl
end

/-! ### states -/
def Mh (fp : Nat → List Addr) (lo : AS) : AS := fun a => lo a ∨ ∃ i, a ∈ fp i
def orM (M : AS) (fpn : List Addr) : AS := fun a => M a ∨ a ∈ fpn
structure Sa (C : Addr) (T : Tab) (fp : Nat → List Addr) (lo : AS) (H : Hp) (σ : L2.St) (Γ : List Sl) : Prop where
  len : σ.length = Γ.length
  ok : ∀ (i : Nat) s, Γ[i]? = some s → SlOk C (Wo (Mh fp lo) H) H s ((σ[i]?).join) (fp i)
  out : ∀ i, Γ.length ≤ i → fp i = []
  dj : ∀ i j l, l ∈ fp i → l ∈ fp j → i = j
  nd : ∀ i, (fp i).Nodup
  djl : ∀ i l, l ∈ fp i → ¬ lo l
  hot : ∀ l, lo l → ∃ o, H l = some o ∧ HotO o
  tabs : LamX.Tabs T H
section
variable {C : Addr} {T : Tab} {fp : Nat → List Addr} {lo : AS} {H H' : Hp} {σ : L2.St} {Γ : List Sl}
theorem Sa.hots (S : Sa C T fp lo H σ Γ) : ∀ l, Mh fp lo l → ∃ o, H l = some o ∧ HotO o := by
  intro l hl
  rcases hl with hl | ⟨i, hi⟩
  · exact S.hot l hl
  · by_cases h : i < Γ.length
    · exact (S.ok i _ (List.getElem?_eq_getElem h)).hot l hi
    · rw [S.out i (by omega)] at hi
      cases hi
theorem Sa.al (S : Sa C T fp lo H σ Γ) : ∀ l, Mh fp lo l → H l ≠ none := fun l hl e => by
  obtain ⟨o, h, _⟩ := S.hots l hl
  rw [h] at e
  cases e
theorem Sa.ext {M : AS} (x : XT T H H') : LamX.ExtN (Wo M H) (Wo M H') := Wo_ext (fun b o h _ => h) x.kp
theorem Sa.step (S : Sa C T fp lo H σ Γ) (x : XT T H H') : Sa C T fp lo H' σ Γ where
  len := S.len
  ok := fun i s h => (S.ok i s h).mono (Sa.ext x) fun b o e q => x.kp b o e (by
    rcases q with q | ⟨xs, rfl⟩
    · obtain ⟨o', h1, h2⟩ := S.hots b (.inr ⟨i, q⟩)
      rw [e] at h1
      cases h1
      exact h2.nt
    · intro ps z
      cases z)
  out := S.out
  dj := S.dj
  nd := S.nd
  djl := S.djl
  hot := fun l hl => by
    obtain ⟨o, h1, h2⟩ := S.hot l hl
    exact ⟨o, x.kp l o h1 h2.nt, h2⟩
  tabs := x.tb S.tabs
theorem join_some {o : Option (Option V)} {v : V} (h : o.join = some v) : o = some (some v) := by
  cases o with
  | none => cases h
  | some u =>
    cases u with
    | none => cases h
    | some w =>
      have h : some w = some v := h
      rw [h]
theorem Sa.dat (S : Sa C T fp lo H σ Γ) {i : Nat} {d : PyData} (h : Γ[i]? = some (.dat d)) : ∃ v, σ[i]? = some (some v) ∧ Rp C (Wo (Mh fp lo) H) v d := by
  obtain ⟨_, v, h1, h2⟩ := S.ok i _ h
  exact ⟨v, join_some h1, h2⟩
/-- some more is hidden that is not touched: a new object -/
theorem Sa.hide {p : Addr} {o : HO} (S : Sa C T fp lo H σ Γ) (hp : H p = none) (ho : HotO o) : Sa C T fp (orM lo [p]) (upd H p o) σ Γ := by
  have S1 := S.step (XT.new (o := o) hp)
  have nM : ¬ Mh fp lo p := fun q => S.al p q hp
  have eW : LamX.ExtN (Wo (Mh fp lo) H) (Wo (Mh fp (orM lo [p])) (upd H p o)) := by
    refine Wo_ext (fun b u hb hu q => ?_) (XT.new (T := T) hp).kp
    rcases q with (q | q) | q
    · exact hb (.inl q)
    · rw [List.mem_singleton.mp q, hp] at hu
      cases hu
    · exact hb (.inr q)
  refine ⟨S1.len, fun i s h => (S.ok i s h).mono eW fun b u e _ => ?_, S1.out, S1.dj, S1.nd, fun i l hl q => ?_, fun l hl => ?_, S1.tabs⟩
  · rw [upd_ne (ne_of_none e hp)]
    exact e
  · rcases q with q | q
    · exact S.djl i l hl q
    · rw [List.mem_singleton.mp q] at hl
      exact nM (.inr ⟨i, hl⟩)
  · rcases hl with hl | hl
    · exact S1.hot l hl
    · rw [List.mem_singleton.mp hl]
      exact ⟨o, upd_same, ho⟩
end
end G

set_option maxRecDepth 100000
set_option maxHeartbeats 4000000
/-! The G layer, part 2: what an expression gives. -/
namespace G
open PySem L2

section
variable (C : Addr) (T : Tab)
/-- gives the datum d, no hidden thing in it -/
def Ed (te : TE) (Γ : List Sl) (d : PyData) : Prop := ∀ (fp : Nat → List Addr) (lo : AS) (H : Hp) (σ : L2.St) (Q : VK), Sa C T fp lo H σ Γ →
  (∀ v H', XT T H H' → Rp C (Wo (Mh fp lo) H') v d → Q v H') → te σ H Q
/-- gives a thing of the kind s, all that is owned in it new -/
def Ef (te : TE) (Γ : List Sl) (s : Sl) : Prop := ∀ (fp : Nat → List Addr) (lo : AS) (H : Hp) (σ : L2.St) (Q : VK), Sa C T fp lo H σ Γ →
  (∀ v H' fpn, XT T H H' → (∀ l, l ∈ fpn → H l = none) → fpn.Nodup → SlOk C (Wo (orM (Mh fp lo) fpn) H') H' s (some v) fpn → Q v H') → te σ H Q
/-- gives a list that may be hidden itself, its items not -/
def Es (te : TE) (Γ : List Sl) (ds : List PyData) : Prop := ∀ (fp : Nat → List Addr) (lo : AS) (H : Hp) (σ : L2.St) (Q : VK), Sa C T fp lo H σ Γ →
  (∀ a xs H', XT T H H' → H' a = some (.lst xs) → RpA C (Wo (Mh fp lo) H') xs ds → Q (.ref a) H') → te σ H Q
/-- gives the datum d, to be read -/
def Er (te : TE) (Γ : List Sl) (d : PyData) : Prop := ∀ (fp : Nat → List Addr) (lo : AS) (H : Hp) (σ : L2.St) (Q : VK), Sa C T fp lo H σ Γ →
  (∀ v H', XT T H H' → Rp C H' v d → Q v H') → te σ H Q
def Et (tt : TT) (Γ : List Sl) (b : Bool) : Prop := ∀ (fp : Nat → List Addr) (lo : AS) (H : Hp) (σ : L2.St) (Q : Bool → Hp → Prop), Sa C T fp lo H σ Γ →
  (∀ H', XT T H H' → Q b H') → tt σ H Q
def EA (ta : TA) (Γ : List Sl) (ds : List PyData) : Prop := ∀ (fp : Nat → List Addr) (lo : AS) (H : Hp) (σ : L2.St) (Q : List V → Hp → Prop), Sa C T fp lo H σ Γ →
  (∀ vs H', XT T H H' → RpA C (Wo (Mh fp lo) H') vs ds → Q vs H') → ta σ H Q
def ER (ta : TA) (Γ : List Sl) (ds : List PyData) : Prop := ∀ (fp : Nat → List Addr) (lo : AS) (H : Hp) (σ : L2.St) (Q : List V → Hp → Prop), Sa C T fp lo H σ Γ →
  (∀ vs H', XT T H H' → RpA C H' vs ds → Q vs H') → ta σ H Q
end

section
variable {C : Addr} {T : Tab} {K : PySem.W.Frag} {Γ : List Sl} {te ta tb tc : TE} {tt uu : TT} {d e : PyData} {ds ds' : List PyData}

theorem Rp.up {M : AS} {H H' : Hp} {v : V} (x : XT T H H') (r : Rp C (Wo M H) v d) : Rp C (Wo M H') v d := r.mono (Sa.ext x)
theorem RpA.up {M : AS} {H H' : Hp} {vs : List V} (x : XT T H H') (r : RpA C (Wo M H) vs ds) : RpA C (Wo M H') vs ds := r.mono (Sa.ext x)
/-- a new object that is not hidden is seen -/
theorem Wo_new {M : AS} {H : Hp} {p : Addr} {o : HO} (hM : ¬ M p) : Wo M (upd H p o) p = some o := by rw [Wo_out hM, upd_same]

/-! ### from kind to kind -/
theorem Ed.ef (h : Ed C T te Γ d) : Ef C T te Γ (.dat d) := fun fp lo H σ Q S k => h fp lo H σ Q S fun v H' x r =>
  k v H' [] x (fun l hl => by cases hl) List.nodup_nil ⟨rfl, v, rfl, r.mono (Wo_ext (fun b o hb _ q => by rcases q with q | q; exact hb q; cases q) (LamX.ExtN.refl H'))⟩
theorem Ef.ed (h : Ef C T te Γ (.dat d)) : Ed C T te Γ d := fun fp lo H σ Q S k => h fp lo H σ Q S fun v H' fpn x _ _ r => by
  obtain ⟨h1, u, h2, h3⟩ := r
  cases h2
  exact k v H' x (h3.mono (Wo_less fun b q => .inl q))
theorem new_out {fp : Nat → List Addr} {lo : AS} {H : Hp} {σ : L2.St} (S : Sa C T fp lo H σ Γ) {p : Addr} (hp : H p = none) : ¬ Mh fp lo p := fun q => S.al p q hp
/-- a new list, kept as a datum -/
theorem Ef.list (h : Ef C T te Γ (.own ds)) : Ed C T te Γ (.list ds) := fun fp lo H σ Q S k => h fp lo H σ Q S fun v H' fpn x fr _ r => by
  obtain ⟨l, xs, h1, h2, h3, h4⟩ := r
  cases h1
  subst h2
  exact k _ H' x (.lst (by rw [Wo_out (new_out S (fr l List.mem_cons_self))]; exact h3) (h4.mono (Wo_less fun b q => .inl q)))
theorem Ef.list2 {dss : List (List PyData)} (h : Ef C T te Γ (.own2 dss)) : Ed C T te Γ (.list (dss.map .list)) := fun fp lo H σ Q S k => h fp lo H σ Q S fun v H' fpn x fr _ r => by
  obtain ⟨l, as, h1, h2, h3, h4⟩ := r
  cases h1
  subst h2
  refine k _ H' x (.lst (by rw [Wo_out (new_out S (fr l List.mem_cons_self))]; exact h3) (h4.rpA (Wo_less fun b q => .inl q) fun b hb xs hx => ?_))
  rw [Wo_out (new_out S (fr b (List.mem_cons_of_mem _ hb)))]
  exact hx
theorem Ef.objD {dss : List (List PyData)} (h : Ef C T te Γ (.obj dss)) : Ed C T te Γ (objD (dss.map .list)) := fun fp lo H σ Q S k => h fp lo H σ Q S fun v H' fpn x fr _ r => by
  obtain ⟨o, dx, a, as, h1, h2, h3, h4, h5⟩ := r
  cases h1
  subst h2
  refine k _ H' x (.obj (dx := dx) (by rw [Wo_out (new_out S (fr o List.mem_cons_self))]; exact h3) (by rw [Wo_out (new_out S (fr a (List.mem_cons_of_mem _ List.mem_cons_self)))]; exact h4) (h5.rpA (Wo_less fun b q => .inl q) fun b hb xs hx => ?_))
  rw [Wo_out (new_out S (fr b (List.mem_cons_of_mem _ (List.mem_cons_of_mem _ hb))))]
  exact hx
theorem Ed.es (h : Ed C T te Γ (.list ds)) : Es C T te Γ ds := fun fp lo H σ Q S k => h fp lo H σ Q S fun v H' x r => by
  obtain ⟨a, xs, rfl, h1, h2⟩ := r.list_at
  exact k a xs H' x (Wo_some h1).2 h2
theorem Ef.es (h : Ef C T te Γ (.own ds)) : Es C T te Γ ds := h.list.es
theorem Ed.er (h : Ed C T te Γ d) : Er C T te Γ d := fun fp lo H σ Q S k => h fp lo H σ Q S fun v H' x r => k v H' x (r.mono Wo_sub)
theorem Es.er (h : Es C T te Γ ds) : Er C T te Γ (.list ds) := fun fp lo H σ Q S k => h fp lo H σ Q S fun a xs H' x h1 r => k _ H' x (.lst h1 (r.mono Wo_sub))
/-- a flat datum is never hidden -/
theorem Rp.clean {M : AS} {H : Hp} {v : V} (hM : ∀ b, M b → ∃ o, H b = some o ∧ HotO o) (r : Rp C H v d) (hf : frm d = true) : Rp C (Wo M H) v d := r.move (fun b xs h => by
  rw [Wo_out fun q => ?_]
  · exact h
  · obtain ⟨o, h1, h2⟩ := hM b q
    rw [h] at h1
    cases h1
    exact h2) hf
theorem RpA.clean {M : AS} {H : Hp} {vs : List V} (hM : ∀ b, M b → ∃ o, H b = some o ∧ HotO o) (r : RpA C H vs ds) (hf : frmA ds = true) : RpA C (Wo M H) vs ds := r.move (fun b xs h => by
  rw [Wo_out fun q => ?_]
  · exact h
  · obtain ⟨o, h1, h2⟩ := hM b q
    rw [h] at h1
    cases h1
    exact h2) hf
theorem Er.ed (h : Er C T te Γ d) (hf : frm d = true) : Ed C T te Γ d := fun fp lo H σ Q S k => h fp lo H σ Q S fun v H' x r => k v H' x (r.clean (S.step x).hots hf)
theorem Ed.is (h : Ed C T te Γ d) (e' : d = e) : Ed C T te Γ e := e' ▸ h
theorem Et.is {a b : Bool} (h : Et C T tt Γ a) (e' : a = b) : Et C T tt Γ b := e' ▸ h
theorem Ef.is {s s' : Sl} (h : Ef C T te Γ s) (e' : s = s') : Ef C T te Γ s' := e' ▸ h

/-! ### names, constants -/
theorem ed_var {i : Nat} (h : Γ[i]? = some (.dat d)) : Ed C T (tVar i) Γ d := fun fp lo H σ Q S k => by
  obtain ⟨v, h1, h2⟩ := S.dat h
  exact ⟨v, h1, k v H (XT.refl T H) h2⟩
theorem es_own {i : Nat} (h : Γ[i]? = some (.own ds)) : Es C T (tVar i) Γ ds := fun fp lo H σ Q S k => by
  obtain ⟨l, xs, h1, _, h3, h4⟩ := S.ok i _ h
  exact ⟨_, join_some h1, k l xs H (XT.refl T H) h3 h4⟩
theorem er_own2 {i : Nat} {dss : List (List PyData)} (h : Γ[i]? = some (.own2 dss)) : Er C T (tVar i) Γ (.list (dss.map .list)) := fun fp lo H σ Q S k => by
  obtain ⟨l, as, h1, _, h3, h4⟩ := S.ok i _ h
  exact ⟨_, join_some h1, k _ H (XT.refl T H) (.lst h3 (h4.rpA Wo_sub fun b _ xs hx => hx))⟩
theorem er_obj {i : Nat} {dss : List (List PyData)} (h : Γ[i]? = some (.obj dss)) : Er C T (tVar i) Γ (objD (dss.map .list)) := fun fp lo H σ Q S k => by
  obtain ⟨o, dx, a, as, h1, _, h3, h4, h5⟩ := S.ok i _ h
  exact ⟨_, join_some h1, k _ H (XT.refl T H) (.obj h3 h4 (h5.rpA Wo_sub fun b _ xs hx => hx))⟩
theorem ed_int {i : Int} : Ed C T (tC (.int i)) Γ (.int i) := fun fp lo H σ Q S k => k _ H (XT.refl T H) (.int i)
theorem ed_bl {b : Bool} : Ed C T (tC (.bl b)) Γ (.bool b) := fun fp lo H σ Q S k => k _ H (XT.refl T H) (.bl b)
theorem ed_non : Ed C T (tC .non) Γ .none := fun fp lo H σ Q S k => k _ H (XT.refl T H) .non
theorem ed_str {x : Str} : Ed C T (tC (.str x)) Γ (.str x) := fun fp lo H σ Q S k => k _ H (XT.refl T H) (.str x)

/-! ### operators -/
/-- an operation on data, nothing made -/
theorem ed_op {r : R2} {d1 d2 : PyData} (ha : Ed C T ta Γ d1) (hb : Ed C T tb Γ d2) (hr : ∀ (H : Hp) (x y : V) (Q : VK), Rp C H x d1 → Rp C H y d2 → (∀ v, Rp C H v d → Q v H) → r x y H Q) (hd : frm d = true) : Ed C T (tOp r ta tb) Γ d := fun fp lo H σ Q S k =>
  ha fp lo H σ _ S fun x H1 x1 r1 => hb fp lo H1 σ _ (S.step x1) fun y H2 x2 r2 =>
    hr H2 x y Q ((Rp.up x2 r1).mono Wo_sub) (r2.mono Wo_sub) fun v rv => k v H2 (x1.trans x2) (rv.clean ((S.step x1).step x2).hots hd)
/-- an operation on data that may be hidden -/
theorem er_op {r : R2} {d1 d2 : PyData} (ha : Er C T ta Γ d1) (hb : Er C T tb Γ d2) (hr : ∀ (H : Hp) (x y : V) (Q : VK), Rp C H x d1 → Rp C H y d2 → (∀ v, Rp C H v d → Q v H) → r x y H Q) (hd : frm d = true) : Ed C T (tOp r ta tb) Γ d := fun fp lo H σ Q S k =>
  ha fp lo H σ _ S fun x H1 x1 r1 => hb fp lo H1 σ _ (S.step x1) fun y H2 x2 r2 =>
    hr H2 x y Q (r1.mono x2.kp) r2 fun v rv => k v H2 (x1.trans x2) (rv.clean ((S.step x1).step x2).hots hd)
theorem ed_I0 {g : Int → Int → V} {i j : Int} (ha : Ed C T ta Γ (.int i)) (hb : Ed C T tb Γ (.int j)) (hg : ∀ H, Rp C H (g i j) d) (hd : frm d = true) : Ed C T (tOp (rI0 g) ta tb) Γ d :=
  ed_op ha hb (fun H x y Q r1 r2 k => ⟨i, j, r1.int_eq, r2.int_eq, k _ (hg H)⟩) hd
theorem ed_I {c : Int → Int → Prop} {g : Int → Int → V} {i j : Int} (ha : Ed C T ta Γ (.int i)) (hb : Ed C T tb Γ (.int j)) (hc : c i j) (hg : ∀ H, Rp C H (g i j) d) (hd : frm d = true) : Ed C T (tOp (rI c g) ta tb) Γ d :=
  ed_op ha hb (fun H x y Q r1 r2 k => ⟨i, j, r1.int_eq, r2.int_eq, hc, k _ (hg H)⟩) hd
/-- + and - of ints -/
theorem ed_i0 {g : Int → Int → Int} {i j : Int} (ha : Ed C T ta Γ (.int i)) (hb : Ed C T tb Γ (.int j)) : Ed C T (tOp (rI0 fun i j => .int (g i j)) ta tb) Γ (.int (g i j)) := ed_I0 ha hb (fun _ => .int _) rfl
theorem ed_ib {g : Int → Int → Bool} {i j : Int} (ha : Ed C T ta Γ (.int i)) (hb : Ed C T tb Γ (.int j)) : Ed C T (tOp (rI0 fun i j => .bl (g i j)) ta tb) Γ (.bool (g i j)) := ed_I0 ha hb (fun _ => .bl _) rfl
theorem ed_mod {i j : Int} (ha : Ed C T ta Γ (.int i)) (hb : Ed C T tb Γ (.int j)) (h : 0 < j) : Ed C T (tOp (rI (fun _ j => 0 < j) fun i j => .int (i % j)) ta tb) Γ (.int (i % j)) := ed_I ha hb h (fun _ => .int _) rfl
theorem ed_div {i j : Int} (ha : Ed C T ta Γ (.int i)) (hb : Ed C T tb Γ (.int j)) (h : 0 < j ∧ j < 1073741824) : Ed C T (tOp (rI CDiv fun i j => .int (i / j)) ta tb) Γ (.int (i / j)) := ed_I ha hb h (fun _ => .int _) rfl
theorem ed_mul {i j : Int} (ha : Ed C T ta Γ (.int i)) (hb : Ed C T tb Γ (.int j)) (h : CMul i j) : Ed C T (tOp (rI CMul fun i j => .int (i * j)) ta tb) Γ (.int (i * j)) := ed_I ha hb h (fun _ => .int _) rfl
theorem ed_pow {i j : Int} (ha : Ed C T ta Γ (.int i)) (hb : Ed C T tb Γ (.int j)) (h : CPow i j) : Ed C T (tOp (rI CPow fun i j => .int (i ^ j.toNat)) ta tb) Γ (.int (i ^ j.toNat)) := ed_I ha hb h (fun _ => .int _) rfl
theorem ed_addS {x y : Str} (ha : Ed C T ta Γ (.str x)) (hb : Ed C T tb Γ (.str y)) (h : x.length + y.length ≤ sizeLine) :
    Ed C T (tOp (fun x y H Q => ∃ i j, x = .str i ∧ y = .str j ∧ i.length + j.length ≤ sizeLine ∧ Q (.str (i ++ j)) H) ta tb) Γ (.str (x ++ y)) :=
  ed_op ha hb (fun H u v Q r1 r2 k => ⟨x, y, r1.str_eq, r2.str_eq, h, k _ (.str _)⟩) rfl
theorem ed_eqS {x y : Str} (ha : Ed C T ta Γ (.str x)) (hb : Ed C T tb Γ (.str y)) : Ed C T (tOp rEq ta tb) Γ (.bool (decide (x = y))) :=
  ed_op ha hb (fun H u v Q r1 r2 k => by
    obtain rfl := r1.str_eq
    obtain rfl := r2.str_eq
    refine ⟨rfl, k _ ?_⟩
    have e : decide (V.str x = V.str y) = decide (x = y) := by
      by_cases h : x = y
      · rw [h]; simp
      · rw [decide_eq_false h, decide_eq_false (fun q => h (by injection q))]
    rw [e]
    exact .bl _) rfl
theorem ed_neS {x y : Str} (ha : Ed C T ta Γ (.str x)) (hb : Ed C T tb Γ (.str y)) : Ed C T (tOp rNe ta tb) Γ (.bool (!decide (x = y))) :=
  ed_op ha hb (fun H u v Q r1 r2 k => by
    obtain rfl := r1.str_eq
    obtain rfl := r2.str_eq
    refine ⟨rfl, k _ ?_⟩
    have e : decide (V.str x = V.str y) = decide (x = y) := by
      by_cases h : x = y
      · rw [h]; simp
      · rw [decide_eq_false h, decide_eq_false (fun q => h (by injection q))]
    rw [e]
    exact .bl _) rfl
theorem ed_eqI {x y : Int} (ha : Ed C T ta Γ (.int x)) (hb : Ed C T tb Γ (.int y)) : Ed C T (tOp rEq ta tb) Γ (.bool (decide (x = y))) :=
  ed_op ha hb (fun H u v Q r1 r2 k => by
    obtain rfl := r1.int_eq
    obtain rfl := r2.int_eq
    refine ⟨rfl, k _ ?_⟩
    have e : decide (V.int x = V.int y) = decide (x = y) := by
      by_cases h : x = y
      · rw [h]; simp
      · rw [decide_eq_false h, decide_eq_false (fun q => h (by injection q))]
    rw [e]
    exact .bl _) rfl
theorem ed_neI {x y : Int} (ha : Ed C T ta Γ (.int x)) (hb : Ed C T tb Γ (.int y)) : Ed C T (tOp rNe ta tb) Γ (.bool (!decide (x = y))) :=
  ed_op ha hb (fun H u v Q r1 r2 k => by
    obtain rfl := r1.int_eq
    obtain rfl := r2.int_eq
    refine ⟨rfl, k _ ?_⟩
    have e : decide (V.int x = V.int y) = decide (x = y) := by
      by_cases h : x = y
      · rw [h]; simp
      · rw [decide_eq_false h, decide_eq_false (fun q => h (by injection q))]
    rw [e]
    exact .bl _) rfl
theorem ed_eqB {x y : Bool} (ha : Ed C T ta Γ (.bool x)) (hb : Ed C T tb Γ (.bool y)) : Ed C T (tOp rEq ta tb) Γ (.bool (x == y)) :=
  ed_op ha hb (fun H u v Q r1 r2 k => by
    obtain rfl := r1.bl_eq
    obtain rfl := r2.bl_eq
    refine ⟨rfl, k _ ?_⟩
    rw [dec_bl]
    exact .bl _) rfl
theorem ed_neB {x y : Bool} (ha : Ed C T ta Γ (.bool x)) (hb : Ed C T tb Γ (.bool y)) : Ed C T (tOp rNe ta tb) Γ (.bool (!(x == y))) :=
  ed_op ha hb (fun H u v Q r1 r2 k => by
    obtain rfl := r1.bl_eq
    obtain rfl := r2.bl_eq
    refine ⟨rfl, k _ ?_⟩
    rw [dec_bl]
    exact .bl _) rfl
def isNo : PyData → Bool
  | .none => true
  | _ => false
theorem Rp.isN {H : Hp} {v : V} (r : Rp C H v d) : decide (v = V.non) = isNo d := by
  cases r <;> simp [isNo]
theorem er_isN (ha : Er C T ta Γ d) : Ed C T (tIsN ta) Γ (.bool (isNo d)) := fun fp lo H σ Q S k => ha fp lo H σ _ S fun v H1 x1 r1 => by
  show Q (.bl (decide (v = .non))) H1
  rw [r1.isN]
  exact k _ H1 x1 (.bl _)
theorem er_notN (ha : Er C T ta Γ d) : Ed C T (tNotN ta) Γ (.bool (!isNo d)) := fun fp lo H σ Q S k => ha fp lo H σ _ S fun v H1 x1 r1 => by
  show Q (.bl (!decide (v = .non))) H1
  rw [r1.isN]
  exact k _ H1 x1 (.bl _)
/-- == of data -/
theorem er_eqD {d1 d2 : PyData} (ha : Er C T ta Γ d1) (hb : Er C T tb Γ d2) (h1 : pln d1 = true) (h2 : pln d2 = true) (s1 : SeqAt.shaped d1 = true) (s2 : SeqAt.shaped d2 = true) : Ed C T (tOp (rEqD K) ta tb) Γ (.bool (PyData.eqv d1 d2)) :=
  er_op ha hb (fun H x y Q r1 r2 k => ⟨d1, d2, r1.dp h1, r2.dp h2, s1, s2, k _ (.bl _)⟩) rfl
theorem er_neD {d1 d2 : PyData} (ha : Er C T ta Γ d1) (hb : Er C T tb Γ d2) (h1 : pln d1 = true) (h2 : pln d2 = true) (s1 : SeqAt.shaped d1 = true) (s2 : SeqAt.shaped d2 = true) : Ed C T (tOp (rNeD K) ta tb) Γ (.bool (!PyData.eqv d1 d2)) :=
  er_op ha hb (fun H x y Q r1 r2 k => ⟨d1, d2, r1.dp h1, r2.dp h2, s1, s2, k _ (.bl _)⟩) rfl
theorem er_notInD {d1 : PyData} (ha : Er C T ta Γ d1) (hb : Er C T tb Γ (.list ds)) (h1 : pln d1 = true) (h2 : pln (.list ds) = true) (s1 : SeqAt.shaped d1 = true) (s2 : SeqAt.shaped (.list ds) = true) :
    Ed C T (tOp (rNotInD K) ta tb) Γ (.bool (!ds.any fun z => PyData.eqv z d1)) :=
  er_op ha hb (fun H x y Q r1 r2 k => ⟨d1, ds, r1.dp h1, r2.dp h2, s1, s2, k _ (.bl _)⟩) rfl

/-! ### and, or, not -/
theorem ed_notV {a : Bool} (ha : Ed C T ta Γ (.bool a)) : Ed C T (tNotV ta) Γ (.bool (!a)) := fun fp lo H σ Q S k => ha fp lo H σ _ S fun v H1 x1 r1 => ⟨a, r1.bl_eq, k _ H1 x1 (.bl _)⟩
theorem ed_andV {a b : Bool} (ha : Ed C T ta Γ (.bool a)) (hb : a = true → Ed C T tb Γ (.bool b)) : Ed C T (tAndV ta tb) Γ (.bool (a && b)) := fun fp lo H σ Q S k => ha fp lo H σ _ S fun v H1 x1 r1 => ⟨a, r1.bl_eq, by
  cases a with
  | true => exact iteT (hb rfl fp lo H1 σ _ (S.step x1) fun w H2 x2 r2 => k w H2 (x1.trans x2) r2)
  | false => exact iteF (k _ H1 x1 (.bl _))⟩
theorem ed_orV {a b : Bool} (ha : Ed C T ta Γ (.bool a)) (hb : a = false → Ed C T tb Γ (.bool b)) : Ed C T (tOrV ta tb) Γ (.bool (a || b)) := fun fp lo H σ Q S k => ha fp lo H σ _ S fun v H1 x1 r1 => ⟨a, r1.bl_eq, by
  cases a with
  | true => exact iteT (k _ H1 x1 (.bl _))
  | false => exact iteF (hb rfl fp lo H1 σ _ (S.step x1) fun w H2 x2 r2 => k w H2 (x1.trans x2) r2)⟩
theorem et_B {a : Bool} (ha : Ed C T ta Γ (.bool a)) : Et C T (tB ta) Γ a := fun fp lo H σ Q S k => ha fp lo H σ _ S fun v H1 x1 r1 => ⟨a, r1.bl_eq, k H1 x1⟩
theorem et_T {a : Bool} (ha : Ed C T ta Γ (.bool a)) : Et C T (tTest ta) Γ a := fun fp lo H σ Q S k => ha fp lo H σ _ S fun v H1 x1 r1 => ⟨a, r1.bl_eq, k H1 x1⟩
theorem et_and {a b : Bool} (ha : Et C T tt Γ a) (hb : a = true → Et C T uu Γ b) : Et C T (tAnd tt uu) Γ (a && b) := fun fp lo H σ Q S k => ha fp lo H σ _ S fun H1 x1 => by
  cases a with
  | true => exact iteT (hb rfl fp lo H1 σ _ (S.step x1) fun H2 x2 => k H2 (x1.trans x2))
  | false => exact iteF (k H1 x1)
theorem et_or {a b : Bool} (ha : Et C T tt Γ a) (hb : a = false → Et C T uu Γ b) : Et C T (tOr tt uu) Γ (a || b) := fun fp lo H σ Q S k => ha fp lo H σ _ S fun H1 x1 => by
  cases a with
  | true => exact iteT (k H1 x1)
  | false => exact iteF (hb rfl fp lo H1 σ _ (S.step x1) fun H2 x2 => k H2 (x1.trans x2))
theorem et_not {a : Bool} (ha : Et C T tt Γ a) : Et C T (tNot tt) Γ (!a) := fun fp lo H σ Q S k => ha fp lo H σ _ S fun H1 x1 => k H1 x1
/-- a <= b <= c of ints -/
theorem ed_chain {g g' : Int → Int → Bool} {i j l : Int} (ha : Ed C T ta Γ (.int i)) (hb : Ed C T tb Γ (.int j)) (hc : Ed C T tc Γ (.int l)) :
    Ed C T (tChain (rI0 fun i j => .bl (g i j)) (rI0 fun i j => .bl (g' i j)) ta tb tc) Γ (.bool (g i j && g' j l)) := fun fp lo H σ Q S k =>
  ha fp lo H σ _ S fun x H1 x1 r1 => hb fp lo H1 σ _ (S.step x1) fun y H2 x2 r2 => ⟨i, j, r1.int_eq, r2.int_eq, g i j, rfl, by
    have S2 := (S.step x1).step x2
    cases e1 : g i j with
    | true =>
      rw [e1, Bool.true_and] at k
      exact iteT (hc fp lo H2 σ _ S2 fun z H3 x3 r3 => ⟨j, l, r2.int_eq, r3.int_eq, k _ H3 ((x1.trans x2).trans x3) (.bl _)⟩)
    | false =>
      rw [e1, Bool.false_and] at k
      exact iteF (k _ H2 (x1.trans x2) (.bl _))⟩

/-! ### places, lengths, fields -/
theorem RpA.atI {M : AS} {H : Hp} {xs : List V} {i : Int} (r : RpA C (Wo M H) xs ds) (h : atI ds i = some d) : ∃ v, L2.atI xs i = some v ∧ Rp C (Wo M H) v d := by
  unfold L2.atI at h ⊢
  rw [r.length]
  cases e : ixN ds.length i with
  | none => rw [e] at h; cases h
  | some j =>
    rw [e] at h
    obtain ⟨v, h1, h2⟩ := r.get (i := j) h
    exact ⟨v, h1, h2⟩
theorem ed_ixT {i : Int} (ha : Ed C T ta Γ (.tuple ds)) (hb : Ed C T tb Γ (.int i)) (h : atI ds i = some d) : Ed C T (tOp (rIxT K) ta tb) Γ d := fun fp lo H σ Q S k =>
  ha fp lo H σ _ S fun x H1 x1 r1 => hb fp lo H1 σ _ (S.step x1) fun y H2 x2 r2 => by
    obtain ⟨a, xs, rfl, h1, h2⟩ := (Rp.up x2 r1).tup_at
    obtain ⟨v, h3, h4⟩ := h2.atI h
    exact ⟨a, xs, i, v, rfl, r2.int_eq, SqT.of (Wo_some h1).2, h3, k v H2 (x1.trans x2) h4⟩
theorem es_ix {i : Int} (ha : Es C T ta Γ ds) (hb : Ed C T tb Γ (.int i)) (h : atI ds i = some d) : Ed C T (tOp (rIxL K) ta tb) Γ d := fun fp lo H σ Q S k =>
  ha fp lo H σ _ S fun a xs H1 x1 h1 h2 => hb fp lo H1 σ _ (S.step x1) fun y H2 x2 r2 => by
    obtain ⟨v, h3, h4⟩ := (RpA.up x2 h2).atI h
    exact ⟨a, xs, i, v, rfl, r2.int_eq, SqL.of (x2.kp _ _ h1 (fun _ q => by cases q)), h3, k v H2 (x1.trans x2) h4⟩
theorem ed_ixL {i : Int} (ha : Ed C T ta Γ (.list ds)) (hb : Ed C T tb Γ (.int i)) (h : atI ds i = some d) : Ed C T (tOp (rIxL K) ta tb) Γ d := es_ix ha.es hb h
theorem es_ix2 {v : Nat} {i : Int} {dss : List (List PyData)} (ha : Γ[v]? = some (.own2 dss)) (hb : Ed C T tb Γ (.int i)) (h : atI dss i = some ds) : Es C T (tOp (rIxL K) (tVar v) tb) Γ ds := fun fp lo H σ Q S k => by
  obtain ⟨l, as, h1, _, h3, h4⟩ := S.ok v _ ha
  refine ⟨_, join_some h1, hb fp lo H σ _ S fun y H1 x1 r1 => ?_⟩
  have R1 := h4.mono (Sa.ext x1) fun b _ xs hx => x1.kp b _ hx (fun _ q => by cases q)
  unfold L2.atI at h
  cases e : ixN dss.length i with
  | none => rw [e] at h; cases h
  | some j =>
    rw [e] at h
    obtain ⟨b, xs, g1, g2, g3⟩ := R1.get (i := j) h
    refine ⟨l, as.map V.ref, i, .ref b, rfl, r1.int_eq, SqL.of (x1.kp _ _ h3 (fun _ q => by cases q)), ?_, k b xs H1 x1 g2 g3⟩
    unfold L2.atI
    rw [List.length_map, R1.length, e]
    show (as.map V.ref)[j]? = some (V.ref b)
    rw [List.getElem?_map, g1]
    rfl
theorem ed_ixS {x : Str} {i : Int} {c : Nat} (ha : Ed C T ta Γ (.str x)) (hb : Ed C T tb Γ (.int i)) (hl : x.length ≤ sizeLine) (h : atI x.cps.toList i = some c) : Ed C T (tOp rIxS ta tb) Γ (.str ⟨#[c]⟩) :=
  ed_op ha hb (fun H u v Q r1 r2 k => ⟨x, i, c, r1.str_eq, r2.int_eq, hl, h, k _ (.str _)⟩) rfl
def rLenQ (K : PySem.W.Frag) : List V → Hp → VK → Prop := fun xs H Q => ∃ p ys, xs = [.ref p] ∧ (SqL K H p ys ∨ SqT K H p ys) ∧ Q (.int ys.length) H
theorem es_len (ha : Es C T ta Γ ds) : Ed C T (tCB (rLenQ K) (tCons ta tNil)) Γ (.int (ds.length : Int)) := fun fp lo H σ Q S k =>
  ha fp lo H σ _ S fun a xs H1 x1 h1 h2 => ⟨a, xs, rfl, .inl (SqL.of h1), by rw [h2.length]; exact k _ H1 x1 (.int _)⟩
theorem ed_lenL (ha : Ed C T ta Γ (.list ds)) : Ed C T (tCB (rLenQ K) (tCons ta tNil)) Γ (.int (ds.length : Int)) := es_len ha.es
theorem er_lenL (ha : Er C T ta Γ (.list ds)) : Ed C T (tCB (rLenQ K) (tCons ta tNil)) Γ (.int (ds.length : Int)) := fun fp lo H σ Q S k =>
  ha fp lo H σ _ S fun v H1 x1 r1 => by
    obtain ⟨a, xs, rfl, h1, h2⟩ := r1.list_at
    exact ⟨a, xs, rfl, .inl (SqL.of h1), by rw [h2.length]; exact k _ H1 x1 (.int _)⟩
theorem ed_lenT (ha : Ed C T ta Γ (.tuple ds)) : Ed C T (tCB (rLenQ K) (tCons ta tNil)) Γ (.int (ds.length : Int)) := fun fp lo H σ Q S k =>
  ha fp lo H σ _ S fun v H1 x1 r1 => by
    obtain ⟨a, xs, rfl, h1, h2⟩ := r1.tup_at
    exact ⟨a, xs, rfl, .inr (SqT.of (Wo_some h1).2), by rw [h2.length]; exact k _ H1 x1 (.int _)⟩
theorem ed_lenS {x : Str} (ha : Ed C T ta Γ (.str x)) (hl : x.length ≤ sizeLine) : Ed C T (tCB (fun xs H Q => ∃ z, xs = [.str z] ∧ z.length ≤ sizeLine ∧ Q (.int z.length) H) (tCons ta tNil)) Γ (.int (x.length : Int)) := fun fp lo H σ Q S k =>
  ha fp lo H σ _ S fun v H1 x1 r1 => by
    obtain rfl := r1.str_eq
    exact ⟨x, rfl, hl, k _ H1 x1 (.int _)⟩
theorem flds_rows (a : Addr) : (flds a).lookup ("rows" : Str) = some (.ref a) := by
  unfold flds
  rw [lookup_putF, if_pos rfl]
theorem flds_no (a : Addr) {m : Str} (h : ¬ m = "rows") : (flds a).lookup m = none := by
  unfold flds
  rw [lookup_putF, if_neg h]
  rfl
theorem ed_rows (hC : Cls K C) (hN : NoAttr K C "rows") (ha : Ed C T ta Γ (objD ds)) : Ed C T (tFld K ta "rows") Γ (.list ds) := fun fp lo H σ Q S k =>
  ha fp lo H σ _ S fun v H1 x1 r1 => by
    obtain ⟨o, dx, a, xs, rfl, h1, h2, h3⟩ := r1.obj_at
    exact ⟨o, C, dx, flds a, .ref a, rfl, (Wo_some h1).2, hC, hN, flds_rows a, k _ H1 x1 (.lst h2 h3)⟩
theorem er_rows (hC : Cls K C) (hN : NoAttr K C "rows") (ha : Er C T ta Γ (objD ds)) : Er C T (tFld K ta "rows") Γ (.list ds) := fun fp lo H σ Q S k =>
  ha fp lo H σ _ S fun v H1 x1 r1 => by
    obtain ⟨o, dx, a, xs, rfl, h1, h2, h3⟩ := r1.obj_at
    exact ⟨o, C, dx, flds a, .ref a, rfl, h1, hC, hN, flds_rows a, k _ H1 x1 (.lst h2 h3)⟩

/-! ### arguments, displays -/
theorem ea_nil : EA C T tNil Γ [] := fun fp lo H σ Q S k => k [] H (XT.refl T H) .nil
theorem ea_cons {tr : TA} (ha : Ed C T ta Γ d) (hr : EA C T tr Γ ds) : EA C T (tCons ta tr) Γ (d :: ds) := fun fp lo H σ Q S k =>
  ha fp lo H σ _ S fun x H1 x1 r1 => hr fp lo H1 σ _ (S.step x1) fun xs H2 x2 r2 => k _ H2 (x1.trans x2) (.cons (Rp.up x2 r1) r2)
theorem er_nil : ER C T tNil Γ [] := fun fp lo H σ Q S k => k [] H (XT.refl T H) .nil
theorem er_cons {tr : TA} (ha : Er C T ta Γ d) (hr : ER C T tr Γ ds) : ER C T (tCons ta tr) Γ (d :: ds) := fun fp lo H σ Q S k =>
  ha fp lo H σ _ S fun x H1 x1 r1 => hr fp lo H1 σ _ (S.step x1) fun xs H2 x2 r2 => k _ H2 (x1.trans x2) (.cons (r1.mono x2.kp) r2)
theorem ed_tup {tr : TA} (h : EA C T tr Γ ds) (hl : ds.length ≤ 1000 := by first | exact (by decide) | simp) : Ed C T (tTup tr) Γ (.tuple ds) := fun fp lo H σ Q S k =>
  h fp lo H σ _ S fun vs H1 x1 r1 => ⟨by rw [r1.length]; exact Nat.le_trans hl (by decide), fun p hp => by
    have np : ¬ Mh fp lo p := new_out (S.step x1) hp
    have xn : XT T H1 (upd H1 p (.tup vs)) := XT.new hp
    exact k _ _ (x1.trans xn) (.tup (Wo_new np) (RpA.up xn r1))⟩
/-- a new list -/
theorem own_new {fp : Nat → List Addr} {lo : AS} {H H1 : Hp} {σ : L2.St} {vs : List V} {Q : VK} (S : Sa C T fp lo H σ Γ) (x1 : XT T H H1) (r1 : RpA C (Wo (Mh fp lo) H1) vs ds)
    (k : ∀ v H' fpn, XT T H H' → (∀ l, l ∈ fpn → H l = none) → fpn.Nodup → SlOk C (Wo (orM (Mh fp lo) fpn) H') H' (.own ds) (some v) fpn → Q v H') : ∀ p, H1 p = none → Q (.ref p) (upd H1 p (.lst vs)) := fun p hp => by
  have np : ¬ Mh fp lo p := new_out (S.step x1) hp
  have xn : XT T H1 (upd H1 p (.lst vs)) := XT.new hp
  have hp0 : H p = none := x1.al p hp
  refine k _ _ [p] (x1.trans xn) (fun l hl => by rw [List.mem_singleton.mp hl]; exact hp0) (List.nodup_cons.mpr ⟨by simp, List.nodup_nil⟩) ⟨p, vs, rfl, rfl, upd_same, r1.mono (Wo_ext (fun b o hb ho q => ?_) xn.kp)⟩
  rcases q with q | q
  · exact hb q
  · rw [List.mem_singleton.mp q, hp] at ho
    cases ho
end
end G

set_option maxRecDepth 100000
set_option maxHeartbeats 4000000
/-! The G layer, part 3: new lists, calls, walks, comprehensions. -/
namespace G
open PySem L2

section
variable {C : Addr} {T : Tab} {K : PySem.W.Frag} {Γ : List Sl} {te ta tb tc : TE} {tt uu : TT} {d e : PyData} {ds ds' : List PyData}

theorem ef_lst {tr : TA} (h : EA C T tr Γ ds) (hl : ds.length ≤ 1000 := by first | exact (by decide) | simp) : Ef C T (tLst tr) Γ (.own ds) := fun fp lo H σ Q S k =>
  h fp lo H σ _ S fun vs H1 x1 r1 => ⟨by rw [r1.length]; exact Nat.le_trans hl (by decide), own_new S x1 r1 k⟩
theorem es_rev (ha : Es C T ta Γ ds) : Ef C T (tRevL K ta) Γ (.own ds.reverse) := fun fp lo H σ Q S k =>
  ha fp lo H σ _ S fun a xs H1 x1 h1 h2 => ⟨a, xs, rfl, SqL.of h1, own_new S x1 h2.reverse k⟩
def rListQ (K : PySem.W.Frag) : List V → Hp → VK → Prop := fun xs H Q => ∃ p ys, xs = [.ref p] ∧ (SqL K H p ys ∨ SqT K H p ys) ∧ ∀ l, H l = none → Q (.ref l) (upd H l (.lst ys))
theorem es_listOf (ha : Es C T ta Γ ds) : Ef C T (tCB (rListQ K) (tCons ta tNil)) Γ (.own ds) := fun fp lo H σ Q S k =>
  ha fp lo H σ _ S fun a xs H1 x1 h1 h2 => ⟨a, xs, rfl, .inl (SqL.of h1), own_new S x1 h2 k⟩
theorem ed_listOfT (ha : Ed C T ta Γ (.tuple ds)) : Ef C T (tCB (rListQ K) (tCons ta tNil)) Γ (.own ds) := fun fp lo H σ Q S k =>
  ha fp lo H σ _ S fun v H1 x1 r1 => by
    obtain ⟨a, xs, rfl, h1, h2⟩ := r1.tup_at
    exact ⟨a, xs, rfl, .inr (SqT.of (Wo_some h1).2), own_new S x1 h2 k⟩
def rTupleQ (K : PySem.W.Frag) : List V → Hp → VK → Prop := fun xs H Q => ∃ p ys, xs = [.ref p] ∧ ((SqL K H p ys ∧ ∀ l, H l = none → Q (.ref l) (upd H l (.tup ys))) ∨ (SqT K H p ys ∧ Q (.ref p) H))
theorem es_tupleOf (ha : Es C T ta Γ ds) : Ed C T (tCB (rTupleQ K) (tCons ta tNil)) Γ (.tuple ds) := fun fp lo H σ Q S k =>
  ha fp lo H σ _ S fun a xs H1 x1 h1 h2 => ⟨a, xs, rfl, .inl ⟨SqL.of h1, fun p hp => by
    have xn : XT T H1 (upd H1 p (.tup xs)) := XT.new hp
    exact k _ _ (x1.trans xn) (.tup (Wo_new (new_out (S.step x1) hp)) (RpA.up xn h2))⟩⟩
theorem es_cat (ha : Es C T ta Γ ds) (hb : Es C T tb Γ ds') (hl : ds.length + ds'.length ≤ sizeLine) : Ef C T (tOp rCat ta tb) Γ (.own (ds ++ ds')) := fun fp lo H σ Q S k =>
  ha fp lo H σ _ S fun a xs H1 x1 h1 h2 => hb fp lo H1 σ _ (S.step x1) fun b ys H2 x2 g1 g2 =>
    ⟨a, b, xs, ys, rfl, rfl, x2.kp _ _ h1 (fun _ q => by cases q), g1, by rw [h2.length, g2.length]; exact hl, own_new S (x1.trans x2) ((RpA.up x2 h2).append g2) k⟩
theorem ed_catT (ha : Ed C T ta Γ (.tuple ds)) (hb : Ed C T tb Γ (.tuple ds')) (hl : ds.length + ds'.length ≤ sizeLine) : Ed C T (tOp (rCatA K) ta tb) Γ (.tuple (ds ++ ds')) := fun fp lo H σ Q S k =>
  ha fp lo H σ _ S fun x H1 x1 r1 => hb fp lo H1 σ _ (S.step x1) fun y H2 x2 r2 => by
    obtain ⟨a, xs, rfl, h1, h2⟩ := (Rp.up x2 r1).tup_at
    obtain ⟨b, ys, rfl, g1, g2⟩ := r2.tup_at
    refine ⟨a, b, xs, ys, rfl, rfl, SqT.of (Wo_some h1).2, SqT.of (Wo_some g1).2, by rw [h2.length, g2.length]; exact hl, fun e => ?_, fun e e' => ?_, fun e e' p hp => ?_⟩
    · subst e
      have e2 : ds = [] := by cases h2; rfl
      subst e2
      exact k _ H2 (x1.trans x2) (.tup g1 g2)
    · subst e'
      have e2 : ds' = [] := by cases g2; rfl
      subst e2
      rw [List.append_nil] at k
      exact k _ H2 (x1.trans x2) (.tup h1 h2)
    · have xn : XT T H2 (upd H2 p (.tup (xs ++ ys))) := XT.new hp
      exact k _ _ ((x1.trans x2).trans xn) (.tup (Wo_new (new_out ((S.step x1).step x2) hp)) (RpA.up xn (h2.append g2)))
theorem cutV_to (xs : List V) (c : Nat) : cutV xs none (some (c : Int)) = xs.take c := by
  unfold cutV
  rw [HT.sIx_none, HT.sIx_nat, List.drop_zero, Nat.sub_zero]
  by_cases h : c ≤ xs.length
  · rw [Nat.min_eq_left h]
  · rw [Nat.min_eq_right (by omega), List.take_of_length_le (Nat.le_refl _), List.take_of_length_le (by omega)]
theorem es_slTo {c : Nat} (ha : Es C T ta Γ ds) (hb : Ed C T tb Γ (.int (c : Int))) : Ef C T (tSl (rSlL K) ta tNoPart (tPart tb)) Γ (.own (ds.take c)) := fun fp lo H σ Q S k =>
  ha fp lo H σ _ S fun a xs H1 x1 h1 h2 => by
    show (tPart tb) σ H1 fun u H3 => rSlL K (V.ref a) none u H3 Q
    refine hb fp lo H1 σ _ (S.step x1) fun v H2 x2 r2 => ?_
    refine ⟨(c : Int), r2.int_eq, a, xs, rfl, SqL.of (x2.kp _ _ h1 (fun _ q => by cases q)), ?_⟩
    rw [cutV_to]
    exact own_new S (x1.trans x2) ((RpA.up x2 h2).take c) k
/-! built-ins -/
theorem ed_int1 {i : Int} (ha : Ed C T ta Γ (.int i)) : Ed C T (tCB (fun xs H Q => (∃ i, xs = [.int i] ∧ Q (.int i) H) ∨ ∃ k, xs = [.bl k] ∧ Q (.int (if k then 1 else 0)) H) (tCons ta tNil)) Γ (.int i) := fun fp lo H σ Q S k =>
  ha fp lo H σ _ S fun v H1 x1 r1 => .inl ⟨i, by rw [r1.int_eq], k _ H1 x1 (.int i)⟩
def rM2 (f : Int → Int → Int) : List V → Hp → VK → Prop := fun xs H Q => ∃ i j, xs = [.int i, .int j] ∧ Q (.int (f i j)) H
theorem ed_m2 {f : Int → Int → Int} {i j : Int} (ha : Ed C T ta Γ (.int i)) (hb : Ed C T tb Γ (.int j)) : Ed C T (tCB (rM2 f) (tCons ta (tCons tb tNil))) Γ (.int (f i j)) := fun fp lo H σ Q S k =>
  ha fp lo H σ _ S fun x H1 x1 r1 => hb fp lo H1 σ _ (S.step x1) fun y H2 x2 r2 => ⟨i, j, by rw [r1.int_eq, r2.int_eq], k _ H2 (x1.trans x2) (.int _)⟩
theorem es_all {bs : List Bool} (ha : Es C T ta Γ (bs.map .bool)) : Ed C T (tCB (rAll K) (tCons ta tNil)) Γ (.bool (bs.all id)) := fun fp lo H σ Q S k =>
  ha fp lo H σ _ S fun a xs H1 x1 h1 h2 => ⟨a, bs, rfl, by rw [← h2.bls]; exact SqL.of h1, k _ H1 x1 (.bl _)⟩
def rJoinQ (K : PySem.W.Frag) : V → List V → Hp → VK → Prop := fun x xs H Q => ∃ a p, ∃ ys : List Str, x = .str a ∧ xs = [.ref p] ∧ (SqL K H p (ys.map V.str) ∨ SqT K H p (ys.map V.str)) ∧
  (ys.map (·.length)).sum + ys.length * a.length ≤ 16777216 ∧ Q (.str (Txt.join a ys)) H
theorem es_join {x : Str} {ys : List Str} (ha : Ed C T ta Γ (.str x)) (hb : Es C T tb Γ (ys.map .str)) (h : (ys.map (·.length)).sum + ys.length * x.length ≤ 16777216) : Ed C T (tM1 (rJoinQ K) ta tb) Γ (.str (Txt.join x ys)) := fun fp lo H σ Q S k =>
  ha fp lo H σ _ S fun v H1 x1 r1 => ⟨⟨x, r1.str_eq⟩, hb fp lo H1 σ _ (S.step x1) fun b zs H2 x2 g1 g2 => ⟨x, b, ys, r1.str_eq, rfl, .inl (by rw [← g2.strs]; exact SqL.of g1), h, k _ H2 (x1.trans x2) (.str _)⟩⟩
theorem es_indexD {j : Nat} {z : PyData} (ha : Es C T ta Γ ds) (hb : Ed C T tb Γ d) (p1 : pln (.list ds) = true) (p2 : pln d = true) (s1 : SeqAt.shaped (.list ds) = true) (s2 : SeqAt.shaped d = true) (hz : ds[j]? = some z)
    (he : PyData.eqv z d = true) (hno : ∀ (m : Nat) (z' : PyData), m < j → ds[m]? = some z' → PyData.eqv z' d = false) : Ed C T (tBM K "list" (rIndexD K) ta (tCons tb tNil)) Γ (.int (j : Int)) := fun fp lo H σ Q S k =>
  ha fp lo H σ _ S fun a xs H1 x1 h1 h2 => ⟨.inl ⟨rfl, xs, SqL.of h1⟩, hb fp lo H1 σ _ (S.step x1) fun y H2 x2 r2 => by
    have h1' := x2.kp _ _ h1 (fun _ q => by cases q)
    exact ⟨a, y, d, ds, j, z, rfl, rfl, (Rp.lst h1' ((RpA.up x2 h2).mono Wo_sub)).dp p1, (r2.mono Wo_sub).dp p2, s1, s2, hz, he, hno, k _ H2 (x1.trans x2) (.int _)⟩⟩

/-! ### calls -/
def spF {α : Type} (C : Addr) (T : Tab) (args : α → List PyData) (pre : α → Prop) (res : α → Sl) : Sp := fun vs H Q _ => ∃ (x : α) (lo : AS), RpA C (Wo lo H) vs (args x) ∧ (∀ l, lo l → ∃ o, H l = some o ∧ HotO o) ∧ LamX.Tabs T H ∧ pre x ∧
  ∀ v H' fpn, XT T H H' → (∀ l, l ∈ fpn → H l = none) → fpn.Nodup → SlOk C (Wo (orM lo fpn) H') H' (res x) (some v) fpn → Q v H'
def cln : Sl → Bool
  | .dat d => frm d
  | .own ds => frmA ds
  | .own2 dss => dss.all frmA
  | .obj dss => dss.all frmA
  | _ => false
theorem Rows.clean {M M' : AS} {H : Hp} (hM : ∀ b, M' b → ∃ o, H b = some o ∧ HotO o) : ∀ {as : List Addr} {dss : List (List PyData)}, Rows C (Wo M H) H as dss → dss.all frmA = true → Rows C (Wo M' H) H as dss
  | _, _, .nil, _ => .nil
  | _, _, .cons ⟨xs, h, r⟩ t, e => by
    rw [List.all_cons, Bool.and_eq_true] at e
    exact .cons ⟨xs, h, (r.mono Wo_sub).clean hM e.1⟩ (Rows.clean hM t e.2)
theorem SlOk.clean {M M' : AS} {H : Hp} {s : Sl} {ov : Option V} {fpn : List Addr} (h : SlOk C (Wo M H) H s ov fpn) (hM : ∀ b, M' b → ∃ o, H b = some o ∧ HotO o) (hs : cln s = true) : SlOk C (Wo M' H) H s ov fpn := by
  cases s with
  | dat d =>
    obtain ⟨h1, v, h2, h3⟩ := h
    exact ⟨h1, v, h2, (h3.mono Wo_sub).clean hM hs⟩
  | own ds =>
    obtain ⟨l, xs, h1, h2, h3, h4⟩ := h
    exact ⟨l, xs, h1, h2, h3, (h4.mono Wo_sub).clean hM hs⟩
  | own2 dss =>
    obtain ⟨l, as, h1, h2, h3, h4⟩ := h
    exact ⟨l, as, h1, h2, h3, h4.clean hM hs⟩
  | obj dss =>
    obtain ⟨o, dx, a, as, h1, h2, h3, h4, h5⟩ := h
    exact ⟨o, dx, a, as, h1, h2, h3, h4, h5.clean hM hs⟩
  | un => cases hs
  | rcv dss ts => cases hs
  | dI kvs => cases hs
  | dT kvs => cases hs
  | scr K ns => cases hs
theorem orM_hot {fp : Nat → List Addr} {lo : AS} {H H' : Hp} {σ : L2.St} {s : Sl} {ov : Option V} {fpn : List Addr} {M : AS} (S : Sa C T fp lo H σ Γ) (x : XT T H H') (h : SlOk C (Wo M H') H' s ov fpn) : ∀ b, orM (Mh fp lo) fpn b → ∃ o, H' b = some o ∧ HotO o := fun b q => by
  rcases q with q | q
  · exact (S.step x).hots b q
  · exact h.hot b q
section
variable {α : Type} {args : α → List PyData} {pre : α → Prop} {res : α → Sl} {tr : TA} {E : XK}
theorem ef_call (x : α) (ha : EA C T tr Γ (args x)) (hp : pre x) : Ef C T (tCall (spF C T args pre res) [] E tr) Γ (res x) := fun fp lo H σ Q S k =>
  ha fp lo H σ _ S fun vs H1 x1 r1 => by
    have S1 := S.step x1
    refine ⟨x, Mh fp lo, by rw [List.append_nil]; exact r1, S1.hots, S1.tabs, hp, fun v H' fpn x2 fr nd ok => ?_⟩
    exact k v H' fpn (x1.trans x2) (fun l hl => x1.al l (fr l hl)) nd ok
theorem er_call (x : α) (ha : ER C T tr Γ (args x)) (hp : pre x) (hc : cln (res x) = true) : Ef C T (tCall (spF C T args pre res) [] E tr) Γ (res x) := fun fp lo H σ Q S k =>
  ha fp lo H σ _ S fun vs H1 x1 r1 => by
    have S1 := S.step x1
    have e0 : Wo (fun _ => False) H1 = H1 := funext fun a => Wo_out (fun q => q)
    refine ⟨x, fun _ => False, by rw [List.append_nil, e0]; exact r1, fun l q => q.elim, S1.tabs, hp, fun v H' fpn x2 fr nd ok => ?_⟩
    exact k v H' fpn (x1.trans x2) (fun l hl => x1.al l (fr l hl)) nd (ok.clean (orM_hot S (x1.trans x2) ok) hc)
/-- a method of a Deeds object -/
theorem ef_meth {m : Str} {rs : List PyData} (x : α) (ho : Ed C T ta Γ (objD rs)) (ha : EA C T tr Γ ds) (hx : args x = objD rs :: ds) (hp : pre x) (hm : ¬ m = "rows" := by decide +kernel) : Ef C T (tMeth C m (spF C T args pre res) [] E ta tr) Γ (res x) := fun fp lo H σ Q S k =>
  ho fp lo H σ _ S fun v H1 x1 r1 => by
    have r1' := r1
    obtain ⟨o, dx, a, xs, rfl, h1, h2, h3⟩ := r1.obj_at
    refine ⟨o, dx, flds a, rfl, (Wo_some h1).2, flds_no a hm, ha fp lo H1 σ _ (S.step x1) fun vs H2 x2 r2 => ?_⟩
    have S2 := (S.step x1).step x2
    refine ⟨x, Mh fp lo, by rw [List.append_nil, hx]; exact .cons (Rp.up x2 r1') r2, S2.hots, S2.tabs, hp, fun v H' fpn x3 fr nd ok => ?_⟩
    exact k v H' fpn ((x1.trans x2).trans x3) (fun l hl => (x1.trans x2).al l (fr l hl)) nd ok
theorem er_meth {m : Str} {rs : List PyData} (x : α) (ho : Er C T ta Γ (objD rs)) (ha : ER C T tr Γ ds) (hx : args x = objD rs :: ds) (hp : pre x) (hc : cln (res x) = true) (hm : ¬ m = "rows" := by decide +kernel) : Ef C T (tMeth C m (spF C T args pre res) [] E ta tr) Γ (res x) := fun fp lo H σ Q S k =>
  ho fp lo H σ _ S fun v H1 x1 r1 => by
    have r1' := r1
    obtain ⟨o, dx, a, xs, rfl, h1, h2, h3⟩ := r1.obj_at
    refine ⟨o, dx, flds a, rfl, h1, flds_no a hm, ha fp lo H1 σ _ (S.step x1) fun vs H2 x2 r2 => ?_⟩
    have S2 := (S.step x1).step x2
    have e0 : Wo (fun _ => False) H2 = H2 := funext fun a => Wo_out (fun q => q)
    refine ⟨x, fun _ => False, by rw [List.append_nil, hx, e0]; exact .cons (r1'.mono x2.kp) r2, fun l q => q.elim, S2.tabs, hp, fun v H' fpn x3 fr nd ok => ?_⟩
    have x13 := (x1.trans x2).trans x3
    exact k v H' fpn x13 (fun l hl => (x1.trans x2).al l (fr l hl)) nd (ok.clean (orM_hot S x13 ok) hc)
theorem ef_meth0 {m : Str} {rs : List PyData} (x : α) (ho : Ed C T ta Γ (objD rs)) (hx : args x = [objD rs]) (hp : pre x) (hm : ¬ m = "rows" := by decide +kernel) : Ef C T (tMeth C m (spF C T args pre res) [] E ta tNil) Γ (res x) := ef_meth x ho ea_nil hx hp hm
theorem er_meth0 {m : Str} {rs : List PyData} (x : α) (ho : Er C T ta Γ (objD rs)) (hx : args x = [objD rs]) (hp : pre x) (hc : cln (res x) = true) (hm : ¬ m = "rows" := by decide +kernel) : Ef C T (tMeth C m (spF C T args pre res) [] E ta tNil) Γ (res x) := er_meth x ho er_nil hx hp hc hm
end

/-! ### what is walked -/
def Ei (C : Addr) (T : Tab) (wi : TI) (Γ : List Sl) (ds : List PyData) : Prop := ∀ (fp : Nat → List Addr) (lo : AS) (H : Hp) (σ : L2.St) (R : It → Hp → Prop), Sa C T fp lo H σ Γ →
  (∀ (J : It) (G : Hp → Prop) (Y : Nat → Hp → V → Hp → Prop) (H1 : Hp), XT T H H1 → Walk J ds.length G Y →
    (∀ (M : AS) (H2 : Hp), LamX.ExtN (Wo (Mh fp lo) H1) (Wo M H2) → G H2) →
    (∀ (i : Nat) (d : PyData) (M : AS) (H2 : Hp) (x : V) (H3 : Hp), ds[i]? = some d → LamX.ExtN (Wo (Mh fp lo) H1) (Wo M H2) → (∀ b, M b → H2 b ≠ none) → Y i H2 x H3 → XT T H2 H3 ∧ Rp C (Wo M H3) x d) →
    R J H1) → wi σ H R
/-- the same where nothing is changed meanwhile (in a comprehension) -/
def Ec (C : Addr) (T : Tab) (wi : TI) (Γ : List Sl) (ds : List PyData) : Prop := ∀ (fp : Nat → List Addr) (lo : AS) (H : Hp) (σ : L2.St) (R : It → Hp → Prop), Sa C T fp lo H σ Γ →
  (∀ (J : It) (G : Hp → Prop) (Y : Nat → Hp → V → Hp → Prop) (H1 : Hp), XT T H H1 → Walk J ds.length G Y →
    (∀ (M : AS) (H2 : Hp), XT T H1 H2 → LamX.ExtN (Wo (Mh fp lo) H1) (Wo M H2) → G H2) →
    (∀ (i : Nat) (d : PyData) (M : AS) (H2 : Hp) (x : V) (H3 : Hp), ds[i]? = some d → XT T H1 H2 → LamX.ExtN (Wo (Mh fp lo) H1) (Wo M H2) → (∀ b, M b → H2 b ≠ none) → Y i H2 x H3 → XT T H2 H3 ∧ Rp C (Wo M H3) x d) →
    R J H1) → wi σ H R
theorem Ei.c {wi : TI} (h : Ei C T wi Γ ds) : Ec C T wi Γ ds := fun fp lo H σ R S k => h fp lo H σ R S fun J G Y H1 x w g y => k J G Y H1 x w (fun M H2 _ e => g M H2 e) fun i d M H2 x H3 h1 _ h2 h3 h4 => y i d M H2 x H3 h1 h2 h3 h4
theorem nt_lst {xs : List V} : ∀ ps, HO.lst xs ≠ .tbl ps := fun _ q => by cases q
theorem nt_tup {xs : List V} : ∀ ps, HO.tup xs ≠ .tbl ps := fun _ q => by cases q
theorem ei_list (ha : Ed C T ta Γ (.list ds)) : Ei C T (iList K ta) Γ ds := fun fp lo H σ R S k => ha fp lo H σ _ S fun v H1 x1 r1 => by
  obtain ⟨a, xs, rfl, h1, h2⟩ := r1.list_at
  refine ⟨a, rfl, ⟨xs, SqL.of (Wo_some h1).2⟩, k _ _ _ H1 x1 (by rw [← h2.length]; exact walk_list (xs := xs)) (fun M H2 e => SqL.of (Wo_some (e _ _ h1 nt_lst)).2) fun i d M H2 x H3 hd e hM y => ?_⟩
  obtain ⟨rfl, hx⟩ := y
  obtain ⟨v, g1, g2⟩ := h2.get hd
  rw [hx] at g1
  cases g1
  exact ⟨XT.refl T _, g2.mono e⟩
theorem ei_tup (ha : Ed C T ta Γ (.tuple ds)) : Ei C T (iTup K ta) Γ ds := fun fp lo H σ R S k => ha fp lo H σ _ S fun v H1 x1 r1 => by
  obtain ⟨a, xs, rfl, h1, h2⟩ := r1.tup_at
  refine ⟨a, rfl, ⟨xs, SqT.of (Wo_some h1).2⟩, k _ _ _ H1 x1 (by rw [← h2.length]; exact walk_tup (xs := xs)) (fun M H2 e => SqT.of (Wo_some (e _ _ h1 nt_tup)).2) fun i d M H2 x H3 hd e hM y => ?_⟩
  obtain ⟨rfl, hx⟩ := y
  obtain ⟨v, g1, g2⟩ := h2.get hd
  rw [hx] at g1
  cases g1
  exact ⟨XT.refl T _, g2.mono e⟩
theorem ec_own (ha : Es C T ta Γ ds) : Ec C T (iList K ta) Γ ds := fun fp lo H σ R S k => ha fp lo H σ _ S fun a xs H1 x1 h1 h2 => by
  refine ⟨a, rfl, ⟨xs, SqL.of h1⟩, k _ _ _ H1 x1 (by rw [← h2.length]; exact walk_list (xs := xs)) (fun M H2 x e => SqL.of (x.kp _ _ h1 nt_lst)) fun i d M H2 x H3 hd _ e hM y => ?_⟩
  obtain ⟨rfl, hx⟩ := y
  obtain ⟨v, g1, g2⟩ := h2.get hd
  rw [hx] at g1
  cases g1
  exact ⟨XT.refl T _, g2.mono e⟩
def rgD (lo : Int) (n : Nat) : List PyData := (List.range n).map fun (i : Nat) => .int (lo + (i : Int))
theorem rgD_length (lo : Int) (n : Nat) : (rgD lo n).length = n := by unfold rgD; rw [List.length_map, List.length_range]
theorem rgD_get {lo : Int} {n i : Nat} {d : PyData} (h : (rgD lo n)[i]? = some d) : i < n ∧ d = .int (lo + (i : Int)) := by
  unfold rgD at h
  rw [List.getElem?_map] at h
  by_cases hi : i < n
  · rw [List.getElem?_range hi] at h
    exact ⟨hi, (Option.some.inj h).symm⟩
  · rw [List.getElem?_eq_none (by rw [List.length_range]; omega)] at h
    cases h
def rg1 (n : Nat) : List PyData := (List.range n).map fun (i : Nat) => .int (i : Int)
theorem rg1_eq (n : Nat) : rg1 n = rgD 0 n := by unfold rg1 rgD; simp
theorem ei_range1 {ta : TA} {n : Nat} (ha : EA C T ta Γ [.int (n : Int)]) (hn : n ≤ 1000000) : Ei C T (iRng1 ta) Γ (rg1 n) := fun fp lo H σ R S k => ha fp lo H σ _ S fun vs H1 x1 r1 => by
  rw [rg1_eq] at k
  cases r1 with
  | cons h t =>
    cases t
    rw [h.int_eq]
    refine ⟨(n : Int), rfl, by omega, by omega, k _ _ _ H1 x1 (by rw [rgD_length]; exact walk_range (lo := 0) (n := n)) (fun _ _ _ => trivial) fun i d M H2 x H3 hd e hM y => ?_⟩
    obtain ⟨rfl, rfl⟩ := y
    obtain ⟨hi, rfl⟩ := rgD_get hd
    exact ⟨XT.refl T _, .int _⟩
theorem ei_range2 {ta : TA} {a b : Int} {n : Nat} (ha : EA C T ta Γ [.int a, .int b]) (h0 : -1000000 ≤ a) (h1 : a ≤ 1000000) (h2 : -1000000 ≤ b) (h3 : b ≤ 1000000) (hn : n = (b - a).toNat) : Ei C T (iRng2 ta) Γ (rgD a n) := fun fp lo H σ R S k => ha fp lo H σ _ S fun vs H1 x1 r1 => by
  cases r1 with
  | cons h t =>
    cases t with
    | cons h' t =>
      cases t
      rw [h.int_eq, h'.int_eq]
      subst hn
      refine ⟨a, b, rfl, ⟨by omega, by omega, by omega, by omega⟩, k _ _ _ H1 x1 (by rw [rgD_length]; exact walk_range) (fun _ _ _ => trivial) fun i d M H2 x H3 hd e hM y => ?_⟩
      obtain ⟨rfl, rfl⟩ := y
      obtain ⟨hi, rfl⟩ := rgD_get hd
      exact ⟨XT.refl T _, .int _⟩
/-- downwards: a, a - 1, .. above b -/
def rdD (a : Int) (n : Nat) : List PyData := (List.range n).map fun (i : Nat) => .int (a - (i : Int))
theorem rdD_length (a : Int) (n : Nat) : (rdD a n).length = n := by unfold rdD; rw [List.length_map, List.length_range]
theorem rdD_get {a : Int} {n i : Nat} {d : PyData} (h : (rdD a n)[i]? = some d) : i < n ∧ d = .int (a - (i : Int)) := by
  unfold rdD at h
  rw [List.getElem?_map] at h
  by_cases hi : i < n
  · rw [List.getElem?_range hi] at h
    exact ⟨hi, (Option.some.inj h).symm⟩
  · rw [List.getElem?_eq_none (by rw [List.length_range]; omega)] at h
    cases h
theorem ei_range3 {ta : TA} {a b : Int} {n : Nat} (ha : EA C T ta Γ [.int a, .int b, .int (-1)]) (h0 : -1000000 ≤ a) (h1 : a ≤ 1000000) (h2 : -1000000 ≤ b) (h3 : b ≤ 1000000) (hn : n = (a - b).toNat) : Ei C T (iRng3 ta) Γ (rdD a n) := fun fp lo H σ R S k => ha fp lo H σ _ S fun vs H1 x1 r1 => by
  cases r1 with
  | cons h t =>
    cases t with
    | cons h' t =>
      cases t with
      | cons h'' t =>
        cases t
        rw [h.int_eq, h'.int_eq, h''.int_eq]
        subst hn
        refine ⟨a, b, -1, _, rfl, RgC.neg (by omega) (by omega) (by omega) (by omega), k _ _ _ H1 x1 (by rw [rdD_length]; exact walk_rangeC) (fun _ _ _ => trivial) fun i d M H2 x H3 hd e hM y => ?_⟩
        obtain ⟨rfl, rfl⟩ := y
        obtain ⟨hi, rfl⟩ := rdD_get hd
        have e : a + (i : Int) * (-1) = a - (i : Int) := by omega
        show XT T _ _ ∧ Rp C _ (.int (a + (i : Int) * (-1))) _
        rw [e]
        exact ⟨XT.refl T _, .int _⟩
theorem ei_zip {tr : TA} {n : Nat} (ha : EA C T tr Γ [.list ds, .list ds']) (hl : ds.length = ds'.length) (hz : n = ds.length) : Ei C T (iZip K tr) Γ ((List.range n).map fun i => .tuple [ds.getD i .none, ds'.getD i .none]) := fun fp lo H σ R S k => ha fp lo H σ _ S fun vs H1 x1 r1 => by
  cases r1 with
  | cons h t =>
    cases t with
    | cons h' t =>
      cases t
      obtain ⟨a, xs, rfl, h1, h2⟩ := h.list_at
      obtain ⟨b, ys, rfl, g1, g2⟩ := h'.list_at
      refine ⟨a, b, xs, ys, rfl, SqL.of (Wo_some h1).2, SqL.of (Wo_some g1).2, k _ _ _ H1 x1 (walk_zip (xs := xs) (ys := ys) (by rw [List.length_map, List.length_range, h2.length, g2.length]; omega))
        (fun M H2 e => ⟨SqL.of (Wo_some (e _ _ h1 nt_lst)).2, SqL.of (Wo_some (e _ _ g1 nt_lst)).2⟩) fun i d M H2 x H3 hd e hM y => ?_⟩
      obtain ⟨P, u, v, rfl, hP, rfl, hu, hv⟩ := y
      have xn : XT T H2 (upd H2 P (.tup [u, v])) := XT.new hP
      rw [List.getElem?_map] at hd
      have hi : i < n := by
        apply Classical.byContradiction
        intro q
        rw [List.getElem?_eq_none (by rw [List.length_range]; omega)] at hd
        cases hd
      rw [List.getElem?_range hi] at hd
      have hd := (Option.some.inj hd).symm
      subst hd
      obtain ⟨d1, q1, q2⟩ := h2.getV hu
      obtain ⟨d2, q3, q4⟩ := g2.getV hv
      have e1 : ds.getD i .none = d1 := by simp [List.getD, q1]
      have e2 : ds'.getD i .none = d2 := by simp [List.getD, q3]
      refine ⟨xn, ?_⟩
      show Rp C _ _ (.tuple [ds.getD i .none, ds'.getD i .none])
      rw [e1, e2]
      exact .tup (Wo_new fun q => hM _ q hP) (.cons (Rp.up xn (q2.mono e)) (.cons (Rp.up xn (q4.mono e)) .nil))

/-! ### targets -/
/-- slot j may be stored: it owns nothing -/
def NO (Γ : List Sl) (j : Nat) : Bool := match Γ[j]? with
  | some .un => true
  | some (.dat _) => true
  | _ => false
theorem NO.fp {fp : Nat → List Addr} {lo : AS} {H : Hp} {σ : L2.St} {j : Nat} (S : Sa C T fp lo H σ Γ) (h : NO Γ j = true) : fp j = [] := by
  unfold NO at h
  split at h
  · rename_i q
    exact S.ok j _ q
  · rename_i d q
    exact (S.ok j _ q).1
  · cases h
theorem join_set {σ : L2.St} {i : Nat} {x : Option V} (h : i < σ.length) : ((σ.set i x)[i]?).join = x := by
  rw [List.getElem?_set_self h]
  rfl
theorem Sa.set {fp : Nat → List Addr} {lo : AS} {H : Hp} {σ : L2.St} {j : Nat} {x : V} (S : Sa C T fp lo H σ Γ) (hn : NO Γ j = true) (r : Rp C (Wo (Mh fp lo) H) x d) : Sa C T fp lo H (σ.set j (some x)) (Γ.set j (.dat d)) := by
  have hfp := NO.fp S hn
  refine ⟨by rw [List.length_set, List.length_set]; exact S.len, fun i s h => ?_, fun i h => S.out i (by rw [List.length_set] at h; exact h), S.dj, S.nd, S.djl, S.hot, S.tabs⟩
  by_cases hij : j = i
  · subst hij
    by_cases hl : j < Γ.length
    · rw [List.getElem?_set_self hl] at h
      cases h
      exact ⟨hfp, x, join_set (by rw [S.len]; exact hl), r⟩
    · rw [List.getElem?_eq_none (by rw [List.length_set]; omega)] at h
      cases h
  · rw [List.getElem?_set_ne hij] at h
    rw [List.getElem?_set_ne hij]
    exact S.ok i s h
theorem wipe_get (σ : L2.St) (vs : List Nat) (i : Nat) : (wipe σ vs)[i]? = if i ∈ vs ∧ i < σ.length then some none else σ[i]? := by
  induction vs with
  | nil => rw [if_neg (by simp)]; rfl
  | cons v vs ih =>
    show ((wipe σ vs).set v none)[i]? = _
    by_cases hv : v = i
    · subst hv
      by_cases hl : v < σ.length
      · rw [List.getElem?_set_self (by rw [wipe_length]; exact hl), if_pos ⟨by simp, hl⟩]
      · rw [if_neg (by omega), List.getElem?_eq_none (by rw [List.length_set, wipe_length]; omega), List.getElem?_eq_none (by omega)]
    · rw [List.getElem?_set_ne hv, ih]
      by_cases q : i ∈ vs ∧ i < σ.length
      · rw [if_pos q, if_pos ⟨List.mem_cons_of_mem _ q.1, q.2⟩]
      · rw [if_neg q, if_neg (fun z => q ⟨(List.mem_cons.mp z.1).resolve_left (fun w => hv w.symm), z.2⟩)]
theorem wipe_set {σ : L2.St} {vs : List Nat} {j : Nat} {x : Option V} (h : j ∈ vs) : wipe (σ.set j x) vs = wipe σ vs := by
  apply List.ext_getElem?
  intro i
  rw [wipe_get, wipe_get, List.length_set]
  by_cases q : i ∈ vs ∧ i < σ.length
  · rw [if_pos q, if_pos q]
  · rw [if_neg q, if_neg q]
    by_cases hij : j = i
    · subst hij
      have hl : ¬ j < σ.length := fun z => q ⟨h, z⟩
      rw [List.getElem?_eq_none (by rw [List.length_set]; omega), List.getElem?_eq_none (by omega)]
    · rw [List.getElem?_set_ne hij]
theorem wipe_wipe (σ : L2.St) (vs : List Nat) : wipe (wipe σ vs) vs = wipe σ vs := by
  apply List.ext_getElem?
  intro i
  rw [wipe_get, wipe_length, wipe_get]
  by_cases q : i ∈ vs ∧ i < σ.length
  · rw [if_pos q, if_pos q]
  · rw [if_neg q, if_neg q]
def wipeG (Γ : List Sl) : List Nat → List Sl
  | [] => Γ
  | v :: vs => (wipeG Γ vs).set v .un
theorem wipeG_length (Γ : List Sl) : ∀ vs : List Nat, (wipeG Γ vs).length = Γ.length
  | [] => rfl
  | v :: vs => by show ((wipeG Γ vs).set v .un).length = _; rw [List.length_set, wipeG_length Γ vs]
theorem wipeG_get (Γ : List Sl) (vs : List Nat) (i : Nat) : (wipeG Γ vs)[i]? = if i ∈ vs ∧ i < Γ.length then some .un else Γ[i]? := by
  induction vs with
  | nil => rw [if_neg (by simp)]; rfl
  | cons v vs ih =>
    show ((wipeG Γ vs).set v .un)[i]? = _
    by_cases hv : v = i
    · subst hv
      by_cases hl : v < Γ.length
      · rw [List.getElem?_set_self (by rw [wipeG_length]; exact hl), if_pos ⟨by simp, hl⟩]
      · rw [if_neg (by omega), List.getElem?_eq_none (by rw [List.length_set, wipeG_length]; omega), List.getElem?_eq_none (by omega)]
    · rw [List.getElem?_set_ne hv, ih]
      by_cases q : i ∈ vs ∧ i < Γ.length
      · rw [if_pos q, if_pos ⟨List.mem_cons_of_mem _ q.1, q.2⟩]
      · rw [if_neg q, if_neg (fun z => q ⟨(List.mem_cons.mp z.1).resolve_left (fun w => hv w.symm), z.2⟩)]
theorem Sa.wipe {fp : Nat → List Addr} {lo : AS} {H : Hp} {σ : L2.St} {vs : List Nat} (S : Sa C T fp lo H σ Γ) (hn : ∀ j, j ∈ vs → NO Γ j = true) : Sa C T fp lo H (wipe σ vs) (wipeG Γ vs) := by
  refine ⟨by rw [wipe_length, wipeG_length]; exact S.len, fun i s h => ?_, fun i h => S.out i (by rw [wipeG_length] at h; exact h), S.dj, S.nd, S.djl, S.hot, S.tabs⟩
  rw [wipeG_get] at h
  rw [wipe_get]
  by_cases q : i ∈ vs ∧ i < Γ.length
  · rw [if_pos q] at h
    cases h
    exact NO.fp S (hn i q.1)
  · rw [if_neg q] at h
    rw [if_neg (by rw [S.len]; exact q)]
    exact S.ok i s h
/-- a target: it stores the datum d; u tells the slots behind, js which are stored -/
structure Tgt (C : Addr) (T : Tab) (g : TG) (d : PyData) (u : List Sl → List Sl) (js : List Nat) : Prop where
  run : ∀ (fp : Nat → List Addr) (lo : AS) (H : Hp) (σ : L2.St) (Γ : List Sl) (x : V) (Q : L2.St → Hp → Prop), Sa C T fp lo H σ Γ → (∀ j, j ∈ js → NO Γ j = true) → Rp C (Wo (Mh fp lo) H) x d →
    (∀ σ', Sa C T fp lo H σ' (u Γ) → (∀ vs, (∀ j, j ∈ js → j ∈ vs) → L2.wipe σ' vs = L2.wipe σ vs) → Q σ' H) → g x σ H Q
structure Tgts (C : Addr) (T : Tab) (g : TGs) (ds : List PyData) (u : List Sl → List Sl) (js : List Nat) : Prop where
  run : ∀ (fp : Nat → List Addr) (lo : AS) (H : Hp) (σ : L2.St) (Γ : List Sl) (xs : List V) (Q : L2.St → Hp → Prop), Sa C T fp lo H σ Γ → (∀ j, j ∈ js → NO Γ j = true) → RpA C (Wo (Mh fp lo) H) xs ds →
    (∀ σ', Sa C T fp lo H σ' (u Γ) → (∀ vs, (∀ j, j ∈ js → j ∈ vs) → L2.wipe σ' vs = L2.wipe σ vs) → Q σ' H) → g xs σ H Q
theorem NO.set {j i : Nat} {d : PyData} (h : NO Γ i = true) : NO (Γ.set j (.dat d)) i = true := by
  unfold NO at h ⊢
  by_cases hij : j = i
  · subst hij
    by_cases hl : j < Γ.length
    · rw [List.getElem?_set_self hl]
    · rw [List.getElem?_eq_none (by omega)] at h
      cases h
  · rw [List.getElem?_set_ne hij]
    exact h
theorem tg_name {j : Nat} : Tgt C T (gName j) d (fun Γ => Γ.set j (.dat d)) [j] := ⟨fun fp lo H σ Γ x Q S hn r k => k _ (S.set (hn j (by simp)) r) fun vs h => wipe_set (h j (by simp))⟩
theorem tgs_nil : Tgts C T gNil [] id [] := ⟨fun fp lo H σ Γ xs Q S hn r k => by cases r; exact ⟨rfl, k σ S fun _ _ => rfl⟩⟩
theorem tgs_cons {j : Nat} {tr : TGs} {u : List Sl → List Sl} {js : List Nat} (h : Tgts C T tr ds u js) : Tgts C T (gCons (gName j) tr) (d :: ds) (fun Γ => u (Γ.set j (.dat d))) (j :: js) := ⟨fun fp lo H σ Γ xs Q S hn r k => by
  cases r with
  | cons h1 r1 =>
    refine ⟨_, _, rfl, h.run fp lo H _ _ _ Q (S.set (hn j (by simp)) h1) (fun i hi => NO.set (hn i (List.mem_cons_of_mem _ hi))) r1 fun σ' S' hw => k σ' S' fun vs hv => ?_⟩
    rw [hw vs fun i hi => hv i (List.mem_cons_of_mem _ hi), wipe_set (hv j (by simp))]⟩
theorem NO.set' {j i : Nat} {d : PyData} (h : NO Γ i = true) : NO (Γ.set j (.dat d)) i = true := NO.set h
theorem tg_tup {n : Nat} {tr : TGs} {u : List Sl → List Sl} {js : List Nat} (h : Tgts C T tr ds u js) (hl : ds.length = n := by rfl) : Tgt C T (gTup K n tr) (.tuple ds) u js := ⟨fun fp lo H σ Γ x Q S hn r k => by
  obtain ⟨a, xs, rfl, h1, h2⟩ := r.tup_at
  exact ⟨a, xs, rfl, SqT.of (Wo_some h1).2, by rw [h2.length]; exact hl, h.run fp lo H σ Γ xs Q S hn h2 k⟩⟩

/-! ### comprehensions -/
theorem et_yes : Et C T tYes Γ true := fun fp lo H σ Q S k => k H (XT.refl T H)
/-- [f x for x in xs if p x] -/
theorem ef_lc {α : Type} {wi : TI} {g : TG} {te : TE} {tt : TT} {vs : List Nat} (xs : List α) (enc : α → PyData) (p : α → Bool) (f : α → PyData) (hi : Ec C T wi Γ (xs.map enc)) (hz : xs.length ≤ 1000000) (hv : ∀ j, j ∈ vs → NO Γ j = true)
    (hs : ∀ x, x ∈ xs → ∃ u js, Tgt C T g (enc x) u js ∧ (∀ j, j ∈ js → j ∈ vs) ∧ (∀ j, j ∈ js → NO (wipeG Γ vs) j = true) ∧ Et C T tt (u (wipeG Γ vs)) (p x) ∧ (p x = true → Ed C T te (u (wipeG Γ vs)) (f x))) :
    Ef C T (tLc wi g tt te vs) Γ (.own ((xs.filter p).map f)) := fun fp lo H σ Q S k =>
  hi fp lo H σ _ S fun J G Y H1 x1 w hG hY => by
    intro D hD
    have S1 := S.step x1
    have nD : ¬ Mh fp lo D := new_out S1 hD
    have eM : ∀ b, Mh fp (orM lo [D]) b ↔ (Mh fp lo b ∨ b = D) := fun b => by
      constructor
      · rintro ((h | h) | h)
        · exact .inl (.inl h)
        · exact .inr (List.mem_singleton.mp h)
        · exact .inl (.inr h)
      · rintro ((h | h) | h)
        · exact .inl (.inl h)
        · exact .inr h
        · exact .inl (.inr (by rw [h]; exact List.mem_singleton.mpr rfl))
    have hMD : Mh fp (orM lo [D]) D := (eM D).mpr (.inr rfl)
    -- the inner heap, the list at D apart
    have base : ∀ H2, XT T H1 H2 → LamX.ExtN (Wo (Mh fp lo) H1) (Wo (Mh fp (orM lo [D])) H2) := fun H2 x => Wo_ext (fun b o hb ho q => by
      rcases (eM b).mp q with q | q
      · exact hb q
      · rw [q, hD] at ho
        cases ho) x.kp
    let P : Nat → Hp → Prop := fun i H2 => XT T H1 H2 ∧ Sa C T fp (orM lo [D]) H2 σ Γ ∧ ∃ acc, H2 D = some (.lst acc) ∧ RpA C (Wo (Mh fp (orM lo [D])) H2) acc (((xs.take i).filter p).map f)
    refine lc_it (n := (xs.map enc).length) w P ?_ (fun i H2 _ h => hG _ _ h.1 (base H2 h.1)) ?_ ?_
    · exact ⟨XT.new hD, S1.hide hD trivial, [], upd_same, by simpa using RpA.nil⟩
    · rintro i x H2 H3 hin ⟨x12, S2, acc, hacc, racc⟩ hy
      rw [List.length_map] at hin
      have hxi : xs[i]? = some (xs[i]'hin) := List.getElem?_eq_getElem hin
      generalize hxx : xs[i]'hin = a at hxi
      have hda : (xs.map enc)[i]? = some (enc a) := by rw [List.getElem?_map, hxi]; rfl
      obtain ⟨x23, rx⟩ := hY i (enc a) (Mh fp (orM lo [D])) H2 x H3 hda x12 (base H2 x12) (fun b q => S2.al b q) hy
      have S3 := S2.step x23
      obtain ⟨u, js, tg, hjs, hno, ht, he⟩ := hs a (List.mem_of_getElem? hxi)
      have S3w := S3.wipe hv
      refine tg.run fp _ H3 _ _ x _ S3w hno rx fun σ' S4 hw => ⟨by rw [hw vs hjs, wipe_wipe], ?_⟩
      have htake : xs.take (i + 1) = xs.take i ++ [a] := by rw [List.take_add_one, hxi]; rfl
      refine ht fp _ H3 σ' _ S4 fun H4 x34 => ?_
      have x24 := x23.trans x34
      cases hp : p a with
      | false =>
        refine iteF ⟨x12.trans x24, S2.step x24, acc, x24.kp _ _ hacc nt_lst, ?_⟩
        rw [htake, List.filter_append, List.filter_cons, if_neg (by rw [hp]; decide), List.filter_nil, List.append_nil]
        exact RpA.up x24 racc
      | true =>
        refine iteT ?_
        refine he hp fp _ H4 σ' _ (S4.step x34) fun y H5 x45 r5 => ?_
        have x25 := x24.trans x45
        have x15 := x12.trans x25
        have hacc5 := x25.kp _ _ hacc nt_lst
        refine ⟨acc, hacc5, ?_, ?_⟩
        · have hl := racc.length
          rw [List.length_map] at hl
          have h1 := List.length_filter_le p (xs.take i)
          rw [List.length_take] at h1
          have : acc.length ≤ 1000000 := by omega
          exact Nat.lt_of_le_of_lt this (by decide)
        · have S5 := S2.step x25
          have eW : Wo (Mh fp (orM lo [D])) (upd H5 D (.lst (acc ++ [y]))) = Wo (Mh fp (orM lo [D])) H5 := Wo_upd hMD
          refine ⟨XT.mut x15 hD hacc5 nt_lst (fun q z => by unfold LamX.CodeO at z; cases z), ⟨S5.len, fun j s h => ?_, S5.out, S5.dj, S5.nd, S5.djl, fun l hl => ?_, ?_⟩, acc ++ [y], upd_same, ?_⟩
          · rw [eW]
            refine (S5.ok j s h).mono (LamX.ExtN.refl _) fun b o hb q => ?_
            rw [upd_ne fun z => ?_]
            · exact hb
            · rcases q with q | ⟨ys, rfl⟩
              · rw [z] at q
                exact nD (.inr ⟨j, q⟩)
              · rw [z, hacc5] at hb
                cases hb
          · by_cases z : l = D
            · rw [z]
              exact ⟨_, upd_same, trivial⟩
            · rw [upd_ne z]
              exact S5.hot l hl
          · exact (XT.mut x15 hD hacc5 nt_lst (fun q z => by unfold LamX.CodeO at z; cases z)).tb S1.tabs
          · rw [eW, htake, List.filter_append, List.filter_cons, if_pos hp, List.filter_nil, List.map_append]
            exact (RpA.up x25 racc).snoc r5
    · rintro H2 ⟨x12, S2, acc, hacc, racc⟩
      rw [List.length_map, List.take_length] at racc
      refine k _ H2 [D] (x1.trans x12) (fun l hl => by rw [List.mem_singleton.mp hl]; exact x1.al D hD) (List.nodup_cons.mpr ⟨by simp, List.nodup_nil⟩) ⟨D, acc, rfl, rfl, hacc, ?_⟩
      exact racc.mono (Wo_less fun b q => (eM b).mpr (q.imp id List.mem_singleton.mp))
end
end G

set_option maxRecDepth 100000
set_option maxHeartbeats 4000000
/-! The G layer, part 4: statements. -/
namespace G
open PySem L2

/-- the state within a def that was entered at H0 -/
def Sta (C : Addr) (T : Tab) (H0 : Hp) (lo : AS) (H : Hp) (σ : L2.St) (Γ : List Sl) : Prop := ∃ fp : Nat → List Addr, Sa C T fp lo H σ Γ ∧ (∀ i l, l ∈ fp i → H0 l = none) ∧ XT T H0 H
/-- from Γ the statement comes to slots of N, or it returns a thing of R -/
def Go (C : Addr) (T : Tab) (t : TS) (Γ : List Sl) (N : List Sl → Prop) (R : Sl → Prop) : Prop := ∀ (H0 : Hp) (lo : AS) (H : Hp) (σ : L2.St) (D : Ends), Sta C T H0 lo H σ Γ →
  (∀ Γ' σ' H', N Γ' → Sta C T H0 lo H' σ' Γ' → D.nx σ' H') →
  (∀ s v H' fpn, R s → XT T H0 H' → (∀ l, l ∈ fpn → H0 l = none) → fpn.Nodup → SlOk C (Wo (orM lo fpn) H') H' s (some v) fpn → D.rt v H') → t D σ H
/-- slots that tell less -/
inductive Le : List Sl → List Sl → Prop
  | nil : Le [] []
  | eq {s : Sl} {Γ Γ' : List Sl} : Le Γ Γ' → Le (s :: Γ) (s :: Γ')
  | un {s : Sl} {Γ Γ' : List Sl} : Le Γ Γ' → Le (s :: Γ) (.un :: Γ')
theorem Le.refl : ∀ Γ : List Sl, Le Γ Γ
  | [] => .nil
  | _ :: Γ => .eq (Le.refl Γ)
theorem Le.length : ∀ {Γ Γ' : List Sl}, Le Γ Γ' → Γ.length = Γ'.length
  | _, _, .nil => rfl
  | _, _, .eq h => by rw [List.length_cons, List.length_cons, h.length]
  | _, _, .un h => by rw [List.length_cons, List.length_cons, h.length]
theorem Le.get : ∀ {Γ Γ' : List Sl}, Le Γ Γ' → ∀ (i : Nat) (s : Sl), Γ'[i]? = some s → s = .un ∨ Γ[i]? = some s
  | _, _, .nil, i, s, h => by simp at h
  | _, _, .eq t, 0, s, h => .inr h
  | _, _, .un t, 0, s, h => .inl (by have h : some Sl.un = some s := h; exact (Option.some.inj h).symm)
  | _, _, .eq t, i + 1, s, h => t.get i s h
  | _, _, .un t, i + 1, s, h => t.get i s h
theorem Le.trans : ∀ {Γ Γ' Γ'' : List Sl}, Le Γ Γ' → Le Γ' Γ'' → Le Γ Γ''
  | _, _, _, .nil, .nil => .nil
  | _, _, _, .eq a, .eq b => .eq (a.trans b)
  | _, _, _, .eq a, .un b => .un (a.trans b)
  | _, _, _, .un a, .eq b => .un (a.trans b)
  | _, _, _, .un a, .un b => .un (a.trans b)

section
variable {C : Addr} {T : Tab} {K : PySem.W.Frag} {Γ Γ' : List Sl} {te ta tb tc : TE} {tt : TT} {d : PyData} {ds : List PyData} {H0 H H1 : Hp} {lo : AS} {σ : L2.St} {t u : TS} {N N' : List Sl → Prop} {R : Sl → Prop}

theorem tabs_upd {l : Addr} {o w : HO} (t : LamX.Tabs T H) (hl : H l = some w) (hw : HotO w) : LamX.Tabs T (upd H l o) := by
  intro x hx
  obtain ⟨ps, h1, h2, h3⟩ := t x hx
  refine ⟨ps, ?_, h2, fun pos cv hcv => ?_⟩
  · rw [upd_ne (fun z => by rw [z, hl] at h1; exact hw.nt ps (Option.some.inj h1))]
    exact h1
  · obtain ⟨c, e1, e2⟩ := h3 pos cv hcv
    refine ⟨c, e1, ?_⟩
    rw [upd_ne (fun z => by subst z; rw [hl] at e2; exact hw.nc _ _ (Option.some.inj e2))]
    exact e2
theorem tabs_wo {M : AS} (t : LamX.Tabs T H) (hM : ∀ b, M b → ∃ o, H b = some o ∧ HotO o) : LamX.Tabs T (Wo M H) := by
  intro x hx
  obtain ⟨ps, h1, h2, h3⟩ := t x hx
  refine ⟨ps, ?_, h2, fun pos cv hcv => ?_⟩
  · rw [Wo_out fun q => ?_]
    · exact h1
    · obtain ⟨o, e1, e2⟩ := hM _ q
      rw [h1] at e1
      cases e1
      exact e2
  · obtain ⟨c, e1, e2⟩ := h3 pos cv hcv
    refine ⟨c, e1, ?_⟩
    rw [Wo_out fun q => ?_]
    · exact e2
    · obtain ⟨o, g1, g2⟩ := hM _ q
      rw [e2] at g1
      cases g1
      exact g2
/-- slot i holds a new thing -/
theorem Sa.put {fp : Nat → List Addr} {i : Nat} {s : Sl} {v : V} {fpn : List Addr} (S : Sa C T fp lo H σ Γ) (h0 : ∀ i l, l ∈ fp i → H0 l = none) (x0 : XT T H0 H) (x : XT T H H1) (fr : ∀ l, l ∈ fpn → H l = none) (nd : fpn.Nodup)
    (ok : SlOk C (Wo (orM (Mh fp lo) fpn) H1) H1 s (some v) fpn) : Sta C T H0 lo H1 (σ.set i (some v)) (Γ.set i s) := by
  have S1 := S.step x
  by_cases hi : i < Γ.length
  · refine ⟨fun j => if j = i then fpn else fp j, ⟨by rw [List.length_set, List.length_set]; exact S.len, fun j s' h => ?_, fun j h => ?_, fun j k l h1 h2 => ?_, fun j => ?_, fun j l h1 => ?_, S1.hot, S1.tabs⟩, fun j l h1 => ?_, x0.trans x⟩
    · have sub : ∀ b, Mh (fun j => if j = i then fpn else fp j) lo b → orM (Mh fp lo) fpn b := fun b q => by
        rcases q with q | ⟨k, q⟩
        · exact .inl (.inl q)
        · have q : b ∈ (if k = i then fpn else fp k) := q
          by_cases hk : k = i
          · rw [if_pos hk] at q
            exact .inr q
          · rw [if_neg hk] at q
            exact .inl (.inr ⟨k, q⟩)
      by_cases hj : i = j
      · subst hj
        rw [List.getElem?_set_self hi] at h
        cases h
        rw [join_set (by rw [S.len]; exact hi)]
        show SlOk C _ H1 s (some v) (if i = i then fpn else fp i)
        rw [if_pos rfl]
        exact ok.mono (Wo_less sub) fun b o e _ => e
      · rw [List.getElem?_set_ne hj] at h
        rw [List.getElem?_set_ne hj]
        show SlOk C _ H1 s' _ (if j = i then fpn else fp j)
        rw [if_neg fun q => hj q.symm]
        refine (S.ok j s' h).mono (Wo_ext (fun b o hb ho q => ?_) x.kp) fun b o e q => ?_
        · rcases sub b q with q | q
          · exact hb q
          · rw [fr b q] at ho
            cases ho
        · exact x.kp b o e (by
            rcases q with q | ⟨xs, rfl⟩
            · obtain ⟨o', h1, h2⟩ := S.hots b (.inr ⟨j, q⟩)
              rw [e] at h1
              cases h1
              exact h2.nt
            · exact nt_tup)
    · show (if j = i then fpn else fp j) = []
      rw [List.length_set] at h
      rw [if_neg (by omega)]
      exact S.out j h
    · have h1 : l ∈ (if j = i then fpn else fp j) := h1
      have h2 : l ∈ (if k = i then fpn else fp k) := h2
      by_cases hj : j = i
      · by_cases hk : k = i
        · rw [hj, hk]
        · rw [if_pos hj] at h1
          rw [if_neg hk] at h2
          exact absurd (fr l h1) (S.al l (.inr ⟨k, h2⟩))
      · by_cases hk : k = i
        · rw [if_neg hj] at h1
          rw [if_pos hk] at h2
          exact absurd (fr l h2) (S.al l (.inr ⟨j, h1⟩))
        · rw [if_neg hj] at h1
          rw [if_neg hk] at h2
          exact S.dj j k l h1 h2
    · show (if j = i then fpn else fp j).Nodup
      split
      · exact nd
      · exact S.nd j
    · have h1 : l ∈ (if j = i then fpn else fp j) := h1
      by_cases hj : j = i
      · rw [if_pos hj] at h1
        exact fun q => S.al l (.inl q) (fr l h1)
      · rw [if_neg hj] at h1
        exact S.djl j l h1
    · have h1 : l ∈ (if j = i then fpn else fp j) := h1
      by_cases hj : j = i
      · rw [if_pos hj] at h1
        exact x0.al l (fr l h1)
      · rw [if_neg hj] at h1
        exact h0 j l h1
  · rw [List.set_eq_of_length_le (by rw [S.len]; omega), List.set_eq_of_length_le (by omega)]
    exact ⟨fp, S1, h0, x0.trans x⟩
/-- a thing that slot i owns is changed -/
theorem Sa.mut {fp : Nat → List Addr} {i : Nat} {s' : Sl} {l : Addr} {o : HO} {fpi : List Addr} (S : Sa C T fp lo H σ Γ) (h0 : ∀ i l, l ∈ fp i → H0 l = none) (x0 : XT T H0 H) (x : XT T H H1) (hl : l ∈ fp i) (ho : HotO o)
    (hfp : ∀ b, b ∈ fpi → b ∈ fp i ∨ H b = none) (nd : fpi.Nodup) (ok : SlOk C (Wo (orM (Mh fp lo) fpi) H1) (upd H1 l o) s' ((σ[i]?).join) fpi) : Sta C T H0 lo (upd H1 l o) σ (Γ.set i s') := by
  have S1 := S.step x
  have hMl : Mh fp lo l := .inr ⟨i, hl⟩
  obtain ⟨w, hw1, hw2⟩ := S1.hots l hMl
  have hi : i < Γ.length := by
    apply Classical.byContradiction
    intro q
    rw [S.out i (by omega)] at hl
    cases hl
  have sub : ∀ b, Mh (fun j => if j = i then fpi else fp j) lo b → orM (Mh fp lo) fpi b := fun b q => by
    rcases q with q | ⟨k, q⟩
    · exact .inl (.inl q)
    · have q : b ∈ (if k = i then fpi else fp k) := q
      by_cases hk : k = i
      · rw [if_pos hk] at q
        exact .inr q
      · rw [if_neg hk] at q
        exact .inl (.inr ⟨k, q⟩)
  have eW : ∀ {b : Addr} {v : HO}, ¬ Mh fp lo b → H b = some v → ¬ Mh (fun j => if j = i then fpi else fp j) lo b := fun {b v} hb hv q => by
    rcases sub b q with q | q
    · exact hb q
    · rcases hfp b q with q | q
      · exact hb (.inr ⟨i, q⟩)
      · rw [q] at hv
        cases hv
  refine ⟨fun j => if j = i then fpi else fp j, ⟨by rw [List.length_set]; exact S.len, fun j s h => ?_, fun j h => ?_, fun j k b h1 h2 => ?_, fun j => ?_, fun j b h1 => ?_, fun b hb => ?_, tabs_upd S1.tabs hw1 hw2⟩, fun j b h1 => ?_, XT.mut (x0.trans x) (h0 i l hl) hw1 hw2.nt (hw2.nc l)⟩
  · by_cases hj : i = j
    · subst hj
      rw [List.getElem?_set_self hi] at h
      cases h
      show SlOk C _ _ s' _ (if i = i then fpi else fp i)
      rw [if_pos rfl]
      refine ok.mono (fun b v e n => ?_) fun b o e _ => e
      obtain ⟨e1, e2⟩ := Wo_some e
      rw [Wo_out fun q => e1 (sub b q), upd_ne fun z => e1 (by rw [z]; exact .inl hMl)]
      exact e2
    · rw [List.getElem?_set_ne hj] at h
      show SlOk C _ _ s _ (if j = i then fpi else fp j)
      rw [if_neg fun q => hj q.symm]
      have nt : ∀ b v, H b = some v → (b ∈ fp j ∨ ∃ xs, v = .tup xs) → ∀ ps, v ≠ .tbl ps := fun b v e q => by
        rcases q with q | ⟨xs, rfl⟩
        · obtain ⟨o', h1, h2⟩ := S.hots b (.inr ⟨j, q⟩)
          rw [e] at h1
          cases h1
          exact h2.nt
        · exact nt_tup
      refine (S.ok j s h).mono (fun b v e n => ?_) fun b v e q => ?_
      · obtain ⟨e1, e2⟩ := Wo_some e
        rw [Wo_out (eW e1 e2), upd_ne fun z => e1 (by rw [z]; exact hMl)]
        exact x.kp b v e2 n
      · rw [upd_ne fun z => ?_]
        · exact x.kp b v e (nt b v e q)
        · subst z
          rcases q with q | ⟨xs, rfl⟩
          · exact hj (S.dj i j b hl q)
          · rw [x.kp _ _ e nt_tup] at hw1
            cases hw1
            exact hw2
  · show (if j = i then fpi else fp j) = []
    rw [List.length_set] at h
    rw [if_neg (by omega)]
    exact S.out j h
  · have h1 : b ∈ (if j = i then fpi else fp j) := h1
    have h2 : b ∈ (if k = i then fpi else fp k) := h2
    by_cases hj : j = i
    · by_cases hk : k = i
      · rw [hj, hk]
      · rw [if_pos hj] at h1
        rw [if_neg hk] at h2
        rcases hfp b h1 with q | q
        · exact absurd (S.dj i k b q h2) fun z => hk z.symm
        · exact absurd q (S.al b (.inr ⟨k, h2⟩))
    · by_cases hk : k = i
      · rw [if_neg hj] at h1
        rw [if_pos hk] at h2
        rcases hfp b h2 with q | q
        · exact absurd (S.dj i j b q h1) fun z => hj z.symm
        · exact absurd q (S.al b (.inr ⟨j, h1⟩))
      · rw [if_neg hj] at h1
        rw [if_neg hk] at h2
        exact S.dj j k b h1 h2
  · show (if j = i then fpi else fp j).Nodup
    split
    · exact nd
    · exact S.nd j
  · have h1 : b ∈ (if j = i then fpi else fp j) := h1
    by_cases hj : j = i
    · rw [if_pos hj] at h1
      rcases hfp b h1 with q | q
      · exact S.djl i b q
      · exact fun z => S.al b (.inl z) q
    · rw [if_neg hj] at h1
      exact S.djl j b h1
  · rw [upd_ne fun z => S.djl i l hl (by rw [← z]; exact hb)]
    exact S1.hot b hb
  · have h1 : b ∈ (if j = i then fpi else fp j) := h1
    by_cases hj : j = i
    · rw [if_pos hj] at h1
      rcases hfp b h1 with q | q
      · exact h0 i b q
      · exact x0.al b q
    · rw [if_neg hj] at h1
      exact h0 j b h1
/-- a slot owns no more -/
theorem Sa.drop {fp : Nat → List Addr} {i : Nat} {s : Sl} (S : Sa C T fp lo H σ Γ) (h0 : ∀ i l, l ∈ fp i → H0 l = none) (x0 : XT T H0 H) (ok : SlOk C (Wo (Mh (fun j => if j = i then [] else fp j) lo) H) H s ((σ[i]?).join) []) : Sta C T H0 lo H σ (Γ.set i s) := by
  have sub : ∀ b, Mh (fun j => if j = i then [] else fp j) lo b → Mh fp lo b := fun b q => by
    rcases q with q | ⟨k, q⟩
    · exact .inl q
    · have q : b ∈ (if k = i then [] else fp k) := q
      by_cases hk : k = i
      · rw [if_pos hk] at q
        cases q
      · rw [if_neg hk] at q
        exact .inr ⟨k, q⟩
  have mem : ∀ {j b}, b ∈ (if j = i then [] else fp j) → b ∈ fp j := fun {j b} q => by
    by_cases hk : j = i
    · rw [if_pos hk] at q
      cases q
    · rw [if_neg hk] at q
      exact q
  refine ⟨fun j => if j = i then [] else fp j, ⟨by rw [List.length_set]; exact S.len, fun j s' h => ?_, fun j h => ?_, fun j k b h1 h2 => S.dj j k b (mem h1) (mem h2), fun j => ?_, fun j b h1 => S.djl j b (mem h1), S.hot, S.tabs⟩, fun j b h1 => h0 j b (mem h1), x0⟩
  · by_cases hj : i = j
    · subst hj
      by_cases hi : i < Γ.length
      · rw [List.getElem?_set_self hi] at h
        cases h
        show SlOk C _ H s _ (if i = i then [] else fp i)
        rw [if_pos rfl]
        exact ok
      · rw [List.getElem?_eq_none (by rw [List.length_set]; omega)] at h
        cases h
    · rw [List.getElem?_set_ne hj] at h
      show SlOk C _ H s' _ (if j = i then [] else fp j)
      rw [if_neg fun q => hj q.symm]
      exact (S.ok j s' h).mono (Wo_less sub) fun b o e _ => e
  · show (if j = i then [] else fp j) = []
    rw [List.length_set] at h
    split
    · rfl
    · exact S.out j h
  · show (if j = i then [] else fp j).Nodup
    split
    · exact List.nodup_nil
    · exact S.nd j
theorem Sta.un (S : Sta C T H0 lo H σ Γ) (i : Nat) : Sta C T H0 lo H σ (Γ.set i .un) := by
  obtain ⟨fp, S, h0, x0⟩ := S
  exact S.drop h0 x0 rfl
/-- an owned list becomes a datum -/
theorem Sta.frz {i : Nat} {ds : List PyData} (S : Sta C T H0 lo H σ Γ) (h : Γ[i]? = some (.own ds)) : Sta C T H0 lo H σ (Γ.set i (.dat (.list ds))) := by
  obtain ⟨fp, S, h0, x0⟩ := S
  obtain ⟨l, xs, h1, h2, h3, h4⟩ := S.ok i _ h
  have hl : l ∈ fp i := by rw [h2]; exact List.mem_cons_self
  have nM : ¬ Mh (fun j => if j = i then [] else fp j) lo l := fun q => by
    rcases q with q | ⟨k, q⟩
    · exact S.djl i l hl q
    · have q : l ∈ (if k = i then [] else fp k) := q
      by_cases hk : k = i
      · rw [if_pos hk] at q
        cases q
      · rw [if_neg hk] at q
        exact hk (S.dj k i l q hl)
  refine S.drop h0 x0 ⟨rfl, _, h1, .lst (by rw [Wo_out nM]; exact h3) (h4.mono (Wo_less fun b q => ?_))⟩
  rcases q with q | ⟨k, q⟩
  · exact .inl q
  · have q : b ∈ (if k = i then [] else fp k) := q
    by_cases hk : k = i
    · rw [if_pos hk] at q
      cases q
    · rw [if_neg hk] at q
      exact .inr ⟨k, q⟩
theorem mh_drop {fp : Nat → List Addr} {i : Nat} (S : Sa C T fp lo H σ Γ) {l : Addr} (hl : l ∈ fp i) : ¬ Mh (fun j => if j = i then [] else fp j) lo l := fun q => by
  rcases q with q | ⟨k, q⟩
  · exact S.djl i l hl q
  · have q : l ∈ (if k = i then [] else fp k) := q
    by_cases hk : k = i
    · rw [if_pos hk] at q
      cases q
    · rw [if_neg hk] at q
      exact hk (S.dj k i l q hl)
theorem mh_less {fp : Nat → List Addr} {i : Nat} {lo : AS} : ∀ b, Mh (fun j => if j = i then [] else fp j) lo b → Mh fp lo b := fun b q => by
  rcases q with q | ⟨k, q⟩
  · exact .inl q
  · have q : b ∈ (if k = i then [] else fp k) := q
    by_cases hk : k = i
    · rw [if_pos hk] at q
      cases q
    · rw [if_neg hk] at q
      exact .inr ⟨k, q⟩
theorem Sta.frz2 {i : Nat} {dss : List (List PyData)} (S : Sta C T H0 lo H σ Γ) (h : Γ[i]? = some (.own2 dss)) : Sta C T H0 lo H σ (Γ.set i (.dat (.list (dss.map .list)))) := by
  obtain ⟨fp, S, h0, x0⟩ := S
  obtain ⟨l, as, h1, h2, h3, h4⟩ := S.ok i _ h
  have hm : ∀ b, b ∈ l :: as → ¬ Mh (fun j => if j = i then [] else fp j) lo b := fun b hb => mh_drop S (by rw [h2]; exact hb)
  refine S.drop h0 x0 ⟨rfl, _, h1, .lst (by rw [Wo_out (hm l List.mem_cons_self)]; exact h3) (h4.rpA (Wo_less mh_less) fun b hb xs hx => ?_)⟩
  rw [Wo_out (hm b (List.mem_cons_of_mem _ hb))]
  exact hx
theorem Sta.frzO {i : Nat} {dss : List (List PyData)} (S : Sta C T H0 lo H σ Γ) (h : Γ[i]? = some (.obj dss)) : Sta C T H0 lo H σ (Γ.set i (.dat (objD (dss.map .list)))) := by
  obtain ⟨fp, S, h0, x0⟩ := S
  obtain ⟨o, dx, a, as, h1, h2, h3, h4, h5⟩ := S.ok i _ h
  have hm : ∀ b, b ∈ o :: a :: as → ¬ Mh (fun j => if j = i then [] else fp j) lo b := fun b hb => mh_drop S (by rw [h2]; exact hb)
  refine S.drop h0 x0 ⟨rfl, _, h1, .obj (dx := dx) (by rw [Wo_out (hm o List.mem_cons_self)]; exact h3) (by rw [Wo_out (hm a (List.mem_cons_of_mem _ List.mem_cons_self))]; exact h4) (h5.rpA (Wo_less mh_less) fun b hb xs hx => ?_)⟩
  rw [Wo_out (hm b (List.mem_cons_of_mem _ (List.mem_cons_of_mem _ hb)))]
  exact hx
theorem Sta.le (S : Sta C T H0 lo H σ Γ) (l : Le Γ Γ') : Sta C T H0 lo H σ Γ' := by
  obtain ⟨fp, S, h0, x0⟩ := S
  classical
  let fp' : Nat → List Addr := fun j => if Γ'[j]? = some .un then [] else fp j
  have mem : ∀ {j b}, b ∈ fp' j → b ∈ fp j := fun {j b} q => by
    have q : b ∈ (if Γ'[j]? = some .un then [] else fp j) := q
    by_cases hk : Γ'[j]? = some .un
    · rw [if_pos hk] at q
      cases q
    · rw [if_neg hk] at q
      exact q
  have sub : ∀ b, Mh fp' lo b → Mh fp lo b := fun b q => q.imp id fun ⟨k, q⟩ => ⟨k, mem q⟩
  refine ⟨fp', ⟨S.len.trans l.length, fun j s h => ?_, fun j h => ?_, fun j k b h1 h2 => S.dj j k b (mem h1) (mem h2), fun j => ?_, fun j b h1 => S.djl j b (mem h1), S.hot, S.tabs⟩, fun j b h1 => h0 j b (mem h1), x0⟩
  · show SlOk C _ H s _ (if Γ'[j]? = some .un then [] else fp j)
    by_cases hk : Γ'[j]? = some .un
    · rw [if_pos hk]
      rw [hk] at h
      cases h
      exact rfl
    · rw [if_neg hk]
      rcases l.get j s h with e | e
      · rw [e] at h
        exact absurd h hk
      · exact (S.ok j s e).mono (Wo_less sub) fun b o e _ => e
  · show (if Γ'[j]? = some .un then [] else fp j) = []
    split
    · rfl
    · exact S.out j (by rw [l.length]; exact h)
  · show (if Γ'[j]? = some .un then [] else fp j).Nodup
    split
    · exact List.nodup_nil
    · exact S.nd j

/-! ### statements -/
theorem go_weak (l : Le Γ Γ') (h : Go C T t Γ' N R) : Go C T t Γ N R := fun H0 lo H σ D S kn kr => h H0 lo H σ D (S.le l) kn kr
theorem go_post (h : Go C T t Γ N R) (hN : ∀ Γ', N Γ' → N' Γ') : Go C T t Γ N' R := fun H0 lo H σ D S kn kr => h H0 lo H σ D S (fun Γ' σ' H' n S' => kn Γ' σ' H' (hN Γ' n) S') kr
theorem go_next (h : N Γ) : Go C T tNext Γ N R := fun H0 lo H σ D S kn kr => kn Γ σ H h S
theorem go_seq {M : List Sl → Prop} (h : Go C T t Γ M R) (k : ∀ Γ', M Γ' → Go C T u Γ' N R) : Go C T (tSeq t u) Γ N R := fun H0 lo H σ D S kn kr =>
  h H0 lo H σ { D with nx := u D } S (fun Γ' σ' H' m S' => k Γ' m H0 lo H' σ' D S' kn kr) kr
/-- a step to slots that are told, then the rest -/
theorem go_then {Γ' : List Sl} (h : Go C T t Γ (fun Γ'' => Le Γ'' Γ') R) (k : Go C T u Γ' N R) : Go C T (tSeq t u) Γ N R := go_seq h fun Γ'' l => go_weak l k
theorem go_set {i : Nat} {s : Sl} (h : Ef C T te Γ s) (hN : N (Γ.set i s)) : Go C T (tAsg te (gName i)) Γ N R := fun H0 lo H σ D ⟨fp, S, h0, x0⟩ kn kr =>
  h fp lo H σ _ S fun v H' fpn x fr nd ok => kn _ _ H' hN (S.put h0 x0 x fr nd ok)
theorem go_setd {i : Nat} (h : Ed C T te Γ d) (hN : N (Γ.set i (.dat d))) : Go C T (tAsg te (gName i)) Γ N R := go_set h.ef hN
/-- x = e, then the rest -/
theorem gs {i : Nat} {s : Sl} (h : Ef C T te Γ s) (k : Go C T u (Γ.set i s) N R) : Go C T (tSeq (tAsg te (gName i)) u) Γ N R := go_seq (go_set (N := fun Γ' => Γ' = Γ.set i s) h rfl) fun Γ' e => by rw [e]; exact k
theorem gsd {i : Nat} (h : Ed C T te Γ d) (k : Go C T u (Γ.set i (.dat d)) N R) : Go C T (tSeq (tAsg te (gName i)) u) Γ N R := gs h.ef k
/-- a, b = e -/
theorem go_tgt {g : TG} {uu : List Sl → List Sl} {js : List Nat} (h : Ed C T te Γ d) (tg : Tgt C T g d uu js) (hno : ∀ j, j ∈ js → NO Γ j = true) (hN : N (uu Γ)) : Go C T (tAsg te g) Γ N R := fun H0 lo H σ D ⟨fp, S, h0, x0⟩ kn kr =>
  h fp lo H σ _ S fun v H' x r => tg.run fp lo H' σ Γ v _ (S.step x) hno r fun σ' S' _ => kn _ _ H' hN ⟨fp, S', h0, x0.trans x⟩
theorem gt {g : TG} {uu : List Sl → List Sl} {js : List Nat} (h : Ed C T te Γ d) (tg : Tgt C T g d uu js) (hno : ∀ j, j ∈ js → NO Γ j = true) (k : Go C T u (uu Γ) N R) : Go C T (tSeq (tAsg te g) u) Γ N R :=
  go_seq (go_tgt (N := fun Γ' => Γ' = uu Γ) h tg hno rfl) fun Γ' e => by rw [e]; exact k
theorem go_ret {s : Sl} (h : Ef C T te Γ s) (hR : R s) : Go C T (tRet te) Γ N R := fun H0 lo H σ D ⟨fp, S, h0, x0⟩ kn kr =>
  h fp lo H σ _ S fun v H' fpn x fr nd ok => kr s v H' fpn hR (x0.trans x) (fun l hl => x0.al l (fr l hl)) nd (ok.mono (Wo_less fun b q => q.imp .inl id) fun b o e _ => e)
theorem go_retd (h : Ed C T te Γ d) (hR : R (.dat d)) : Go C T (tRet te) Γ N R := go_ret h.ef hR
/-- what a slot owns is handed back -/
theorem go_retv {i : Nat} {s : Sl} (h : Γ[i]? = some s) (hv : s ≠ .un) (hR : R s) : Go C T (tRet (tVar i)) Γ N R := fun H0 lo H σ D ⟨fp, S, h0, x0⟩ kn kr => by
  have ok := S.ok i s h
  obtain ⟨v, e⟩ : ∃ v, (σ[i]?).join = some v := by
    cases s with
    | un => exact absurd rfl hv
    | dat d => obtain ⟨_, v, h2, _⟩ := ok; exact ⟨v, h2⟩
    | own ds => obtain ⟨l, xs, h1, _⟩ := ok; exact ⟨_, h1⟩
    | own2 ds => obtain ⟨l, xs, h1, _⟩ := ok; exact ⟨_, h1⟩
    | obj ds => obtain ⟨o, dx, a, as, h1, _⟩ := ok; exact ⟨_, h1⟩
    | rcv ds ts => obtain ⟨t, vt, o, dx, a, as, h1, _⟩ := ok; exact ⟨_, h1⟩
    | dI kvs => obtain ⟨p, ks, h1, _⟩ := ok; exact ⟨_, h1⟩
    | dT kvs => obtain ⟨p, ks, h1, _⟩ := ok; exact ⟨_, h1⟩
    | scr K ns => obtain ⟨_, a, h1, _⟩ := ok; exact ⟨_, h1⟩
  rw [e] at ok
  exact ⟨v, join_some e, kr s v H (fp i) hR x0 (h0 i) (S.nd i) (ok.mono (Wo_less fun b q => q.imp id fun q => ⟨i, q⟩) fun b o e _ => e)⟩
theorem go_retN (hR : R (.dat .none)) : Go C T tRetN Γ N R := fun H0 lo H σ D ⟨fp, S, h0, x0⟩ kn kr => kr (.dat .none) .non H [] hR x0 (fun l hl => by cases hl) List.nodup_nil ⟨rfl, _, rfl, .non⟩
theorem go_if {b : Bool} (h : Et C T tt Γ b) (h1 : b = true → Go C T t Γ N R) (h2 : b = false → Go C T u Γ N R) : Go C T (tIfS tt t u) Γ N R := fun H0 lo H σ D ⟨fp, S, h0, x0⟩ kn kr =>
  h fp lo H σ _ S fun H' x => by
    have S' : Sta C T H0 lo H' σ Γ := ⟨fp, S.step x, h0, x0.trans x⟩
    cases b with
    | true => exact iteT (h1 rfl H0 lo H' σ D S' kn kr)
    | false => exact iteF (h2 rfl H0 lo H' σ D S' kn kr)
/-- if, then the rest: the rest is shown for each way -/
theorem gi {b : Bool} {t1 t2 : TS} (h : Et C T tt Γ b) (h1 : b = true → Go C T (tSeq t1 u) Γ N R) (h2 : b = false → Go C T (tSeq t2 u) Γ N R) : Go C T (tSeq (tIfS tt t1 t2) u) Γ N R := fun H0 lo H σ D ⟨fp, S, h0, x0⟩ kn kr =>
  h fp lo H σ _ S fun H' x => by
    have S' : Sta C T H0 lo H' σ Γ := ⟨fp, S.step x, h0, x0.trans x⟩
    cases b with
    | true => exact iteT (h1 rfl H0 lo H' σ D S' kn kr)
    | false => exact iteF (h2 rfl H0 lo H' σ D S' kn kr)
theorem gn (k : Go C T u Γ N R) : Go C T (tSeq tNext u) Γ N R := fun H0 lo H σ D S kn kr => k H0 lo H σ D S kn kr
theorem go_frz {i : Nat} (h : Γ[i]? = some (.own ds)) (k : Go C T t (Γ.set i (.dat (.list ds))) N R) : Go C T t Γ N R := fun H0 lo H σ D S kn kr => k H0 lo H σ D (S.frz h) kn kr
theorem go_frz2 {i : Nat} {dss : List (List PyData)} (h : Γ[i]? = some (.own2 dss)) (k : Go C T t (Γ.set i (.dat (.list (dss.map .list)))) N R) : Go C T t Γ N R := fun H0 lo H σ D S kn kr => k H0 lo H σ D (S.frz2 h) kn kr
theorem go_frzO {i : Nat} {dss : List (List PyData)} (h : Γ[i]? = some (.obj dss)) (k : Go C T t (Γ.set i (.dat (objD (dss.map .list)))) N R) : Go C T t Γ N R := fun H0 lo H σ D S kn kr => k H0 lo H σ D (S.frzO h) kn kr

/-- for: G the slots at each turn, P what else is known there -/
theorem go_for {α : Type} {wi : TI} {g : TG} {tb : TS} (xs : List α) (enc : α → PyData) (G : Nat → List Sl) (P : Nat → Prop) (hi : Ei C T wi Γ (xs.map enc)) (l0 : Le Γ (G 0)) (p0 : P 0)
    (hs : ∀ (i : Nat) (x : α), xs[i]? = some x → P i → ∃ uu js, Tgt C T g (enc x) uu js ∧ (∀ j, j ∈ js → NO (G i) j = true) ∧ Go C T tb (uu (G i)) (fun Γ' => Le Γ' (G (i + 1)) ∧ P (i + 1)) R)
    (hd : P xs.length → N (G xs.length)) : Go C T (tFor wi g tb) Γ N R := fun H0 lo H σ D ⟨fp, S, h0, x0⟩ kn kr =>
  hi fp lo H σ _ S fun J Gd Y H1 x1 w hG hY => by
    have S1 := S.step x1
    have x01 := x0.trans x1
    let Ow : AS := fun b => ∃ i, b ∈ fp i
    have hOw : ∀ b, Ow b → ∃ o, H1 b = some o ∧ HotO o := fun b q => S1.hots b (.inr q)
    -- the heap at the loop's start, what is owned apart
    have b0 : XT T H0 (Wo Ow H1) := ⟨fun b o e n => by
      rw [Wo_out fun ⟨i, q⟩ => by rw [h0 i b q] at e; cases e]
      exact x01.kp b o e n, fun b e => by
      by_cases q : Ow b
      · obtain ⟨i, q⟩ := q
        exact h0 i b q
      · rw [Wo_out q] at e
        exact x01.al b e, fun t => tabs_wo (x01.tb t) hOw⟩
    have b1 : XT T (Wo Ow H1) H1 := ⟨Wo_sub, fun b e => by
      by_cases q : Ow b
      · exact Wo_in q
      · rw [Wo_out q]
        exact e, fun _ => S1.tabs⟩
    have fresh0 : ∀ b, Wo Ow H1 b = none → H0 b = none := b0.al
    let P' : Nat → L2.St → Hp → Prop := fun i σ2 H2 => Sta C T (Wo Ow H1) lo H2 σ2 (G i) ∧ P i
    have ext : ∀ {fp2 H2 σ2 Γ2}, Sa C T fp2 lo H2 σ2 Γ2 → (∀ i l, l ∈ fp2 i → Wo Ow H1 l = none) → XT T (Wo Ow H1) H2 → LamX.ExtN (Wo (Mh fp lo) H1) (Wo (Mh fp2 lo) H2) := fun {fp2 H2 σ2 Γ2} S2 f2 x2 b o e n => by
      obtain ⟨e1, e2⟩ := Wo_some e
      have e3 : Wo Ow H1 b = some o := by
        rw [Wo_out fun q => e1 (.inr q)]
        exact e2
      rw [Wo_out fun q => ?_]
      · exact x2.kp b o e3 n
      · rcases q with q | ⟨i, q⟩
        · exact e1 (.inl q)
        · rw [f2 i b q] at e3
          cases e3
    refine for_it (n := (xs.map enc).length) w P' ⟨Sta.le ⟨fp, S1, fun i l hl => Wo_in ⟨i, hl⟩, b1⟩ l0, p0⟩ (fun i σ2 H2 _ h => ?_) ?_ ?_
    · obtain ⟨⟨fp2, S2, f2, x2⟩, _⟩ := h
      exact hG _ _ (ext S2 f2 x2)
    · rintro i x σ2 H2 H3 hin ⟨⟨fp2, S2, f2, x2⟩, pi⟩ hy
      rw [List.length_map] at hin
      have hxi : xs[i]? = some (xs[i]'hin) := List.getElem?_eq_getElem hin
      obtain ⟨x23, rx⟩ := hY i (enc (xs[i]'hin)) (Mh fp2 lo) H2 x H3 (by rw [List.getElem?_map, hxi]; rfl) (ext S2 f2 x2) (fun b q => S2.al b q) hy
      obtain ⟨uu, js, tg, hno, gob⟩ := hs i _ hxi pi
      refine tg.run fp2 lo H3 σ2 _ x _ (S2.step x23) hno rx fun σ3 S3 _ => ?_
      refine gob (Wo Ow H1) lo H3 σ3 { D with nx := P' (i + 1), ct := P' (i + 1), bk := D.nx } ⟨fp2, S3, f2, x2.trans x23⟩ (fun Γ' σ4 H4 n S4 => ⟨S4.le n.1, n.2⟩) fun s v H4 fpn r x4 fr nd ok => ?_
      exact kr s v H4 fpn r (b0.trans x4) (fun l hl => fresh0 l (fr l hl)) nd ok
    · rintro σ2 H2 ⟨⟨fp2, S2, f2, x2⟩, pn⟩
      rw [List.length_map] at S2 pn
      exact kn _ σ2 H2 (hd pn) ⟨fp2, S2, fun i l hl => fresh0 l (f2 i l hl), b0.trans x2⟩
/-- for, then the rest -/
theorem gf {α : Type} {wi : TI} {g : TG} {tb : TS} (xs : List α) (enc : α → PyData) (G : Nat → List Sl) (P : Nat → Prop) (hi : Ei C T wi Γ (xs.map enc)) (l0 : Le Γ (G 0)) (p0 : P 0)
    (hs : ∀ (i : Nat) (x : α), xs[i]? = some x → P i → ∃ uu js, Tgt C T g (enc x) uu js ∧ (∀ j, j ∈ js → NO (G i) j = true) ∧ Go C T tb (uu (G i)) (fun Γ' => Le Γ' (G (i + 1)) ∧ P (i + 1)) R)
    (hd : P xs.length → Go C T u (G xs.length) N R) : Go C T (tSeq (tFor wi g tb) u) Γ N R :=
  go_seq (M := fun Γ' => Γ' = G xs.length ∧ P xs.length) (go_for xs enc G P hi l0 p0 hs fun p => ⟨rfl, p⟩) fun Γ' e => by rw [e.1]; exact hd e.2
/-- while -/
theorem go_while {α : Type} {tb : TS} (G : α → List Sl) (P : α → Prop) (μ : α → Nat) (a0 : α) (l0 : Le Γ (G a0)) (p0 : P a0)
    (hs : ∀ a, P a → ∃ b, Et C T tt (G a) b ∧ (b = true → Go C T tb (G a) (fun Γ' => ∃ a', P a' ∧ μ a' < μ a ∧ Le Γ' (G a')) R) ∧ (b = false → N (G a))) : Go C T (tWhile tt tb) Γ N R := fun H0 lo H σ D S kn kr => by
  refine ⟨fun m σ2 H2 => ∃ a, P a ∧ m = μ a ∧ Sta C T H0 lo H2 σ2 (G a), ⟨_, a0, p0, rfl, S.le l0⟩, ?_⟩
  rintro m σ2 H2 ⟨a, pa, rfl, ⟨fp, S2, f2, x2⟩⟩
  obtain ⟨b, hb, ht, hf⟩ := hs a pa
  refine hb fp lo H2 σ2 _ S2 fun H3 x23 => ?_
  have S3 : Sta C T H0 lo H3 σ2 (G a) := ⟨fp, S2.step x23, f2, x2.trans x23⟩
  cases b with
  | true =>
    refine iteT ⟨fun σ4 H4 => ∃ a', P a' ∧ μ a' < μ a ∧ Sta C T H0 lo H4 σ4 (G a'), fun σ4 H4 ⟨a', p', l', S4⟩ => ⟨_, l', a', p', rfl, S4⟩, ?_⟩
    exact ht rfl H0 lo H3 σ2 _ S3 (fun Γ' σ4 H4 ⟨a', p', l', le⟩ S4 => ⟨a', p', l', S4.le le⟩) kr
  | false => exact iteF (kn _ σ2 H3 (hf rfl) S3)

/-! ### lists that a slot owns -/
theorem sz {n : Nat} (h : n ≤ 1000000) : n < sizeLine := Nat.lt_of_le_of_lt h (by decide)
theorem orM_nil {M : AS} {H : Hp} : Wo (orM M []) H = Wo M H := by
  have e : orM M [] = M := funext fun b => propext ⟨fun q => q.elim id (fun q => by cases q), .inl⟩
  rw [e]
theorem orM_in {fp : Nat → List Addr} {lo : AS} {i : Nat} {H : Hp} : Wo (orM (Mh fp lo) (fp i)) H = Wo (Mh fp lo) H := by
  have e : orM (Mh fp lo) (fp i) = Mh fp lo := funext fun b => propext ⟨fun q => q.elim id fun q => .inr ⟨i, q⟩, .inl⟩
  rw [e]
/-- a list in slot i is changed to another one -/
theorem Sa.mutOwn {fp : Nat → List Addr} {i : Nat} {ds ds' : List PyData} {l : Addr} {xs' : List V} (S : Sa C T fp lo H σ Γ) (h0 : ∀ i l, l ∈ fp i → H0 l = none) (x0 : XT T H0 H) (x : XT T H H1) (h : Γ[i]? = some (.own ds))
    (hj : (σ[i]?).join = some (.ref l)) (hfp : fp i = [l]) (r : RpA C (Wo (Mh fp lo) H1) xs' ds') : Sta C T H0 lo (upd H1 l (.lst xs')) σ (Γ.set i (.own ds')) := by
  refine S.mut (fpi := fp i) h0 x0 x (by rw [hfp]; exact List.mem_cons_self) (o := .lst xs') trivial (fun b hb => .inl hb) (S.nd i) ?_
  rw [orM_in]
  exact ⟨l, xs', hj, hfp, upd_same, r⟩
theorem go_app {i : Nat} (h : Γ[i]? = some (.own ds)) (he : Ed C T te Γ d) (hz : ds.length ≤ 1000000) (hN : N (Γ.set i (.own (ds ++ [d])))) : Go C T (tDrop (tBM K "list" rAppend (tVar i) (tCons te tNil))) Γ N R := fun H0 lo H σ D ⟨fp, S, h0, x0⟩ kn kr => by
  obtain ⟨l, xs, h1, h2, h3, h4⟩ := S.ok i _ h
  refine ⟨.ref l, join_some h1, .inl ⟨rfl, xs, SqL.of h3⟩, he fp lo H σ _ S fun v H1 x r => ?_⟩
  exact ⟨l, xs, v, rfl, rfl, x.kp _ _ h3 nt_lst, by rw [h4.length]; exact sz hz, kn _ σ _ hN (S.mutOwn h0 x0 x h h1 h2 ((RpA.up x h4).snoc r))⟩
theorem ga {i : Nat} (h : Γ[i]? = some (.own ds)) (he : Ed C T te Γ d) (hz : ds.length ≤ 1000000) (k : Go C T u (Γ.set i (.own (ds ++ [d]))) N R) : Go C T (tSeq (tDrop (tBM K "list" rAppend (tVar i) (tCons te tNil))) u) Γ N R :=
  go_seq (go_app (N := fun Γ' => Γ' = Γ.set i (.own (ds ++ [d]))) h he hz rfl) fun Γ' e => by rw [e]; exact k
theorem go_extend {i : Nat} {es : List PyData} (h : Γ[i]? = some (.own ds)) (he : Es C T te Γ es) (hz : ds.length + es.length ≤ 1000000) (hN : N (Γ.set i (.own (ds ++ es)))) : Go C T (tDrop (tBM K "list" rExtend (tVar i) (tCons te tNil))) Γ N R := fun H0 lo H σ D ⟨fp, S, h0, x0⟩ kn kr => by
  obtain ⟨l, xs, h1, h2, h3, h4⟩ := S.ok i _ h
  refine ⟨.ref l, join_some h1, .inl ⟨rfl, xs, SqL.of h3⟩, he fp lo H σ _ S fun b ys H1 x r1 r2 => ?_⟩
  exact ⟨l, b, xs, ys, rfl, rfl, x.kp _ _ h3 nt_lst, r1, by rw [h4.length, r2.length]; exact Nat.le_of_lt (sz hz), kn _ σ _ hN (S.mutOwn h0 x0 x h h1 h2 ((RpA.up x h4).append r2))⟩
def rInsQ : V → List V → Hp → VK → Prop := fun x vs H Q => ∃ (l : Addr) (xs : List V) (i : Int) (y : V), x = .ref l ∧ vs = [.int i, y] ∧ H l = some (.lst xs) ∧ xs.length < sizeLine ∧ 0 ≤ i ∧ i < 2 ^ 63 ∧
    Q .non (upd H l (.lst (xs.take i.toNat ++ [y] ++ xs.drop i.toNat)))
theorem go_insert {i : Nat} {k : Int} (h : Γ[i]? = some (.own ds)) (hk : Ed C T ta Γ (.int k)) (he : Ed C T te Γ d) (hz : ds.length ≤ 1000000) (k0 : 0 ≤ k) (k1 : k ≤ 1000000) (hN : N (Γ.set i (.own (ds.take k.toNat ++ [d] ++ ds.drop k.toNat)))) :
    Go C T (tDrop (tBM K "list" rInsQ (tVar i) (tCons ta (tCons te tNil)))) Γ N R := fun H0 lo H σ D ⟨fp, S, h0, x0⟩ kn kr => by
  obtain ⟨l, xs, h1, h2, h3, h4⟩ := S.ok i _ h
  refine ⟨.ref l, join_some h1, .inl ⟨rfl, xs, SqL.of h3⟩, hk fp lo H σ _ S fun v H1 x r => he fp lo H1 σ _ (S.step x) fun y H2 x2 r2 => ?_⟩
  have x' := x.trans x2
  have r4 := RpA.up x' h4
  exact ⟨l, xs, k, y, rfl, by rw [r.int_eq], x'.kp _ _ h3 nt_lst, by rw [h4.length]; exact sz hz, k0, by omega, kn _ σ _ hN (S.mutOwn h0 x0 x' h h1 h2 (((r4.take k.toNat).append (.cons r2 .nil)).append (r4.drop k.toNat)))⟩
/-! lists of lists -/
theorem Rows.set : ∀ {as : List Addr} {dss : List (List PyData)} {j : Nat} {b : Addr} {W H : Hp} {xs : List V} {ds : List PyData}, Rows C W H as dss → as.Nodup → as[j]? = some b → RpA C W xs ds → Rows C W (upd H b (.lst xs)) as (dss.set j ds)
  | _, _, _, _, _, _, _, _, .nil, _, e, _ => by simp at e
  | _, _, 0, b, W, H, xs, ds, .cons (a := a0) h t, nd, e, r => by
    have e : some a0 = some b := e
    cases e
    obtain ⟨h1, h2⟩ := List.nodup_cons.mp nd
    exact .cons ⟨xs, upd_same, r⟩ (Rows.mono t (LamX.ExtN.refl _) fun c hc ys hy => by rw [upd_ne fun z => h1 (by rw [← z]; exact hc)]; exact hy)
  | _, _, j + 1, b, W, H, xs, ds, .cons (a := a0) ⟨ys, hy, q⟩ t, nd, e, r => by
    obtain ⟨h1, h2⟩ := List.nodup_cons.mp nd
    exact .cons ⟨ys, by rw [upd_ne fun z => h1 (by rw [z]; exact List.mem_of_getElem? e)]; exact hy, q⟩ (Rows.set t h2 e r)
/-- xss[k].append(e) -/
theorem go_app2 {i j : Nat} {k : Int} {dss : List (List PyData)} (h : Γ[i]? = some (.own2 dss)) (hk : Ed C T tb Γ (.int k)) (hj : ixN dss.length k = some j) (hds : dss[j]? = some ds) (he : Ed C T te Γ d) (hz : ds.length ≤ 1000000) (hN : N (Γ.set i (.own2 (dss.set j (ds ++ [d]))))) :
    Go C T (tDrop (tBM K "list" rAppend (tOp (rIxL K) (tVar i) tb) (tCons te tNil))) Γ N R := fun H0 lo H σ D ⟨fp, S, h0, x0⟩ kn kr => by
  obtain ⟨l, as, h1, h2, h3, h4⟩ := S.ok i _ h
  obtain ⟨b, xs, g1, g2, g3⟩ := h4.get hds
  refine ⟨.ref l, join_some h1, hk fp lo H σ _ S fun v H1 x r => ?_⟩
  refine ⟨l, as.map V.ref, k, .ref b, rfl, r.int_eq, SqL.of (x.kp _ _ h3 nt_lst), ?_, .inl ⟨rfl, xs, SqL.of (x.kp _ _ g2 nt_lst)⟩, he fp lo H1 σ _ (S.step x) fun y H2 x2 r2 => ?_⟩
  · unfold L2.atI
    rw [List.length_map, h4.length, hj]
    show (as.map V.ref)[j]? = some (V.ref b)
    rw [List.getElem?_map, g1]
    rfl
  · have x' := x.trans x2
    have hb : b ∈ fp i := by rw [h2]; exact List.mem_cons_of_mem _ (List.mem_of_getElem? g1)
    have nd := S.nd i
    rw [h2] at nd
    obtain ⟨n1, n2⟩ := List.nodup_cons.mp nd
    refine ⟨b, xs, y, rfl, rfl, x'.kp _ _ g2 nt_lst, by rw [g3.length]; exact sz hz, kn _ σ _ hN (S.mut (fpi := fp i) h0 x0 x' hb (o := .lst (xs ++ [y])) trivial (fun c hc => .inl hc) (S.nd i) ?_)⟩
    rw [orM_in]
    refine ⟨l, as, h1, h2, ?_, ?_⟩
    · rw [upd_ne fun z => n1 (by rw [z]; exact List.mem_of_getElem? g1)]
      exact x'.kp _ _ h3 nt_lst
    · exact (h4.mono (Sa.ext x') fun c _ ys hy => x'.kp _ _ hy nt_lst).set n2 g1 ((RpA.up x' g3).snoc r2)
/-- xss.append(a new list) -/
theorem Rows.snoc : ∀ {as : List Addr} {dss : List (List PyData)} {W H : Hp} {b : Addr} {xs : List V} {ds : List PyData}, Rows C W H as dss → H b = some (.lst xs) → RpA C W xs ds → Rows C W H (as ++ [b]) (dss ++ [ds])
  | _, _, _, _, _, _, _, .nil, h, r => .cons ⟨_, h, r⟩ .nil
  | _, _, _, _, _, _, _, .cons q t, h, r => .cons q (Rows.snoc t h r)
theorem go_appN {i : Nat} {dss : List (List PyData)} (h : Γ[i]? = some (.own2 dss)) (he : Ef C T te Γ (.own ds)) (hz : dss.length ≤ 1000000) (hN : N (Γ.set i (.own2 (dss ++ [ds])))) : Go C T (tDrop (tBM K "list" rAppend (tVar i) (tCons te tNil))) Γ N R := fun H0 lo H σ D ⟨fp, S, h0, x0⟩ kn kr => by
  obtain ⟨l, as, h1, h2, h3, h4⟩ := S.ok i _ h
  refine ⟨.ref l, join_some h1, .inl ⟨rfl, _, SqL.of h3⟩, he fp lo H σ _ S fun v H1 fpn x fr nd ok => ?_⟩
  obtain ⟨b, xs, e1, e2, e3, e4⟩ := ok
  cases e1
  subst e2
  have hb : H b = none := fr b List.mem_cons_self
  have hlb : l ≠ b := ne_of_none h3 hb
  refine ⟨l, as.map V.ref, .ref b, rfl, rfl, x.kp _ _ h3 nt_lst, by rw [List.length_map, h4.length]; exact sz hz, ?_⟩
  refine kn _ σ _ hN (S.mut (fpi := l :: (as ++ [b])) h0 x0 x (l := l) (by rw [h2]; exact List.mem_cons_self) (o := .lst (as.map V.ref ++ [V.ref b])) trivial (fun c hc => ?_) ?_ ?_)
  · rw [h2]
    rcases List.mem_cons.mp hc with hc | hc
    · exact .inl (by rw [hc]; exact List.mem_cons_self)
    · rcases List.mem_append.mp hc with hc | hc
      · exact .inl (List.mem_cons_of_mem _ hc)
      · exact .inr (by rw [List.mem_singleton.mp hc]; exact hb)
  · have nd := S.nd i
    rw [h2] at nd
    obtain ⟨n1, n2⟩ := List.nodup_cons.mp nd
    refine List.nodup_cons.mpr ⟨fun q => ?_, List.nodup_append.mpr ⟨n2, by simp, fun c hc c' hc' z => ?_⟩⟩
    · rcases List.mem_append.mp q with q | q
      · exact n1 q
      · exact hlb (List.mem_singleton.mp q)
    · rw [List.mem_singleton.mp hc'] at z
      obtain ⟨ys, hy⟩ := h4.all c hc
      rw [z, hb] at hy
      cases hy
  · have eM : LamX.ExtN (Wo (orM (Mh fp lo) [b]) H1) (Wo (orM (Mh fp lo) (l :: (as ++ [b]))) H1) := Wo_less fun c q => by
      rcases q with q | q
      · exact .inl q
      · rcases List.mem_cons.mp q with q | q
        · exact .inl (.inr ⟨i, by rw [h2, q]; exact List.mem_cons_self⟩)
        · rcases List.mem_append.mp q with q | q
          · exact .inl (.inr ⟨i, by rw [h2]; exact List.mem_cons_of_mem _ q⟩)
          · exact .inr q
    have eM0 : LamX.ExtN (Wo (Mh fp lo) H) (Wo (orM (Mh fp lo) (l :: (as ++ [b]))) H1) := fun c o e n => by
      refine eM c o ?_ n
      refine Wo_ext (M := Mh fp lo) (fun c o hc ho q => ?_) x.kp c o e n
      rcases q with q | q
      · exact hc q
      · rw [List.mem_singleton.mp q, hb] at ho
        cases ho
    refine ⟨l, as ++ [b], h1, rfl, ?_, ?_⟩
    · rw [upd_same, List.map_append]
      rfl
    · refine Rows.snoc (h4.mono eM0 fun c hc ys hy => ?_) ?_ (e4.mono eM)
      · rw [upd_ne fun z => ?_]
        · exact x.kp _ _ hy nt_lst
        · have nd := S.nd i
          rw [h2] at nd
          exact (List.nodup_cons.mp nd).1 (by rw [← z]; exact hc)
      · rw [upd_ne hlb.symm]
        exact e3
/-- xss[k] = a new list -/
theorem Rows.setA : ∀ {as : List Addr} {dss : List (List PyData)} {W H : Hp} {j : Nat} {b : Addr} {xs : List V} {ds : List PyData}, Rows C W H as dss → H b = some (.lst xs) → RpA C W xs ds → Rows C W H (as.set j b) (dss.set j ds)
  | _, _, _, _, _, _, _, _, .nil, h, r => .nil
  | _, _, _, _, 0, _, _, _, .cons q t, h, r => .cons ⟨_, h, r⟩ t
  | _, _, _, _, j + 1, _, _, _, .cons q t, h, r => .cons q (Rows.setA t h r)
theorem nodup_set {as : List Addr} {b : Addr} (nd : as.Nodup) (hb : ¬ b ∈ as) : ∀ j, (as.set j b).Nodup := by
  induction as with
  | nil => intro j; exact nd
  | cons a r ih =>
    obtain ⟨n1, n2⟩ := List.nodup_cons.mp nd
    have hb1 : ¬ b ∈ r := fun q => hb (List.mem_cons_of_mem _ q)
    have hb2 : ¬ b = a := fun q => hb (by rw [q]; exact List.mem_cons_self)
    intro j
    cases j with
    | zero => exact List.nodup_cons.mpr ⟨hb1, n2⟩
    | succ j =>
      refine List.nodup_cons.mpr ⟨fun q => ?_, ih n2 hb1 j⟩
      rcases List.mem_or_eq_of_mem_set q with q | q
      · exact n1 q
      · exact hb2 q.symm
theorem go_setN {i j : Nat} {k : Int} {dss : List (List PyData)} (h : Γ[i]? = some (.own2 dss)) (he : Ef C T te Γ (.own ds)) (hk : Ed C T tb Γ (.int k)) (hj : ixN dss.length k = some j) (hN : N (Γ.set i (.own2 (dss.set j ds)))) :
    Go C T (tAsg te (gSub (tVar i) tb rSetL)) Γ N R := fun H0 lo H σ D ⟨fp, S, h0, x0⟩ kn kr => by
  obtain ⟨l, as, h1, h2, h3, h4⟩ := S.ok i _ h
  refine he fp lo H σ _ S fun v H1 fpn x fr nd ok => ?_
  obtain ⟨b, xs, e1, e2, e3, e4⟩ := ok
  cases e1
  subst e2
  have hb : H b = none := fr b List.mem_cons_self
  have hlb : l ≠ b := ne_of_none h3 hb
  refine ⟨.ref l, join_some h1, hk fp lo H1 σ _ (S.step x) fun w H2 x2 r2 => ?_⟩
  have x' := x.trans x2
  refine ⟨l, as.map V.ref, k, j, rfl, r2.int_eq, x'.kp _ _ h3 nt_lst, by rw [List.length_map, h4.length]; exact hj, ?_⟩
  have nd := S.nd i
  rw [h2] at nd
  obtain ⟨n1, n2⟩ := List.nodup_cons.mp nd
  have hbas : ¬ b ∈ as := fun q => by
    obtain ⟨ys, hy⟩ := h4.all b q
    rw [hb] at hy
    cases hy
  have hmem : ∀ {c}, c ∈ as.set j b → c ∈ as ∨ c = b := fun {c} q => List.mem_or_eq_of_mem_set q
  refine kn _ σ _ hN (S.mut (fpi := l :: as.set j b) h0 x0 x' (l := l) (by rw [h2]; exact List.mem_cons_self) (o := .lst ((as.map V.ref).set j (V.ref b))) trivial (fun c hc => ?_) ?_ ?_)
  · rw [h2]
    rcases List.mem_cons.mp hc with hc | hc
    · exact .inl (by rw [hc]; exact List.mem_cons_self)
    · rcases hmem hc with hc | hc
      · exact .inl (List.mem_cons_of_mem _ hc)
      · exact .inr (by rw [hc]; exact hb)
  · refine List.nodup_cons.mpr ⟨fun q => ?_, nodup_set n2 hbas j⟩
    rcases hmem q with q | q
    · exact n1 q
    · exact hlb q
  · have eM : LamX.ExtN (Wo (orM (Mh fp lo) [b]) H2) (Wo (orM (Mh fp lo) (l :: as.set j b)) H2) := Wo_less fun c q => by
      rcases q with q | q
      · exact .inl q
      · rcases List.mem_cons.mp q with q | q
        · exact .inl (.inr ⟨i, by rw [h2, q]; exact List.mem_cons_self⟩)
        · rcases hmem q with q | q
          · exact .inl (.inr ⟨i, by rw [h2]; exact List.mem_cons_of_mem _ q⟩)
          · exact .inr (List.mem_singleton.mpr q)
    have eM0 : LamX.ExtN (Wo (Mh fp lo) H) (Wo (orM (Mh fp lo) (l :: as.set j b)) H2) := fun c o e n => by
      refine eM c o ?_ n
      refine Wo_ext (M := Mh fp lo) (fun c o hc ho q => ?_) x'.kp c o e n
      rcases q with q | q
      · exact hc q
      · rw [List.mem_singleton.mp q, hb] at ho
        cases ho
    refine ⟨l, as.set j b, h1, rfl, ?_, ?_⟩
    · rw [upd_same, List.map_set]
    · refine Rows.setA (h4.mono eM0 fun c hc ys hy => ?_) ?_ ((RpA.up x2 e4).mono eM)
      · rw [upd_ne fun z => n1 (by rw [← z]; exact hc)]
        exact x'.kp _ _ hy nt_lst
      · rw [upd_ne hlb.symm]
        exact x2.kp _ _ e3 nt_lst
/-- xss[k][m] = e -/
theorem go_set2 {i j n : Nat} {k m : Int} {dss : List (List PyData)} (h : Γ[i]? = some (.own2 dss)) (he : Ed C T te Γ d) (hk : Ed C T tb Γ (.int k)) (hj : ixN dss.length k = some j) (hds : dss[j]? = some ds) (hm : Ed C T tc Γ (.int m)) (hn : ixN ds.length m = some n)
    (hN : N (Γ.set i (.own2 (dss.set j (ds.set n d))))) : Go C T (tAsg te (gSub (tOp (rIxL K) (tVar i) tb) tc rSetL)) Γ N R := fun H0 lo H σ D ⟨fp, S, h0, x0⟩ kn kr => by
  obtain ⟨l, as, h1, h2, h3, h4⟩ := S.ok i _ h
  obtain ⟨b, xs, g1, g2, g3⟩ := h4.get hds
  refine he fp lo H σ _ S fun v H1 x r => ?_
  refine ⟨.ref l, join_some h1, hk fp lo H1 σ _ (S.step x) fun w H2 x2 r2 => ?_⟩
  have S2 := (S.step x).step x2
  refine ⟨l, as.map V.ref, k, .ref b, rfl, r2.int_eq, SqL.of ((x.trans x2).kp _ _ h3 nt_lst), ?_, hm fp lo H2 σ _ S2 fun y H3 x3 r3 => ?_⟩
  · unfold L2.atI
    rw [List.length_map, h4.length, hj]
    show (as.map V.ref)[j]? = some (V.ref b)
    rw [List.getElem?_map, g1]
    rfl
  · have x' := (x.trans x2).trans x3
    have hb : b ∈ fp i := by rw [h2]; exact List.mem_cons_of_mem _ (List.mem_of_getElem? g1)
    have nd := S.nd i
    rw [h2] at nd
    obtain ⟨n1, n2⟩ := List.nodup_cons.mp nd
    refine ⟨b, xs, m, n, rfl, r3.int_eq, x'.kp _ _ g2 nt_lst, by rw [g3.length]; exact hn, kn _ σ _ hN (S.mut (fpi := fp i) h0 x0 x' hb (o := .lst (xs.set n v)) trivial (fun c hc => .inl hc) (S.nd i) ?_)⟩
    rw [orM_in]
    refine ⟨l, as, h1, h2, ?_, ?_⟩
    · rw [upd_ne fun z => n1 (by rw [z]; exact List.mem_of_getElem? g1)]
      exact x'.kp _ _ h3 nt_lst
    · exact (h4.mono (Sa.ext x') fun c _ ys hy => x'.kp _ _ hy nt_lst).set n2 g1 ((RpA.up x' g3).set (Rp.up (x2.trans x3) r) n)

/-! ### a def's body -/
theorem go_enter {vs : List V} {N0 : List Str} {Q : VK} {s0 : Sl} {n : Nat} (hr : RpA C (Wo lo H) vs ds) (hlo : ∀ l, lo l → ∃ o, H l = some o ∧ HotO o) (ht : LamX.Tabs T H)
    (k : ∀ v H' fpn, XT T H H' → (∀ l, l ∈ fpn → H l = none) → fpn.Nodup → SlOk C (Wo (orM lo fpn) H') H' s0 (some v) fpn → Q v H')
    (hn : n = N0.length - ds.length) (hg : Go C T t (ds.map Sl.dat ++ List.replicate n .un) (fun _ => s0 = .dat .none) (fun s => s = s0)) : t { nx := fun _ H' => Q .non H', rt := Q } (L2.start N0 vs) H := by
  have eM : Mh (fun _ => ([] : List Addr)) lo = lo := funext fun b => propext ⟨fun q => q.elim id fun ⟨_, q⟩ => absurd q (by simp), .inl⟩
  refine hg H lo H (L2.start N0 vs) _ ⟨fun _ => [], ⟨?_, fun i s h => ?_, fun _ _ => rfl, fun i j l h => absurd h (by simp), fun _ => List.nodup_nil, fun i l h => absurd h (by simp), hlo, ht⟩, fun i l h => absurd h (by simp), XT.refl T H⟩ (fun Γ' σ' H' e S => ?_) fun s v H' fpn e x fr nd ok => ?_
  · unfold L2.start
    rw [List.length_append, List.length_append, List.length_map, List.length_map, List.length_replicate, List.length_replicate, hr.length, hn]
  · rw [eM]
    unfold L2.start
    by_cases hi : i < ds.length
    · rw [List.getElem?_append_left (by rw [List.length_map]; exact hi), List.getElem?_map, List.getElem?_eq_getElem hi] at h
      cases h
      obtain ⟨v, h1, h2⟩ := hr.get (List.getElem?_eq_getElem hi)
      rw [List.getElem?_append_left (by rw [List.length_map, hr.length]; exact hi), List.getElem?_map, h1]
      exact ⟨rfl, v, rfl, h2⟩
    · rw [List.getElem?_append_right (by rw [List.length_map]; omega), List.getElem?_replicate] at h
      split at h
      · cases h
        exact rfl
      · cases h
  · obtain ⟨fp, S, h0, x0⟩ := S
    exact k .non H' [] x0 (fun l hl => by cases hl) List.nodup_nil (by rw [e]; exact ⟨rfl, _, rfl, .non⟩)
  · rw [e] at ok
    exact k v H' fpn x fr nd ok
end
end G

set_option maxRecDepth 100000
set_option maxHeartbeats 4000000
/-! The G layer, part 5: the program's text by places, defs that may be called, what the top has left. -/
namespace G
open PySem L2

def topS (i : Nat) : Stmt := PySem.Challenge.pw_quillrun_k07_whole_packets_bring_deeds.main.body.getD i (.Pass ⟨0, 0, 0, 0⟩)

/-- a def that may be called by its name -/
structure Cal (P : Program) (w : World) (K : PySem.W.Frag) (mg : Str → Option Value) (base : Heap) (k : Nat) (x : Str) (sp : Sp) : Prop where
  ex : ∃ (f : Addr) (fd : FuncData) (ps : List Str), FnOk P w K mg base CX0 k f fd ps sp ∧ mg x = some (.ref f) ∧ PySem.W.keepIn K (.ref f) = true ∧ Binds K fd ps []
/-- a method of the class at C -/
structure Met (P : Program) (w : World) (K : PySem.W.Frag) (mg : Str → Option Value) (base : Heap) (k : Nat) (C : Addr) (m : Str) (sp : Sp) : Prop where
  ex : ∃ (f : Addr) (fd : FuncData) (ps : List Str), Cls K C ∧ Meth K C m f ∧ FnOk P w K mg base CX0 k f fd ps sp ∧ Binds K fd ps []
/-- the class, made -/
structure Mak (P : Program) (w : World) (K : PySem.W.Frag) (mg : Str → Option Value) (base : Heap) (k : Nat) (x : Str) (C : Addr) (sp : Sp) : Prop where
  ex : ∃ (f : Addr) (fd : FuncData) (ps : List Str), Mk K C f ∧ FnOk P w K mg base CX0 k f fd ps sp ∧ mg x = some (.ref C) ∧ Binds K fd ps []
/-- a def of the module as it stands behind the top -/
structure Def (K : PySem.W.Frag) (mg : Str → Option Value) (x : Str) (st : Stmt) (ps : List Str) : Prop where
  ex : ∃ (f : Addr) (fd : FuncData), Fun K x x st f fd ∧ mg x = some (.ref f) ∧ Binds K fd ps []
/-- a method of the class -/
structure MDef (K : PySem.W.Frag) (C : Addr) (m qual : Str) (st : Stmt) (ps : List Str) : Prop where
  ex : ∃ (f : Addr) (fd : FuncData), Fun K m qual st f fd ∧ Meth K C m f ∧ Binds K fd ps []
section
variable {P : Program} {w : World} {K : PySem.W.Frag} {mg : Str → Option Value} {base : Heap} {C : Addr}
theorem Def.cal {x : Str} {st : Stmt} {N ps : List Str} {k : Nat} {sp : Sp} (F : Def K mg x st ps) (S : FnScope N ps (defScope st)) (len : ∀ vs H Q E, sp vs H Q E → vs.length = ps.length)
    (hbody : ∀ (f : Addr) (cdv : Value) (A : Around) (outer : List Env) (s : Shared) (H : Hp) (vs : List V) (Q : VK) (E : XK), Room k (A.deeper (PyProof.Rows.envOfC x (defScope st) s.heap.objs.size f cdv)) → sp vs H Q E →
      ∃ t, PSs (cxOf CX0 P w K mg base N x (defScope st) f cdv A outer s H E).nox (defBody st) t ∧ t { nx := fun _ H' => Q .non H', rt := Q } (L2.start N vs) H) : Cal P w K mg base (k + 1) x sp := by
  obtain ⟨f, fd, F, hm, b⟩ := F.ex
  exact ⟨f, fd, ps, F.ok S len (hbody f), hm, F.kp, b⟩
theorem MDef.met {m qual : Str} {st : Stmt} {N ps : List Str} {k : Nat} {sp : Sp} (F : MDef K C m qual st ps) (cl : Cls K C) (S : FnScope N ps (defScope st)) (len : ∀ vs H Q E, sp vs H Q E → vs.length = ps.length)
    (hbody : ∀ (f : Addr) (cdv : Value) (A : Around) (outer : List Env) (s : Shared) (H : Hp) (vs : List V) (Q : VK) (E : XK), Room k (A.deeper (PyProof.Rows.envOfC qual (defScope st) s.heap.objs.size f cdv)) → sp vs H Q E →
      ∃ t, PSs (cxOf CX0 P w K mg base N qual (defScope st) f cdv A outer s H E).nox (defBody st) t ∧ t { nx := fun _ H' => Q .non H', rt := Q } (L2.start N vs) H) : Met P w K mg base (k + 1) C m sp := by
  obtain ⟨f, fd, F, hm, b⟩ := F.ex
  exact ⟨f, fd, ps, cl, hm, F.ok S len (hbody f), b⟩
theorem Cal.mono {x : Str} {k j : Nat} {sp : Sp} (c : Cal P w K mg base k x sp) (h : k ≤ j) : Cal P w K mg base j x sp := by
  obtain ⟨f, fd, ps, F, a⟩ := c.ex
  exact ⟨f, fd, ps, F.mono h, a⟩
/-- the promise's list is as long as the parameters -/
theorem sp_len {α : Type} {C : Addr} {T : Tab} {args : α → List PyData} {pre : α → Prop} {res : α → Sl} {n : Nat} (h : ∀ x, (args x).length = n) : ∀ vs H Q E, spF C T args pre res vs H Q E → vs.length = n := fun vs H Q E ⟨x, lo, r, _⟩ => by
  rw [r.length, h x]
end
section
variable {X : Cx} {x : Str} {k j : Nat} {sp : Sp} {e o : Expr} {es : List Expr} {t : TA} {ta : TE} {p pos apos : Pos} {C : Addr} {m : Str}
theorem pe_c (c : Cal X.prog X.w X.K X.mg X.base k x sp) (hr : Room k X.A) (hg : Gl X x) (ha : PA X (e :: es) t)
    (hdb : (x == ("__debug__" : Str)) = false := by decide) (he : starEach (e :: es) X.env = (false, eval e X.env) :: starEach es X.env := by rfl) (hpl : (backTo pos (starEach es X.env)).any (·.1) = false := by rfl) :
    PE X (.Call (.Name x p) (e :: es) [] pos) (tCall sp [] E0 t) := by
  obtain ⟨f, fd, ps, F, hm, kp, b⟩ := c.ex
  exact pe_call F hr hg hm kp b .nil pass0 ha hdb he hpl
theorem pe_c0 (c : Cal X.prog X.w X.K X.mg X.base k x sp) (hr : Room k X.A) (hg : Gl X x) (hdb : (x == ("__debug__" : Str)) = false := by decide) :
    PE X (.Call (.Name x p) [] [] pos) (tCall sp [] E0 tNil) := by
  obtain ⟨f, fd, ps, F, hm, kp, b⟩ := c.ex
  exact pe_call0 F hr hg hm kp b .nil pass0 hdb
theorem pe_mk (c : Mak X.prog X.w X.K X.mg X.base k x C sp) (hr : Room (k + 1) X.A) (hg : Gl X x) (hdb : (x == ("__debug__" : Str)) = false := by decide) :
    PE X (.Call (.Name x p) [] [] pos) (tMake C sp [] E0 tNil) := by
  obtain ⟨f, fd, ps, M, F, hm, b⟩ := c.ex
  exact pe_make0 M F hr hg hm b .nil pass0 hdb
theorem pe_mt {pl : Sem Bool} (c : Met X.prog X.w X.K X.mg X.base k C m sp) (hr : Room k X.A) (he : PE X o ta) (ha : PA X (e :: es) t)
    (hst : starEach (e :: es) X.env = (false, eval e X.env) :: starEach es X.env := by rfl) (hpl : (backTo pos (starEach es X.env)).any (·.1) = false := by rfl)
    (ht : eval (.Call (.Attribute o m apos) (e :: es) [] pos) X.env = (do
      let ov ← eval o X.env
      standAt apos.atName
      let fm ← holding [ov] (getMethod ov m pl)
      callWith pos fm.1 fm.2 (backTo pos (starEach (e :: es) X.env)) (backToKw pos (keywordEach [] X.env))) := by rfl) : PE X (.Call (.Attribute o m apos) (e :: es) [] pos) (tMeth C m sp [] E0 ta t) := by
  obtain ⟨f, fd, ps, cl, hm, F, b⟩ := c.ex
  exact pe_meth he cl hm F hr b .nil pass0 ha hst hpl ht
theorem pe_mt0 {pl : Sem Bool} (c : Met X.prog X.w X.K X.mg X.base k C m sp) (hr : Room k X.A) (he : PE X o ta)
    (ht : eval (.Call (.Attribute o m apos) [] [] pos) X.env = (do
      let ov ← eval o X.env
      standAt apos.atName
      let fm ← holding [ov] (getMethod ov m pl)
      callWith pos fm.1 fm.2 (backTo pos (starEach [] X.env)) (backToKw pos (keywordEach [] X.env))) := by rfl) : PE X (.Call (.Attribute o m apos) [] [] pos) (tMeth C m sp [] E0 ta tNil) := by
  obtain ⟨f, fd, ps, cl, hm, F, b⟩ := c.ex
  exact pe_meth0 he cl hm F hr b .nil pass0 ht
theorem pe_gc {v : V} (hg : Gl X x) (h : ∃ u, X.mg x = some u ∧ RelV v u) (hd : (x == ("__debug__" : Str)) = false := by decide) : PE X (.Name x pos) (tC v) := by
  obtain ⟨u, hm, r⟩ := h
  exact pe_glob hg hm r hd
theorem pe_ty {n : String} (hg : Gl X x) (hm : X.mg x = none) (hv : bootBuiltins x = some (.type n)) (hn : x ≠ "__name__" := by decide) (hdb : (x == ("__debug__" : Str)) = false := by decide) : PE X (.Name x pos) (tC (.ty n)) := pe_bltn hg hm hv rfl hn hdb
end
/-- what the top has left of the module's names -/
structure Txt (K : PySem.W.Frag) (mg : Str → Option Value) (C : Addr) : Prop where
  cl : Cls K C
  nR : NoAttr K C "rows"
  rep : ∃ u, mg "REPLICAS" = some u ∧ RelV (.int 8) u
  lon : ∃ u, mg "LONGEST_NAME" = some u ∧ RelV (.int 40) u
  m_len : mg "len" = none
  m_range : mg "range" = none
  m_min : mg "min" = none
  m_max : mg "max" = none
  m_int : mg "int" = none
  m_bool : mg "bool" = none
  m_str : mg "str" = none
  m_list : mg "list" = none
  m_tuple : mg "tuple" = none
  m_isinstance : mg "isinstance" = none
  m_sorted : mg "sorted" = none
  m_enumerate : mg "enumerate" = none
  m_zip : mg "zip" = none
  m_all : mg "all" = none
end G

set_option maxRecDepth 100000
set_option maxHeartbeats 4000000
/-! The G layer, part 6: the rules with the written part told (for comprehensions); small lemmas for slots. -/
namespace G
open PySem L2
section
variable {X : Cx} {K : PySem.W.Frag}
theorem ixL (h : X.K = K := by rfl) : IxR X (rIxL K) := by subst h; exact ix_list
theorem ixT (h : X.K = K := by rfl) : IxR X (rIxT K) := by subst h; exact ix_tup
theorem lenQ (h : X.K = K := by rfl) : CallR X (.builtin "len") (rLenQ K) := by subst h; exact call_len_seq
theorem listQ (h : X.K = K := by rfl) : CallR X (.type "list") (rListQ K) := by subst h; exact call_list_of
theorem tupleQ (h : X.K = K := by rfl) : CallR X (.type "tuple") (rTupleQ K) := by subst h; exact call_tuple_of
theorem catA (h : X.K = K := by rfl) : OpR X (binaryOp .Add) (rCatA K) := by subst h; exact op_catA
theorem eqD (hu : X.A.units + 64 < cLine) (h : X.K = K := by rfl) : OpR X (compareOp .Eq) (rEqD K) := by subst h; exact op_eqD hu
theorem neD (hu : X.A.units + 64 < cLine) (h : X.K = K := by rfl) : OpR X (compareOp .NotEq) (rNeD K) := by subst h; exact op_neD hu
theorem notInD (hu : X.A.units + 65 < cLine) (h : X.K = K := by rfl) : OpR X (compareOp .NotIn) (rNotInD K) := by subst h; exact op_notInD hu
theorem indexD (hu : X.A.units + 65 < cLine) (h : X.K = K := by rfl) : MtR X "list.index" (rIndexD K) := by subst h; exact mt_indexD hu
theorem allQ (hc : X.calm = true) (h : X.K = K := by rfl) : CallR X (.builtin "all") (rAll K) := by subst h; exact cr_all hc
theorem slL (h : X.K = K := by rfl) : SlR X (rSlL K) := by subst h; exact sl_list
theorem fldK {e : Expr} {f : Str} {pos : Pos} {ta : TE} (he : PE X e ta) (hb : attributeBase e f X.env (eval e X.env) = eval e X.env) (h : X.K = K := by rfl) : PE X (.Attribute e f pos) (tFld K ta f) := by subst h; exact pe_fld he hb
theorem revK {e : Expr} {te : TE} {k : Nat} {p1 p2 p3 pos : Pos} (he : PE X e te) (h : X.K = K := by rfl) : PE X (.Subscript e (.Slice none none (some (.UnaryOp .USub (.Constant (.int 1) k p1) p2)) p3) pos) (tRevL K te) := by subst h; exact pe_revL he
theorem tupK {es : List Expr} {k : Nat} {pos : Pos} {t : TGs} {n : Nat} (hc : X.calm = true) (hp : PGs X es t) (hn : (assignEach es X.env).length = n := by rfl) (hst : (assignEach es X.env).findIdx? (·.1) = none := by rfl) (h : X.K = K := by rfl) : PG X (.Tuple es k pos) (gTup K n t) := by
  subst h
  exact pg_tup hc hp hn hst
theorem bmK {T : String} {id : String} {name : Str} {r : V → List V → Hp → VK → Prop} {to : TE} {t : TA} {o e : Expr} {es : List Expr} {apos cpos : Pos} (pa : PlainAttrs T) (slot : Slot T name id) (hty : typeOf (.builtin id) = pure (.type "method_descriptor")) (hm : MtR X id r) (ho : PE X o to) (ha : PA X (e :: es) t)
    (hbase : attributeBase o name X.env (eval o X.env) = eval o X.env := by rfl)
    (hfew : ((backTo cpos (starEach (e :: es) X.env)).all (fun x => !x.1) && (backToKw cpos (keywordEach [] X.env)).all (fun x => x.1.isSome) && decide ((e :: es).length + ([] : List Keyword).length + (if ([] : List Keyword).isEmpty then 0 else 1) < 30)) = true := by rfl)
    (hline : (apos.endLine == cpos.line) = true := by rfl) (hs : starEach (e :: es) X.env = (false, eval e X.env) :: starEach es X.env := by rfl) (hplain : (backTo cpos (starEach es X.env)).any (·.1) = false := by rfl) (h : X.K = K := by rfl) :
    PE X (.Call (.Attribute o name apos) (e :: es) [] cpos) (tBM K T r to t) := by
  subst h
  exact pe_bm pa slot hty hm ho ha hbase hfew hline hs hplain
theorem listI {l tg : Expr} {tl : TE} (hl : PE X l tl) (h : X.K = K := by rfl) : PI X tg l (iList K tl) := by subst h; exact pi_list hl
theorem tupI {l tg : Expr} {tl : TE} (hl : PE X l tl) (h : X.K = K := by rfl) : PI X tg l (iTup K tl) := by subst h; exact pi_tup hl
end
section
variable {Γ : List Sl}
theorem no_nil : ∀ j, j ∈ ([] : List Nat) → NO Γ j = true := fun j h => by cases h
theorem no_cons {i : Nat} {js : List Nat} (h : NO Γ i = true) (r : ∀ j, j ∈ js → NO Γ j = true) : ∀ j, j ∈ i :: js → NO Γ j = true := fun j hj => by
  rcases List.mem_cons.mp hj with e | e
  · rw [e]; exact h
  · exact r j e
end
section
variable {C : Addr} {T : Tab} {Γ : List Sl} {ta : TE}
theorem ed_neg {i : Int} (ha : Ed C T ta Γ (.int i)) : Ed C T (tUn (rU fun i => .int (-i)) ta) Γ (.int (-i)) := fun fp lo H σ Q S k => ha fp lo H σ _ S fun v H1 x1 r1 => ⟨i, r1.int_eq, k _ H1 x1 (.int _)⟩
/-- [f x for x in xs] -/
theorem ef_map {α : Type} {wi : TI} {g : TG} {te : TE} {vs : List Nat} (xs : List α) (enc : α → PyData) (f : α → PyData) (hi : Ec C T wi Γ (xs.map enc)) (hz : xs.length ≤ 1000000) (hv : ∀ j, j ∈ vs → NO Γ j = true)
    (hs : ∀ x, x ∈ xs → ∃ u js, Tgt C T g (enc x) u js ∧ (∀ j, j ∈ js → j ∈ vs) ∧ (∀ j, j ∈ js → NO (wipeG Γ vs) j = true) ∧ Ed C T te (u (wipeG Γ vs)) (f x)) : Ef C T (tLc wi g tYes te vs) Γ (.own (xs.map f)) := by
  have h := ef_lc (C := C) (T := T) (Γ := Γ) (wi := wi) (g := g) (te := te) (tt := tYes) (vs := vs) xs enc (fun _ => true) f hi hz hv (fun x hx => by
    obtain ⟨u, js, h1, h2, h3, h4⟩ := hs x hx
    exact ⟨u, js, h1, h2, h3, et_yes, fun _ => h4⟩)
  have e : xs.filter (fun _ => true) = xs := by simp
  rw [e] at h
  exact h
end
end G

set_option maxRecDepth 100000
set_option maxHeartbeats 4000000
/-! The G layer, part 7: isinstance, text * int, enumerate(text), the script's list, dicts with int keys. -/
namespace G
open PySem L2
section
variable {C : Addr} {T : Tab} {K : PySem.W.Frag} {Γ : List Sl} {te ta tb tc : TE} {d : PyData} {ds : List PyData} {N : List Sl → Prop} {R : Sl → Prop} {u : TS}
/-! ### isinstance -/
def tyn : PyData → String
  | .none => "NoneType"
  | .bool _ => "bool"
  | .int _ => "int"
  | .str _ => "str"
  | .list _ => "list"
  | .tuple _ => "tuple"
  | .dict _ => "dict"
def ndc : PyData → Bool
  | .dict _ => false
  | _ => true
theorem Rp.tyX {H : Hp} {v : V} (r : Rp C H v d) (h : ndc d = true) : TyX K H v (.type (tyn d)) := by
  cases r with
  | non => exact .base .non
  | bl b => exact .base (.bl b)
  | int i => exact .base (.int i)
  | str x => exact .base (.str x)
  | lst h1 r1 => exact .base (.lst h1)
  | tup h1 r1 => exact .base (.tup h1)
  | obj h1 h2 r1 => cases h
theorem ed_isi {n : String} {b : Bool} (ha : Ed C T ta Γ d) (hp : ndc d = true) (hk : kitB (tyn d) n = some b) : Ed C T (tCB (rIsi K) (tCons ta (tCons (tC (.ty n)) tNil))) Γ (.bool b) := fun fp lo H σ Q S k =>
  ha fp lo H σ _ S fun v H1 x1 r1 => ⟨v, .ty n, .type (tyn d), .type n, b, rfl, .ty n, (r1.mono Wo_sub).tyX hp, kit_ty hk, k _ H1 x1 (.bl b)⟩
/-- two classes -/
theorem ed_isiT {n m : String} {b1 b2 : Bool} (ha : Ed C T ta Γ d) (hp : ndc d = true) (hk : kitB (tyn d) n = some b1) (hk2 : kitB (tyn d) m = some b2) : Ed C T (tCB (rIsiT K) (tCons ta (tCons (tTup (tCons (tC (.ty n)) (tCons (tC (.ty m)) tNil))) tNil))) Γ (.bool (b1 || b2)) := fun fp lo H σ Q S k =>
  ha fp lo H σ _ S fun v H1 x1 r1 => by
    refine ⟨by show 2 ≤ sizeLine; decide, fun p hp1 => ?_⟩
    have xn : XT T H1 (upd H1 p (.tup [.ty n, .ty m])) := XT.new hp1
    refine ⟨v, p, [.ty n, .ty m], .type (tyn d), [.type n, .type m], b1 || b2, rfl, upd_same, .cons (.ty n) (.cons (.ty m) .nil), ((Rp.up xn r1).mono Wo_sub).tyX hp, ?_, k _ _ (x1.trans xn) (.bl _)⟩
    refine kitAny_cons (kit_ty hk) (fun e => ?_) fun e => by rw [e, Bool.true_or]
    refine kitAny_cons (kit_ty hk2) (fun e2 => ?_) fun e2 => by rw [e2, Bool.or_true]
    rw [e, e2]
    exact kitAny_nil
/-- isinstance of a value that is told with its object (a new thing in a slot) -/
theorem ed_isiV {i : Nat} {n : String} {b : Bool} {dss : List (List PyData)} {ts : List PyData} (h : Γ[i]? = some (.rcv dss ts)) (hk : kitB "tuple" n = some b) : Ed C T (tCB (rIsi K) (tCons (tVar i) (tCons (tC (.ty n)) tNil))) Γ (.bool b) := fun fp lo H σ Q S k => by
  obtain ⟨t, vt, o, dx, a, as, h1, h2, h3, _⟩ := S.ok i _ h
  exact ⟨_, join_some h1, .ref t, .ty n, .type "tuple", .type n, b, rfl, .ty n, .base (.tup h3), kit_ty hk, k _ H (XT.refl T H) (.bl b)⟩
end
/-! ### text * int -/
def rMulS : R2 := fun x y H Q => ∃ z n, x = .str z ∧ y = .int n ∧ MulOk z n ∧ Q (.str (Txt.mul z n)) H
theorem op_mulS {X : Cx} : OpR X (binaryOp .Mult) rMulS := by
  intro pins s σ H x y v u Q I rx ry h
  obtain ⟨z, n, rfl, rfl, ok, q⟩ := h
  obtain ⟨t, rfl⟩ := rx
  obtain ⟨t', rfl⟩ := ry
  exact SB.mul ok fun t2 k => ⟨.str (Txt.mul z n), H, I.tok k, ⟨t2, rfl⟩, q⟩
section
variable {C : Addr} {T : Tab} {K : PySem.W.Frag} {Γ : List Sl} {te ta tb tc : TE} {d : PyData} {ds : List PyData} {N : List Sl → Prop} {R : Sl → Prop} {u : TS}
theorem ed_mulS {z : Str} {n : Int} (ha : Ed C T ta Γ (.str z)) (hb : Ed C T tb Γ (.int n)) (h : MulOk z n) : Ed C T (tOp rMulS ta tb) Γ (.str (Txt.mul z n)) :=
  ed_op ha hb (fun H u v Q r1 r2 k => ⟨z, n, r1.str_eq, r2.int_eq, h, k _ (.str _)⟩) rfl
end
/-! ### enumerate(text): each sign in a new pair with its place -/
def JeS (x : Str) : It := ⟨fun i _ => i < x.cps.size, fun i H v H' => ∃ (P : Addr) (c : Nat), v = .ref P ∧ H P = none ∧ H' = upd H P (.tup [.int (i : Nat), .str ⟨#[c]⟩]) ∧ x.cps[i]? = some c, fun i _ => i = x.cps.size⟩
section
variable {P : Program} {w : World} {K : PySem.W.Frag}
theorem draws_of {A : Around} (hh : A.handled = none) (it : Addr) (x : Str) (t : Tok) : Draws P w A it [it] x.cps.size (fun i v => ∃ c u, x.cps[i]? = some c ∧ v = .str ⟨#[c]⟩ u) (fun i h => h.IsStrIter it (strIterType x) x t i) := by
  unfold strIterType
  split
  · exact Draws.strAscii hh it x t
  · exact Draws.strWide hh it x t
theorem turn_eS {elts : List Expr} {kk : Nat} {tpos : Pos} (e it : Addr) (x : Str) (t : Tok) (hne : e ≠ it) :
    Turn P w K (.Tuple elts kk tpos) (JeS x) [e, it] e (fun i h => (∃ old, IsEnum h e it ((i : Nat) : Int) old) ∧ h.IsStrIter it (strIterType x) x t i) where
  mem := List.mem_cons_self
  obj := fun i h st b hb => by
    obtain ⟨⟨old, he⟩, o, ho, hc, hd⟩ := st
    rcases List.mem_cons.mp hb with z | z
    · exact ⟨_, by rw [z]; exact he, fun v q => by cases q⟩
    · refine ⟨o, by rw [List.mem_singleton.mp z]; exact ho, fun v q => ?_⟩
      rw [hd] at q
      cases q
  keep := fun i h h' st k => by
    obtain ⟨⟨old, he⟩, o, ho, r⟩ := st
    exact ⟨⟨old, k e List.mem_cons_self _ he⟩, o, k it (List.mem_cons_of_mem _ List.mem_cons_self) _ ho, r⟩
  item := by
    intro X hP hw hK hc i pins s σ H E I hf st hg
    subst hP hw hK
    have D := draws_of (P := X.prog) (w := X.w) (A := X.A.in1) (I.ok.hd hc) it x t
    have W := WalksT.enumerateD (prog := X.prog) (w := X.w) (A := X.A) D e hne (fun q => hne (List.mem_singleton.mp q)) List.mem_cons_self
    have lt : ∀ b, b ∈ [e, it] → b < s.heap.objs.size := fun b hb => by
      obtain ⟨⟨old, he⟩, o, ho, _⟩ := st
      rcases List.mem_cons.mp hb with z | z
      · rw [z]; exact Heap.lt_size he
      · rw [List.mem_singleton.mp z]; exact Heap.lt_size ho
    refine W.item i s _ _ hg st fun P vals h' tk hv hP hT hm kp => ⟨_, rfl, W.go elts kk tpos i P _ _ _ hm fun h'' st'' kp2 => ?_⟩
    obtain ⟨u, y, ⟨c, u2, hcx, ey⟩, ev⟩ := hv
    subst ey ev
    have aP := W.apart i P h' hm
    obtain ⟨o, h1, h2, n, h3⟩ := hT
    have new : ObjOk X.prog X.w (upd H P (.tup [.int (i : Nat), .str ⟨#[c]⟩])) h'' P (.tup [.int (i : Nat), .str ⟨#[c]⟩]) :=
      ⟨by show 2 ≤ sizeLine; decide, [.int i u, .str ⟨#[c]⟩ u2], .cons ⟨_, rfl⟩ (.cons ⟨_, rfl⟩ .nil), ⟨o, kp2 P o aP h1, h2, n, h3⟩⟩
    have I1 : Inv X pins σ (upd H P (.tup [.int (i : Nat), .str ⟨#[c]⟩])) { s with heap := h'', toks := tk } :=
      I.turnedNew (ch := [e, it]) (fun b ob hb q => kp2 b ob hb (kp b ob hb q)) hf hP new
    refine ⟨.ref P, _, I1, rfl, ⟨P, c, rfl, I.hok.fresh hP, rfl, hcx⟩, ?_, fun b hb => ?_⟩
    · obtain ⟨⟨old, he⟩, hs⟩ := st''
      exact ⟨⟨old, he⟩, hs⟩
    · have hlt := lt b hb
      rw [upd_ne (Nat.ne_of_lt (Nat.lt_of_lt_of_le hlt hP))]
      exact (hf b hb).1
  done := by
    intro X hP hw hK hc i pins s σ H E I hf st hg
    subst hP hw hK
    have hg : i = x.cps.size := hg
    subst hg
    have D := draws_of (P := X.prog) (w := X.w) (A := X.A.in1) (I.ok.hd hc) it x t
    have W := WalksT.enumerateD (prog := X.prog) (w := X.w) (A := X.A) D e hne (fun q => hne (List.mem_singleton.mp q)) List.mem_cons_self
    refine W.done s _ _ st fun h' tk kp => ⟨rfl, ?_⟩
    have I0 : Inv X pins σ H { s with heap := h', toks := tk } := by
      refine I.step (g' := s.gens) (d' := s.drawn) (ch := [e, it]) (fun b hb => ⟨(hf b hb).2.2.2.1, (hf b hb).2.1, (hf b hb).2.2.2.2.1, (hf b hb).2.2.2.2.2⟩) (fun b o _ _ hc e _ => kp b o hc e) (fun b o _ _ hc e _ => ⟨o.slots, kp b o hc e⟩)
        (fun b o _ e n => n) (fun b o hc e => ⟨o, kp b o hc e⟩) (fun b xs e => e) (fun b o u e => e) (fun b ps e => ⟨#[], by rw [Array.append_empty]; exact e⟩) (fun m hm => ?_) (fun b u q => ?_) I.bare
      · obtain ⟨ob, es, ep, ho, r⟩ := hm
        refine ⟨ob, es, ep, kp _ ob (fun z => ?_) ho, r⟩
        exact (hf _ z).2.1 rfl
      · refine (I.hok b u q).stay (fun d v hd e' => kp d v (fun z => ?_) e') (fun d q => q) fun d xs q => q
        have hn := (hf d z).1
        rcases hd with w | w
        · rw [w, q] at hn
          cases hn
        · rw [w] at hn
          cases hn
    exact I0
  self := fun A i s Q E st h => by
    obtain ⟨⟨_, he⟩, _⟩ := st
    exact wpAny_pyIter_enum he h
def iEnS (ta : TA) : TI := fun σ H R => ta σ H fun vs H1 => ∃ x, vs = [.str x] ∧ R (JeS x) H1
theorem pi_enumS {X : Cx} {e : Expr} {ta : TA} {p pos tpos : Pos} {elts : List Expr} {kk : Nat} (hg : Gl X "enumerate") (hm : X.mg "enumerate" = none) (ha : PA X [e] ta) (hs : starEach [e] X.env = [(false, eval e X.env)] := by rfl) :
    PI X (.Tuple elts kk tpos) (.Call (.Name "enumerate" p) [e] [] pos) (iEnS ta) := ⟨fun pins s σ H R I h => by
  refine PyProof.Rows.Call_ (ld_blt I hg hm PyProof.Rows.boot_enumerate (PyProof.Rows.callWith_type1 (thn (ha.run pos pins s σ H _ I h) fun us s1 hq => ?_) hs rfl))
  obtain ⟨vs, H1, I1, r1, x, ex, q⟩ := hq
  subst ex
  cases r1 with
  | cons r rr =>
    cases rr
    obtain ⟨t, rfl⟩ := r
    refine call_enumerate_str fun h' he hit hsz hk => wpAny_pyIter_enum he ?_
    have I2 : Inv X pins σ H1 { s1 with heap := h' } := I1.kept (t' := s1.toks) hk
    refine ⟨s1.heap.objs.size + 1, [s1.heap.objs.size + 1, s1.heap.objs.size], _, _, H1, rfl, I2, turn_eS (s1.heap.objs.size + 1) s1.heap.objs.size x t (Nat.succ_ne_self _), ⟨⟨.none, he⟩, hit⟩, fun b hb => ?_, q⟩
    have hle : s1.heap.objs.size ≤ b := by
      rcases List.mem_cons.mp hb with z | z
      · rw [z]; exact Nat.le_add_right _ _
      · rw [List.mem_singleton.mp z]; exact Nat.le_refl _
    exact I1.fpOk hle (I1.hok.fresh hle)⟩
end
section
variable {C : Addr} {T : Tab} {K : PySem.W.Frag} {Γ : List Sl} {te ta tb tc : TE} {d : PyData} {ds : List PyData} {N : List Sl → Prop} {R : Sl → Prop} {u : TS}
/-- the signs of a text -/
def sgn (x : Str) : List Str := x.cps.toList.map fun c => ⟨#[c]⟩
theorem sgn_length (x : Str) : (sgn x).length = x.cps.size := by unfold sgn; rw [List.length_map, Array.length_toList]
theorem ei_enumS {x : Str} {ta : TA} (ha : EA C T ta Γ [.str x]) : Ei C T (iEnS ta) Γ ((List.range x.cps.size).map fun (i : Nat) => .tuple [.int (i : Int), .str ((sgn x).getD i Str.empty)]) := fun fp lo H σ R S k => ha fp lo H σ _ S fun vs H1 x1 r1 => by
  cases r1 with
  | cons h t =>
    cases t
    rw [h.str_eq]
    refine ⟨x, rfl, k (JeS x) (fun _ => True) (fun i H v H' => (JeS x).yld i H v H') H1 x1 (by rw [List.length_map, List.length_range]; exact ⟨fun i H hi _ => hi, fun H _ => rfl, fun i H v H' _ _ y => y⟩) (fun _ _ _ => trivial) fun i d M H2 v H3 hd e hM y => ?_⟩
    obtain ⟨p, c, rfl, hp, rfl, hc⟩ := y
    have xn : XT T H2 (upd H2 p (.tup [.int (i : Nat), .str ⟨#[c]⟩])) := XT.new hp
    refine ⟨xn, ?_⟩
    rw [List.getElem?_map] at hd
    have hi : i < x.cps.size := by
      obtain ⟨h1, _⟩ := Array.getElem?_eq_some_iff.mp hc
      exact h1
    rw [List.getElem?_range hi] at hd
    have hd := (Option.some.inj hd).symm
    subst hd
    have e1 : (sgn x).getD i Str.empty = ⟨#[c]⟩ := by
      unfold sgn
      rw [List.getD_eq_getElem?_getD, List.getElem?_map, Array.getElem?_toList, hc]
      rfl
    show Rp C _ _ (.tuple [.int (i : Int), .str ((sgn x).getD i Str.empty)])
    rw [e1]
    exact .tup (Wo_new fun q => hM _ q hp) (.cons (.int _) (.cons (.str _) .nil))

/-! ### the script's list -/
theorem scr_at {fp : Nat → List Addr} {lo : AS} {H : Hp} {σ : L2.St} {i : Nat} {ns : List Int} (S : Sa C T fp lo H σ Γ) (h : Γ[i]? = some (.scr K ns)) : ∃ a, σ[i]? = some (some (.ref a)) ∧ SqL K H a (ns.map V.int) := by
  obtain ⟨_, a, h1, h2⟩ := S.ok i _ h
  exact ⟨a, join_some h1, sqL_ext h2 Wo_sub⟩
theorem ed_lenScr {i : Nat} {ns : List Int} (h : Γ[i]? = some (.scr K ns)) : Ed C T (tCB (rLenQ K) (tCons (tVar i) tNil)) Γ (.int (ns.length : Int)) := fun fp lo H σ Q S k => by
  obtain ⟨a, h1, h2⟩ := scr_at S h
  exact ⟨_, h1, a, _, rfl, .inl h2, by rw [List.length_map]; exact k _ H (XT.refl T H) (.int _)⟩
theorem ed_ixScr {i : Nat} {ns : List Int} {j : Nat} {n : Int} (h : Γ[i]? = some (.scr K ns)) (hb : Ed C T tb Γ (.int (j : Int))) (hn : ns[j]? = some n) : Ed C T (tOp (rIxL K) (tVar i) tb) Γ (.int n) := fun fp lo H σ Q S k => by
  obtain ⟨a, h1, h2⟩ := scr_at S h
  exact ⟨_, h1, hb fp lo H σ _ S fun v H1 x1 r1 => ⟨a, _, (j : Int), .int n, rfl, r1.int_eq, sqL_ext h2 x1.kp, atI_nat (by rw [List.getElem?_map, hn]; rfl), k _ H1 x1 (.int n)⟩⟩

/-! ### dicts with int keys -/
def valI (kvs : List (Int × PyData)) (k : Int) : Option PyData := (kvs.find? fun kv => decide (kv.1 = k)).map (·.2)
def putI (kvs : List (Int × PyData)) (k : Int) (d : PyData) : List (Int × PyData) := if (kvs.any fun kv => decide (kv.1 = k)) = true then kvs.map (fun kv => if kv.1 = k then (kv.1, d) else kv) else kvs ++ [(k, d)]
theorem key_dec {a b : Int} : decide ((Sum.inl a : Key) = Sum.inl b) = decide (a = b) := by
  by_cases h : a = b
  · rw [h]; simp
  · rw [decide_eq_false h, decide_eq_false (fun q => h (Sum.inl.inj q))]
theorem dks_any {W : Hp} {k : Int} : ∀ {ks : List (Key × V)} {kvs : List (Int × PyData)}, DKs C W (Sum.inl : Int → Key) ks kvs → (ks.any fun kv => decide (kv.1 = Sum.inl k)) = kvs.any fun kv => decide (kv.1 = k)
  | _, _, .nil => rfl
  | _, _, .cons h t => by rw [List.any_cons, List.any_cons, dks_any t, h.1, key_dec]
theorem dks_some {W : Hp} {k : Int} : ∀ {ks : List (Key × V)} {kvs : List (Int × PyData)}, DKs C W (Sum.inl : Int → Key) ks kvs → (valV ks (Sum.inl k)).isSome = (valI kvs k).isSome
  | _, _, .nil => rfl
  | _, _, .cons (a := p) (b := q) (l₁ := r1) (l₂ := r2) h t => by
    have ih := dks_some (k := k) t
    by_cases e : q.1 = k
    · have e' : p.1 = Sum.inl k := by rw [h.1, e]
      rw [valV_pos e']
      unfold valI
      rw [List.find?_cons, decide_eq_true e]
      rfl
    · have e' : ¬ p.1 = Sum.inl k := fun z => e (Sum.inl.inj (h.1.symm.trans z))
      rw [valV_neg e', ih]
      unfold valI
      rw [List.find?_cons, decide_eq_false e]
theorem dks_map {W : Hp} {k : Int} {v : V} (r : Rp C W v d) : ∀ {ks : List (Key × V)} {kvs : List (Int × PyData)}, DKs C W (Sum.inl : Int → Key) ks kvs → DKs C W (Sum.inl : Int → Key) (ks.map fun kv => if kv.1 = Sum.inl k then (kv.1, v) else kv) (kvs.map fun kv => if kv.1 = k then (kv.1, d) else kv)
  | _, _, .nil => .nil
  | _, _, .cons (a := p) (b := q) h t => by
    rw [List.map_cons, List.map_cons]
    refine .cons ?_ (dks_map r t)
    by_cases e : q.1 = k
    · rw [if_pos (show p.1 = Sum.inl k by rw [h.1, e]), if_pos e]
      exact ⟨h.1, r⟩
    · rw [if_neg (fun z => e (Sum.inl.inj (h.1.symm.trans z))), if_neg e]
      exact h
theorem paired_snoc {α β : Type} {F : α → β → Prop} : ∀ {l : List α} {m : List β} {a : α} {b : β}, Paired F l m → F a b → Paired F (l ++ [a]) (m ++ [b])
  | _, _, _, _, .nil, h => .cons h .nil
  | _, _, _, _, .cons q t, h => .cons q (paired_snoc t h)
theorem dks_put {W : Hp} {k : Int} {v : V} {ks : List (Key × V)} {kvs : List (Int × PyData)} (h : DKs C W (Sum.inl : Int → Key) ks kvs) (r : Rp C W v d) : DKs C W (Sum.inl : Int → Key) (putK ks (Sum.inl k) v) (putI kvs k d) := by
  unfold putK putI
  rw [dks_any h]
  split
  · exact dks_map r h
  · exact paired_snoc h ⟨rfl, r⟩
theorem ef_newI : Ef C T tDNewK Γ (.dI []) := fun fp lo H σ Q S k p hp => by
  have xn : XT T H (upd H p (.dK [])) := XT.new hp
  exact k _ _ [p] xn (fun l hl => by rw [List.mem_singleton.mp hl]; exact hp) (List.nodup_cons.mpr ⟨by simp, List.nodup_nil⟩) ⟨p, [], rfl, rfl, upd_same, .nil⟩
theorem ed_nidI {i : Nat} {n : Int} {kvs : List (Int × PyData)} (h : Γ[i]? = some (.dI kvs)) (ha : Ed C T ta Γ (.int n)) : Ed C T (tDNotIn ta (tVar i)) Γ (.bool (!(valI kvs n).isSome)) := fun fp lo H σ Q S k =>
  ha fp lo H σ _ S fun v H1 x1 r1 => by
    obtain ⟨p, ks, h1, h2, h3, h4⟩ := (S.step x1).ok i _ h
    refine ⟨_, join_some h1, p, _, rfl, by rw [r1.int_eq]; exact DGet.k (k := Sum.inl n) h3, ?_⟩
    rw [dks_some h4]
    exact k _ H1 x1 (.bl _)
theorem go_dputI {i : Nat} {n : Int} {kvs : List (Int × PyData)} (h : Γ[i]? = some (.dI kvs)) (he : Ed C T te Γ d) (ha : Ed C T ta Γ (.int n)) (hz : kvs.length ≤ 1000000) (hN : N (Γ.set i (.dI (putI kvs n d)))) : Go C T (sDPut (tVar i) ta te) Γ N R := fun H0 lo H σ D ⟨fp, S, h0, x0⟩ kn kr =>
  he fp lo H σ _ S fun v H1 x1 r1 => by
    obtain ⟨p, ks, h1, h2, h3, h4⟩ := S.ok i _ h
    refine ⟨_, join_some h1, ha fp lo H1 σ _ (S.step x1) fun y H2 x2 r2 => ?_⟩
    have x := x1.trans x2
    have h3' := x.kp _ _ h3 (fun _ q => by cases q)
    have hl : ks.length = kvs.length := Paired.length h4
    refine ⟨p, _, rfl, by rw [r2.int_eq]; exact DPut.k (k := Sum.inl n) h3' (by rw [hl]; exact sz hz), kn _ σ _ hN ?_⟩
    refine S.mut (fpi := fp i) h0 x0 x (by rw [h2]; exact List.mem_cons_self) trivial (fun b hb => .inl hb) (S.nd i) ?_
    rw [orM_in]
    exact ⟨p, _, h1, h2, upd_same, dks_put (h4.mono (Sa.ext x)) (Rp.up x2 r1)⟩
end
end G

set_option maxRecDepth 100000
set_option maxHeartbeats 4000000
/-! The G layer, part 8: loops over a range of numbers. -/
namespace G
open PySem L2
section
variable {C : Addr} {T : Tab} {Γ : List Sl} {N : List Sl → Prop} {R : Sl → Prop} {u : TS}
theorem range_of {n i x : Nat} (h : (List.range n)[i]? = some x) : i < n ∧ x = i := by
  by_cases hi : i < n
  · rw [List.getElem?_range hi] at h
    exact ⟨hi, (Option.some.inj h).symm⟩
  · rw [List.getElem?_eq_none (by rw [List.length_range]; omega)] at h
    cases h
theorem gor {wi : TI} {g : TG} {tb : TS} (n : Nat) (enc : Nat → PyData) (G : Nat → List Sl) (hi : Ei C T wi Γ ((List.range n).map enc)) (l0 : Le Γ (G 0))
    (hs : ∀ i, i < n → ∃ uu js, Tgt C T g (enc i) uu js ∧ (∀ j, j ∈ js → NO (G i) j = true) ∧ Go C T tb (uu (G i)) (fun Γ' => Le Γ' (G (i + 1))) R)
    (hd : N (G n)) : Go C T (tFor wi g tb) Γ N R := by
  refine go_for (List.range n) enc G (fun _ => True) hi l0 trivial (fun i x hx _ => ?_) fun _ => ?_
  · obtain ⟨h1, rfl⟩ := range_of hx
    obtain ⟨uu, js, a, b, c⟩ := hs _ h1
    exact ⟨uu, js, a, b, go_post c fun _ l => ⟨l, trivial⟩⟩
  · rw [List.length_range]; exact hd
theorem gfr {wi : TI} {g : TG} {tb : TS} (n : Nat) (enc : Nat → PyData) (G : Nat → List Sl) (hi : Ei C T wi Γ ((List.range n).map enc)) (l0 : Le Γ (G 0))
    (hs : ∀ i, i < n → ∃ uu js, Tgt C T g (enc i) uu js ∧ (∀ j, j ∈ js → NO (G i) j = true) ∧ Go C T tb (uu (G i)) (fun Γ' => Le Γ' (G (i + 1))) R)
    (hd : Go C T u (G n) N R) : Go C T (tSeq (tFor wi g tb) u) Γ N R :=
  go_seq (gor (N := fun Γ' => Γ' = G n) n enc G hi l0 hs rfl) fun Γ' e => by rw [e]; exact hd
/-- over a list of things -/
theorem gol {α : Type} {wi : TI} {g : TG} {tb : TS} (xs : List α) (enc : α → PyData) (G : Nat → List Sl) (hi : Ei C T wi Γ (xs.map enc)) (l0 : Le Γ (G 0))
    (hs : ∀ i x, xs[i]? = some x → ∃ uu js, Tgt C T g (enc x) uu js ∧ (∀ j, j ∈ js → NO (G i) j = true) ∧ Go C T tb (uu (G i)) (fun Γ' => Le Γ' (G (i + 1))) R)
    (hd : N (G xs.length)) : Go C T (tFor wi g tb) Γ N R := by
  refine go_for xs enc G (fun _ => True) hi l0 trivial (fun i x hx _ => ?_) fun _ => hd
  obtain ⟨uu, js, a, b, c⟩ := hs _ _ hx
  exact ⟨uu, js, a, b, go_post c fun _ l => ⟨l, trivial⟩⟩
theorem gfl {α : Type} {wi : TI} {g : TG} {tb : TS} (xs : List α) (enc : α → PyData) (G : Nat → List Sl) (hi : Ei C T wi Γ (xs.map enc)) (l0 : Le Γ (G 0))
    (hs : ∀ i x, xs[i]? = some x → ∃ uu js, Tgt C T g (enc x) uu js ∧ (∀ j, j ∈ js → NO (G i) j = true) ∧ Go C T tb (uu (G i)) (fun Γ' => Le Γ' (G (i + 1))) R)
    (hd : Go C T u (G xs.length) N R) : Go C T (tSeq (tFor wi g tb) u) Γ N R :=
  go_seq (gol (N := fun Γ' => Γ' = G xs.length) xs enc G hi l0 hs rfl) fun Γ' e => by rw [e]; exact hd
/-- a return with more behind it -/
theorem grf {te : TE} {s : Sl} (h : Ef C T te Γ s) (hR : R s) : Go C T (tSeq (tRet te) u) Γ N R := go_seq (M := fun _ => False) (go_ret h hR) fun _ q => q.elim
theorem gr {te : TE} {d : PyData} (h : Ed C T te Γ d) (hR : R (.dat d)) : Go C T (tSeq (tRet te) u) Γ N R := grf h.ef hR
theorem grN (hR : R (.dat .none)) : Go C T (tSeq tRetN u) Γ N R := go_seq (M := fun _ => False) (go_retN hR) fun _ q => q.elim
end
end G

set_option maxRecDepth 100000
set_option maxHeartbeats 4000000
/-! The G layer, part 9: dicts whose keys are tuples, built by a comprehension, joined by update. -/
namespace G
open PySem PySem.Spec PyProof.Rows L2
/-- what holds in any block of the comprehension -/
abbrev Blks (X : Cx) (sc : Scope) (F : Cx → Prop) : Prop := ∀ (z : Shared) (G : Hp) (L : Addr) (cs : List (Str × Addr)) (ap : List Addr), F (X.blk z G sc (compEnvC sc cs L X.env) ap)
/-- {k: v for target in iter}: what is put stands at a new dict -/
def tDcT (wi : TI) (g : TG) (tk tv : TE) (vs : List Nat) : TE := fun σ H Q => wi σ H fun J G => ∀ D, G D = none → ∃ V : Nat → Nat → Hp → Prop, (∃ m, V 0 m (upd G D (.dT []))) ∧ ∀ i m F, V i m F →
  (J.stop i F ∧ Q (.ref D) F) ∨ (J.go i F ∧ ∃ Nx : Hp → Prop, (∀ F', Nx F' → ∃ m', m' < m ∧ V (i + 1) m' F') ∧ ∀ x F', J.yld i F x F' → g x (wipe σ vs) F' fun ρ G2 => wipe ρ vs = wipe σ vs ∧
    tk ρ G2 fun y G3 => tv ρ G3 fun c G4 => ∃ G5, DPut G4 D y c G5 ∧ Nx G5)
section
variable {X : Cx}
/-- d[y] = c by a comprehension, whatever the keys are -/
theorem d_storeG {pn : List (Addr × Obj)} {ρ : L2.St} {F G : Hp} {z : Shared} {D : Addr} {y c : V} {a b : Value} {E : Value → Shared → Prop} {Q : Unit → Shared → Prop} (hu : X.A.units + 1 < cLine) (J : Inv X pn ρ F z) (p : DPut F D y c G) (ha : RelV y a) (hb : RelV c b)
    (h : ∀ z', Inv X pn ρ G z' → Q () z') : wpAny (model X.prog X.w) X.A (dictSet D a b) Q E z := by
  rcases p with ⟨kvs, k, e, ey, l, eG⟩ | ⟨kvs, k, t, e, ey, et, l, eG⟩
  · subst ey eG
    exact d_dictSet J e l ha hb h
  · subst ey eG
    cases (show a = Value.ref t from ha)
    obtain ⟨l0, hD, ts, rel, dd⟩ := dt_of J.hok e
    have l1 : ts.length ≤ sizeLine := by
      have := Paired.length rel
      omega
    have l2 : (putK kvs k c).length ≤ sizeLine := by
      have := length_putK kvs k c
      omega
    refine wpAny_dictSet_heap (hsz := l1) (Nat.lt_of_succ_lt hu) (key_of J.hok et) dd fun g dd' same => h _ ?_
    obtain ⟨ob, es, ep, o1, o2, o3, o4, _, o5⟩ := dd'
    have kp : KT (upd F D (.dT (putK kvs k c))) (putK kvs k c) (storedH ts k t b) := (rel.put k et hb).keeps fun q ys eq => by
      rw [upd_ne (ne_of eq e (fun z => nomatch z))]
      exact eq
    exact d_write J (by rw [e]; exact True.intro) same ⟨ob, o1⟩ ⟨l2, hD, _, kp, ob, es, ep, o1, o2, o3, o4, o5⟩
theorem pe_dcT {kx vx tg src : Expr} {sc : Scope} {own : List (Str × Nat)} {pos : Pos} {wi : TI} {g : TG} {tk tv : TE} (hu : X.A.units + 1 < cLine) (hc : X.calm = true) (nd : X.N.Nodup) (hi : PI X tg src wi) (ok : BlkOk X.N X.env.scope sc own)
    (hg : Blks X sc fun B => PG B tg g) (hk : Blks X sc fun B => PE B kx tk) (hv : Blks X sc fun B => PE B vx tv) (hs : ∀ x, foldedSetIterable src X.env x = pure x := by intro _; rfl) :
    PE X (.DictComp kx vx [⟨tg, src, [], 0⟩] sc pos) (tDcT wi g tk tv (own.map (·.2))) := by
  refine ⟨fun pn z0 σ H Q I0 h => ?_⟩
  rw [arm_eval_DictComp]
  have cells : ∀ q ∈ sc.names, q.2 = .free → ∃ c, X.env.cells.lookup q.1 = some c := fun q hq e => (ok.free q hq e).elim (fun k => I0.ok.has _ (.inl k)) fun k => I0.ok.has _ (.inr k)
  refine wpAny_comprehension_free (use := none) rfl hs (closure_ok cells) ok.kind (fun q hq e => by rw [ok.uniq q hq, e]) (thn (hi.run pn z0 σ H _ I0 h) fun _ z1 hx => thn hx fun _ z2 got => ?_)
  obtain ⟨it, ap, tn, J, G2, e, I2, T, st, apart, q⟩ := got
  subst e
  refine wpAny_newObj_type (newEnv_comp ?_)
  obtain ⟨D, hD⟩ : ∃ D, z2.heap.objs.size = D := ⟨_, rfl⟩
  have dn : G2 D = none := I2.hok.fresh (Nat.le_of_eq hD)
  obtain ⟨V, ⟨m0, v0⟩, turn⟩ := q D dn
  rw [hD]
  obtain ⟨z3, hz3⟩ : ∃ z3 : Shared, ({ z2 with heap := z2.heap.push { cls := .type "dict", data := .dict #[] } } : Shared) = z3 := ⟨_, rfl⟩
  have hp3 : z3.heap = z2.heap.push { cls := .type "dict", data := .dict #[] } := by rw [← hz3]
  obtain ⟨G3, hG3⟩ : ∃ G3, upd G2 D (.dT []) = G3 := ⟨_, rfl⟩
  have I3 : Inv X pn σ G3 z3 := by
    rw [← hz3, ← hG3, ← hD]
    exact I2.laid (t' := z2.toks) (fun b o e => Heap.get?_push_of_some _ e) (Nat.le_refl _) (dt_empty z2.heap I2.big)
  have out : ∀ b ∈ ap, b < z2.heap.objs.size := fun b hb => by
    obtain ⟨_, e, _⟩ := T.obj _ _ st b hb
    exact Heap.lt_size e
  have ap3 : ∀ b ∈ ap, FpOk X pn G3 b ∧ b < z3.heap.objs.size := fun b hb => by
    have hb2 := out b hb
    have nb : G3 b = none := by
      rw [← hG3, upd_ne (Nat.ne_of_lt (hD ▸ hb2))]
      exact (apart b hb).1
    exact ⟨⟨nb, (apart b hb).2⟩, by rw [hp3, Heap.size_push]; exact Nat.lt_succ_of_lt hb2⟩
  have st3 : tn 0 z3.heap := T.keep _ _ _ st fun b _ o e => by rw [hp3]; exact Heap.get?_push_of_some _ e
  have I4 := block_start I3 ok nd ap3
  rw [hG3] at v0
  obtain ⟨L, hL⟩ : ∃ L, z3.heap.objs.size = L := ⟨_, rfl⟩
  have kg := hg z3 G3 L (cellsFrom (L + 1) sc.names (cloFrom X.env.cells sc.names [])) ap
  have kk := hk z3 G3 L (cellsFrom (L + 1) sc.names (cloFrom X.env.cells sc.names [])) ap
  have kv := hv z3 G3 L (cellsFrom (L + 1) sc.names (cloFrom X.env.cells sc.names [])) ap
  rw [hL] at I4
  obtain ⟨ev, hev⟩ : ∃ ev, compEnvC sc (cellsFrom (L + 1) sc.names (cloFrom X.env.cells sc.names [])) L X.env = ev := ⟨_, rfl⟩
  rw [hev] at I4 kg kk kv
  have eL : ev.locals = L := by rw [← hev]; rfl
  obtain ⟨z4, hz4⟩ : ∃ z4 : Shared, ({ z3 with heap := pushCells (z3.heap.push { cls := .type "dict", data := .dict #[] }) sc.names } : Shared) = z4 := ⟨_, rfl⟩
  rw [hz4] at I4
  have st4 : tn 0 z4.heap := T.keep _ _ _ st3 fun b _ o e => by rw [← hz4]; exact pushCells_keeps _ _ _ _ (Heap.get?_push_of_some _ e)
  -- what the walk needs apart
  have far : ∀ {ρ : L2.St} {F : Hp} {z : Shared}, Inv (X.blk z3 G3 sc ev ap) [] ρ F z → (∀ b ∈ ap, F b = none) → ∀ b ∈ ap, FpOk (X.blk z3 G3 sc ev ap) [] F b := fun {ρ F z} I n b hb =>
    ⟨n b hb, (I.ok.exf b hb).1, I.ok.exfs b hb, .inl hb, fun x c e => (I.ok.exf b hb).2 x c e, fun p hp => by cases hp⟩
  let U : Nat → Shared → Prop := fun n z => ∃ i F, Inv (X.blk z3 G3 sc ev ap) [] (wipe σ (own.map (·.2))) F z ∧ tn i z.heap ∧ (∀ b ∈ ap, F b = none) ∧ V i n F
  have loop : codeAny (model X.prog X.w) X.A (.compLoop (.DictComp kx vx [⟨tg, src, [], 0⟩] sc pos) 0 (.ref it) (.ref D) ev) (compPost (model X.prog X.w) X.A X.xe none (fun v z => ∃ y F, Inv X pn σ F z ∧ RelV y v ∧ Q y F) (.ref D) L) z4 := by
    refine compLoop_anyD U ?_ m0 ⟨0, G3, I4, st4, fun b hb => (ap3 b hb).1.1, v0⟩
    intro n z5 hU
    obtain ⟨i, F, I5, st5, n5, v5⟩ := hU
    rcases turn i n F v5 with ⟨stop, fin⟩ | ⟨go, Nx, down, body⟩
    · refine thnF (T.done (X.blk z3 G3 sc ev ap) rfl rfl rfl hc i [] z5 _ F (fun _ _ => False) I5 (far I5 n5) st5 stop) fun r z6 hr => ?_
      obtain ⟨hr, I6⟩ := hr
      subst hr
      have I7 : Inv X pn σ F z6 := I3.call' (ch := ap) I6.os I6.base I6.hok I6.bare fun b hb => ⟨(ap3 b hb).1.2.2.2.1, (ap3 b hb).1.2.1, (ap3 b hb).1.2.2.2.2.1, (ap3 b hb).1.2.2.2.2.2⟩
      have nL : F L = none := eL ▸ I6.free
      obtain ⟨m, hn, _⟩ := I6.loc
      have hn : z6.heap.Ns ev.locals m := hn
      rw [eL] at hn
      refine ⟨m, hn, fun h2 sb => ?_⟩
      obtain ⟨f0, f1, f2, f3, f4, f5⟩ := I3.fpOk (Nat.le_of_eq hL) nL
      exact ⟨.ref D, F, I7.turned (t' := z6.toks) (fun b o hb e => (sb.2 b hb).trans e) f0 f1 f3 f4 f5, rfl, fin⟩
    · refine thnF (T.item (X.blk z3 G3 sc ev ap) rfl rfl rfl hc i [] z5 _ F (fun _ _ => False) I5 (far I5 n5) st5 go) fun r z6 hr => ?_
      obtain ⟨u, hr, hr6⟩ := hr
      subst hr
      refine thnF hr6 fun _ z7 got7 => ?_
      obtain ⟨x, F7, I7, r7, y7, st7, n7⟩ := got7
      refine thnF (kg.run _ z7 _ F7 x u _ (I7.pinned (far I7 n7) (T.obj _ _ st7)) r7 (body x F7 y7)) fun _ z8 got8 => ?_
      obtain ⟨ρ, F8, I8, hw, q8⟩ := got8
      refine wpAny_tests_nil ?_
      rw [if_pos rfl]
      refine thnF (kk.run _ z8 ρ F8 _ I8 q8) fun a z9 got9 => ?_
      obtain ⟨y, F9, I9, r9, q9⟩ := got9
      refine thnF (kv.run _ z9 ρ F9 _ I9 q9) fun b z10 got10 => ?_
      obtain ⟨c, F10, I10, r10, F11, dp, nx⟩ := got10
      refine d_storeG (X := X.blk z3 G3 sc ev ap) hu I10 dp r9 r10 fun z11 I11 => ?_
      obtain ⟨m', hm, v'⟩ := down F11 nx
      have keep : ∀ b ∈ ap, ∀ o, z7.heap.get? b = some o → z11.heap.get? b = some o ∧ F11 b = none := fun b hb o e => by
        have p := I11.pin (b, o) (List.mem_append_right _ (List.mem_append_right _ (mem_pinsAt hb e)))
        exact ⟨p.1, p.2.1⟩
      have len : (wipe σ (own.map (·.2))).length = ρ.length := by rw [← hw, wipe_length]
      refine ⟨m', hm, i + 1, F11, I11.unpinned (pins := []) |>.weak len fun j v e => ?_, T.keep _ _ _ st7 fun b hb o e => (keep b hb o e).1, fun b hb => ?_, v'⟩
      · rw [← hw] at e
        exact (wipe_some e).1
      · obtain ⟨o, e, _⟩ := T.obj _ _ st7 b hb
        exact (keep b hb o e).2
  have run := codeAny_compStart_dict loop (T.self X.A 0 _ _ _ st4 loop)
  rw [← hz4] at run
  subst hev hL hz3
  exact run
end
end G

set_option maxRecDepth 100000
set_option maxHeartbeats 4000000
/-! The G layer, part 10: d.update(d2) for dicts whose keys are pairs of small numbers; the slots of such dicts. -/
namespace G
open PySem L2
/-- the hash of (n, r) -/
def hT (n r : Int) : Int := reduceHash (Builtin.Tuple.tupleHashOf [hashInt n, hashInt r])
def unrot (x : Nat) : Nat := x / 2147483648 + (x % 2147483648) * 8589934592
def unlane (x : Nat) : Nat := unrot (x * 614540362697595703 % 18446744073709551616)
def decN : Nat → Nat → Nat
  | _, 0 => 0
  | y, k + 1 =>
    let n := (unlane ((y + 8 * 18446744073709551616 * 14029467366897019727 - (7 - k) * 14029467366897019727) % 18446744073709551616) + 18446744073709551616 - 2870177450012600261) * 839798700976720815 % 18446744073709551616
    if n < 300 then n * 8 + (7 - k) else decN y k
def dec (h : Int) : Nat := decN (unlane (((h % 18446744073709551616).toNat + 18446744073709551616 - (2 ^^^ (2870177450012600261 ^^^ 3527539))) % 18446744073709551616)) 8
theorem dec_all : ((List.range 2400).all fun i => dec (hT ((i / 8 : Nat) : Int) ((i % 8 : Nat) : Int)) == i) = true := by decide +kernel
theorem hT_inj {a b c d : Nat} (ha : a < 300) (hb : b < 8) (hc : c < 300) (hd : d < 8) (h : hT (a : Int) (b : Int) = hT (c : Int) (d : Int)) : a = c ∧ b = d := by
  have k : ∀ {n r : Nat}, n < 300 → r < 8 → dec (hT (n : Int) (r : Int)) = 8 * n + r := fun {n r} hn hr => by
    have := List.all_eq_true.mp dec_all (8 * n + r) (List.mem_range.mpr (by omega))
    rw [show (8 * n + r) / 8 = n by omega, show (8 * n + r) % 8 = r by omega] at this
    exact eq_of_beq this
  have h1 := k ha hb
  rw [h, k hc hd] at h1
  omega
end G

set_option maxRecDepth 100000
set_option maxHeartbeats 4000000
/-! The G layer, part 11: update and the slots of dicts whose keys are pairs. -/
namespace G
open PySem L2
abbrev KL := List Key
def small (k : KL) : Prop := ∃ n r : Nat, n < 300 ∧ r < 8 ∧ k = [.inl (n : Int), .inl (r : Int)]
def mergeK {α : Type} (put : List (KL × α) → KL → α → List (KL × α)) (kvs more : List (KL × α)) : List (KL × α) := more.foldl (fun a p => put a p.1 p.2) kvs
def rUpdT : V → List V → Hp → VK → Prop := fun x xs H Q => ∃ (d o : Addr) (kvs more : List (KL × V)), x = .ref d ∧ xs = [.ref o] ∧ d ≠ o ∧ H d = some (.dT kvs) ∧ H o = some (.dT more) ∧ kvs.length + more.length ≤ sizeLine ∧
  (kvs ≠ [] ∨ ∀ p, p ∈ more → small p.1) ∧ Q .non (upd H d (.dT (mergeK putK kvs more)))
theorem mergeK_len : ∀ (more kvs : List (KL × V)), (mergeK putK kvs more).length ≤ kvs.length + more.length
  | [], kvs => Nat.le_refl _
  | p :: t, kvs => by
    have h := mergeK_len t (putK kvs p.1 p.2)
    have h2 := length_putK kvs p.1 p.2
    have e : mergeK putK kvs (p :: t) = mergeK putK (putK kvs p.1 p.2) t := rfl
    rw [e, List.length_cons]
    omega
theorem kt_merge {H : Hp} : ∀ {more : List (KL × V)} {ys : List (KL × Addr × Value)} {kvs : List (KL × V)} {xs : List (KL × Addr × Value)}, KT H kvs xs → KT H more ys → KT H (mergeK putK kvs more) (storedAllH xs ys)
  | _, _, _, _, r, .nil => r
  | _, _, _, _, r, .cons (a := p) (b := q) ⟨h1, h2, h3⟩ t => by
    have r2 := L2.KT.put r p.1 h2 h3
    rw [show storedH _ p.1 q.2.1 q.2.2 = storedH _ q.1 q.2.1 q.2.2 by rw [h1]] at r2
    show KT H (mergeK putK (putK _ p.1 p.2) _) (storedAllH (storedH _ q.1 q.2.1 q.2.2) _)
    exact kt_merge r2 t
theorem kt_keys {H : Hp} : ∀ {more : List (KL × V)} {ys : List (KL × Addr × Value)}, KT H more ys → more.map (·.1) = ys.map (·.1)
  | _, _, .nil => rfl
  | _, _, .cons ⟨h1, _, _⟩ t => by rw [List.map_cons, List.map_cons, h1, kt_keys t]
theorem apart_hash {P : Program} {w : World} : ∀ {ks : List KL}, (∀ k, k ∈ ks → small k) → ks.Nodup → (ks.map fun k => (tupleKind (mixKind P w)).hash k).Nodup
  | [], _, _ => List.nodup_nil
  | k :: t, hs, nd => by
    obtain ⟨n1, n2⟩ := List.nodup_cons.mp nd
    rw [List.map_cons]
    refine List.nodup_cons.mpr ⟨fun q => ?_, apart_hash (fun x hx => hs x (List.mem_cons_of_mem _ hx)) n2⟩
    obtain ⟨k2, hk2, e⟩ := List.mem_map.mp q
    obtain ⟨a, b, ha, hb, e1⟩ := hs k List.mem_cons_self
    obtain ⟨c, d, hc, hd, e2⟩ := hs k2 (List.mem_cons_of_mem _ hk2)
    rw [e1, e2] at e
    have e : hT (c : Int) (d : Int) = hT (a : Int) (b : Int) := e
    obtain ⟨z1, z2⟩ := hT_inj hc hd ha hb e
    subst z1 z2
    rw [← e2] at e1
    exact n1 (e1 ▸ hk2)
theorem mt_updT {X : Cx} (hu : X.A.units + 1 < cLine) : MtR X "dict.update" rUpdT := by
  intro pn z σ H x xs v us Q J rx rs h
  obtain ⟨d, o, kvs, more, rfl, rfl, hne, hd, ho, hz, hap, q⟩ := h
  obtain rfl : v = Value.ref d := rx
  cases rs with
  | cons r0 rr =>
  cases rr
  cases (show _ = Value.ref o from r0)
  obtain ⟨l1, s1, ts, k1, dd1⟩ := dt_of J.hok hd
  obtain ⟨l2, s2, ys, k2, dd2⟩ := dt_of J.hok ho
  have e1 := Paired.length k1
  have e2 := Paired.length k2
  refine call_update_dictH (knd := tupleKind (mixKind X.prog X.w)) hu hne s2 dd1 dd2 ?_ (by omega) fun g dd3 _ same => ?_
  · rcases hap with hap | hap
    · refine .inl fun e => hap ?_
      rw [e] at e1
      exact List.length_eq_zero_iff.mp e1
    · refine .inr ⟨keyed_apart tupleKind_stays dd2, ?_⟩
      have keys := kt_keys k2
      obtain ⟨_, _, _, _, _, _, _, _, nd⟩ := dd2
      have fin := apart_hash (P := X.prog) (w := X.w) (fun k hk => ?_) nd
      · rw [List.map_map] at fin
        exact fin
      rw [← keys] at hk
      obtain ⟨p, hp, e⟩ := List.mem_map.mp hk
      rw [← e]
      exact hap p hp
  · obtain ⟨ob, es, ep, o1, o2, o3, o4, _, o5⟩ := dd3
    have l3 := mergeK_len more kvs
    have kp : KT (upd H d (.dT (mergeK putK kvs more))) (mergeK putK kvs more) (storedAllH ts ys) := (kt_merge k1 k2).keeps fun b bs eb => by
      rw [upd_ne (ne_of eb hd (fun z => nomatch z))]
      exact eb
    exact ⟨.non, _, d_write (ob := .dT (mergeK putK kvs more)) J (by rw [hd]; exact True.intro) same ⟨ob, o1⟩ ⟨by omega, s1, _, kp, ob, es, ep, o1, o2, o3, o4, o5⟩, rfl, q⟩
/-! ### the slots -/
def valT (kvs : List (KL × PyData)) (k : KL) : Option PyData := (kvs.find? fun kv => decide (kv.1 = k)).map (·.2)
def putT (kvs : List (KL × PyData)) (k : KL) (d : PyData) : List (KL × PyData) := if (kvs.any fun kv => decide (kv.1 = k)) = true then kvs.map (fun kv => if kv.1 = k then (kv.1, d) else kv) else kvs ++ [(k, d)]
abbrev DT (C : Addr) (W : Hp) (ks : List (KL × V)) (kvs : List (KL × PyData)) : Prop := DKs C W (id : KL → KL) ks kvs
section
variable {C : Addr} {T : Tab} {K : PySem.W.Frag} {Γ : List Sl} {te ta tb tc : TE} {d : PyData} {ds : List PyData} {N : List Sl → Prop} {R : Sl → Prop} {u : TS}
theorem dt_any {W : Hp} {k : KL} : ∀ {ks : List (KL × V)} {kvs : List (KL × PyData)}, DT C W ks kvs → (ks.any fun kv => decide (kv.1 = k)) = kvs.any fun kv => decide (kv.1 = k)
  | _, _, .nil => rfl
  | _, _, .cons (a := p) (b := q) h t => by
    have h1 : p.1 = q.1 := h.1
    rw [List.any_cons, List.any_cons, dt_any t, h1]
theorem dt_val {W : Hp} {k : KL} : ∀ {ks : List (KL × V)} {kvs : List (KL × PyData)}, DT C W ks kvs → (valV ks k = none ∧ valT kvs k = none) ∨ ∃ v d, valV ks k = some v ∧ valT kvs k = some d ∧ Rp C W v d
  | _, _, .nil => .inl ⟨rfl, rfl⟩
  | _, _, .cons (a := p) (b := q) (l₁ := r1) (l₂ := r2) h t => by
    have h1 : p.1 = q.1 := h.1
    by_cases e : q.1 = k
    · refine .inr ⟨p.2, q.2, valV_pos (h1.trans e), ?_, h.2⟩
      unfold valT
      rw [List.find?_cons, decide_eq_true e]
      rfl
    · have e2 : valT (q :: r2) k = valT r2 k := by
        unfold valT
        rw [List.find?_cons, decide_eq_false e]
      rw [valV_neg (fun z => e (h1.symm.trans z)), e2]
      exact dt_val t
theorem dt_some {W : Hp} {k : KL} {ks : List (KL × V)} {kvs : List (KL × PyData)} (h : DT C W ks kvs) : (valV ks k).isSome = (valT kvs k).isSome := by
  rcases dt_val (k := k) h with ⟨a, b⟩ | ⟨v, d, a, b, _⟩
  · rw [a, b]
    rfl
  · rw [a, b]
    rfl
theorem dt_put {W : Hp} {k : KL} {v : V} {ks : List (KL × V)} {kvs : List (KL × PyData)} (h : DT C W ks kvs) (r : Rp C W v d) : DT C W (putK ks k v) (putT kvs k d) := by
  have mp : ∀ {ks : List (KL × V)} {kvs : List (KL × PyData)}, DT C W ks kvs → DT C W (ks.map fun kv => if kv.1 = k then (kv.1, v) else kv) (kvs.map fun kv => if kv.1 = k then (kv.1, d) else kv) := by
    intro ks kvs h
    induction h with
    | nil => exact .nil
    | @cons p q l1 l2 h t ih =>
      have h1 : p.1 = q.1 := h.1
      rw [List.map_cons, List.map_cons]
      refine .cons ?_ ih
      by_cases e : q.1 = k
      · rw [if_pos (h1.trans e), if_pos e]
        exact ⟨h1, r⟩
      · rw [if_neg (fun z => e (h1.symm.trans z)), if_neg e]
        exact h
  unfold putK putT
  rw [dt_any h]
  split
  · exact mp h
  · exact paired_snoc h ⟨rfl, r⟩
theorem dt_merge {W : Hp} : ∀ {more : List (KL × V)} {mo : List (KL × PyData)} {ks : List (KL × V)} {kvs : List (KL × PyData)}, DT C W ks kvs → DT C W more mo → DT C W (mergeK putK ks more) (mergeK putT kvs mo)
  | _, _, _, _, h, .nil => h
  | _, _, _, _, h, .cons (a := p) (b := q) ⟨h1, h2⟩ t => by
    have h1 : p.1 = q.1 := h1
    have r := dt_put (k := q.1) h h2
    rw [← h1] at r
    have := dt_merge r t
    rw [h1] at this
    show DT C W (mergeK putK (putK _ p.1 p.2) _) (mergeK putT (putT _ q.1 q.2) _)
    rw [h1]
    exact this
theorem dt_keys {W : Hp} : ∀ {ks : List (KL × V)} {kvs : List (KL × PyData)}, DT C W ks kvs → ks.map (·.1) = kvs.map (·.1)
  | _, _, .nil => rfl
  | _, _, .cons (a := p) (b := q) h t => by
    have h1 : p.1 = q.1 := h.1
    rw [List.map_cons, List.map_cons, h1, dt_keys t]
/-- a pair of numbers as a key -/
def kP (k : Int × Int) : KL := [.inl k.1, .inl k.2]
def pr2 (k : Int × Int) : PyData := .tuple [.int k.1, .int k.2]
theorem key_at {H : Hp} {v : V} {k : Int × Int} (r : Rp C H v (pr2 k)) : ∃ b, v = .ref b ∧ H b = some (.tup ((kP k).map kV)) := by
  obtain ⟨b, xs, rfl, h1, h2⟩ := r.tup_at
  have e : xs = [k.1, k.2].map V.int := h2.ints
  rw [e] at h1
  exact ⟨b, rfl, h1⟩
theorem ef_newT : Ef C T tDNewT Γ (.dT []) := fun fp lo H σ Q S k p hp => by
  have xn : XT T H (upd H p (.dT [])) := XT.new hp
  exact k _ _ [p] xn (fun l hl => by rw [List.mem_singleton.mp hl]; exact hp) (List.nodup_cons.mpr ⟨by simp, List.nodup_nil⟩) ⟨p, [], rfl, rfl, upd_same, .nil⟩
theorem ed_nidT {i : Nat} {m : Int × Int} {kvs : List (KL × PyData)} (h : Γ[i]? = some (.dT kvs)) (ha : Ed C T ta Γ (pr2 m)) : Ed C T (tDNotIn ta (tVar i)) Γ (.bool (!(valT kvs (kP m)).isSome)) := fun fp lo H σ Q S k =>
  ha fp lo H σ _ S fun v H1 x1 r1 => by
    obtain ⟨p, ks, h1, h2, h3, h4⟩ := (S.step x1).ok i _ h
    obtain ⟨b, rfl, hb⟩ := key_at r1
    refine ⟨_, join_some h1, p, _, rfl, DGet.t h3 (Wo_some hb).2, ?_⟩
    rw [dt_some h4]
    exact k _ H1 x1 (.bl _)
theorem ed_indT {i : Nat} {m : Int × Int} {kvs : List (KL × PyData)} (h : Γ[i]? = some (.dT kvs)) (ha : Ed C T ta Γ (pr2 m)) : Ed C T (tDIn ta (tVar i)) Γ (.bool (valT kvs (kP m)).isSome) := fun fp lo H σ Q S k =>
  ha fp lo H σ _ S fun v H1 x1 r1 => by
    obtain ⟨p, ks, h1, h2, h3, h4⟩ := (S.step x1).ok i _ h
    obtain ⟨b, rfl, hb⟩ := key_at r1
    refine ⟨_, join_some h1, p, _, rfl, DGet.t h3 (Wo_some hb).2, ?_⟩
    rw [dt_some h4]
    exact k _ H1 x1 (.bl _)
theorem ed_dgetT {i : Nat} {m : Int × Int} {kvs : List (KL × PyData)} (h : Γ[i]? = some (.dT kvs)) (ha : Ed C T ta Γ (pr2 m)) (hv : valT kvs (kP m) = some d) : Ed C T (tDGet (tVar i) ta) Γ d := fun fp lo H σ Q S k => by
  obtain ⟨p, ks, h1, h2, h3, h4⟩ := S.ok i _ h
  refine ⟨_, join_some h1, ha fp lo H σ _ S fun v H1 x1 r1 => ?_⟩
  obtain ⟨b, rfl, hb⟩ := key_at r1
  have h3' := x1.kp _ _ h3 (fun _ q => by cases q)
  rcases dt_val (k := kP m) h4 with ⟨_, q⟩ | ⟨c, d', q1, q2, r⟩
  · rw [hv] at q
    cases q
  · rw [hv] at q2
    cases q2
    refine ⟨p, c, rfl, by rw [← q1]; exact DGet.t h3' (Wo_some hb).2, k c H1 x1 (Rp.up x1 r)⟩
theorem go_dputT {i : Nat} {m : Int × Int} {kvs : List (KL × PyData)} (h : Γ[i]? = some (.dT kvs)) (he : Ed C T te Γ d) (ha : Ed C T ta Γ (pr2 m)) (hz : kvs.length ≤ 1000000) (hN : N (Γ.set i (.dT (putT kvs (kP m) d)))) : Go C T (sDPut (tVar i) ta te) Γ N R := fun H0 lo H σ D ⟨fp, S, h0, x0⟩ kn kr =>
  he fp lo H σ _ S fun v H1 x1 r1 => by
    obtain ⟨p, ks, h1, h2, h3, h4⟩ := S.ok i _ h
    refine ⟨_, join_some h1, ha fp lo H1 σ _ (S.step x1) fun y H2 x2 r2 => ?_⟩
    obtain ⟨b, rfl, hb⟩ := key_at r2
    have x := x1.trans x2
    have h3' := x.kp _ _ h3 (fun _ q => by cases q)
    have hl : ks.length = kvs.length := Paired.length h4
    refine ⟨p, _, rfl, DPut.t h3' (Wo_some hb).2 (by rw [hl]; exact sz hz), kn _ σ _ hN ?_⟩
    refine S.mut (fpi := fp i) h0 x0 x (by rw [h2]; exact List.mem_cons_self) trivial (fun b hb => .inl hb) (S.nd i) ?_
    rw [orM_in]
    exact ⟨p, _, h1, h2, upd_same, dt_put (h4.mono (Sa.ext x)) (Rp.up x2 r1)⟩
/-- d.update(a new dict) -/
theorem go_updT {i : Nat} {kvs mo : List (KL × PyData)} (h : Γ[i]? = some (.dT kvs)) (he : Ef C T te Γ (.dT mo)) (hz : kvs.length + mo.length ≤ 1000000) (hk : kvs ≠ [] ∨ ∀ p, p ∈ mo → small p.1) (hN : N (Γ.set i (.dT (mergeK putT kvs mo)))) :
    Go C T (tDrop (tBM K "dict" rUpdT (tVar i) (tCons te tNil))) Γ N R := fun H0 lo H σ D ⟨fp, S, h0, x0⟩ kn kr => by
  obtain ⟨p, ks, h1, h2, h3, h4⟩ := S.ok i _ h
  refine ⟨.ref p, join_some h1, .inr (.inr (.inl ⟨rfl, .inr ⟨ks, h3⟩⟩)), he fp lo H σ _ S fun v H1 fpn x fr nd ok => ?_⟩
  obtain ⟨o, ls, e1, e2, e3, e4⟩ := ok
  cases e1
  subst e2
  have ho : H o = none := fr o List.mem_cons_self
  have h3' := x.kp _ _ h3 (fun _ q => by cases q)
  have l1 : ks.length = kvs.length := Paired.length h4
  have l2 : ls.length = mo.length := Paired.length e4
  refine ⟨p, o, ks, ls, rfl, rfl, ne_of_none h3 ho, h3', e3, by rw [l1, l2]; exact Nat.le_of_lt (sz hz), ?_, kn _ σ _ hN ?_⟩
  · rcases hk with hk | hk
    · refine .inl fun e => hk ?_
      rw [e] at l1
      exact List.length_eq_zero_iff.mp l1.symm
    · refine .inr fun q hq => ?_
      have : q.1 ∈ ls.map (·.1) := List.mem_map.mpr ⟨q, hq, rfl⟩
      rw [dt_keys e4] at this
      obtain ⟨q2, hq2, e⟩ := List.mem_map.mp this
      rw [← e]
      exact hk q2 hq2
  · refine S.mut (fpi := fp i) h0 x0 x (by rw [h2]; exact List.mem_cons_self) trivial (fun b hb => .inl hb) (S.nd i) ?_
    rw [orM_in]
    refine ⟨p, _, h1, h2, upd_same, dt_merge (h4.mono (Sa.ext x)) (e4.mono (Wo_less fun b q => .inl q))⟩
end
end G

set_option maxRecDepth 100000
set_option maxHeartbeats 4000000
/-! The G layer, part 12: {k: v for ..} with pairs for keys. -/
namespace G
open PySem L2
section
variable {C : Addr} {T : Tab} {K : PySem.W.Frag} {Γ : List Sl} {te ta tb tc : TE} {d : PyData} {ds : List PyData} {N : List Sl → Prop} {R : Sl → Prop} {u : TS}
def dcl {α : Type} (key : α → Int × Int) (f : α → PyData) (xs : List α) : List (KL × PyData) := xs.foldl (fun a x => putT a (kP (key x)) (f x)) []
theorem putT_len (kvs : List (KL × PyData)) (k : KL) (d : PyData) : (putT kvs k d).length ≤ kvs.length + 1 := by
  unfold putT
  split
  · rw [List.length_map]; omega
  · rw [List.length_append]; exact Nat.le_refl _
theorem dcl_snoc {α : Type} {key : α → Int × Int} {f : α → PyData} {xs : List α} {x : α} : dcl key f (xs ++ [x]) = putT (dcl key f xs) (kP (key x)) (f x) := by
  unfold dcl
  rw [List.foldl_append]
  rfl
theorem dcl_len {α : Type} {key : α → Int × Int} {f : α → PyData} (xs : List α) : (dcl key f xs).length ≤ xs.length := by
  have h : ∀ (xs : List α) (a : List (KL × PyData)), (xs.foldl (fun a x => putT a (kP (key x)) (f x)) a).length ≤ a.length + xs.length := by
    intro xs
    induction xs with
    | nil => intro a; exact Nat.le_refl _
    | cons x r ih =>
      intro a
      have h1 := ih (putT a (kP (key x)) (f x))
      have h2 := putT_len a (kP (key x)) (f x)
      rw [List.foldl_cons, List.length_cons]
      omega
  have := h xs []
  rw [List.length_nil] at this
  unfold dcl
  omega
theorem ef_dcT {α : Type} {wi : TI} {g : TG} {tk tv : TE} {vs : List Nat} (xs : List α) (enc : α → PyData) (key : α → Int × Int) (f : α → PyData) (hi : Ec C T wi Γ (xs.map enc)) (hz : xs.length ≤ 1000000) (hv : ∀ j, j ∈ vs → NO Γ j = true)
    (hs : ∀ x, x ∈ xs → ∃ u js, Tgt C T g (enc x) u js ∧ (∀ j, j ∈ js → j ∈ vs) ∧ (∀ j, j ∈ js → NO (wipeG Γ vs) j = true) ∧ Ed C T tk (u (wipeG Γ vs)) (pr2 (key x)) ∧ Ed C T tv (u (wipeG Γ vs)) (f x)) :
    Ef C T (tDcT wi g tk tv vs) Γ (.dT (dcl key f xs)) := fun fp lo H σ Q S k =>
  hi fp lo H σ _ S fun J G Y H1 x1 w hG hY => by
    intro D hD
    have S1 := S.step x1
    have nD : ¬ Mh fp lo D := new_out S1 hD
    have nt : ∀ {ks : List (KL × V)} (ps), HO.dT ks ≠ .tbl ps := fun _ q => by cases q
    have up : ∀ b, Mh fp lo b → Mh fp (orM lo [D]) b := fun b q => q.elim (fun q => .inl (.inl q)) .inr
    have down : ∀ b, Mh fp (orM lo [D]) b → Mh fp lo b ∨ b = D := fun b q => by
      rcases q with (q | q) | q
      · exact .inl (.inl q)
      · exact .inr (List.mem_singleton.mp q)
      · exact .inl (.inr q)
    have hMD : Mh fp (orM lo [D]) D := .inl (.inr (List.mem_singleton.mpr rfl))
    have bas : ∀ H2, XT T H1 H2 → LamX.ExtN (Wo (Mh fp lo) H1) (Wo (Mh fp (orM lo [D])) H2) := fun H2 x => Wo_ext (fun b o hb ho q => by
      rcases down b q with q | q
      · exact hb q
      · rw [q, hD] at ho
        cases ho) x.kp
    let P : Nat → Hp → Prop := fun i H2 => XT T H1 H2 ∧ Sa C T fp (orM lo [D]) H2 σ Γ ∧ ∃ acc, H2 D = some (.dT acc) ∧ DT C (Wo (Mh fp (orM lo [D])) H2) acc (dcl key f (xs.take i))
    refine ⟨fun i m H2 => m = xs.length - i ∧ i ≤ xs.length ∧ P i H2, ⟨xs.length, by simp, Nat.zero_le _, XT.new hD, S1.hide hD trivial, [], upd_same, .nil⟩, ?_⟩
    rintro i m H2 ⟨rfl, hile, x12, S2, acc, hacc, racc⟩
    have gg := hG _ _ x12 (bas H2 x12)
    have nlen : (xs.map enc).length = xs.length := List.length_map enc
    rw [nlen] at w
    by_cases hlt : i < xs.length
    · refine .inr ⟨w.goes i H2 hlt gg, P (i + 1), fun H' p' => ⟨xs.length - (i + 1), by omega, rfl, hlt, p'⟩, fun x H3 hy => ?_⟩
      have hxi : xs[i]? = some (xs[i]'hlt) := List.getElem?_eq_getElem hlt
      obtain ⟨a, ha⟩ : ∃ a, xs[i]'hlt = a := ⟨_, rfl⟩
      rw [ha] at hxi
      obtain ⟨x23, rx⟩ := hY i (enc a) (Mh fp (orM lo [D])) H2 x H3 (by rw [List.getElem?_map, hxi]; rfl) x12 (bas H2 x12) (fun b q => S2.al b q) (w.yields i H2 x H3 hlt gg hy)
      have S3 := S2.step x23
      obtain ⟨uu, js, tg, hjs, hno, ek, ev⟩ := hs a (List.mem_of_getElem? hxi)
      refine tg.run fp _ H3 _ _ x _ (S3.wipe hv) hno rx fun ρ S4 hw => ⟨by rw [hw vs hjs, wipe_wipe], ?_⟩
      refine ek fp _ H3 ρ _ S4 fun y H4 x34 ry => ev fp _ H4 ρ _ (S4.step x34) fun c H5 x45 rc => ?_
      obtain ⟨b, rfl, hb⟩ := key_at (Rp.up x45 ry)
      have x25 := (x23.trans x34).trans x45
      have x15 := x12.trans x25
      have acc5 := x25.kp _ _ hacc nt
      have S5 := S2.step x25
      have same : Wo (Mh fp (orM lo [D])) (upd H5 D (.dT (putK acc (kP (key a)) c))) = Wo (Mh fp (orM lo [D])) H5 := Wo_upd hMD
      have alen : acc.length = (dcl key f (xs.take i)).length := Paired.length racc
      have blen := dcl_len (key := key) (f := f) (xs.take i)
      rw [List.length_take] at blen
      have x6 : XT T H1 (upd H5 D (.dT (putK acc (kP (key a)) c))) := XT.mut x15 hD acc5 nt (fun q z => by unfold LamX.CodeO at z; cases z)
      refine ⟨_, DPut.t acc5 (Wo_some hb).2 (sz (by omega)), x6, ⟨S5.len, fun j s h => ?_, S5.out, S5.dj, S5.nd, S5.djl, fun l hl => ?_, x6.tb S1.tabs⟩, _, upd_same, ?_⟩
      · rw [same]
        refine (S5.ok j s h).mono (LamX.ExtN.refl _) fun q o hq z => ?_
        rw [upd_ne fun e => ?_]
        · exact hq
        · rcases z with z | ⟨ys, rfl⟩
          · rw [e] at z
            exact nD (.inr ⟨j, z⟩)
          · rw [e, acc5] at hq
            cases hq
      · by_cases e : l = D
        · rw [e]
          exact ⟨_, upd_same, trivial⟩
        · rw [upd_ne e]
          exact S5.hot l hl
      · rw [same, show xs.take (i + 1) = xs.take i ++ [a] by rw [List.take_add_one, hxi]; rfl, dcl_snoc]
        exact dt_put (racc.mono (Sa.ext x25)) rc
    · have e : i = xs.length := by omega
      subst e
      rw [List.take_length] at racc
      refine .inl ⟨w.stops H2 gg, k _ H2 [D] (x1.trans x12) (fun l hl => by rw [List.mem_singleton.mp hl]; exact x1.al D hD) (List.nodup_cons.mpr ⟨by simp, List.nodup_nil⟩) ⟨D, acc, rfl, rfl, hacc, ?_⟩⟩
      refine racc.mono (Wo_less fun b q => ?_)
      rcases q with q | q
      · exact up b q
      · rw [List.mem_singleton.mp q]
        exact hMD
end
end G

set_option maxRecDepth 100000
set_option maxHeartbeats 4000000
/-! The G layer, part 13: sorted(xs, key=lambda each: each[0]) where each[0] is a pair of numbers. -/
namespace G
open PySem PySem.Spec PyProof.Rows L2
section
variable {X : Cx} {pn : List (Addr × Obj)} {σ : L2.St} {H : Hp} {z : Shared}
theorem code_nc {c p : Addr} {q : Str} {ps : Array Value} : HO.tbl ps ≠ LamX.CodeO c q := fun e => by
  unfold LamX.CodeO at e
  cases e
/-- a lambda is made; the heap that it leaves has no less and keeps all but the table -/
theorem lam_new {T : Tab} {c P : Addr} {params : Arguments} {body : Expr} {sc : Scope} {lp : Pos} {E : Value → Shared → Prop} {Q : Value → Shared → Prop} (J : Inv X pn σ H z) (TB : LamX.TabB X.base X.mg c P) (hcode : X.env.code = .ref c)
    (hm : (P, X.env.qual ++ "<lambda>") ∈ T) (hu : ∀ p ∈ T, p.1 = P → p.2 = X.env.qual ++ "<lambda>") (hT : LamX.Tabs T H) (hdef : defaultsOf params X.env = ([], [])) (hcl : ∀ q ∈ sc.names, q.2 = .free → ∃ c, X.env.cells.lookup q.1 = some c)
    (h : ∀ (f c' : Addr) (pm ctv : Value) (G : Hp) (z' : Shared), Inv X pn σ G z' → XT T H G → G c' = some (LamX.CodeO c' (X.env.qual ++ "<lambda>")) →
      z'.heap.get? f = some (PySem.W.kla_obj "<lambda>" (X.env.qual ++ "<lambda>") params body sc (cloFrom X.env.cells sc.names []) pm c' ctv) → Q (.ref f) z') :
    wpAny (model X.prog X.w) X.A (eval (.Lambda params body sc lp) X.env) Q E z := by
  obtain ⟨ps, hP, tri, known⟩ := hT _ hm
  have oP : z.heap.get? P = some { cls := .none, data := .fields ps } := J.hok P _ hP
  have bl : z.heap.BuiltinsAt X.mg P := TB.bm.keeps J.bk
  have gl := J.mod.glob.keeps J.bk
  have cd := TB.code.keeps J.bk
  refine PySem.W.kla_eval hdef ?_
  cases hc : codeAmong lp ps.toList with
  | some cv =>
    obtain ⟨c', rfl, hco⟩ := known lp cv hc
    refine PySem.W.kla_makeFunctionHit (mg := X.mg) (c := c) (P := P) (ps := ps) (closure_ok hcl) J.ok.glob gl hcode cd oP tri hc bl fun ctv g tk keep _ => ?_
    exact h _ c' _ ctv H _ (J.kept fun b o e => Heap.get?_push_of_some _ (keep b o e)) (XT.refl T H) hco (Heap.get?_push_size _ rfl)
  | none =>
    refine PySem.W.kla_makeFunction (mg := X.mg) (c := c) (P := P) (ps := ps) (closure_ok hcl) J.ok.glob gl hcode cd oP tri hc TB.gP bl fun c' ctv g tk keep ge lt rec tab => ?_
    obtain ⟨c2, oc, vs, t, ec, r1, r2, r3⟩ := rec
    cases ec
    have nC : H c' = none := J.hok.fresh ge
    have PC : P ≠ c' := ne_of_none hP nC
    have J1 := LamX.inv_table (t' := tk) (more := #[rawInt lp.line, rawInt lp.col, .ref c']) (h' := g.push (PySem.W.kla_obj "<lambda>" (X.env.qual ++ "<lambda>") params body sc (cloFrom X.env.cells sc.names []) ((X.mg "__name__").getD .none) c' ctv)) J hP
      (fun b o hb e => Heap.get?_push_of_some _ (keep b o hb e)) (Heap.get?_push_of_some _ tab) ge ⟨oc, vs, t, Heap.get?_push_of_some _ r1, r2, r3⟩
    obtain ⟨G, hG⟩ : ∃ G, upd (upd H P (.tbl (ps ++ #[rawInt lp.line, rawInt lp.col, .ref c']))) c' (LamX.CodeO c' (X.env.qual ++ "<lambda>")) = G := ⟨_, rfl⟩
    rw [hG] at J1
    have kp : LamX.ExtN H G := fun b o e n => by
      rw [← hG, upd_ne (ne_of_none e nC), upd_ne fun q => ?_]
      · exact e
      · rw [q, hP] at e
        exact n ps (Option.some.inj e).symm
    have new : G c' = some (LamX.CodeO c' (X.env.qual ++ "<lambda>")) := by rw [← hG, upd_same]
    have al : ∀ b, G b = none → H b = none := fun b e => by
      rw [← hG] at e
      by_cases h1 : b = c'
      · rw [h1]; exact nC
      · rw [upd_ne h1] at e
        by_cases h2 : b = P
        · rw [h2, upd_same] at e
          cases e
        · rw [upd_ne h2] at e
          exact e
    have tl : (ps ++ #[rawInt lp.line, rawInt lp.col, .ref c']).toList = ps.toList ++ [rawInt lp.line, rawInt lp.col, .ref c'] := by simp
    have tb : LamX.Tabs T G := fun p hp => by
      by_cases h1 : p.1 = P
      · rw [hu p hp h1, h1]
        refine ⟨ps ++ #[rawInt lp.line, rawInt lp.col, .ref c'], by rw [← hG, upd_ne PC, upd_same], by rw [tl]; exact PySem.TriplesOk_snoc _ _ _ _ tri, fun p2 cv e => ?_⟩
        rw [tl] at e
        rcases LamX.among_app _ tri e with q | q
        · obtain ⟨c0, q1, q2⟩ := known p2 cv q
          exact ⟨c0, q1, kp _ _ q2 LamX.codeO_ne⟩
        · exact ⟨c', q, new⟩
      · obtain ⟨ps2, q1, q2, q3⟩ := hT p hp
        refine ⟨ps2, by rw [← hG, upd_ne (ne_of_none q1 nC), upd_ne h1]; exact q1, q2, fun p2 cv e => ?_⟩
        obtain ⟨c0, k1, k2⟩ := q3 p2 cv e
        exact ⟨c0, k1, kp _ _ k2 LamX.codeO_ne⟩
    exact h _ c' _ ctv G _ J1 ⟨kp, al, fun _ => tb⟩ new (Heap.get?_push_size _ rfl)
/-- the call each[0] -/
theorem turn0 {P : Program} {w : World} {A : Around} {x : Str} {params : Arguments} {p1 p2 p3 : Pos} {j : Nat} {sc : Scope} {qual : Str} {cl : List (Str × Addr)} {pm ctv : Value} {f c' : Addr} {u y : Value} {k : PyData}
    (hd : A.depth < recursionLimit) (hf : z.heap.get? f = some (PySem.W.kla_obj "<lambda>" qual params (.Subscript (.Name x p1) (.Constant (.int 0) j p2) p3) sc cl pm c' ctv)) (hc : z.heap.CodeRec (.ref c') qual) (hb : bindArgs (PySem.W.kla_fn "<lambda>" qual params (.Subscript (.Name x p1) (.Constant (.int 0) j p2) p3) sc cl pm (.ref c') ctv) ⟨[u], []⟩ = pure [(x, u)])
    (co : sc.isCoroutine = false) (gn : sc.isGenerator = false) (kd : sc.kind = .function) (nc : ∀ q ∈ sc.names, q.2 ≠ .cell) (lx : sc.names.lookup x = some .local) (lim : z.heap.NoLimit) (dn : (x == ("__debug__" : Str)) = false)
    (tu : ∃ a items, u = .ref a ∧ IsTup z.heap a items ∧ items[0]? = some y) (ry : Reads z.heap y k []) :
    wpAny (model P w) A (call (.ref f) [u]) (PySem.W.KeyPure k z) (fun _ _ => False) z := by
  refine wpAny_call ?_
  refine PySem.W.kla_callFunE hd hf rfl co gn rfl hc ?_
  rw [hb]
  refine wpAny_pure (wpAny_newFunctionEnv nc (fun q hq => by rw [List.mem_singleton.mp hq]; exact lx) (fun g ns sb => ⟨lim.fresh _ sb, ?_⟩) kd)
  have kp : ∀ b o, z.heap.get? b = some o → g.get? b = some o := fun b o e => sb.extBut b o (Nat.ne_of_lt (Heap.lt_size e)) (Heap.get?_push_of_some _ e)
  refine PySem.W.kla_codeExpr ?_
  refine Subscript_ (wpAny_Name (wpAny_loadName_local (v := u) kd lx ns (by simp) ?_) dn)
  refine wpAny_Constant_int ?_
  obtain ⟨a, items, rfl, it, e0⟩ := tu
  have it2 : IsTup g a items := by
    obtain ⟨o, q1, q2⟩ := it
    exact ⟨o, kp _ _ q1, q2⟩
  refine subscriptTail_builtinR (x := y) it2.typeIs slot_tuple_getitem.lookup (getItem_tuple (j := 0) (x := y) it2 (by decide) (by decide) ?_ e0 ⟨rfl, g, _, rfl, kp, Reads.keeps kp ry⟩)
  have : 0 < items.size := by
    obtain ⟨h, _⟩ := Array.getElem?_eq_some_iff.mp e0
    exact h
  unfold seqIndex?
  simp [this]
/-! ### the call -/
def mle (a b : Int × Int) : Bool := decide (a.1 < b.1 ∨ (a.1 = b.1 ∧ a.2 ≤ b.2))
abbrev VM := V × (Int × Int)
def msort (bs : List VM) : List VM := bs.mergeSort fun p q => mle p.2 q.2
/-- the item's first is that pair -/
def fst0 (H : Hp) (p : VM) : Prop := ∃ (a b : Addr) (ys : List V), p.1 = .ref a ∧ H a = some (.tup (.ref b :: ys)) ∧ H b = some (.tup [.int p.2.1, .int p.2.2])
def tSort0 (K : PySem.W.Frag) (T : Tab) (ta : TA) : TE := fun σ H Q => ta σ H fun us G => LamX.Tabs T G ∧ ∃ (l : Addr) (bs : List VM), us = [.ref l] ∧ SqL K G l (bs.map (·.1)) ∧ bs.length ≤ 1000000 ∧ (∀ p, p ∈ bs → fst0 G p) ∧
  ∀ (G2 : Hp) (L : Addr), XT T G G2 → G2 L = none → Q (.ref L) (upd G2 L (.lst ((msort bs).map (·.1))))
theorem vals_each {vs : List V} {us : List Value} (r : Vals vs us) : ∀ {bs : List VM}, vs = bs.map (·.1) → ∀ {F : Value → VM → Prop}, (∀ p u, p ∈ bs → RelV p.1 u → F u p) → PySem.W.EachIs F us bs := by
  induction r with
  | nil =>
    intro bs e F h
    cases bs with
    | nil => exact .nil
    | cons b r => cases e
  | @cons v u vs us h1 h2 ih =>
    intro bs e F h
    cases bs with
    | nil => cases e
    | cons b r =>
      rw [List.map_cons] at e
      injection e with e1 e2
      exact .cons (h b u List.mem_cons_self (e1 ▸ h1)) (ih e2 fun p u hp hr => h p u (List.mem_cons_of_mem _ hp) hr)
theorem each_vals {F : Value → VM → Prop} (hF : ∀ u p, F u p → RelV p.1 u) : ∀ {us : List Value} {bs : List VM}, PySem.W.EachIs F us bs → Vals (bs.map (·.1)) us
  | _, _, .nil => .nil
  | _, _, .cons h t => .cons (hF _ _ h) (each_vals hF t)
theorem pe_sort0 {T : Tab} {c P : Addr} {params : Arguments} {sc : Scope} {x : Str} {e : Expr} {ta : TA} {p p1 p2 p3 lp kp pos : Pos} {j : Nat} (hg : Gl X "sorted") (hm : X.mg "sorted" = none) (TB : LamX.TabB X.base X.mg c P) (hcode : X.env.code = .ref c)
    (hT : (P, X.env.qual ++ "<lambda>") ∈ T) (hT2 : ∀ q ∈ T, q.1 = P → q.2 = X.env.qual ++ "<lambda>") (hu : X.A.units + 64 < cLine) (hd : X.A.depth < recursionLimit) (ha : PA X [e] ta)
    (co : sc.isCoroutine = false := by rfl) (gn : sc.isGenerator = false := by rfl) (kd : sc.kind = .function := by rfl) (nm : sc.names = [(x, .local)] := by rfl) (dn : (x == ("__debug__" : Str)) = false := by decide)
    (hb : ∀ (q : Str) (cl : List (Str × Addr)) (pm cv ctv u : Value), bindArgs (PySem.W.kla_fn "<lambda>" q params (.Subscript (.Name x p1) (.Constant (.int 0) j p2) p3) sc cl pm cv ctv) ⟨[u], []⟩ = pure [(x, u)] := by intros; rfl)
    (hdef : defaultsOf params X.env = ([], []) := by rfl) (he : backTo pos (starEach [e] X.env) = (false, eval e X.env) :: backTo pos (starEach [] X.env) := by rfl) (hpl : (backTo pos (starEach [e] X.env)).any (·.1) = false := by rfl) :
    PE X (.Call (.Name "sorted" p) [e] [⟨some "key", .Lambda params (.Subscript (.Name x p1) (.Constant (.int 0) j p2) p3) sc lp, kp⟩] pos) (tSort0 X.K T ta) := by
  refine ⟨fun pn s σ H Q I h => ?_⟩
  refine wpAny_Call_Name_kw (ld_blt I hg hm boot_sorted ?_)
  refine PyProof.Rows.callWith_kw (thn (ha.run pos pn s σ H _ I h) fun us s1 got => ?_) he hpl
  obtain ⟨vs, G, I1, r1, hTab, l, bs, rfl, hl, hz, hfst, fin⟩ := got
  cases r1 with
  | cons r0 rr =>
  cases rr
  cases (show _ = Value.ref l from r0)
  show wpAny _ _ (evalAll [do let v ← eval (.Lambda params (.Subscript (.Name x p1) (.Constant (.int 0) j p2) p3) sc lp) X.env; standAt pos; pure v]) _ _ s1
  have nofree : ∀ q ∈ sc.names, q.2 = .free → ∃ c, X.env.cells.lookup q.1 = some c := fun q hq e => by
    rw [nm, List.mem_singleton] at hq
    rw [hq] at e
    cases e
  refine wpAny_evalAll_cons (wpAny_bind (lam_new I1 TB hcode hT hT2 hTab hdef nofree fun f c' pm ctv G2 s2 I2 x2 hco hf => wpAny_bind (wpAny_standAt (wpAny_pure (wpAny_evalAll_nil ?_)))))
  show wpAny _ _ (call (.builtin "sorted") [.ref l] [(Str.ofString "key", .ref f)]) _ _ s2
  have hl2 : SqL X.K G2 l (bs.map (·.1)) := sqL_ext hl x2.kp
  obtain ⟨its, rv, isl, hz2⟩ := I2.list hl2
  obtain ⟨⟨oc, cvs, t, q1, q2, q3⟩, _, _⟩ := I2.hok c' _ hco
  let F : Value → VM → Prop := fun u q => RelV q.1 u ∧ ∃ (a : Addr) (items : Array Value) (y : Value), u = .ref a ∧ IsTup s2.heap a items ∧ items[0]? = some y ∧ Reads s2.heap y (.tuple [.int q.2.1, .int q.2.2]) []
  have hF : ∀ q u, q ∈ bs → RelV q.1 u → F u q := fun q u hq hr => by
    refine ⟨hr, ?_⟩
    obtain ⟨a, b, ys, e1, e2, e3⟩ := hfst q hq
    rw [e1] at hr
    cases (show u = Value.ref a from hr)
    obtain ⟨_, items, k1, k2⟩ := (show ObjOk X.prog X.w G2 s2.heap a (.tup (.ref b :: ys)) from I2.hok a _ (x2.kp _ _ e2 nt_tup))
    obtain ⟨_, its2, m1, m2⟩ := (show ObjOk X.prog X.w G2 s2.heap b (.tup [.int q.2.1, .int q.2.2]) from I2.hok b _ (x2.kp _ _ e3 nt_tup))
    cases k1 with
    | cons k3 k4 =>
      cases (show _ = Value.ref b from k3)
      refine ⟨a, _, .ref b, rfl, k2, rfl, ?_⟩
      cases m1 with
      | cons m3 m4 =>
        cases m4 with
        | cons m5 m6 =>
          cases m6
          obtain ⟨t1, rfl⟩ := m3
          obtain ⟨t2, rfl⟩ := m5
          obtain ⟨o, o1, o2, n, o3⟩ := m2
          exact Reads.tuple o1 o2 o3 (.cons (.int _ _) (.cons (.int _ _) .nil))
  have ea := vals_each rv rfl hF
  have dep : ∀ a b : Int, (PyData.tuple [.int a, .int b]).depth = 1 := fun a b => by simp [PyData.depth, PyData.depthAll]
  refine PySem.W.sorted_key_data (b := false) (fun q : VM => .tuple [.int q.2.1, .int q.2.2]) isl.isList ea (PySem.W.AllAlike.of fun _ _ => by simp [PySem.W.alike, PySem.W.alikeAll]) (PySem.W.Sortable.tuples fun _ => ⟨_, _, rfl⟩) (Nat.le_of_lt (sz hz)) (fun q _ => by rw [dep]; omega)
    (PyProof.Rows.ksk_s1 _ _) (fun _ => PyProof.Rows.ksk_l1 _ _) (fun _ => PyProof.Rows.ksk_t1 _ _) (fun v q hv _ g tk keep => ?_) fun out cc g tk keep nn hD hlen eo => ?_
  · obtain ⟨_, a, items, y, rfl, k1, k2, k3⟩ := hv
    have k1' : IsTup g a items := by
      obtain ⟨o, z1, z2⟩ := k1
      exact ⟨o, keep _ _ z1, z2⟩
    exact turn0 (z := { s2 with heap := g, toks := tk }) hd (keep _ _ hf) ⟨c', oc, cvs, t, rfl, keep _ _ q1, q2, q3⟩ (hb _ _ _ _ _ _) co gn kd (fun q hq => by rw [nm, List.mem_singleton] at hq; rw [hq]; exact fun z => nomatch z) (by rw [nm]; simp) (I2.nolimit.keeps keep) dn ⟨a, items, rfl, k1', k2⟩ (Reads.keeps keep k3)
  · rw [PySem.W.dataLe_ii (β := VM) (fun q => q.2.1) (fun q => q.2.2)] at eo
    have ev := each_vals (fun u p h => h.1) eo
    have ll : ((msort bs).map (·.1)).length ≤ sizeLine := by
      unfold msort
      rw [List.length_map, List.length_mergeSort]
      exact Nat.le_of_lt (sz hz)
    exact ⟨.ref _, _, I2.laid (o := .lst ((msort bs).map (·.1))) (t' := tk) keep (Nat.le_succ _) ⟨ll, out, cc, ev, hD⟩, rfl, fin G2 _ x2 (I2.hok.fresh (Nat.le_succ _))⟩
end
end G

set_option maxRecDepth 100000
set_option maxHeartbeats 4000000
/-! The G layer, part 14: the sorted list; lists of new lists; objects. -/
namespace G
open PySem L2
section
variable {C : Addr} {T : Tab} {K : PySem.W.Frag} {Γ : List Sl} {te ta tb tc : TE} {d : PyData} {ds : List PyData} {N : List Sl → Prop} {R : Sl → Prop} {u : TS}
/-! ### sorted -/
def ksort {α : Type} (key : α → Int × Int) (xs : List α) : List α := xs.mergeSort fun a b => mle (key a) (key b)
theorem rpA_zip {W : Hp} {α : Type} {enc : α → PyData} : ∀ {ys : List V} {xs : List α}, RpA C W ys (xs.map enc) → (ys.zip xs).map (·.1) = ys ∧ (ys.zip xs).map (·.2) = xs ∧ ∀ c, c ∈ ys.zip xs → Rp C W c.1 (enc c.2) := by
  intro ys
  induction ys with
  | nil =>
    intro xs r
    cases xs with
    | nil => exact ⟨rfl, rfl, fun c hc => by cases hc⟩
    | cons a t => cases r
  | cons y ys ih =>
    intro xs r
    cases xs with
    | nil => cases r
    | cons a t =>
      rw [List.map_cons] at r
      cases r with
      | cons h q =>
        obtain ⟨e1, e2, e3⟩ := ih q
        refine ⟨by rw [List.zip_cons_cons, List.map_cons, e1], by rw [List.zip_cons_cons, List.map_cons, e2], fun c hc => ?_⟩
        rw [List.zip_cons_cons] at hc
        rcases List.mem_cons.mp hc with hc | hc
        · rw [hc]; exact h
        · exact e3 c hc
theorem rpA_of {W : Hp} {α : Type} {enc : α → PyData} : ∀ {cs : List (V × α)}, (∀ c, c ∈ cs → Rp C W c.1 (enc c.2)) → RpA C W (cs.map (·.1)) ((cs.map (·.2)).map enc)
  | [], _ => .nil
  | c :: t, h => .cons (h c List.mem_cons_self) (rpA_of fun x hx => h x (List.mem_cons_of_mem _ hx))
theorem ef_sort0 {α : Type} {ta : TA} (xs : List α) (enc : α → PyData) (key : α → Int × Int) (rest : α → List PyData) (he : ∀ a, a ∈ xs → enc a = .tuple (pr2 (key a) :: rest a)) (ha : EA C T ta Γ [.list (xs.map enc)]) (hz : xs.length ≤ 1000000) :
    Ef C T (tSort0 K T ta) Γ (.own ((ksort key xs).map enc)) := fun fp lo H σ Q S k => ha fp lo H σ _ S fun vs H1 x1 r1 => by
  cases r1 with
  | cons h t =>
  cases t
  obtain ⟨l, ys, rfl, h1, h2⟩ := h.list_at
  have S1 := S.step x1
  obtain ⟨e1, e2, e3⟩ := rpA_zip h2
  let f : V × α → VM := fun c => (c.1, key c.2)
  have ef1 : ((ys.zip xs).map f).map (·.1) = ys := by rw [List.map_map]; exact e1
  have lz : (ys.zip xs).length = xs.length := by rw [← congrArg List.length e2, List.length_map]
  refine ⟨S1.tabs, l, (ys.zip xs).map f, rfl, ?_, by rw [List.length_map, lz]; exact hz, fun p hp => ?_, fun G2 L x2 hL => ?_⟩
  · rw [ef1]
    exact SqL.of (Wo_some h1).2
  · obtain ⟨c, hc, rfl⟩ := List.mem_map.mp hp
    have r := e3 c hc
    have hx : c.2 ∈ xs := by rw [← e2]; exact List.mem_map.mpr ⟨c, hc, rfl⟩
    rw [he c.2 hx] at r
    obtain ⟨a, zs, q1, q2, q3⟩ := r.tup_at
    cases q3 with
    | cons q4 q5 =>
      obtain ⟨b, bs, z1, z2, z3⟩ := q4.tup_at
      have z4 : bs = [(key c.2).1, (key c.2).2].map V.int := z3.ints
      subst z1 z4
      exact ⟨a, b, _, q1, (Wo_some q2).2, (Wo_some z2).2⟩
  · have ms : msort ((ys.zip xs).map f) = ((ys.zip xs).mergeSort fun a b => mle (key a.2) (key b.2)).map f := by
      unfold msort
      exact (List.map_mergeSort (r := fun a b => mle (key a.2) (key b.2)) (s := fun p q : VM => mle p.2 q.2) (f := f) fun a _ b _ => rfl).symm
    have mx : ksort key xs = ((ys.zip xs).mergeSort fun a b => mle (key a.2) (key b.2)).map (·.2) := by
      unfold ksort
      have := List.map_mergeSort (r := fun a b => mle (key a.2) (key b.2)) (s := fun a b => mle (key a) (key b)) (f := fun c : V × α => c.2) (l := ys.zip xs) fun a _ b _ => rfl
      rw [e2] at this
      exact this.symm
    have x12 := x1.trans x2
    have hH : H L = none := x12.al L hL
    have nM : ¬ Mh fp lo L := fun q => S.al L q hH
    have xn : XT T G2 (upd G2 L (.lst ((msort ((ys.zip xs).map f)).map (·.1)))) := XT.new hL
    refine k _ _ [L] (x12.trans xn) (fun b hb => by rw [List.mem_singleton.mp hb]; exact hH) (List.nodup_cons.mpr ⟨by simp, List.nodup_nil⟩) ⟨L, _, rfl, rfl, upd_same, ?_⟩
    have ex : LamX.ExtN (Wo (Mh fp lo) H1) (Wo (orM (Mh fp lo) [L]) (upd G2 L (.lst ((msort ((ys.zip xs).map f)).map (·.1))))) := Wo_ext (fun b o hb ho q => by
      rcases q with q | q
      · exact hb q
      · rw [List.mem_singleton.mp q, x2.al L hL] at ho
        cases ho) (x2.trans xn).kp
    generalize Wo (orM (Mh fp lo) [L]) (upd G2 L (.lst ((msort ((ys.zip xs).map f)).map (·.1)))) = W at ex
    rw [ms, mx, List.map_map]
    exact rpA_of fun c hc => (e3 c ((List.mergeSort_perm _ _).mem_iff.mp hc)).mono ex
/-! ### lists of new lists -/
theorem Sa.stepHide {fp : Nat → List Addr} {lo : AS} {H H' : Hp} {σ : L2.St} {fpn : List Addr} (S : Sa C T fp lo H σ Γ) (x : XT T H H') (fr : ∀ l, l ∈ fpn → H l = none) (ho : ∀ l, l ∈ fpn → ∃ o, H' l = some o ∧ HotO o) : Sa C T fp (orM lo fpn) H' σ Γ := by
  have S1 := S.step x
  have eW : LamX.ExtN (Wo (Mh fp lo) H) (Wo (Mh fp (orM lo fpn)) H') := Wo_ext (fun b o hb hb2 q => by
    rcases q with (q | q) | q
    · exact hb (.inl q)
    · rw [fr b q] at hb2
      cases hb2
    · exact hb (.inr q)) x.kp
  refine ⟨S1.len, fun i s h => (S.ok i s h).mono eW fun b o e q => ?_, S1.out, S1.dj, S1.nd, fun i l hl q => ?_, fun l hl => ?_, S1.tabs⟩
  · refine x.kp b o e ?_
    rcases q with q | ⟨xs, rfl⟩
    · obtain ⟨o', h1, h2⟩ := S.hots b (.inr ⟨i, q⟩)
      rw [e] at h1
      cases h1
      exact h2.nt
    · exact nt_tup
  · rcases q with q | q
    · exact S.djl i l hl q
    · exact S.al l (.inr ⟨i, hl⟩) (fr l q)
  · rcases hl with hl | hl
    · exact S1.hot l hl
    · exact ho l hl
/-- [a new list for x in xs] -/
theorem ef_lcO {α : Type} {wi : TI} {g : TG} {te : TE} {vs : List Nat} (xs : List α) (enc : α → PyData) (f : α → List PyData) (hi : Ec C T wi Γ (xs.map enc)) (hz : xs.length ≤ 1000000) (hv : ∀ j, j ∈ vs → NO Γ j = true)
    (hs : ∀ x, x ∈ xs → ∃ u js, Tgt C T g (enc x) u js ∧ (∀ j, j ∈ js → j ∈ vs) ∧ (∀ j, j ∈ js → NO (wipeG Γ vs) j = true) ∧ Ef C T te (u (wipeG Γ vs)) (.own (f x))) :
    Ef C T (tLc wi g tYes te vs) Γ (.own2 (xs.map f)) := fun fp lo H σ Q S k =>
  hi fp lo H σ _ S fun J G Y H1 x1 w hG hY => by
    intro D hD
    have S1 := S.step x1
    let P : Nat → Hp → Prop := fun i H2 => ∃ as : List Addr, XT T H1 H2 ∧ Sa C T fp (orM lo (D :: as)) H2 σ Γ ∧ (∀ b, b ∈ D :: as → H1 b = none) ∧ (D :: as).Nodup ∧ H2 D = some (.lst (as.map V.ref)) ∧ Rows C (Wo (Mh fp (orM lo (D :: as))) H2) H2 as ((xs.take i).map f)
    have bas : ∀ {as H2}, XT T H1 H2 → (∀ b, b ∈ D :: as → H1 b = none) → LamX.ExtN (Wo (Mh fp lo) H1) (Wo (Mh fp (orM lo (D :: as))) H2) := fun {as H2} x fr => Wo_ext (fun b o hb ho q => by
      rcases q with (q | q) | q
      · exact hb (.inl q)
      · rw [fr b q] at ho
        cases ho
      · exact hb (.inr q)) x.kp
    refine lc_it (n := (xs.map enc).length) w P ?_ (fun i H2 _ h => ?_) ?_ ?_
    · exact ⟨[], XT.new hD, S1.hide hD trivial, fun b hb => by rw [List.mem_singleton.mp hb]; exact hD, List.nodup_cons.mpr ⟨by simp, List.nodup_nil⟩, upd_same, by rw [List.take_zero, List.map_nil]; exact Paired.nil⟩
    · obtain ⟨as, x12, S2, fr, _⟩ := h
      exact hG _ _ x12 (bas x12 fr)
    · rintro i x H2 H3 hin ⟨as, x12, S2, fr, nd, hD2, rows⟩ hy
      rw [List.length_map] at hin
      have hxi : xs[i]? = some (xs[i]'hin) := List.getElem?_eq_getElem hin
      generalize hxx : xs[i]'hin = a at hxi
      obtain ⟨x23, rx⟩ := hY i (enc a) (Mh fp (orM lo (D :: as))) H2 x H3 (by rw [List.getElem?_map, hxi]; rfl) x12 (bas x12 fr) (fun b q => S2.al b q) hy
      have S3 := S2.step x23
      obtain ⟨uu, js, tg, hjs, hno, he⟩ := hs a (List.mem_of_getElem? hxi)
      refine tg.run fp _ H3 _ _ x _ (S3.wipe hv) hno rx fun ρ S4 hw => ⟨by rw [hw vs hjs, wipe_wipe], ?_⟩
      refine (et_yes (C := C) (T := T)) fp _ H3 ρ _ S4 fun H4 x34 => iteT ?_
      refine he fp _ H4 ρ _ (S4.step x34) fun y H5 fpn x45 frn ndn ok => ?_
      have x35 := x34.trans x45
      obtain ⟨b, ys, e1, e2, e3, e4⟩ := ok
      cases e1
      subst e2
      have hb3 : H3 b = none := x34.al b (frn b List.mem_cons_self)
      have x25 := x23.trans x35
      have x15 := x12.trans x25
      have D5 := x25.kp _ _ hD2 nt_lst
      have nbD : b ≠ D := fun q => by
        rw [q, x23.kp _ _ hD2 nt_lst] at hb3
        cases hb3
      have nbas : ¬ b ∈ as := fun q => by
        obtain ⟨zs, hz2⟩ := rows.all b q
        rw [x23.kp _ _ hz2 nt_lst] at hb3
        cases hb3
      obtain ⟨nd1, nd2⟩ := List.nodup_cons.mp nd
      have S5 := S3.stepHide (fpn := [b]) x35 (fun l hl => by rw [List.mem_singleton.mp hl]; exact hb3) (fun l hl => by rw [List.mem_singleton.mp hl]; exact ⟨_, e3, trivial⟩)
      have eqM : orM (orM lo (D :: as)) [b] = orM lo (D :: (as ++ [b])) := funext fun q => propext ⟨fun h => by
        rcases h with (h | h) | h
        · exact .inl h
        · rcases List.mem_cons.mp h with h | h
          · exact .inr (by rw [h]; exact List.mem_cons_self)
          · exact .inr (List.mem_cons_of_mem _ (List.mem_append_left _ h))
        · exact .inr (List.mem_cons_of_mem _ (List.mem_append_right _ h)), fun h => by
        rcases h with h | h
        · exact .inl (.inl h)
        · rcases List.mem_cons.mp h with h | h
          · exact .inl (.inr (by rw [h]; exact List.mem_cons_self))
          · rcases List.mem_append.mp h with h | h
            · exact .inl (.inr (List.mem_cons_of_mem _ h))
            · exact .inr h⟩
      rw [eqM] at S5
      have hMD : Mh fp (orM lo (D :: (as ++ [b]))) D := .inl (.inr List.mem_cons_self)
      have al : as.length = ((xs.take i).map f).length := rows.length
      rw [List.length_map, List.length_take] at al
      have x6 : XT T H1 (upd H5 D (.lst (as.map V.ref ++ [V.ref b]))) := XT.mut x15 hD D5 nt_lst (fun q z => by unfold LamX.CodeO at z; cases z)
      have same : Wo (Mh fp (orM lo (D :: (as ++ [b])))) (upd H5 D (.lst (as.map V.ref ++ [V.ref b]))) = Wo (Mh fp (orM lo (D :: (as ++ [b])))) H5 := Wo_upd hMD
      have nDfp : ∀ j, ¬ D ∈ fp j := fun j q => S1.al D (.inr ⟨j, q⟩) hD
      refine ⟨as.map V.ref, D5, by rw [List.length_map]; exact sz (by omega), as ++ [b], x6, ⟨S5.len, fun j s h => ?_, S5.out, S5.dj, S5.nd, S5.djl, fun l hl => ?_, x6.tb S1.tabs⟩, fun c hc => ?_, ?_, ?_, ?_⟩
      · rw [same]
        refine (S5.ok j s h).mono (LamX.ExtN.refl _) fun q o hq z => ?_
        rw [upd_ne fun e => ?_]
        · exact hq
        · rcases z with z | ⟨zs, rfl⟩
          · rw [e] at z
            exact nDfp j z
          · rw [e, D5] at hq
            cases hq
      · by_cases e : l = D
        · rw [e]
          exact ⟨_, upd_same, trivial⟩
        · rw [upd_ne e]
          exact S5.hot l hl
      · rcases List.mem_cons.mp hc with hc | hc
        · rw [hc]; exact hD
        · rcases List.mem_append.mp hc with hc | hc
          · exact fr c (List.mem_cons_of_mem _ hc)
          · rw [List.mem_singleton.mp hc]
            exact (x12.trans x23).al b hb3
      · refine List.nodup_cons.mpr ⟨fun q => ?_, List.nodup_append.mpr ⟨nd2, by simp, fun c hc c' hc' z => ?_⟩⟩
        · rcases List.mem_append.mp q with q | q
          · exact nd1 q
          · exact nbD (List.mem_singleton.mp q).symm
        · rw [List.mem_singleton.mp hc'] at z
          exact nbas (z ▸ hc)
      · rw [upd_same, List.map_append]
        rfl
      · rw [same, show xs.take (i + 1) = xs.take i ++ [a] by rw [List.take_add_one, hxi]; rfl, List.map_append]
        refine Rows.snoc (rows.mono (Wo_ext (fun q o hq hq2 z => ?_) x25.kp) fun c hc zs hz2 => ?_) (by rw [upd_ne nbD]; exact e3) ?_
        · rcases z with (z | z) | z
          · exact hq (.inl (.inl z))
          · rcases List.mem_cons.mp z with z | z
            · exact hq (.inl (.inr (by rw [z]; exact List.mem_cons_self)))
            · rcases List.mem_append.mp z with z | z
              · exact hq (.inl (.inr (List.mem_cons_of_mem _ z)))
              · rw [List.mem_singleton.mp z, x23.al b hb3] at hq2
                cases hq2
          · exact hq (.inr z)
        · rw [upd_ne (b := c) (a := D) fun e => nd1 (by rw [← e]; exact hc)]
          exact x25.kp _ _ hz2 nt_lst
        · refine e4.mono (Wo_less fun q z => ?_)
          rcases z with z | z
          · rw [← eqM] at z
            rcases z with z | z
            · exact .inl (.inl z)
            · exact .inr z
          · exact .inl (.inr z)
    · rintro H2 ⟨as, x12, S2, fr, nd, hD2, rows⟩
      rw [List.length_map, List.take_length] at rows
      refine k _ H2 (D :: as) (x1.trans x12) (fun l hl => x1.al l (fr l hl)) nd ⟨D, as, rfl, rfl, hD2, ?_⟩
      refine rows.mono (Wo_less fun b q => ?_) fun b _ zs h => h
      rcases q with (q | q) | q
      · exact .inl (.inl q)
      · exact .inr q
      · exact .inl (.inr q)
end
end G

set_option maxRecDepth 100000
set_option maxHeartbeats 4000000
/-! The G layer, part 15: objects. -/
namespace G
open PySem L2
/-- the class as the top has left it, with its __init__ -/
structure CDef (K : PySem.W.Frag) (mg : Str → Option Value) (C : Addr) (x qual : Str) (st : Stmt) (ps : List Str) : Prop where
  ex : ∃ (f : Addr) (fd : FuncData), Fun K "__init__" qual st f fd ∧ Mk K C f ∧ mg x = some (.ref C) ∧ Binds K fd ps []
theorem CDef.mak {P : Program} {w : World} {K : PySem.W.Frag} {mg : Str → Option Value} {base : Heap} {C : Addr} {x qual : Str} {st : Stmt} {N ps : List Str} {k : Nat} {sp : Sp} (F : CDef K mg C x qual st ps) (S : FnScope N ps (defScope st)) (len : ∀ vs H Q E, sp vs H Q E → vs.length = ps.length)
    (hbody : ∀ (f : Addr) (cdv : Value) (A : Around) (outer : List Env) (s : Shared) (H : Hp) (vs : List V) (Q : VK) (E : XK), Room k (A.deeper (PyProof.Rows.envOfC qual (defScope st) s.heap.objs.size f cdv)) → sp vs H Q E →
      ∃ t, PSs (cxOf CX0 P w K mg base N qual (defScope st) f cdv A outer s H E).nox (defBody st) t ∧ t { nx := fun _ H' => Q .non H', rt := Q } (L2.start N vs) H) : Mak P w K mg base (k + 1) x C sp := by
  obtain ⟨f, fd, F, m, hm, b⟩ := F.ex
  exact ⟨f, fd, ps, m, F.ok S len (hbody f), hm, b⟩
/-- what __init__ promises: eight new lists -/
def spInit (C : Addr) (T : Tab) : Sp := fun vs H Q _ => ∃ (x dx : Addr), vs = [.ref x] ∧ H x = some (.ins C dx []) ∧ LamX.Tabs T H ∧
  ∀ (H' : Hp) (a : Addr) (as : List Addr), XT T H H' → (∀ b, b ∈ a :: as → H b = none) → (a :: as).Nodup → H' a = some (.lst (as.map V.ref)) → as.length = 8 → (∀ b, b ∈ as → H' b = some (.lst [])) → Q .non (upd H' x (.ins C dx (flds a)))
/-- what add promises -/
def spAdd (C : Addr) : Sp := fun vs H Q _ => ∃ (o dx a : Addr) (as : List Addr) (r : Int) (j : Nat) (b : Addr) (xs : List V) (v : V), vs = [.ref o, .int r, v] ∧ H o = some (.ins C dx (flds a)) ∧ H a = some (.lst (as.map V.ref)) ∧ ixN as.length r = some j ∧ as[j]? = some b ∧
  H b = some (.lst xs) ∧ xs.length < sizeLine ∧ Q .non (upd H b (.lst (xs ++ [v])))
theorem put_flds {a b : Addr} : putF "rows" (.ref b) (flds a) = flds b := by
  show (if ("rows" : Str) = "rows" then [(("rows" : Str), V.ref b)] else _) = [(("rows" : Str), V.ref b)]
  rw [if_pos rfl]
section
variable {C : Addr} {T : Tab} {K : PySem.W.Frag} {Γ : List Sl} {te ta tb tc : TE} {d : PyData} {ds : List PyData} {dss : List (List PyData)} {ts : List PyData} {N : List Sl → Prop} {R : Sl → Prop} {u : TS} {E : XK}
theorem nt_ins {dx : Addr} {fs : List (Str × V)} : ∀ ps, HO.ins C dx fs ≠ .tbl ps := fun _ q => by cases q
/-- an object made -/
theorem ef_mk : Ef C T (tMake C (spInit C T) [] E tNil) Γ (.obj (List.replicate 8 [])) := fun fp lo H σ Q S k => by
  show ∀ x dx, H x = none → H dx = none → dx ≠ x → _
  intro x dx hx hdx hne
  have x1 : XT T H (upd H dx (.own x)) := XT.new hdx
  have hx1 : upd H dx (.own x) x = none := by rw [upd_ne (Ne.symm hne)]; exact hx
  have x2 := x1.trans (XT.new (o := .ins C dx []) hx1)
  refine ⟨x, dx, rfl, upd_same, x2.tb S.tabs, fun H' a as x3 fr nd ha hl has => ⟨rfl, ?_⟩⟩
  have hx3 : H' x = some (.ins C dx []) := x3.kp _ _ upd_same nt_ins
  have nx : ∀ b, b ∈ a :: as → b ≠ x := fun b hb e => by
    have := fr b hb
    rw [e, upd_same] at this
    cases this
  have al : ∀ b, b ∈ a :: as → H b = none := fun b hb => x2.al b (fr b hb)
  refine k _ _ (x :: a :: as) (XT.mut (x2.trans x3) hx hx3 nt_ins (fun q z => by unfold LamX.CodeO at z; cases z)) (fun l hl => ?_) (List.nodup_cons.mpr ⟨fun q => nx x q rfl, nd⟩) ⟨x, dx, a, as, rfl, rfl, upd_same, ?_, ?_⟩
  · rcases List.mem_cons.mp hl with q | q
    · rw [q]; exact hx
    · exact al l q
  · rw [upd_ne (nx a List.mem_cons_self)]
    exact ha
  · have h8 : as.length = (List.replicate 8 ([] : List PyData)).length := by rw [hl]; rfl
    generalize Wo (orM (Mh fp lo) (x :: a :: as)) (upd H' x (.ins C dx (flds a))) = W
    have hh : ∀ b, b ∈ as → upd H' x (.ins C dx (flds a)) b = some (.lst []) := fun b hb => by
      rw [upd_ne (nx b (List.mem_cons_of_mem _ hb))]
      exact has b hb
    generalize upd H' x (.ins C dx (flds a)) = G at hh
    clear nd al nx fr has ha x3 hx3
    have key : ∀ (n : Nat) (as : List Addr), as.length = n → (∀ b, b ∈ as → G b = some (.lst [])) → Rows C W G as (List.replicate n []) := by
      intro n
      induction n with
      | zero =>
        intro as h _
        rw [List.length_eq_zero_iff.mp h]
        exact .nil
      | succ n ih =>
        intro as h q
        cases as with
        | nil => cases h
        | cons b r =>
          rw [List.replicate_succ]
          exact .cons ⟨[], q b List.mem_cons_self, .nil⟩ (ih r (by simpa using h) fun c hc => q c (List.mem_cons_of_mem _ hc))
    exact key 8 as hl hh
/-- the field of an object that the slot owns is replaced -/
theorem go_fldO {i : Nat} {dss' : List (List PyData)} (hC : Cls K C) (hNo : NoAttr K C "rows") (h : Γ[i]? = some (.obj dss)) (he : Ef C T te Γ (.own2 dss')) (hN : N (Γ.set i (.obj dss'))) : Go C T (sFld K (tVar i) te "rows") Γ N R := fun H0 lo H σ D ⟨fp, S, h0, x0⟩ kn kr => by
  obtain ⟨o, dx, a, as, h1, h2, h3, h4, h5⟩ := S.ok i _ h
  refine he fp lo H σ _ S fun v H1 fpn x fr nd ok => ?_
  obtain ⟨b, bs, e1, e2, e3, e4⟩ := ok
  cases e1
  subst e2
  have ho : o ∈ fp i := by rw [h2]; exact List.mem_cons_self
  have no : ∀ c, c ∈ b :: bs → c ≠ o := fun c hc e => by
    have := fr c hc
    rw [e, h3] at this
    cases this
  refine ⟨.ref o, join_some h1, o, C, dx, flds a, rfl, x.kp _ _ h3 nt_ins, hC, hNo, ?_, ?_⟩
  · show 1 < 1000
    decide
  · rw [put_flds]
    refine kn _ σ _ hN (S.mut (fpi := o :: b :: bs) h0 x0 x ho trivial (fun c hc => ?_) (List.nodup_cons.mpr ⟨fun q => no o q rfl, nd⟩) ⟨o, dx, b, bs, h1, rfl, upd_same, ?_, ?_⟩)
    · rcases List.mem_cons.mp hc with q | q
      · rw [q]; exact .inl ho
      · exact .inr (fr c q)
    · rw [upd_ne (no b List.mem_cons_self)]
      exact e3
    · refine e4.mono (Wo_less fun c q => ?_) fun c hc ys hy => ?_
      · rcases q with q | q
        · exact .inl q
        · rcases List.mem_cons.mp q with q | q
          · rw [q]; exact .inl (.inr ⟨i, ho⟩)
          · exact .inr q
      · rw [upd_ne (no c (List.mem_cons_of_mem _ hc))]
        exact hy
/-- o.add(k, d) -/
theorem go_add {i j : Nat} {k : Int} (h : Γ[i]? = some (.obj dss)) (ha : Ed C T ta Γ (.int k)) (hb : Ed C T tb Γ d) (hj : ixN dss.length k = some j) (hds : dss[j]? = some ds) (hz : ds.length ≤ 1000000) (hN : N (Γ.set i (.obj (dss.set j (ds ++ [d]))))) :
    Go C T (tDrop (tMeth C "add" (spAdd C) [] E (tVar i) (tCons ta (tCons tb tNil)))) Γ N R := fun H0 lo H σ D ⟨fp, S, h0, x0⟩ kn kr => by
  obtain ⟨o, dx, a, as, h1, h2, h3, h4, h5⟩ := S.ok i _ h
  obtain ⟨b, xs, g1, g2, g3⟩ := h5.get hds
  refine ⟨.ref o, join_some h1, o, dx, flds a, rfl, h3, flds_no a (by decide +kernel), ha fp lo H σ _ S fun v H1 x1 r1 => hb fp lo H1 σ _ (S.step x1) fun y H2 x2 r2 => ?_⟩
  have x := x1.trans x2
  have nd := S.nd i
  rw [h2] at nd
  obtain ⟨n1, n2⟩ := List.nodup_cons.mp nd
  obtain ⟨n3, n4⟩ := List.nodup_cons.mp n2
  have mb : b ∈ as := List.mem_of_getElem? g1
  have fb : b ∈ fp i := by rw [h2]; exact List.mem_cons_of_mem _ (List.mem_cons_of_mem _ mb)
  refine ⟨o, dx, a, as, k, j, b, xs, y, by rw [r1.int_eq]; rfl, x.kp _ _ h3 nt_ins, x.kp _ _ h4 nt_lst, by rw [h5.length]; exact hj, g1, x.kp _ _ g2 nt_lst, by rw [g3.length]; exact sz hz, ?_⟩
  refine kn _ σ _ hN (S.mut (fpi := fp i) h0 x0 x fb (o := .lst (xs ++ [y])) trivial (fun c hc => .inl hc) (S.nd i) ?_)
  rw [orM_in]
  refine ⟨o, dx, a, as, h1, h2, ?_, ?_, ?_⟩
  · rw [upd_ne fun z => n1 (by rw [z]; exact List.mem_cons_of_mem _ mb)]
    exact x.kp _ _ h3 nt_ins
  · rw [upd_ne fun z => n3 (by rw [z]; exact mb)]
    exact x.kp _ _ h4 nt_lst
  · exact (h5.mono (Sa.ext x) fun c _ ys hy => x.kp _ _ hy nt_lst).set n4 g1 ((RpA.up x g3).snoc r2)
/-! ### what received gives: (object, list) -/
theorem go_retRcv {i j : Nat} (h : Γ[i]? = some (.obj dss)) (h' : Γ[j]? = some (.own ts)) (hR : R (.rcv dss ts)) : Go C T (tRet (tTup (tCons (tVar i) (tCons (tVar j) tNil)))) Γ N R := fun H0 lo H σ D ⟨fp, S, h0, x0⟩ kn kr => by
  obtain ⟨o, dx, a, as, h1, h2, h3, h4, h5⟩ := S.ok i _ h
  obtain ⟨l, xs, k1, k2, k3, k4⟩ := S.ok j _ h'
  refine ⟨.ref o, join_some h1, .ref l, join_some k1, by show 2 ≤ sizeLine; decide, fun t ht => ?_⟩
  have xn : XT T H (upd H t (.tup [.ref o, .ref l])) := XT.new ht
  have ne : ∀ {b u}, H b = some u → upd H t (.tup [.ref o, .ref l]) b = some u := fun {b u} e => by rw [upd_ne (ne_of_none e ht)]; exact e
  have nl : ¬ orM lo (o :: a :: as) l := fun q => by
    rcases q with q | q
    · exact S.djl j l (by rw [k2]; exact List.mem_cons_self) q
    · have : i = j := S.dj i j l (by rw [h2]; exact q) (by rw [k2]; exact List.mem_cons_self)
      rw [this, h'] at h
      cases h
  have sub : ∀ b, orM lo (o :: a :: as) b → Mh fp lo b := fun b q => q.elim .inl fun q => .inr ⟨i, by rw [h2]; exact q⟩
  have ex : LamX.ExtN (Wo (Mh fp lo) H) (Wo (orM lo (o :: a :: as)) (upd H t (.tup [.ref o, .ref l]))) := Wo_ext (fun b u hb _ q => hb (sub b q)) xn.kp
  refine kr (.rcv dss ts) (.ref t) _ (o :: a :: as) hR (x0.trans xn) (fun b hb => h0 i b (by rw [h2]; exact hb)) (by rw [← h2]; exact S.nd i) ⟨t, .ref l, o, dx, a, as, rfl, rfl, upd_same, ne h3, ne h4, ?_, ?_⟩
  · exact h5.mono ex fun b _ ys hy => ne hy
  · exact .lst (by rw [Wo_out nl]; exact ne k3) (k4.mono ex)
theorem ed_lenRcv {i : Nat} (h : Γ[i]? = some (.rcv dss ts)) : Ed C T (tCB (rLenQ K) (tCons (tVar i) tNil)) Γ (.int 2) := fun fp lo H σ Q S k => by
  obtain ⟨t, vt, o, dx, a, as, h1, h2, h3, _⟩ := S.ok i _ h
  exact ⟨_, join_some h1, t, _, rfl, .inr (SqT.of h3), k _ H (XT.refl T H) (.int _)⟩
theorem ed_rcv1 {i : Nat} (h : Γ[i]? = some (.rcv dss ts)) : Ed C T (tOp (rIxT K) (tVar i) (tC (.int 1))) Γ (.list ts) := fun fp lo H σ Q S k => by
  obtain ⟨t, vt, o, dx, a, as, h1, h2, h3, h4, h5, h6, h7⟩ := S.ok i _ h
  exact ⟨_, join_some h1, t, _, 1, vt, rfl, rfl, SqT.of h3, rfl, k _ H (XT.refl T H) h7⟩
theorem er_rcv0 {i : Nat} (h : Γ[i]? = some (.rcv dss ts)) : Er C T (tOp (rIxT K) (tVar i) (tC (.int 0))) Γ (objD (dss.map .list)) := fun fp lo H σ Q S k => by
  obtain ⟨t, vt, o, dx, a, as, h1, h2, h3, h4, h5, h6, h7⟩ := S.ok i _ h
  refine ⟨_, join_some h1, t, _, 0, .ref o, rfl, rfl, SqT.of h3, rfl, k _ H (XT.refl T H) ?_⟩
  exact .obj h4 h5 (h6.rpA Wo_sub fun b _ ys hy => hy)
theorem go_addR {i j : Nat} {k : Int} (h : Γ[i]? = some (.rcv dss ts)) (ha : Ed C T ta Γ (.int k)) (hb : Ed C T tb Γ d) (hj : ixN dss.length k = some j) (hds : dss[j]? = some ds) (hz : ds.length ≤ 1000000) (hN : N (Γ.set i .un)) :
    Go C T (tDrop (tMeth C "add" (spAdd C) [] E (tOp (rIxT K) (tVar i) (tC (.int 0))) (tCons ta (tCons tb tNil)))) Γ N R := fun H0 lo H σ D ⟨fp, S, h0, x0⟩ kn kr => by
  obtain ⟨t, vt, o, dx, a, as, h1, h2, h3, h4, h5, h6, h7⟩ := S.ok i _ h
  obtain ⟨b, xs, g1, g2, g3⟩ := h6.get hds
  refine ⟨_, join_some h1, t, _, 0, .ref o, rfl, rfl, SqT.of h3, rfl, o, dx, flds a, rfl, h4, flds_no a (by decide +kernel), ha fp lo H σ _ S fun v H1 x1 r1 => hb fp lo H1 σ _ (S.step x1) fun y H2 x2 r2 => ?_⟩
  have x := x1.trans x2
  have mb : b ∈ as := List.mem_of_getElem? g1
  have fb : b ∈ fp i := by rw [h2]; exact List.mem_cons_of_mem _ (List.mem_cons_of_mem _ mb)
  refine ⟨o, dx, a, as, k, j, b, xs, y, by rw [r1.int_eq]; rfl, x.kp _ _ h4 nt_ins, x.kp _ _ h5 nt_lst, by rw [h6.length]; exact hj, g1, x.kp _ _ g2 nt_lst, by rw [g3.length]; exact sz hz, ?_⟩
  exact kn _ σ _ hN (S.mut (fpi := []) h0 x0 x fb (o := .lst (xs ++ [y])) trivial (fun c hc => by cases hc) List.nodup_nil rfl)
theorem ef_rcv0 (h : Ef C T te Γ (.rcv dss ts)) : Ef C T (tOp (rIxT K) te (tC (.int 0))) Γ (.obj dss) := fun fp lo H σ Q S k =>
  h fp lo H σ _ S fun v H1 fpn x fr nd ok => by
    obtain ⟨t, vt, o, dx, a, as, e1, e2, e3, e4, e5, e6, e7⟩ := ok
    cases e1
    exact ⟨t, _, 0, .ref o, rfl, rfl, SqT.of e3, rfl, k _ H1 fpn x fr nd ⟨o, dx, a, as, rfl, e2, e4, e5, e6⟩⟩
end
end G

set_option maxRecDepth 100000
set_option maxHeartbeats 4000000
/-! The G layer, part 16: a def that makes a lambda: its code object is known. -/
namespace G
open PySem L2
/-- a def of the module whose code object stands at c -/
structure DefL (K : PySem.W.Frag) (mg : Str → Option Value) (x : Str) (st : Stmt) (ps : List Str) (c : Addr) : Prop where
  ex : ∃ (f : Addr) (fd : FuncData), Fun K x x st f fd ∧ mg x = some (.ref f) ∧ Binds K fd ps [] ∧ fd.code = .ref c
structure MDefL (K : PySem.W.Frag) (C : Addr) (m qual : Str) (st : Stmt) (ps : List Str) (c : Addr) : Prop where
  ex : ∃ (f : Addr) (fd : FuncData), Fun K m qual st f fd ∧ Meth K C m f ∧ Binds K fd ps [] ∧ fd.code = .ref c
section
variable {P : Program} {w : World} {K : PySem.W.Frag} {mg : Str → Option Value} {base : Heap} {C : Addr}
theorem fun_okL {x qual : Str} {st : Stmt} {f c : Addr} {fd : FuncData} {N ps : List Str} {k : Nat} {sp : Sp} (F : Fun K x qual st f fd) (hc : fd.code = .ref c) (S : FnScope N ps (defScope st)) (len : ∀ vs H Q E, sp vs H Q E → vs.length = ps.length)
    (hbody : ∀ (A : Around) (outer : List Env) (s : Shared) (H : Hp) (vs : List V) (Q : VK) (E : XK), Room k (A.deeper (PyProof.Rows.envOfC qual (defScope st) s.heap.objs.size f (.ref c))) → sp vs H Q E →
      ∃ t, PSs (cxOf CX0 P w K mg base N qual (defScope st) f (.ref c) A outer s H E).nox (defBody st) t ∧ t { nx := fun _ H' => Q .non H', rt := Q } (L2.start N vs) H) : FnOk P w K mg base CX0 (k + 1) f fd ps sp := by
  obtain ⟨oc, od, kV, doc, pm, an, cdv, ct, osl, rfl, look, code⟩ := F.ex
  have e : cdv = .ref c := hc
  subst e
  refine fn_of look code S len fun A outer z H vs Q E room h => ?_
  obtain ⟨t, h1, h2⟩ := hbody A outer z H vs Q E room h
  exact ⟨t, h1.nox, h2⟩
theorem DefL.cal {x : Str} {st : Stmt} {N ps : List Str} {c : Addr} {k : Nat} {sp : Sp} (F : DefL K mg x st ps c) (S : FnScope N ps (defScope st)) (len : ∀ vs H Q E, sp vs H Q E → vs.length = ps.length)
    (hbody : ∀ (f : Addr) (A : Around) (outer : List Env) (s : Shared) (H : Hp) (vs : List V) (Q : VK) (E : XK), Room k (A.deeper (PyProof.Rows.envOfC x (defScope st) s.heap.objs.size f (.ref c))) → sp vs H Q E →
      ∃ t, PSs (cxOf CX0 P w K mg base N x (defScope st) f (.ref c) A outer s H E).nox (defBody st) t ∧ t { nx := fun _ H' => Q .non H', rt := Q } (L2.start N vs) H) : Cal P w K mg base (k + 1) x sp := by
  obtain ⟨f, fd, F, hm, b, hc⟩ := F.ex
  exact ⟨f, fd, ps, fun_okL F hc S len (hbody f), hm, F.kp, b⟩
theorem MDefL.met {m qual : Str} {st : Stmt} {N ps : List Str} {c : Addr} {k : Nat} {sp : Sp} (F : MDefL K C m qual st ps c) (cl : Cls K C) (S : FnScope N ps (defScope st)) (len : ∀ vs H Q E, sp vs H Q E → vs.length = ps.length)
    (hbody : ∀ (f : Addr) (A : Around) (outer : List Env) (s : Shared) (H : Hp) (vs : List V) (Q : VK) (E : XK), Room k (A.deeper (PyProof.Rows.envOfC qual (defScope st) s.heap.objs.size f (.ref c))) → sp vs H Q E →
      ∃ t, PSs (cxOf CX0 P w K mg base N qual (defScope st) f (.ref c) A outer s H E).nox (defBody st) t ∧ t { nx := fun _ H' => Q .non H', rt := Q } (L2.start N vs) H) : Met P w K mg base (k + 1) C m sp := by
  obtain ⟨f, fd, F, hm, b, hc⟩ := F.ex
  exact ⟨f, fd, ps, cl, hm, fun_okL F hc S len (hbody f), b⟩
end
theorem hu1 {k : Nat} {A : Around} (r : Room k A) : A.units + 1 < cLine := by have := r.un; omega
theorem hu64 {k : Nat} {A : Around} (r : Room k A) : A.units + 64 < cLine := by have := r.un; omega
theorem hu65 {k : Nat} {A : Around} (r : Room k A) : A.units + 65 < cLine := by have := r.un; omega
theorem hdp {k : Nat} {A : Around} (r : Room k A) : A.depth < recursionLimit := by have := r.dp; omega
structure TabT (Tb : Tab) (P : Addr) (q : Str) : Prop where
  mem : (P, q) ∈ Tb
  un : ∀ p ∈ Tb, p.1 = P → p.2 = q
theorem sort0K {X : Cx} {K : PySem.W.Frag} {T : Tab} {c P : Addr} {params : Arguments} {sc : Scope} {x : Str} {e : Expr} {ta : TA} {p p1 p2 p3 lp kp pos : Pos} {j : Nat} (hg : Gl X "sorted") (hm : X.mg "sorted" = none) (TB : LamX.TabB X.base X.mg c P) (hcode : X.env.code = .ref c)
    (hT : (P, X.env.qual ++ "<lambda>") ∈ T) (hT2 : ∀ q ∈ T, q.1 = P → q.2 = X.env.qual ++ "<lambda>") (hu : X.A.units + 64 < cLine) (hd : X.A.depth < recursionLimit) (ha : PA X [e] ta)
    (co : sc.isCoroutine = false := by rfl) (gn : sc.isGenerator = false := by rfl) (kd : sc.kind = .function := by rfl) (nm : sc.names = [(x, .local)] := by rfl) (dn : (x == ("__debug__" : Str)) = false := by decide)
    (hb : ∀ (q : Str) (cl : List (Str × Addr)) (pm cv ctv u : Value), bindArgs (PySem.W.kla_fn "<lambda>" q params (.Subscript (.Name x p1) (.Constant (.int 0) j p2) p3) sc cl pm cv ctv) ⟨[u], []⟩ = pure [(x, u)] := by intros; rfl)
    (hdef : defaultsOf params X.env = ([], []) := by rfl) (he : backTo pos (starEach [e] X.env) = (false, eval e X.env) :: backTo pos (starEach [] X.env) := by rfl) (hpl : (backTo pos (starEach [e] X.env)).any (·.1) = false := by rfl) (h : X.K = K := by rfl) :
    PE X (.Call (.Name "sorted" p) [e] [⟨some "key", .Lambda params (.Subscript (.Name x p1) (.Constant (.int 0) j p2) p3) sc lp, kp⟩] pos) (tSort0 K T ta) := by
  subst h
  exact pe_sort0 hg hm TB hcode hT hT2 hu hd ha co gn kd nm dn hb hdef he hpl
/-! an item of a list or of a tuple -/
def rIxLT (K : PySem.W.Frag) : R2 := fun x y H Q => rIxL K x y H Q ∨ rIxT K x y H Q
theorem ixLT {X : Cx} {K : PySem.W.Frag} (h : X.K = K := by rfl) : IxR X (rIxLT K) := by subst h; exact IxR.or ix_list ix_tup
section
variable {C : Addr} {T : Tab} {K : PySem.W.Frag} {Γ : List Sl} {ta tb : TE} {d : PyData} {ds : List PyData} {i : Int}
theorem ed_ixLTl (ha : Ed C T ta Γ (.list ds)) (hb : Ed C T tb Γ (.int i)) (h : atI ds i = some d) : Ed C T (tOp (rIxLT K) ta tb) Γ d := fun fp lo H σ Q S k =>
  ha fp lo H σ _ S fun v H1 x1 r1 => hb fp lo H1 σ _ (S.step x1) fun y H2 x2 r2 => by
    obtain ⟨a, xs, rfl, h1, h2⟩ := r1.list_at
    obtain ⟨z, h3, h4⟩ := RpA.atI (RpA.up x2 h2) h
    exact .inl ⟨a, xs, i, z, rfl, r2.int_eq, SqL.of (x2.kp _ _ (Wo_some h1).2 nt_lst), h3, k z H2 (x1.trans x2) h4⟩
theorem ed_ixLTt (ha : Ed C T ta Γ (.tuple ds)) (hb : Ed C T tb Γ (.int i)) (h : atI ds i = some d) : Ed C T (tOp (rIxLT K) ta tb) Γ d := fun fp lo H σ Q S k =>
  ha fp lo H σ _ S fun v H1 x1 r1 => hb fp lo H1 σ _ (S.step x1) fun y H2 x2 r2 => by
    obtain ⟨a, xs, rfl, h1, h2⟩ := r1.tup_at
    obtain ⟨z, h3, h4⟩ := RpA.atI (RpA.up x2 h2) h
    exact .inr ⟨a, xs, i, z, rfl, r2.int_eq, SqT.of (x2.kp _ _ (Wo_some h1).2 nt_tup), h3, k z H2 (x1.trans x2) h4⟩
end
/-! a def's body that is handed the script -/
theorem go_enterS {C : Addr} {T : Tab} {K : PySem.W.Frag} {H : Hp} {t : TS} {a : Addr} {ns : List Int} {N0 : List Str} {Q : VK} {s0 : Sl} {n : Nat} (hs : SqL K H a (ns.map V.int)) (ht : LamX.Tabs T H)
    (k : ∀ v H' fpn, XT T H H' → (∀ l, l ∈ fpn → H l = none) → fpn.Nodup → SlOk C (Wo (orM (fun _ => False) fpn) H') H' s0 (some v) fpn → Q v H')
    (hn : N0.length = n + 1) (hg : Go C T t (.scr K ns :: List.replicate n .un) (fun _ => s0 = .dat .none) (fun s => s = s0)) : t { nx := fun _ H' => Q .non H', rt := Q } (L2.start N0 [.ref a]) H := by
  have eM : Mh (fun _ => ([] : List Addr)) (fun _ => False) = fun _ => False := funext fun b => propext ⟨fun q => q.elim id fun ⟨_, q⟩ => absurd q (by simp), .inl⟩
  have eW : Wo (fun _ => False) H = H := funext fun b => Wo_out fun q => q
  refine hg H (fun _ => False) H (L2.start N0 [.ref a]) _ ⟨fun _ => [], ⟨?_, fun i s h => ?_, fun _ _ => rfl, fun i j l h => absurd h (by simp), fun _ => List.nodup_nil, fun i l h => absurd h (by simp), fun l q => q.elim, ht⟩, fun i l h => absurd h (by simp), XT.refl T H⟩ (fun Γ' σ' H' e S => ?_) fun s v H' fpn e x fr nd ok => ?_
  · unfold L2.start
    simp only [List.length_append, List.length_map, List.length_replicate, List.length_cons, List.length_nil, hn]
    omega
  · rw [eM, eW]
    unfold L2.start
    match i, h with
    | 0, h =>
      cases h
      exact ⟨rfl, a, rfl, hs⟩
    | i + 1, h =>
      rw [List.getElem?_cons_succ, List.getElem?_replicate] at h
      split at h
      · cases h
        exact rfl
      · cases h
  · obtain ⟨fp, S, h0, x0⟩ := S
    exact k .non H' [] x0 (fun l hl => by cases hl) List.nodup_nil (by rw [e]; exact ⟨rfl, _, rfl, .non⟩)
  · rw [e] at ok
    exact k v H' fpn x fr nd ok
end G

set_option maxRecDepth 100000
set_option maxHeartbeats 4000000
/-! The mirror, part 1: deeds, packets as plain data, and how they stand as PyData. -/
namespace M
open PySem G
open L2 (atI)
abbrev Mk := Int × Int
inductive Deed where
  | chg (m : Str) (rm : List Mk) (bh : Option Mk) (n : Int) (t : Str)
  | bck (p : Int)
  deriving DecidableEq, Inhabited
def eM (k : Mk) : PyData := .tuple [.int k.1, .int k.2]
def eO : Option Mk → PyData
  | none => .none
  | some k => eM k
def eD : Deed → PyData
  | .chg m r b n t => .tuple [.str "change", .str m, .tuple (r.map eM), eO b, .int n, .str t]
  | .bck p => .tuple [.str "back", .int p]
abbrev Rws := List (List Deed)
def eR (rows : Rws) : List (List PyData) := rows.map (·.map eD)
def eL (rows : Rws) : List PyData := rows.map fun r => .list (r.map eD)
theorem eL_eq (rows : Rws) : (eR rows).map .list = eL rows := by unfold eR eL; rw [List.map_map]; rfl
abbrev Trip := Int × Int × Deed
def eT (x : Trip) : PyData := .tuple [.int x.1, .int x.2.1, eD x.2.2]
/-- the deeds of a replica behind a count -/
def lackR (r : Nat) (row : List Deed) (c : Nat) : List Trip := (List.range (row.length - c)).map fun i => ((r : Int), ((c + i : Nat) : Int) + 1, row.getD (c + i) default)
def lackN (rows : Rws) (cs : List Nat) (n : Nat) : List Trip := ((List.range n).map fun r => lackR r (rows.getD r []) (cs.getD r 0)).flatten
def lack (rows : Rws) (cs : List Nat) : List Trip := lackN rows cs 8
theorem lackN_succ (rows : Rws) (cs : List Nat) (n : Nat) : lackN rows cs (n + 1) = lackN rows cs n ++ lackR n (rows.getD n []) (cs.getD n 0) := by
  unfold lackN
  rw [List.range_succ, List.map_append, List.flatten_append]
  simp
theorem eL_length (rows : Rws) : (eL rows).length = rows.length := by unfold eL; simp
theorem eL_at {rows : Rws} {r : Nat} (h : r < rows.length) : atI (eL rows) (r : Int) = some (.list ((rows.getD r []).map eD)) := by
  apply L2.atI_nat
  unfold eL
  rw [List.getElem?_map, List.getD_eq_getElem?_getD, List.getElem?_eq_getElem h]
  rfl
theorem take_snoc {α : Type} {xs : List α} {j : Nat} {x : α} (h : xs[j]? = some x) : xs.take (j + 1) = xs.take j ++ [x] := by
  rw [List.take_add_one, h]
  rfl
theorem range_get {n i x : Nat} (h : (List.range n)[i]? = some x) : i < n ∧ x = i := by
  by_cases hi : i < n
  · rw [List.getElem?_range hi] at h
    exact ⟨hi, (Option.some.inj h).symm⟩
  · rw [List.getElem?_eq_none (by rw [List.length_range]; omega)] at h
    cases h
theorem at_nat {α : Type} {xs : List α} {j : Nat} {v : α} (h : xs[j]? = some v) : atI xs (j : Int) = some v := L2.atI_nat h
theorem at_map {α β : Type} {f : α → β} {xs : List α} {j : Nat} {v : α} (h : xs[j]? = some v) : atI (xs.map f) (j : Int) = some (f v) := L2.atI_nat (by rw [List.getElem?_map, h]; rfl)
theorem get_getD {α : Type} {xs : List α} {j : Nat} {d : α} (h : j < xs.length) : xs[j]? = some (xs.getD j d) := by
  rw [List.getD_eq_getElem?_getD, List.getElem?_eq_getElem h]
  rfl
/-! random draws -/
def mix (c k : Int) : Int :=
  let v := (c * 48271 + k * 69621 + 12345) % 2147483647
  let u := (v * v + k * 40692 + 1) % 2147483399
  u / 5 % 9973
def lawAt (ds : List Int) (i : Int) : Int :=
  if i < ds.length then ds.getD i.toNat 0
  else if ds.length = 0 then mix i 77
  else mix (ds.getD (i % (ds.length : Int)).toNat 0 + i * 131) i
end M

set_option maxRecDepth 100000
set_option maxHeartbeats 4000000
/-! The mirror, part 2: inserted, forces, changes. -/
namespace M
open PySem G
open L2 (atI)
theorem fm_succ {α : Type} (f : Nat → Option α) (i : Nat) : (List.range (i + 1)).filterMap f = (List.range i).filterMap f ++ (f i).toList := by
  rw [List.range_succ, List.filterMap_append, List.filterMap_cons, List.filterMap_nil]
  cases f i <;> rfl
theorem map_succ {α : Type} (f : Nat → α) (i : Nat) : (List.range (i + 1)).map f = (List.range i).map f ++ [f i] := by
  rw [List.range_succ, List.map_append]; rfl
theorem fl_succ {α : Type} (f : Nat → List α) (i : Nat) : ((List.range (i + 1)).map f).flatten = ((List.range i).map f).flatten ++ f i := by
  rw [map_succ, List.flatten_append]; simp
theorem fm_len {α : Type} (f : Nat → Option α) (i : Nat) : ((List.range i).filterMap f).length ≤ i := by
  have := List.length_filterMap_le f (List.range i)
  rw [List.length_range] at this
  exact this
theorem fl_len {α : Type} {f : Nat → List α} {c : Nat} (i : Nat) (h : ∀ j, j < i → (f j).length ≤ c) : ((List.range i).map f).flatten.length ≤ c * i := by
  induction i with
  | zero => simp
  | succ i ih =>
    rw [fl_succ, List.length_append]
    have h1 := ih fun j hj => h j (by omega)
    have h2 := h i (by omega)
    rw [Nat.mul_succ]
    omega
theorem getD_mem {α : Type} {xs : List α} {i : Nat} {d : α} (h : i < xs.length) : xs.getD i d ∈ xs := List.mem_of_getElem? (get_getD h)
/-! the signs that a change brings in -/
abbrev Ins := Mk × Option Mk × Str
def eI (x : Ins) : PyData := .tuple [eM x.1, eO x.2.1, .str x.2.2]
def bhAt (r n : Int) (bh : Option Mk) (i : Nat) : Option Mk := if i = 0 then bh else some (n + (i : Int) - 1, r)
def insAt (r n : Int) (bh : Option Mk) (t : Str) (i : Nat) : Ins := ((n + (i : Int), r), bhAt r n bh i, (sgn t).getD i Str.empty)
def ins (r : Int) : Deed → List Ins
  | .chg _ _ bh n t => (List.range t.length).map (insAt r n bh t)
  | .bck _ => []
theorem eO_succ (r n : Int) (bh : Option Mk) (i : Nat) : eO (bhAt r n bh (i + 1)) = eM (n + (i : Int), r) := by
  have e : n + ((i + 1 : Nat) : Int) - 1 = n + (i : Int) := by omega
  unfold bhAt
  rw [if_neg (Nat.succ_ne_zero i), e]
  rfl
theorem sgn_at {t : Str} {i : Nat} (h : i < t.length) : ∃ c, (sgn t).getD i Str.empty = ⟨#[c]⟩ ∧ atI t.cps.toList (i : Int) = some c := by
  have h' : i < t.cps.size := h
  refine ⟨t.cps[i], ?_, at_nat (by rw [Array.getElem?_toList]; exact Array.getElem?_eq_getElem h')⟩
  unfold sgn
  rw [List.getD_eq_getElem?_getD, List.getElem?_map, Array.getElem?_toList, Array.getElem?_eq_getElem h']
  rfl
/-! forces -/
def tkStep (row : List Deed) (k : Nat) (T : List Int) : List Int :=
  if (row.length : Int) - (k : Int) ∈ T then T else
    match row.getD (row.length - 1 - k) default with
    | .bck p => T ++ [p]
    | .chg .. => T
def tk (row : List Deed) : Nat → List Int
  | 0 => []
  | k + 1 => tkStep row k (tk row k)
def fB (row : List Deed) (k : Nat) : Bool := !decide ((row.length : Int) - (k : Int) ∈ tk row k)
def frc (row : List Deed) : List Bool := ((List.range row.length).map (fB row)).reverse
theorem frc_length (row : List Deed) : (frc row).length = row.length := by unfold frc; simp
theorem tk_mem (row : List Deed) (n : Int) : ∀ k, n ∈ tk row k ↔ ∃ j, j < k ∧ fB row j = true ∧ row.getD (row.length - 1 - j) default = .bck n
  | 0 => by simp [tk]
  | k + 1 => by
    have ih := tk_mem row n k
    have e : tk row (k + 1) = tkStep row k (tk row k) := rfl
    have split : (∃ j, j < k + 1 ∧ fB row j = true ∧ row.getD (row.length - 1 - j) default = .bck n) ↔ (n ∈ tk row k ∨ (fB row k = true ∧ row.getD (row.length - 1 - k) default = .bck n)) := by
      rw [ih]
      constructor
      · rintro ⟨j, h1, h2, h3⟩
        by_cases hj : j = k
        · subst hj; exact .inr ⟨h2, h3⟩
        · exact .inl ⟨j, by omega, h2, h3⟩
      · rintro (⟨j, h1, h2, h3⟩ | ⟨h2, h3⟩)
        · exact ⟨j, by omega, h2, h3⟩
        · exact ⟨k, by omega, h2, h3⟩
    rw [split, e]
    unfold tkStep
    by_cases hb : (row.length : Int) - (k : Int) ∈ tk row k
    · rw [if_pos hb]
      have : fB row k = false := by unfold fB; rw [decide_eq_true hb]; rfl
      rw [this]
      simp
    · rw [if_neg hb]
      have : fB row k = true := by unfold fB; rw [decide_eq_false hb]; rfl
      rw [this]
      cases hd : row.getD (row.length - 1 - k) default with
      | bck p => simp [eq_comm]
      | chg m rm bh n' t => simp
theorem frc_at {row : List Deed} {i : Nat} (h : i < row.length) : (frc row).getD i false = fB row (row.length - 1 - i) := by
  unfold frc
  rw [List.getD_eq_getElem?_getD, List.getElem?_reverse (by rw [List.length_map, List.length_range]; exact h), List.getElem?_map, List.getElem?_range (by rw [List.length_map, List.length_range]; omega), List.length_map, List.length_range]
  rfl
/-! changes of a module -/
abbrev Chg := Int × Deed × Bool
def eG (x : Chg) : PyData := .tuple [.int x.1, eD x.2.1, .bool x.2.2]
def isM (m : Str) : Deed → Bool
  | .chg m' .. => decide (m' = m)
  | .bck _ => false
def chgAt (r : Nat) (row : List Deed) (m : Str) (i : Nat) : Option Chg := if isM m (row.getD i default) = true then some ((r : Int), row.getD i default, (frc row).getD i false) else none
def chgR (r : Nat) (row : List Deed) (m : Str) : List Chg := (List.range row.length).filterMap (chgAt r row m)
def chgN (rows : Rws) (m : Str) (n : Nat) : List Chg := ((List.range n).map fun r => chgR r (rows.getD r []) m).flatten
def chgs (rows : Rws) (m : Str) : List Chg := chgN rows m 8
theorem chgR_len {r : Nat} {row : List Deed} {m : Str} : (chgR r row m).length ≤ row.length := fm_len _ _
theorem chgN_len {rows : Rws} {m : Str} {c n : Nat} (h : ∀ r, r < n → (rows.getD r []).length ≤ c) : (chgN rows m n).length ≤ c * n := fl_len n fun j hj => Nat.le_trans chgR_len (h j hj)
theorem chgN_succ (rows : Rws) (m : Str) (n : Nat) : chgN rows m (n + 1) = chgN rows m n ++ chgR n (rows.getD n []) m := fl_succ _ n
/-- which change stands in the list -/
theorem mem_chgs {rows : Rws} {m : Str} {x : Chg} (h : x ∈ chgs rows m) : ∃ r i, r < 8 ∧ i < (rows.getD r []).length ∧ isM m ((rows.getD r []).getD i default) = true ∧ x = ((r : Int), (rows.getD r []).getD i default, (frc (rows.getD r [])).getD i false) := by
  unfold chgs chgN at h
  rw [List.mem_flatten] at h
  obtain ⟨l, h1, h2⟩ := h
  rw [List.mem_map] at h1
  obtain ⟨r, hr, rfl⟩ := h1
  unfold chgR at h2
  rw [List.mem_filterMap] at h2
  obtain ⟨i, hi, e⟩ := h2
  unfold chgAt at e
  split at e
  · rename_i hm
    exact ⟨r, i, List.mem_range.mp hr, List.mem_range.mp hi, hm, (Option.some.inj e).symm⟩
  · cases e
theorem mem_chgs' {rows : Rws} {m : Str} {r i : Nat} (hr : r < 8) (hi : i < (rows.getD r []).length) (hm : isM m ((rows.getD r []).getD i default) = true) : ((r : Int), (rows.getD r []).getD i default, (frc (rows.getD r [])).getD i false) ∈ chgs rows m := by
  unfold chgs chgN
  rw [List.mem_flatten]
  refine ⟨_, List.mem_map.mpr ⟨r, List.mem_range.mpr hr, rfl⟩, ?_⟩
  unfold chgR
  rw [List.mem_filterMap]
  exact ⟨i, List.mem_range.mpr hi, by unfold chgAt; rw [if_pos hm]⟩
theorem isM_chg {m : Str} {d : Deed} (h : isM m d = true) : ∃ rm bh n t, d = .chg m rm bh n t := by
  cases d with
  | chg m' rm bh n t => exact ⟨rm, bh, n, t, by rw [of_decide_eq_true h]⟩
  | bck p => cases h
end M

set_option maxRecDepth 100000
set_option maxHeartbeats 4000000
/-! The mirror, part 3: the law's small functions. -/
namespace M
open PySem G
open L2 (atI)
def mx (i j : Int) : Int := if j > i then j else i
def mn (i j : Int) : Int := if j < i then j else i
def eN (ns : List Int) : List PyData := ns.map .int
/-- draws that serve -/
def Dr (ds : List Int) : Prop := ds.length ≤ 100000 ∧ ∀ d, d ∈ ds → 0 ≤ d ∧ d < 10000
theorem mix_lo (c k : Int) : 0 ≤ mix c k ∧ mix c k < 9973 := ⟨Int.emod_nonneg _ (by decide), Int.emod_lt_of_pos _ (by decide)⟩
theorem lawAt_lo {ds : List Int} (h : Dr ds) (i : Nat) : 0 ≤ lawAt ds (i : Int) ∧ lawAt ds (i : Int) < 10000 := by
  unfold lawAt
  split
  · rename_i q
    have := h.2 _ (getD_mem (d := 0) (show (i : Int).toNat < ds.length by omega))
    exact this
  · split
    · have := mix_lo (i : Int) 77
      omega
    · have := mix_lo (ds.getD ((i : Int) % (ds.length : Int)).toNat 0 + (i : Int) * 131) (i : Int)
      omega
/-- the last number -/
def isChg : Deed → Bool
  | .chg .. => true
  | .bck _ => false
def after : Deed → Int
  | .chg _ _ _ n t => n + t.length
  | .bck _ => 0
def last1 (a : Int) (d : Deed) : Int := if isChg d = true then mx a (after d) else a
def lastR (a : Int) (row : List Deed) : Int := row.foldl last1 a
def lastN (rows : Rws) : Int := rows.foldl lastR 0
def mods : List Str := ["main", "a", "a b'[]", Txt.mul "z" 40]
def chars : Str := " !\"#$&'()*+,-./0123456789:;<=>?@ABCDEFGHIJKLMNOPQRSTUVWXYZ[\\]^_`abcdefghijklmnopqrstuvwxyz{|}~\n"
def chAt (i : Int) : Str := ⟨#[chars.cps.toList.getD i.toNat 0]⟩
def lettersN (ds : List Int) (i : Nat) : Nat → Str
  | 0 => Str.empty
  | k + 1 => lettersN ds i k ++ chAt ((lawAt ds ((i : Int) + 1) + 37 * (k : Int)) % 95)
def letters (ds : List Int) (i : Nat) : Str := lettersN ds i (lawAt ds (i : Int) % 5).toNat
theorem lettersN_len (ds : List Int) (i : Nat) : ∀ k, (lettersN ds i k).length = k
  | 0 => rfl
  | k + 1 => by
    have ih := lettersN_len ds i k
    unfold lettersN
    rw [Str.length_append, ih]
    rfl
theorem chars_ok : chars.cps.toList.all (fun c => decide (c < 0x110000)) = true := by decide +kernel
theorem chars_len : chars.cps.toList.length = 95 := by decide +kernel
theorem ok_app {x y : Str} (h1 : PyData.strOk x = true) (h2 : PyData.strOk y = true) : PyData.strOk (x ++ y) = true := by
  have e : (x ++ y).cps = x.cps ++ y.cps := rfl
  unfold PyData.strOk at h1 h2 ⊢
  rw [e, Array.all_append, h1, h2]
  rfl
theorem chAt_ok (i : Int) : PyData.strOk (chAt i) = true := by
  unfold PyData.strOk chAt
  have : (chars.cps.toList.getD i.toNat 0) < 0x110000 := by
    rw [List.getD_eq_getElem?_getD]
    cases h : chars.cps.toList[i.toNat]? with
    | none => decide
    | some c =>
      have := List.all_eq_true.mp chars_ok c (List.mem_of_getElem? h)
      exact of_decide_eq_true this
  simp only [List.all_toArray, Array.all_toList]
  show (decide (chars.cps.toList.getD i.toNat 0 < 0x110000) && true) = true
  rw [decide_eq_true this]
  rfl
theorem lettersN_ok (ds : List Int) (i : Nat) : ∀ k, PyData.strOk (lettersN ds i k) = true
  | 0 => show PyData.strOk Str.empty = true by decide +kernel
  | k + 1 => ok_app (lettersN_ok ds i k) (chAt_ok _)
def vis (rows : Rws) (cs : List Nat) : Rws := (List.range 8).map fun k => (rows.getD k []).take (cs.getD k 0)
end M

set_option maxRecDepth 100000
set_option maxHeartbeats 4000000
/-! The mirror, part 4: known marks, fits. -/
namespace M
open PySem G
open L2 (atI Key)
theorem kP_inj {a b : Mk} (h : kP a = kP b) : a = b := by
  unfold kP at h
  injection h with h1 h2
  injection h2 with h2 _
  exact Prod.ext (Sum.inl.inj h1) (Sum.inl.inj h2)
theorem valT_any (kvs : List (KL × PyData)) (k : KL) : (valT kvs k).isSome = kvs.any fun kv => decide (kv.1 = k) := by
  unfold valT
  rw [Option.isSome_map]
  induction kvs with
  | nil => rfl
  | cons a r ih =>
    rw [List.find?_cons, List.any_cons]
    cases decide (a.1 = k) with
    | true => rfl
    | false => rw [ih]; rfl
theorem valT_put (kvs : List (KL × PyData)) (p k : KL) (d : PyData) : (valT (putT kvs p d) k).isSome = ((valT kvs k).isSome || decide (p = k)) := by
  rw [valT_any, valT_any]
  unfold putT
  split
  · rename_i h
    have e : ((kvs.map fun kv => if kv.1 = p then (kv.1, d) else kv).any fun kv => decide (kv.1 = k)) = kvs.any fun kv => decide (kv.1 = k) := by
      rw [List.any_map]
      congr 1
      funext kv
      show decide ((if kv.1 = p then (kv.1, d) else kv).1 = k) = _
      split <;> rfl
    rw [e]
    by_cases hp : p = k
    · rw [← hp, h]; rfl
    · rw [decide_eq_false hp, Bool.or_false]
  · rw [List.any_append, List.any_cons, List.any_nil, Bool.or_false]
theorem putT_keys {kvs : List (KL × PyData)} {p : KL} {d : PyData} {q : KL × PyData} (h : q ∈ putT kvs p d) : q.1 = p ∨ ∃ z, z ∈ kvs ∧ z.1 = q.1 := by
  unfold putT at h
  split at h
  · obtain ⟨z, hz, e⟩ := List.mem_map.mp h
    refine .inr ⟨z, hz, ?_⟩
    rw [← e]
    split <;> rfl
  · rcases List.mem_append.mp h with h | h
    · exact .inr ⟨q, h, rfl⟩
    · rw [List.mem_singleton.mp h]; exact .inl rfl
theorem dcl_fold {α : Type} (key : α → Mk) (f : α → PyData) (k : Mk) : ∀ (xs : List α) (a : List (KL × PyData)), (valT (xs.foldl (fun a x => putT a (kP (key x)) (f x)) a) (kP k)).isSome = ((valT a (kP k)).isSome || decide (k ∈ xs.map key))
  | [], a => by simp
  | x :: r, a => by
    rw [List.foldl_cons, dcl_fold key f k r, valT_put, List.map_cons]
    by_cases h1 : key x = k
    · rw [h1]; simp
    · have h2 : ¬ kP (key x) = kP k := fun q => h1 (kP_inj q)
      rw [decide_eq_false h2, Bool.or_false]
      congr 1
      by_cases h3 : k ∈ r.map key
      · rw [decide_eq_true h3, decide_eq_true (List.mem_cons_of_mem _ h3)]
      · rw [decide_eq_false h3, decide_eq_false fun q => ?_]
        rcases List.mem_cons.mp q with q | q
        · exact h1 q.symm
        · exact h3 q
theorem dcl_some {α : Type} (key : α → Mk) (f : α → PyData) (k : Mk) (xs : List α) : (valT (dcl key f xs) (kP k)).isSome = decide (k ∈ xs.map key) := by
  unfold dcl
  rw [dcl_fold]
  rfl
theorem dcl_keys {α : Type} {key : α → Mk} {f : α → PyData} {xs : List α} {q : KL × PyData} (h : q ∈ dcl key f xs) : ∃ x, x ∈ xs ∧ q.1 = kP (key x) := by
  have aux : ∀ (xs : List α) (a : List (KL × PyData)), q ∈ xs.foldl (fun a x => putT a (kP (key x)) (f x)) a → (∃ x, x ∈ xs ∧ q.1 = kP (key x)) ∨ ∃ z, z ∈ a ∧ z.1 = q.1 := by
    intro xs
    induction xs with
    | nil => intro a h; exact .inr ⟨q, h, rfl⟩
    | cons x r ih =>
      intro a h
      rcases ih _ h with ⟨y, hy, e⟩ | ⟨z, hz, e⟩
      · exact .inl ⟨y, List.mem_cons_of_mem _ hy, e⟩
      · rcases putT_keys hz with e2 | ⟨y, hy, e2⟩
        · exact .inl ⟨x, List.mem_cons_self, by rw [← e, e2]⟩
        · exact .inr ⟨y, hy, by rw [e2, e]⟩
  rcases aux xs [] h with h | ⟨z, hz, _⟩
  · exact h
  · cases hz
theorem merge_some (k : KL) : ∀ (mo kvs : List (KL × PyData)), (valT (mergeK putT kvs mo) k).isSome = ((valT kvs k).isSome || (valT mo k).isSome)
  | [], kvs => by simp [mergeK, valT]
  | p :: r, kvs => by
    have e : mergeK putT kvs (p :: r) = mergeK putT (putT kvs p.1 p.2) r := rfl
    rw [e, merge_some k r, valT_put, valT_any (p :: r), List.any_cons, ← valT_any, Bool.or_assoc]
theorem merge_len : ∀ (mo kvs : List (KL × PyData)), (mergeK putT kvs mo).length ≤ kvs.length + mo.length
  | [], kvs => Nat.le_refl _
  | p :: r, kvs => by
    have h1 := merge_len r (putT kvs p.1 p.2)
    have h2 := putT_len kvs p.1 p.2
    have e : mergeK putT kvs (p :: r) = mergeK putT (putT kvs p.1 p.2) r := rfl
    rw [e, List.length_cons]
    omega
/-! known marks -/
def insM (c : Chg) : List Mk := (ins c.1 c.2.1).map (·.1)
def kn (cs : List Chg) : List Mk := (cs.map insM).flatten
def insD (c : Chg) : List (KL × PyData) := dcl (fun x : Ins => x.1) (fun _ => .bool true) (ins c.1 c.2.1)
def knD (cs : List Chg) : List (KL × PyData) := cs.foldl (fun a c => mergeK putT a (insD c)) []
theorem knD_snoc (cs : List Chg) (c : Chg) : knD (cs ++ [c]) = mergeK putT (knD cs) (insD c) := by
  unfold knD
  rw [List.foldl_append]
  rfl
theorem kn_snoc (cs : List Chg) (c : Chg) : kn (cs ++ [c]) = kn cs ++ insM c := by
  unfold kn
  rw [List.map_append, List.flatten_append]
  simp
theorem snoc_ind {α : Type} {P : List α → Prop} (h0 : P []) (hs : ∀ l x, P l → P (l ++ [x])) (l : List α) : P l := by
  rw [← List.reverse_reverse l]
  induction l.reverse with
  | nil => exact h0
  | cons a r ih => rw [List.reverse_cons]; exact hs _ _ ih
theorem knD_some (k : Mk) (cs : List Chg) : (valT (knD cs) (kP k)).isSome = decide (k ∈ kn cs) := by
  refine snoc_ind (P := fun cs => (valT (knD cs) (kP k)).isSome = decide (k ∈ kn cs)) rfl (fun l c ih => ?_) cs
  rw [knD_snoc, kn_snoc, merge_some, ih]
  have e : (valT (insD c) (kP k)).isSome = decide (k ∈ insM c) := dcl_some _ _ _ _
  rw [e]
  by_cases h1 : k ∈ kn l
  · rw [decide_eq_true h1, decide_eq_true (List.mem_append_left _ h1)]; rfl
  · by_cases h2 : k ∈ insM c
    · rw [decide_eq_true h2, decide_eq_true (List.mem_append_right _ h2), Bool.or_true]
    · rw [decide_eq_false h1, decide_eq_false h2, decide_eq_false fun q => ?_]; rfl
      rcases List.mem_append.mp q with q | q
      · exact h1 q
      · exact h2 q
theorem knD_len {cs : List Chg} {b : Nat} (h : ∀ c, c ∈ cs → (ins c.1 c.2.1).length ≤ b) : (knD cs).length ≤ b * cs.length := by
  refine snoc_ind (P := fun cs => (∀ c, c ∈ cs → (ins c.1 c.2.1).length ≤ b) → (knD cs).length ≤ b * cs.length) (fun _ => Nat.zero_le _) (fun l c ih h => ?_) cs h
  rw [knD_snoc, List.length_append]
  have h1 := ih fun x hx => h x (List.mem_append_left _ hx)
  have h2 := merge_len (insD c) (knD l)
  have h3 : (insD c).length ≤ (ins c.1 c.2.1).length := dcl_len _
  have h4 := h c (List.mem_append_right _ (List.mem_singleton.mpr rfl))
  have h5 : b * (l.length + [c].length) = b * l.length + b := Nat.mul_succ _ _
  omega
/-! fits -/
def bad (n : Int) (e : Deed) : Bool := isChg e && decide (n < after e)
def fitsC (rows : Rws) (r : Nat) (m : Str) (rm : List Mk) (bh : Option Mk) (n : Int) : Bool :=
  !(decide (n < 1) || !(decide ((1 : Int) ≤ (m.length : Int)) && decide ((m.length : Int) ≤ 40))) && (!(rows.getD r []).any (bad n) && (rm ++ bh.toList).all fun k => decide (k ∈ kn (chgs rows m)) && decide (k.1 < n))
def fits (rows : Rws) (r : Nat) : Deed → Bool
  | .bck p => decide (1 ≤ p) && decide (p ≤ ((rows.getD r []).length : Int))
  | .chg m rm bh n _ => fitsC rows r m rm bh n
/-- deeds within bounds -/
def dB : Deed → Prop
  | .chg m rm bh n t => 0 ≤ n ∧ n ≤ 200 ∧ t.length ≤ 5 ∧ rm.length ≤ 10 ∧ m.length ≤ 100
  | .bck _ => True
def dA : Deed → Prop
  | .chg m rm _ _ _ => m.length ≤ 1000 ∧ rm.length ≤ 1000
  | .bck _ => True
theorem ins_len {r : Int} {d : Deed} (h : dB d) : (ins r d).length ≤ 5 := by
  cases d with
  | bck p => exact Nat.zero_le _
  | chg m rm bh n t =>
    obtain ⟨_, _, h, _⟩ := h
    show ((List.range t.length).map _).length ≤ 5
    rw [List.length_map, List.length_range]
    exact h
theorem ins_small {r : Nat} {d : Deed} (hr : r < 8) (h : dB d) {x : Ins} (hx : x ∈ ins (r : Int) d) : small (kP x.1) := by
  cases d with
  | bck p => cases hx
  | chg m rm bh n t =>
    obtain ⟨h1, h2, h3, _⟩ := h
    obtain ⟨i, hi, rfl⟩ := List.mem_map.mp hx
    have hi := List.mem_range.mp hi
    refine ⟨(n + (i : Int)).toNat, r, by omega, hr, ?_⟩
    show kP (n + (i : Int), (r : Int)) = _
    unfold kP
    rw [Int.toNat_of_nonneg (by omega)]
theorem insD_small {c : Chg} {r : Nat} {d : Deed} {f : Bool} (hc : c = ((r : Int), d, f)) (hr : r < 8) (h : dB d) : ∀ p, p ∈ insD c → small p.1 := fun p hp => by
  subst hc
  obtain ⟨x, hx, e⟩ := dcl_keys hp
  rw [e]
  exact ins_small hr h hx
end M

set_option maxRecDepth 100000
set_option maxHeartbeats 4000000
/-! The mirror, part 5: which triple is taken, what is received. -/
namespace M
open PySem G
open L2 (atI)
def lenAt (rows : Rws) (r : Int) : Nat := (rows.getD r.toNat []).length
def takes (rows : Rws) (t : Trip) : Bool := decide (t.2.1 = (lenAt rows t.1 : Int) + 1) && fits rows t.1.toNat t.2.2
def addD (rows : Rws) (r : Nat) (d : Deed) : Rws := rows.set r (rows.getD r [] ++ [d])
def addT (rows : Rws) (t : Trip) : Rws := addD rows t.1.toNat t.2.2
def nx (rows : Rws) (p : List Trip) : Option Trip := p.find? (takes rows)
def run (p : List Trip) : Nat → Rws × List Trip → Rws × List Trip
  | 0, a => a
  | n + 1, a => match nx a.1 p with
    | none => a
    | some t => run p n (addT a.1 t, a.2 ++ [t])
def rcv (rows : Rws) (p : List Trip) : Rws × List Trip := run p (p.length + 1) (rows, [])
def pend (rows : Rws) (p : List Trip) : Nat := (p.filter fun t => decide ((lenAt rows t.1 : Int) < t.2.1)).length
theorem addD_length (rows : Rws) (r : Nat) (d : Deed) : (addD rows r d).length = rows.length := List.length_set
theorem addD_at {rows : Rws} {r : Nat} {d : Deed} (h : r < rows.length) (i : Nat) : (addD rows r d).getD i [] = if i = r then rows.getD r [] ++ [d] else rows.getD i [] := by
  unfold addD
  rw [List.getD_eq_getElem?_getD, List.getElem?_set]
  by_cases hi : i = r
  · rw [if_pos hi.symm, if_pos hi, if_pos h]
    rfl
  · rw [if_neg (fun q => hi q.symm), if_neg hi, List.getD_eq_getElem?_getD]
theorem addD_len {rows : Rws} {r : Nat} {d : Deed} (h : r < rows.length) (i : Nat) : ((addD rows r d).getD i []).length = (rows.getD i []).length + if i = r then 1 else 0 := by
  rw [addD_at h]
  by_cases hi : i = r
  · rw [if_pos hi, if_pos hi, List.length_append, hi]
    rfl
  · rw [if_neg hi, if_neg hi]
    rfl
theorem filter_lt {α : Type} {p q : α → Bool} (h : ∀ x, q x = true → p x = true) {t : α} (h1 : p t = true) (h2 : q t = false) : ∀ {l : List α}, t ∈ l → (l.filter q).length < (l.filter p).length := by
  have le : ∀ l : List α, (l.filter q).length ≤ (l.filter p).length := by
    intro l
    induction l with
    | nil => exact Nat.le_refl _
    | cons a r ih =>
      rw [List.filter_cons, List.filter_cons]
      cases hq : q a with
      | true => rw [h a hq]; exact Nat.succ_le_succ ih
      | false =>
        cases p a with
        | true => exact Nat.le_succ_of_le ih
        | false => exact ih
  intro l
  induction l with
  | nil => intro h; cases h
  | cons a r ih =>
    intro hm
    rw [List.filter_cons, List.filter_cons]
    rcases List.mem_cons.mp hm with hm | hm
    · rw [← hm, h1, h2]
      exact Nat.lt_succ_of_le (le r)
    · have := ih hm
      cases hq : q a with
      | true => rw [h a hq]; exact Nat.succ_lt_succ this
      | false =>
        cases p a with
        | true => exact Nat.lt_succ_of_lt this
        | false => exact this
theorem pend_add {rows : Rws} {p : List Trip} {t : Trip} (ht : takes rows t = true) (hm : t ∈ p) (hr : t.1.toNat < rows.length) : pend (addT rows t) p < pend rows p := by
  unfold takes at ht
  rw [Bool.and_eq_true] at ht
  have hp := of_decide_eq_true ht.1
  refine filter_lt (fun x hx => ?_) (t := t) ?_ ?_ hm
  · have hx := of_decide_eq_true hx
    refine decide_eq_true ?_
    have : lenAt (addT rows t) x.1 = lenAt rows x.1 + if x.1.toNat = t.1.toNat then 1 else 0 := addD_len hr _
    omega
  · refine decide_eq_true ?_
    omega
  · refine decide_eq_false fun q => ?_
    have : lenAt (addT rows t) t.1 = lenAt rows t.1 + if t.1.toNat = t.1.toNat then 1 else 0 := addD_len hr _
    rw [if_pos rfl] at this
    omega
theorem pend_le (rows : Rws) (p : List Trip) : pend rows p ≤ p.length := List.length_filter_le _ _
theorem nx_some {rows : Rws} {p : List Trip} {t : Trip} (h : nx rows p = some t) : t ∈ p ∧ takes rows t = true := ⟨List.mem_of_find?_eq_some h, List.find?_some h⟩
theorem run_done {p : List Trip} {a : Rws × List Trip} (h : nx a.1 p = none) : ∀ n, run p n a = a
  | 0 => rfl
  | n + 1 => by unfold run; rw [h]
theorem run_some {p : List Trip} {a : Rws × List Trip} {t : Trip} (h : nx a.1 p = some t) (n : Nat) : run p (n + 1) a = run p n (addT a.1 t, a.2 ++ [t]) := by
  rw [run, h]
/-- replicas that are there -/
def tR (t : Trip) : Prop := 0 ≤ t.1 ∧ t.1 < 8
theorem run_enough {p : List Trip} (hp : ∀ t, t ∈ p → tR t) : ∀ (n m : Nat) (a : Rws × List Trip), a.1.length = 8 → pend a.1 p ≤ n → pend a.1 p ≤ m → run p n a = run p m a := by
  intro n
  induction n with
  | zero =>
    intro m a h8 h1 h2
    cases hn : nx a.1 p with
    | none => rw [run_done hn, run_done hn]
    | some t =>
      obtain ⟨h3, h4⟩ := nx_some hn
      have h5 := hp t h3
      have h6 := pend_add h4 h3 (by unfold tR at h5; omega)
      omega
  | succ n ih =>
    intro m a h8 h1 h2
    cases hn : nx a.1 p with
    | none => rw [run_done hn, run_done hn]
    | some t =>
      obtain ⟨h3, h4⟩ := nx_some hn
      have h5 := hp t h3
      have h6 := pend_add h4 h3 (by unfold tR at h5; omega)
      cases m with
      | zero => omega
      | succ m =>
        rw [run_some hn, run_some hn]
        exact ih m _ ((addD_length _ _ _).trans h8) (by show pend (addT a.1 t) p ≤ n; omega) (by show pend (addT a.1 t) p ≤ m; omega)
theorem eR_set (rows : Rws) (r : Nat) (d : Deed) : (eR rows).set r ((rows.getD r []).map eD ++ [eD d]) = eR (addD rows r d) := by
  unfold eR addD
  rw [List.map_set, List.map_append]
  rfl
theorem eR_at {rows : Rws} {r : Nat} (h : r < rows.length) : (eR rows)[r]? = some ((rows.getD r []).map eD) := by
  unfold eR
  rw [List.getElem?_map, get_getD (d := []) h]
  rfl
theorem eR_length (rows : Rws) : (eR rows).length = rows.length := List.length_map _
theorem ix_nat {n j : Nat} (h : j < n) : L2.ixN n (j : Int) = some j := by
  unfold L2.ixN
  rw [if_pos (by omega), if_pos (by omega)]
  rw [Int.toNat_natCast]
end M

set_option maxRecDepth 100000
set_option maxHeartbeats 4000000
/-! The mirror, part 6: the row of a module. -/
namespace M
open PySem G
open L2 (atI Key)
abbrev FI := M.Mk × Option M.Mk × Str × Bool
def eF (x : FI) : PyData := .tuple [eM x.1, eO x.2.1, .str x.2.2.1, .bool x.2.2.2]
def insF (c : Chg) : List FI := (ins c.1 c.2.1).map fun x => (x.1, x.2.1, x.2.2, c.2.2)
def fnd (cs : List Chg) : List FI := (cs.map insF).flatten
def rmOf : Deed → List M.Mk
  | .chg _ rm _ _ _ => rm
  | .bck _ => []
def rmD1 (a : List (KL × PyData)) (c : Chg) : List (KL × PyData) := if c.2.2 = true then mergeK putT a (dcl id (fun _ => .bool true) (rmOf c.2.1)) else a
def rmD (cs : List Chg) : List (KL × PyData) := cs.foldl rmD1 []
def rmL (cs : List Chg) : List M.Mk := (cs.map fun c => if c.2.2 = true then rmOf c.2.1 else []).flatten
theorem fnd_snoc (cs : List Chg) (c : Chg) : fnd (cs ++ [c]) = fnd cs ++ insF c := by
  unfold fnd
  rw [List.map_append, List.flatten_append]
  simp
theorem rmD_snoc (cs : List Chg) (c : Chg) : rmD (cs ++ [c]) = rmD1 (rmD cs) c := by
  unfold rmD
  rw [List.foldl_append]
  rfl
theorem rmL_snoc (cs : List Chg) (c : Chg) : rmL (cs ++ [c]) = rmL cs ++ (if c.2.2 = true then rmOf c.2.1 else []) := by
  unfold rmL
  rw [List.map_append, List.flatten_append]
  simp
theorem rmD_some (k : M.Mk) (cs : List Chg) : (valT (rmD cs) (kP k)).isSome = decide (k ∈ rmL cs) := by
  refine snoc_ind (P := fun cs => (valT (rmD cs) (kP k)).isSome = decide (k ∈ rmL cs)) rfl (fun l c ih => ?_) cs
  rw [rmD_snoc, rmL_snoc]
  unfold rmD1
  cases hf : c.2.2 with
  | false =>
    rw [if_neg (by decide), if_neg (by decide), List.append_nil]
    exact ih
  | true =>
    rw [if_pos rfl, if_pos rfl, merge_some, ih, dcl_some, List.map_id]
    by_cases h1 : k ∈ rmL l
    · rw [decide_eq_true h1, decide_eq_true (List.mem_append_left _ h1)]; rfl
    · by_cases h2 : k ∈ rmOf c.2.1
      · rw [decide_eq_true h2, decide_eq_true (List.mem_append_right _ h2), Bool.or_true]
      · rw [decide_eq_false h1, decide_eq_false h2, decide_eq_false fun q => ?_]; rfl
        rcases List.mem_append.mp q with q | q
        · exact h1 q
        · exact h2 q
theorem rmD_len {cs : List Chg} {b : Nat} (h : ∀ c, c ∈ cs → (rmOf c.2.1).length ≤ b) : (rmD cs).length ≤ b * cs.length := by
  refine snoc_ind (P := fun cs => (∀ c, c ∈ cs → (rmOf c.2.1).length ≤ b) → (rmD cs).length ≤ b * cs.length) (fun _ => Nat.zero_le _) (fun l c ih h => ?_) cs h
  rw [rmD_snoc, List.length_append]
  have h1 := ih fun x hx => h x (List.mem_append_left _ hx)
  have h4 := h c (List.mem_append_right _ (List.mem_singleton.mpr rfl))
  have h5 : b * (l.length + [c].length) = b * l.length + b := Nat.mul_succ _ _
  unfold rmD1
  split
  · have h2 := merge_len (dcl id (fun _ => PyData.bool true) (rmOf c.2.1)) (rmD l)
    have h3 : (dcl id (fun _ => PyData.bool true) (rmOf c.2.1)).length ≤ (rmOf c.2.1).length := dcl_len _
    omega
  · omega
theorem fnd_len {cs : List Chg} {b : Nat} (h : ∀ c, c ∈ cs → (ins c.1 c.2.1).length ≤ b) : (fnd cs).length ≤ b * cs.length := by
  refine snoc_ind (P := fun cs => (∀ c, c ∈ cs → (ins c.1 c.2.1).length ≤ b) → (fnd cs).length ≤ b * cs.length) (fun _ => Nat.zero_le _) (fun l c ih h => ?_) cs h
  rw [fnd_snoc, List.length_append, List.length_append]
  have h1 := ih fun x hx => h x (List.mem_append_left _ hx)
  have h4 := h c (List.mem_append_right _ (List.mem_singleton.mpr rfl))
  have h5 : b * (l.length + [c].length) = b * l.length + b := Nat.mul_succ _ _
  have h6 : (insF c).length = (ins c.1 c.2.1).length := List.length_map _
  omega
/-! places -/
def srt (cs : List Chg) : List FI := ksort (fun x : FI => x.1) (fnd cs)
def plAt (pl : List M.Mk) (b : Option M.Mk) : Nat := match b with
  | none => 0
  | some k => pl.idxOf k + 1
def plStep (pl : List M.Mk) (x : FI) : List M.Mk := pl.take (plAt pl x.2.1) ++ [x.1] ++ pl.drop (plAt pl x.2.1)
def plc (xs : List FI) : List M.Mk := xs.foldl plStep []
theorem plc_snoc (xs : List FI) (x : FI) : plc (xs ++ [x]) = plStep (plc xs) x := by
  unfold plc
  rw [List.foldl_append]
  rfl
theorem plc_len (xs : List FI) : (plc xs).length = xs.length := by
  refine snoc_ind (P := fun xs => (plc xs).length = xs.length) rfl (fun l x ih => ?_) xs
  rw [plc_snoc]
  unfold plStep
  rw [List.length_append, List.length_append, List.length_append, List.length_take, List.length_drop, ← ih]
  show _ + 1 + _ = (plc l).length + 1
  omega
theorem plc_mem (k : M.Mk) (xs : List FI) : k ∈ plc xs ↔ k ∈ xs.map fun x => x.1 := by
  refine snoc_ind (P := fun xs => k ∈ plc xs ↔ k ∈ xs.map fun x => x.1) (by simp [plc]) (fun l x ih => ?_) xs
  rw [plc_snoc]
  unfold plStep
  have h : k ∈ plc l ↔ k ∈ (plc l).take (plAt (plc l) x.2.1) ∨ k ∈ (plc l).drop (plAt (plc l) x.2.1) := by
    rw [← List.mem_append, List.take_append_drop]
  rw [List.map_append, List.mem_append, List.mem_append, List.mem_append, ← ih, h]
  simp only [List.map_cons, List.map_nil, List.mem_singleton]
  constructor
  · rintro ((q | q) | q)
    · exact .inl (.inl q)
    · exact .inr q
    · exact .inl (.inr q)
  · rintro ((q | q) | q)
    · exact .inl (.inl q)
    · exact .inr q
    · exact .inl (.inr q)
/-! what is seen -/
def vF (R : List M.Mk) (x : FI) : PyData := .tuple [.str x.2.2.1, .bool (x.2.2.2 && !decide (x.1 ∈ R))]
def snD (R : List M.Mk) (xs : List FI) : List (KL × PyData) := dcl (fun x : FI => x.1) (vF R) xs
def lkF (xs : List FI) (k : M.Mk) : Option FI := xs.reverse.find? fun x => decide (x.1 = k)
theorem valT_put2 (kvs : List (KL × PyData)) (p k : KL) (d : PyData) : valT (putT kvs p d) k = if p = k then some d else valT kvs k := by
  have mp : ∀ kvs : List (KL × PyData), valT (kvs.map fun kv => if kv.1 = p then (kv.1, d) else kv) k = if p = k then (if (kvs.any fun kv => decide (kv.1 = p)) = true then some d else none) else valT kvs k := by
    intro kvs
    induction kvs with
    | nil => by_cases h : p = k <;> simp [valT, h]
    | cons a r ih =>
      unfold valT at ih ⊢
      rw [List.map_cons, List.find?_cons, List.any_cons, List.find?_cons]
      by_cases h1 : a.1 = p
      · rw [if_pos h1, decide_eq_true h1]
        by_cases h2 : p = k
        · rw [if_pos h2, Bool.true_or, if_pos rfl, show decide ((a.1, d).1 = k) = true from decide_eq_true (h1.trans h2)]
          rfl
        · have h3 : ¬ a.1 = k := fun q => h2 (h1.symm.trans q)
          rw [if_neg h2] at ih ⊢
          rw [show decide ((a.1, d).1 = k) = false from decide_eq_false h3]
          exact ih
      · rw [if_neg h1, decide_eq_false h1, Bool.false_or]
        by_cases h3 : a.1 = k
        · have h2 : ¬ p = k := fun q => h1 (h3.trans q.symm)
          rw [if_neg h2, decide_eq_true h3]
        · rw [decide_eq_false h3]
          exact ih
  unfold putT
  split
  · rename_i h
    rw [mp, h]
    rfl
  · rename_i h
    unfold valT
    rw [List.find?_append]
    by_cases h2 : p = k
    · have : (kvs.find? fun kv => decide (kv.1 = k)) = none := by
        rw [List.find?_eq_none]
        intro z hz q
        refine h (List.any_eq_true.mpr ⟨z, hz, decide_eq_true ?_⟩)
        rw [h2]
        exact of_decide_eq_true q
      rw [this, if_pos h2]
      simp [h2]
    · rw [if_neg h2]
      simp [h2]
theorem snD_val (R : List M.Mk) (xs : List FI) (k : M.Mk) : valT (snD R xs) (kP k) = (lkF xs k).map (vF R) := by
  refine snoc_ind (P := fun xs => valT (snD R xs) (kP k) = (lkF xs k).map (vF R)) rfl (fun l x ih => ?_) xs
  have e : snD R (l ++ [x]) = putT (snD R l) (kP x.1) (vF R x) := dcl_snoc
  rw [e, valT_put2, ih]
  unfold lkF
  rw [List.reverse_append, List.reverse_singleton, List.singleton_append, List.find?_cons]
  by_cases h : x.1 = k
  · rw [if_pos (by rw [h]), decide_eq_true h]
    rfl
  · rw [if_neg fun q => h (kP_inj q), decide_eq_false h]
theorem lkF_some {xs : List FI} {k : M.Mk} (h : k ∈ xs.map fun x => x.1) : ∃ x, lkF xs k = some x ∧ x.1 = k := by
  obtain ⟨x, hx, e⟩ := List.mem_map.mp h
  cases q : lkF xs k with
  | none =>
    unfold lkF at q
    rw [List.find?_eq_none] at q
    exact absurd (decide_eq_true e) (q x (List.mem_reverse.mpr hx))
  | some y => exact ⟨y, rfl, of_decide_eq_true (List.find?_some (p := fun x : FI => decide (x.1 = k)) q)⟩
abbrev RI := M.Mk × Str × Bool
def eV (x : RI) : PyData := .tuple [eM x.1, .str x.2.1, .bool x.2.2]
def rowAt (R : List M.Mk) (xs : List FI) (k : M.Mk) : RI := match lkF xs k with
  | some x => (k, x.2.2.1, x.2.2.2 && !decide (x.1 ∈ R))
  | none => (k, Str.empty, false)
def rowC (cs : List Chg) : List RI := (plc (srt cs)).map (rowAt (rmL cs) (srt cs))
def rowP (rows : Rws) (m : Str) : List RI := rowC (chgs rows m)
/-- behind marks stand before -/
def Cl (cs : List Chg) : Prop := ∀ x, x ∈ fnd cs → ∀ b, x.2.1 = some b → b.1 < x.1.1 ∧ b ∈ (fnd cs).map fun x => x.1
theorem srt_sorted (cs : List Chg) : (srt cs).Pairwise fun a b => mle a.1 b.1 = true := by
  unfold srt ksort
  refine List.pairwise_mergeSort (fun a b c h1 h2 => ?_) (fun a b => ?_) _
  · unfold mle at h1 h2 ⊢
    have h1 := of_decide_eq_true h1
    have h2 := of_decide_eq_true h2
    refine decide_eq_true ?_
    omega
  · unfold mle
    simp only [Bool.or_eq_true, decide_eq_true_eq]
    omega
theorem srt_mem (cs : List Chg) (x : FI) : x ∈ srt cs ↔ x ∈ fnd cs := (List.mergeSort_perm _ _).mem_iff
/-- where a behind mark stands, when its turn comes -/
theorem Cl.at {cs : List Chg} (h : Cl cs) {i : Nat} {x : FI} (hx : (srt cs)[i]? = some x) {b : M.Mk} (hb : x.2.1 = some b) : b ∈ plc ((srt cs).take i) := by
  obtain ⟨h1, h2⟩ := h x ((srt_mem cs x).mp (List.mem_of_getElem? hx)) b hb
  rw [plc_mem]
  obtain ⟨y, hy, e⟩ := List.mem_map.mp h2
  have hy := (srt_mem cs y).mpr hy
  obtain ⟨j, hj⟩ := List.mem_iff_getElem?.mp hy
  refine List.mem_map.mpr ⟨y, ?_, e⟩
  have hij : j < i := by
    apply Classical.byContradiction
    intro q
    by_cases hq : j = i
    · subst hq
      rw [hx] at hj
      cases hj
      rw [← e] at h1
      omega
    · obtain ⟨k1, k2⟩ := List.getElem?_eq_some_iff.mp hx
      obtain ⟨k3, k4⟩ := List.getElem?_eq_some_iff.mp hj
      have := List.pairwise_iff_getElem.mp (srt_sorted cs) i j k1 k3 (by omega)
      rw [k2, k4, e] at this
      unfold mle at this
      have := of_decide_eq_true this
      omega
  rw [List.mem_iff_getElem?]
  exact ⟨j, by rw [List.getElem?_take, if_pos hij]; exact hj⟩
theorem srt_len (cs : List Chg) : (srt cs).length = (fnd cs).length := List.length_mergeSort _
theorem eqv_eM (a b : M.Mk) : PyData.eqv (eM a) (eM b) = decide (a = b) := by
  have e : PyData.eqv (eM a) (eM b) = (decide (a.1 = b.1) && (decide (a.2 = b.2) && true)) := rfl
  rw [e, Bool.and_true]
  by_cases h1 : a.1 = b.1
  · by_cases h2 : a.2 = b.2
    · rw [decide_eq_true h1, decide_eq_true h2, decide_eq_true (Prod.ext h1 h2)]; rfl
    · rw [decide_eq_false h2, Bool.and_false, decide_eq_false fun q => h2 (by rw [q])]
  · rw [decide_eq_false h1, Bool.false_and, decide_eq_false fun q => h1 (by rw [q])]
end M

set_option maxRecDepth 100000
set_option maxHeartbeats 4000000
/-! The mirror, part 7: the law's deeds and triples. -/
namespace M
open PySem G
open L2 (atI)
def mks (rows : Rws) (m : Str) : List M.Mk := plc (srt (chgs rows m))
def la (ds : List Int) (n : Nat) : Int := lawAt ds (n : Int)
def pick (Ks : List M.Mk) (v : Int) : M.Mk := Ks.getD (v % (Ks.length : Int)).toNat default
def dRm (ds : List Int) (i : Nat) (Ks : List M.Mk) (n : Nat) : List M.Mk := if 0 < Ks.length then (List.range n).map fun k => pick Ks (la ds (i + 3 + k)) else []
def dBh (ds : List Int) (i : Nat) (Ks : List M.Mk) : Option M.Mk := if 0 < Ks.length ∧ ¬ la ds (i + 7) % 5 = 0 then some (pick Ks (la ds (i + 7) / 5)) else none
def num1 (a : Int) : Option M.Mk → Int
  | none => a
  | some k => mx a (k.1 + 1)
def dNum (ds : List Int) (i : Nat) (rm : List M.Mk) (bh : Option M.Mk) (own : List Deed) (rows : Rws) : Int :=
  let n := lastR ((rm.map some ++ [bh]).foldl num1 1) own + ([0, 0, 1, 5] : List Int).getD (la ds (i + 8) % 4).toNat 0
  if la ds (i + 8) / 4 % 2 = 0 then mx n (lastN rows + 1) else n
def dMod (ds : List Int) (i : Nat) : Str := mods.getD (la ds (i + 1) % 16 / 5).toNat Str.empty
def lawDeed (ds : List Int) (i : Nat) (rows : Rws) (r : Nat) : Deed :=
  if la ds i % 4 = 3 ∧ 0 < (rows.getD r []).length then .bck (1 + la ds (i + 1) % ((rows.getD r []).length : Int))
  else
    let m := dMod ds i
    let Ks := mks rows m
    let rm := dRm ds i Ks (la ds (i + 2) % 4).toNat
    let bh := dBh ds i Ks
    .chg m rm bh (dNum ds i rm bh (rows.getD r []) rows) (letters ds (i + 9))
theorem at_mod {α : Type} {xs : List α} {f : α → PyData} {d : α} (h : 0 < xs.length) (v : Int) : atI (xs.map f) (v % (xs.length : Int)) = some (f (xs.getD (v % (xs.length : Int)).toNat d)) := by
  have h1 := Int.emod_nonneg v (show (xs.length : Int) ≠ 0 by omega)
  have h2 := Int.emod_lt_of_pos v (show 0 < (xs.length : Int) by omega)
  have e : v % (xs.length : Int) = (((v % (xs.length : Int)).toNat : Nat) : Int) := by omega
  rw [e, Int.toNat_natCast]
  exact at_map (get_getD (by omega))
theorem at_lt {α : Type} {xs : List α} {f : α → PyData} {d : α} {v : Int} (h : 0 ≤ v) (h2 : v < (xs.length : Int)) : atI (xs.map f) v = some (f (xs.getD v.toNat d)) := by
  have e : v = ((v.toNat : Nat) : Int) := by omega
  rw [e, Int.toNat_natCast]
  exact at_map (get_getD (by omega))
end M

set_option maxRecDepth 100000
set_option maxHeartbeats 4000000
/-! The mirror, part 8: the law's triples. -/
namespace M
open PySem G
open L2 (atI)
def mxN (a b : Nat) : Nat := if b > a then b else a
theorem mx_nat (a b : Nat) : mx (a : Int) (b : Int) = ((mxN a b : Nat) : Int) := by
  unfold mx mxN
  by_cases h : b > a
  · rw [if_pos h, if_pos (by omega)]
  · rw [if_neg h, if_neg (by omega)]
def joinC (a b : List Nat) : List Nat := (List.range 8).map fun j => mxN (a.getD j 0) (b.getD j 0)
def cs1 (cs : List (List Nat)) (r o most : Nat) : List (List Nat) := if o < most then cs.set r (joinC (cs.getD r []) (cs.getD o [])) else cs
def tRep (ds : List Int) (start most k : Nat) : Nat := (la ds (start + 16 * k) % (most : Int)).toNat
def tOth (ds : List Int) (start most k : Nat) : Nat := (la ds (start + 16 * k + 1) % ((most : Int) + 1)).toNat
abbrev T3 := Rws × List (List Nat) × List Trip
def tCs (ds : List Int) (start most k : Nat) (s : T3) : List (List Nat) := cs1 s.2.1 (tRep ds start most k) (tOth ds start most k) most
def tVis (ds : List Int) (start most k : Nat) (s : T3) : Rws := vis s.1 ((tCs ds start most k s).getD (tRep ds start most k) [])
def tDeed (ds : List Int) (start most k : Nat) (s : T3) : Deed := lawDeed ds (start + 16 * k + 2) (tVis ds start most k s) (tRep ds start most k)
def tStep (ds : List Int) (start most k : Nat) (s : T3) : T3 :=
  let r := tRep ds start most k
  let c1 := tCs ds start most k s
  let d := tDeed ds start most k s
  let rows' := addD s.1 r d
  (rows', c1.set r ((c1.getD r []).set r (rows'.getD r []).length), s.2.2 ++ [((r : Int), ((rows'.getD r []).length : Int), d)])
def tSt (ds : List Int) (start most : Nat) : Nat → T3
  | 0 => (List.replicate 8 [], List.replicate most (List.replicate 8 0), [])
  | k + 1 => tStep ds start most k (tSt ds start most k)
/-- sizes -/
structure TSz (most k : Nat) (s : T3) : Prop where
  n8 : s.1.length = 8
  rl : ∀ r, r < 8 → (s.1.getD r []).length ≤ k
  cl : s.2.1.length = most
  c8 : ∀ c, c ∈ s.2.1 → c.length = 8
  tl : s.2.2.length = k
theorem tRep_lt {ds : List Int} {start most k : Nat} (h : 0 < most) : tRep ds start most k < most := by
  unfold tRep
  have h1 := Int.emod_nonneg (la ds (start + 16 * k)) (show (most : Int) ≠ 0 by omega)
  have h2 := Int.emod_lt_of_pos (la ds (start + 16 * k)) (show 0 < (most : Int) by omega)
  omega
theorem tSz_cs {most k : Nat} {s : T3} (h : TSz most k s) (hm : 0 < most) (ds : List Int) (start : Nat) : (tCs ds start most k s).length = most ∧ ∀ c, c ∈ tCs ds start most k s → c.length = 8 := by
  unfold tCs cs1
  split
  · refine ⟨by rw [List.length_set]; exact h.cl, fun c hc => ?_⟩
    rcases List.mem_or_eq_of_mem_set hc with q | q
    · exact h.c8 c q
    · rw [q]
      unfold joinC
      rw [List.length_map, List.length_range]
  · exact ⟨h.cl, h.c8⟩
theorem tSz_step {most k : Nat} {s : T3} (h : TSz most k s) (hm : 0 < most) (hm8 : most ≤ 8) (ds : List Int) (start : Nat) : TSz most (k + 1) (tStep ds start most k s) := by
  obtain ⟨h1, h2⟩ := tSz_cs h hm ds start
  have hr := tRep_lt (ds := ds) (start := start) (k := k) hm
  have hr8 : tRep ds start most k < s.1.length := by rw [h.n8]; omega
  refine ⟨(addD_length _ _ _).trans h.n8, fun r hr2 => ?_, by show (List.set _ _ _).length = _; rw [List.length_set]; exact h1, fun c hc => ?_, by show (s.2.2 ++ [_]).length = _; rw [List.length_append, h.tl]; rfl⟩
  · show ((addD s.1 (tRep ds start most k) _).getD r []).length ≤ k + 1
    rw [addD_len hr8]
    have := h.rl r hr2
    split <;> omega
  · rcases List.mem_or_eq_of_mem_set hc with q | q
    · exact h2 c q
    · rw [q, List.length_set]
      exact h2 _ (getD_mem (by rw [h1]; exact hr))
theorem tSz_at (ds : List Int) (start : Nat) {most : Nat} (hm : 0 < most) (hm8 : most ≤ 8) : ∀ k, TSz most k (tSt ds start most k)
  | 0 => ⟨rfl, fun r hr => by
      show ((List.replicate 8 ([] : List Deed)).getD r []).length ≤ 0
      rw [List.getD_eq_getElem?_getD, List.getElem?_replicate]
      split <;> exact Nat.le_refl 0, List.length_replicate, fun c hc => by rw [(List.mem_replicate.mp hc).2, List.length_replicate], rfl⟩
  | k + 1 => tSz_step (tSz_at ds start hm hm8 k) hm hm8 ds start
end M

set_option maxRecDepth 100000
set_option maxHeartbeats 4000000
/-! The mirror, part 9: the draws, the turned packet. -/
namespace M
open PySem G
open L2 (atI)
def bg (c : Int) : Nat → List Int × Int
  | 0 => ([], c)
  | j + 1 => if (bg c j).2 > 0 then ((bg c j).1 ++ [(bg c j).2 % 9973], (bg c j).2 / 9973) else bg c j
def draws1 (c : Int) (k : Nat) : List Int := if c < 10 ^ 18 then [mix c (k : Int)] else (bg c 60).1
def drawsN (ns : List Int) (n : Nat) : List Int := ((List.range n).map fun k => draws1 (ns.getD k 0) k).flatten
def drawsOf (ns : List Int) : List Int := drawsN ns (Nat.min 63 ns.length)
theorem drawsN_succ (ns : List Int) (n : Nat) : drawsN ns (n + 1) = drawsN ns n ++ draws1 (ns.getD n 0) n := fl_succ _ n
theorem bg_len (c : Int) : ∀ j, (bg c j).1.length ≤ j
  | 0 => Nat.le_refl 0
  | j + 1 => by
    have ih := bg_len c j
    unfold bg
    split
    · rw [List.length_append]; exact Nat.succ_le_succ ih
    · omega
theorem bg_lo (c : Int) : ∀ j d, d ∈ (bg c j).1 → 0 ≤ d ∧ d < 10000
  | 0, d, h => by cases h
  | j + 1, d, h => by
    unfold bg at h
    split at h
    · rcases List.mem_append.mp h with h | h
      · exact bg_lo c j d h
      · rw [List.mem_singleton.mp h]
        have h1 := Int.emod_nonneg (bg c j).2 (show (9973 : Int) ≠ 0 by decide)
        have h2 := Int.emod_lt_of_pos (bg c j).2 (show (0 : Int) < 9973 by decide)
        omega
    · exact bg_lo c j d h
theorem draws1_len (c : Int) (k : Nat) : (draws1 c k).length ≤ 60 := by
  unfold draws1
  split
  · show 1 ≤ 60; decide
  · exact bg_len c 60
theorem draws1_lo {c : Int} {k : Nat} {d : Int} (h : d ∈ draws1 c k) : 0 ≤ d ∧ d < 10000 := by
  unfold draws1 at h
  split at h
  · rw [List.mem_singleton.mp h]
    have := mix_lo c (k : Int)
    omega
  · exact bg_lo c 60 d h
theorem drawsN_len (ns : List Int) (n : Nat) : (drawsN ns n).length ≤ 60 * n := fl_len n fun k _ => draws1_len _ _
theorem drawsOf_dr (ns : List Int) : Dr (drawsOf ns) := by
  refine ⟨?_, fun d hd => ?_⟩
  · have h := drawsN_len ns (Nat.min 63 ns.length)
    have h2 : Nat.min 63 ns.length ≤ 63 := Nat.min_le_left _ _
    unfold drawsOf
    omega
  · unfold drawsOf drawsN at hd
    rw [List.mem_flatten] at hd
    obtain ⟨l, h1, h2⟩ := hd
    obtain ⟨k, _, rfl⟩ := List.mem_map.mp h1
    exact draws1_lo h2
theorem mn_nat (b : Nat) : mn 63 (b : Int) = ((Nat.min 63 b : Nat) : Int) := by
  unfold mn
  by_cases h : (b : Int) < 63
  · rw [if_pos h]
    have : Nat.min 63 b = b := Nat.min_eq_right (by omega)
    rw [this]
  · rw [if_neg h]
    have : Nat.min 63 b = 63 := Nat.min_eq_left (by omega)
    rw [this]
    rfl
/-! turned -/
def badD : Deed → Deed
  | .chg m rm bh n t => .chg m (rm ++ [(9999, 0)]) bh n t
  | .bck p => .bck p
def tuAt (v : Int) (l : List Trip) : Nat := (v / 8 % ((l.length : Int) + 1)).toNat
def tu1 (v : Int) (l : List Trip) (t : Trip) : List Trip :=
  if v % 8 = 1 then l ++ [(t.1, t.2.1 + 100, t.2.2)]
  else if v % 8 = 2 ∧ isChg t.2.2 = true then l ++ [(t.1, t.2.1, badD t.2.2)]
  else if ¬ v % 8 = 3 then l.take (tuAt v l) ++ [t] ++ l.drop (tuAt v l)
  else l
def tu2 (v : Int) (l : List Trip) (t : Trip) : List Trip := if v % 8 = 4 then t :: tu1 v l t else tu1 v l t
def turned (ds : List Int) (b : Nat) (p : List Trip) : Nat → List Trip
  | 0 => []
  | k + 1 => tu2 (la ds (b + k)) (turned ds b p k) (p.getD k default)
theorem tu1_len (v : Int) (l : List Trip) (t : Trip) : (tu1 v l t).length ≤ l.length + 1 := by
  unfold tu1
  split
  · rw [List.length_append]; exact Nat.le_refl _
  · split
    · rw [List.length_append]; exact Nat.le_refl _
    · split
      · rw [List.length_append, List.length_append, List.length_take, List.length_drop]
        show _ + 1 + _ ≤ _
        omega
      · omega
theorem turned_len (ds : List Int) (b : Nat) (p : List Trip) : ∀ k, (turned ds b p k).length ≤ 2 * k
  | 0 => Nat.le_refl 0
  | k + 1 => by
    have ih := turned_len ds b p k
    have h := tu1_len (la ds (b + k)) (turned ds b p k) (p.getD k default)
    unfold turned tu2
    split
    · rw [List.length_cons]; omega
    · omega
/-- what stands in it -/
theorem tu_mem {v : Int} {l : List Trip} {t x : Trip} (h : x ∈ tu2 v l t) : x ∈ l ∨ x = t ∨ x = (t.1, t.2.1 + 100, t.2.2) ∨ (x = (t.1, t.2.1, badD t.2.2) ∧ isChg t.2.2 = true) := by
  have one : x ∈ tu1 v l t → x ∈ l ∨ x = t ∨ x = (t.1, t.2.1 + 100, t.2.2) ∨ (x = (t.1, t.2.1, badD t.2.2) ∧ isChg t.2.2 = true) := fun h => by
    unfold tu1 at h
    split at h
    · rcases List.mem_append.mp h with h | h
      · exact .inl h
      · exact .inr (.inr (.inl (List.mem_singleton.mp h)))
    · split at h
      · rename_i hc
        rcases List.mem_append.mp h with h | h
        · exact .inl h
        · exact .inr (.inr (.inr ⟨List.mem_singleton.mp h, hc.2⟩))
      · split at h
        · rcases List.mem_append.mp h with h | h
          · rcases List.mem_append.mp h with h | h
            · exact .inl (List.mem_of_mem_take h)
            · exact .inr (.inl (List.mem_singleton.mp h))
          · exact .inl (List.mem_of_mem_drop h)
        · exact .inl h
  unfold tu2 at h
  split at h
  · rcases List.mem_cons.mp h with h | h
    · exact .inr (.inl h)
    · exact one h
  · exact one h
end M

set_option maxRecDepth 100000
set_option maxHeartbeats 4000000
/-! The mirror, part 10: the objects at the start. -/
namespace M
open PySem G
open L2 (atI)
def r0 : Rws := List.replicate 8 []
def stK (ds : List Int) (k : Nat) (t : Trip) : Bool := !decide (la ds (900 + 3 * t.2.1.toNat + k) % 4 = 0)
def stP (ds : List Int) (tr : List Trip) (k : Nat) : List Trip := tr.filter (stK ds k)
def stR (ds : List Int) (tr : List Trip) (k : Nat) : Rws := (rcv r0 (stP ds tr k)).1
def eB (x : Rws × Rws) : List PyData := [.list (eL x.1), objD (eL x.2)]
def pf (R : Rws) (r j : Nat) : Rws := (List.range 8).map fun i => if i < r then R.getD i [] else if i = r then (R.getD r []).take j else []
theorem getD_map_range {f : Nat → List Deed} {n i : Nat} (h : i < n) : ((List.range n).map f).getD i [] = f i := by
  rw [List.getD_eq_getElem?_getD, List.getElem?_map, List.getElem?_range h]
  rfl
theorem ext8 {a b : Rws} (ha : a.length = 8) (hb : b.length = 8) (h : ∀ i, i < 8 → a.getD i [] = b.getD i []) : a = b := by
  refine List.ext_getElem (by rw [ha, hb]) fun i h1 h2 => ?_
  have := h i (by omega)
  rw [List.getD_eq_getElem?_getD, List.getD_eq_getElem?_getD, List.getElem?_eq_getElem h1, List.getElem?_eq_getElem h2] at this
  exact this
theorem pf_len (R : Rws) (r j : Nat) : (pf R r j).length = 8 := by unfold pf; rw [List.length_map, List.length_range]
theorem pf_zero (R : Rws) : pf R 0 0 = r0 := ext8 (pf_len _ _ _) rfl fun i hi => by
  unfold pf
  rw [getD_map_range hi, if_neg (by omega)]
  have e : r0.getD i [] = [] := by
    unfold r0
    rw [List.getD_eq_getElem?_getD, List.getElem?_replicate]
    split <;> rfl
  rw [e]
  split
  · exact List.take_zero
  · rfl
theorem pf_next {R : Rws} {r j : Nat} (hj : (R.getD r []).length ≤ j) : pf R r j = pf R (r + 1) 0 := ext8 (pf_len _ _ _) (pf_len _ _ _) fun i hi => by
  unfold pf
  rw [getD_map_range hi, getD_map_range hi]
  by_cases h1 : i < r
  · rw [if_pos h1, if_pos (by omega)]
  · by_cases h2 : i = r
    · rw [if_neg h1, if_pos h2, if_pos (by omega), h2, List.take_of_length_le hj]
    · rw [if_neg h1, if_neg h2, if_neg (by omega)]
      split
      · rw [List.take_zero]
      · rfl
theorem pf_last {R : Rws} (h : R.length = 8) : pf R 8 0 = R := ext8 (pf_len _ _ _) h fun i hi => by
  unfold pf
  rw [getD_map_range hi, if_pos hi]
theorem pf_add {R : Rws} {r j : Nat} {d : Deed} (hr : r < 8) (hd : (R.getD r [])[j]? = some d) : addD (pf R r j) r d = pf R r (j + 1) := ext8 ((addD_length _ _ _).trans (pf_len _ _ _)) (pf_len _ _ _) fun i hi => by
  rw [addD_at (by rw [pf_len]; exact hr)]
  unfold pf
  rw [getD_map_range hi, getD_map_range hi, getD_map_range hr]
  by_cases h2 : i = r
  · rw [if_pos h2, if_neg (by omega), if_pos rfl, if_neg (by omega), if_pos h2, take_snoc hd]
  · rw [if_neg h2]
    by_cases h1 : i < r
    · rw [if_pos h1, if_pos h1]
    · rw [if_neg h1, if_neg h1, if_neg h2, if_neg h2]
theorem pf_row {R : Rws} {r j : Nat} (hr : r < 8) : (pf R r j).getD r [] = (R.getD r []).take j := by
  unfold pf
  rw [getD_map_range hr, if_neg (by omega), if_pos rfl]
theorem frc_nil : frc [] = [] := rfl
theorem chgs_r0 (m : Str) : chgs r0 m = [] := by
  unfold chgs chgN
  rw [List.flatten_eq_nil_iff]
  intro l hl
  obtain ⟨r, hr, rfl⟩ := List.mem_map.mp hl
  have e : r0.getD r [] = [] := by
    unfold r0
    rw [List.getD_eq_getElem?_getD, List.getElem?_replicate]
    split <;> rfl
  rw [e]
  rfl
end M

set_option maxRecDepth 100000
set_option maxHeartbeats 4000000
/-! The mirror, part 11: the law. -/
namespace M
open PySem G
open L2 (atI)
def cn (rows : Rws) : List Nat := rows.map List.length
def pairs6 : List (Nat × Nat) := [(0, 1), (1, 2), (2, 0), (1, 0), (2, 1), (0, 2)]
def pairs3 : List (Nat × Nat) := [(0, 1), (1, 2), (2, 0)]
def gt1 (ds : List Int) (k : Nat) : Nat × Nat := pairs6.getD (la ds (400 + 40 * k) % 6).toNat (0, 0)
def due (B : List Rws) (x : Nat × Nat) : List Trip := lack (B.getD x.1 []) (cn (B.getD x.2 []))
def pkt (ds : List Int) (k : Nat) (d : List Trip) : List Trip := if la ds (401 + 40 * k) % 3 > 0 then turned ds (402 + 40 * k) d d.length else d
def got (B : List Rws) (t : Nat) (p : List Trip) : List Rws := B.set t (rcv (B.getD t []) p).1
def st1 (ds : List Int) (tr : List Trip) : Nat → List Rws
  | 0 => (List.range 3).map (stR ds tr)
  | k + 1 => got (st1 ds tr k) (gt1 ds k).2 (pkt ds k (due (st1 ds tr k) (gt1 ds k)))
def st2 (B : List Rws) : Nat → List Rws
  | 0 => B
  | j + 1 => got (st2 B j) (pairs3.getD j (0, 0)).2 (due (st2 B j) (pairs3.getD j (0, 0)))
def st3 (B : List Rws) : Nat → List Rws
  | 0 => B
  | j + 1 => st2 (st3 B j) 3
def ob3 (A B : List Rws) : List (List PyData) := (List.range 3).map fun i => eB (A.getD i [], B.getD i [])
theorem ob3_len (A B : List Rws) : (ob3 A B).length = 3 := by unfold ob3; rw [List.length_map, List.length_range]
theorem ob3_get {A B : List Rws} {i : Nat} (h : i < 3) : (ob3 A B)[i]? = some (eB (A.getD i [], B.getD i [])) := by
  unfold ob3
  rw [List.getElem?_map, List.getElem?_range h]
  rfl
theorem set_getD {A : List Rws} {t i : Nat} {x : Rws} (h : t < A.length) : (A.set t x).getD i [] = if i = t then x else A.getD i [] := by
  rw [List.getD_eq_getElem?_getD, List.getElem?_set]
  by_cases hi : i = t
  · rw [if_pos hi.symm, if_pos hi, if_pos h]
    rfl
  · rw [if_neg (fun q => hi q.symm), if_neg hi, List.getD_eq_getElem?_getD]
theorem ob3_set {A B : List Rws} {t : Nat} {x y : Rws} (hA : A.length = 3) (hB : B.length = 3) (h : t < 3) : (ob3 A B).set t (eB (x, y)) = ob3 (A.set t x) (B.set t y) := by
  unfold ob3
  refine List.ext_getElem (by simp) fun i h1 h2 => ?_
  have hi : i < 3 := by simpa using h2
  rw [List.getElem_set, List.getElem_map, List.getElem_map, List.getElem_range, set_getD (by omega), set_getD (by omega)]
  by_cases q : t = i
  · rw [if_pos q, if_pos q.symm, if_pos q.symm]
  · rw [if_neg q, if_neg (fun z => q z.symm), if_neg (fun z => q z.symm)]
theorem got_len (B : List Rws) (t : Nat) (p : List Trip) : (got B t p).length = B.length := List.length_set
theorem st1_len (ds : List Int) (tr : List Trip) : ∀ k, (st1 ds tr k).length = 3
  | 0 => by show ((List.range 3).map _).length = 3; rw [List.length_map, List.length_range]
  | k + 1 => (got_len _ _ _).trans (st1_len ds tr k)
theorem st2_len (B : List Rws) : ∀ k, (st2 B k).length = B.length
  | 0 => rfl
  | k + 1 => (got_len _ _ _).trans (st2_len B k)
theorem st3_len (B : List Rws) : ∀ k, (st3 B k).length = B.length
  | 0 => rfl
  | k + 1 => (st2_len _ _).trans (st3_len B k)
def trips (ds : List Int) : List Trip := (tSt ds 20 (1 + la ds 1 % 4).toNat (la ds 0 % 13).toNat).2.2
def turns (ds : List Int) : Nat := (la ds 2 % 5).toNat
def mid (ds : List Int) : List Rws := st1 ds (trips ds) (turns ds)
def fin3 (ds : List Int) : List Rws := st3 (mid ds) 2
theorem pairs6_lt : ∀ i, i < 6 → (pairs6.getD i (0, 0)).1 < 3 ∧ (pairs6.getD i (0, 0)).2 < 3 ∧ (pairs6.getD i (0, 0)).1 ≠ (pairs6.getD i (0, 0)).2 := by decide
theorem pairs3_lt : ∀ i, i < 3 → (pairs3.getD i (0, 0)).1 < 3 ∧ (pairs3.getD i (0, 0)).2 < 3 := by decide
end M
namespace M
open PySem G
open L2 (atI)
theorem ob3_set2 {A B : List Rws} {t : Nat} {y : Rws} (hB : B.length = 3) (h : t < 3) : (ob3 A B).set t ((eB (A.getD t [], B.getD t [])).set 1 (objD (eL y))) = ob3 A (B.set t y) := by
  unfold ob3
  refine List.ext_getElem (by simp) fun i h1 h2 => ?_
  have hi : i < 3 := by simpa using h2
  rw [List.getElem_set, List.getElem_map, List.getElem_map, List.getElem_range, set_getD (by omega)]
  by_cases q : t = i
  · rw [if_pos q, if_pos q.symm, ← q]
    rfl
  · rw [if_neg q, if_neg (fun z => q z.symm)]
theorem ob3_at {A B : List Rws} {i : Nat} (h : i < 3) : atI (ob3 A B) (i : Int) = some (eB (A.getD i [], B.getD i [])) := at_nat (ob3_get h)
def e2 (x : Nat × Nat) : PyData := .tuple [.int (x.1 : Int), .int (x.2 : Int)]
theorem ob3_zero (ds : List Int) (tr : List Trip) : ((List.range 3).map fun k => eB (stR ds tr k, stR ds tr k)) = ob3 (st1 ds tr 0) (st1 ds tr 0) := by
  unfold ob3
  refine List.map_congr_left fun i hi => ?_
  have hi := List.mem_range.mp hi
  have e : (st1 ds tr 0).getD i [] = stR ds tr i := by
    show ((List.range 3).map (stR ds tr)).getD i [] = _
    rw [List.getD_eq_getElem?_getD, List.getElem?_map, List.getElem?_range hi]
    rfl
  rw [e]
end M

set_option maxRecDepth 100000
set_option maxHeartbeats 4000000
/-! walks, part 1 -/
namespace G
open PySem L2 M
local macro_rules | `(tactic| walk_at "s") => `(tactic| first | rfl | assumption | decide | omega | exact Or.inr ⟨by omega, by omega⟩ | exact Or.inl ⟨by omega, by omega⟩ | exact ⟨by omega, by omega⟩)
local macro_rules | `(tactic| walk_at "le") => `(tactic| (repeat (first | exact Le.nil | refine Le.eq ?_ | refine Le.un ?_)))
local macro_rules | `(tactic| walk_at "no") => `(tactic| (repeat (first | exact no_nil | refine no_cons rfl ?_)))
abbrev s_after : Stmt := topS 5
abbrev N_after : List Str := ["deed"]
theorem sc_after : FnScope N_after ["deed"] (defScope s_after) := ⟨rfl, rfl, rfl, by decide +kernel, rfl, by decide +kernel, by decide +kernel⟩
abbrev s_Deeds_counts : Stmt := inClass (topS 6) 1
abbrev N_Deeds_counts : List Str := ["self", "row"]
theorem sc_Deeds_counts : FnScope N_Deeds_counts ["self"] (defScope s_Deeds_counts) := ⟨rfl, rfl, rfl, by decide +kernel, rfl, by decide +kernel, by decide +kernel⟩
abbrev s_lacking : Stmt := topS 8
abbrev N_lacking : List Str := ["deeds", "counts", "packet", "replica", "place"]
theorem sc_lacking : FnScope N_lacking ["deeds", "counts"] (defScope s_lacking) := ⟨rfl, rfl, rfl, by decide +kernel, rfl, by decide +kernel, by decide +kernel⟩
abbrev s__law_mix : Stmt := topS 13
abbrev N__law_mix : List Str := ["_law_cell", "_law_k", "_law_value"]
theorem sc__law_mix : FnScope N__law_mix ["_law_cell", "_law_k"] (defScope s__law_mix) := ⟨rfl, rfl, rfl, by decide +kernel, rfl, by decide +kernel, by decide +kernel⟩
section
variable {P : Program} {w : World} {K : PySem.W.Frag} {mg : Str → Option Value} {base : Heap} {C : Addr} {Tb : Tab}
def spMix (C : Addr) (Tb : Tab) : Sp := spF C Tb (fun x : Int × Int => [.int x.1, .int x.2]) (fun x => -1000000 ≤ x.2 ∧ x.2 ≤ 1000000) (fun x => .dat (.int (mix x.1 x.2)))
theorem w_mix (F : Def K mg "_law_mix" s__law_mix ["_law_cell", "_law_k"]) (T : Txt K mg C) : Cal P w K mg base 1 "_law_mix" (spMix C Tb) := by
  refine F.cal sc__law_mix (sp_len fun _ => rfl) fun f cdv A outer s H vs Q E hr h => ?_
  obtain ⟨⟨c, k⟩, lo, r, hlo, ht, ⟨hk1, hk2⟩, kk⟩ := h
  refine ⟨_, (pss_cons (ps_set (i := 2) sc__law_mix.nd rfl (Or.inl rfl) (pe_op op_mod (pe_callTy call_int1 (by rfl) T.m_int (by decide +kernel) (pa_cons (pe_op op_add (pe_op op_add (pe_op op_mul (pe_callTy call_int1 (by rfl) T.m_int (by decide +kernel) (pa_cons (pv 0) pa_nil)) pe_int) (pe_op op_mul (pv 1) pe_int)) pe_int) pa_nil)) pe_int))
      (pss_cons (ps_set (i := 2) sc__law_mix.nd rfl (Or.inl rfl) (pe_op op_mod (pe_callTy call_int1 (by rfl) T.m_int (by decide +kernel) (pa_cons (pe_op op_add (pe_op op_add (pe_op op_mul (pv 2) (pv 2)) (pe_op op_mul (pv 1) pe_int)) pe_int) pa_nil)) pe_int))
      (pss_one (ps_ret (pe_op op_mod (pe_op op_fdiv (pv 2) pe_int) pe_int))))), ?_⟩
  refine go_enter (n := 1) r hlo ht kk rfl ?_
  show Go C Tb _ [.dat (.int c), .dat (.int k), .un] _ _
  refine gsd (ed_mod (ed_int1 (ed_i0 (ed_i0 (ed_mul (ed_int1 (ed_var (by rfl))) ed_int (by walk_at "s")) (ed_mul (ed_var (by rfl)) ed_int (by walk_at "s"))) ed_int)) ed_int (by walk_at "s")) ?_
  refine gsd (ed_mod (ed_int1 (ed_i0 (ed_i0 (ed_mul (ed_var (by rfl)) (ed_var (by rfl)) (by walk_at "s")) (ed_mul (ed_var (by rfl)) ed_int (by walk_at "s"))) ed_int)) ed_int (by walk_at "s")) ?_
  exact go_retd (ed_mod (ed_div (ed_var (by rfl)) ed_int (by walk_at "s")) ed_int (by walk_at "s")) rfl
/-- after -/
def isC : Deed → Bool
  | .chg .. => true
  | .bck _ => false
def aft : Deed → Int
  | .chg _ _ _ n t => n + t.length
  | .bck _ => 0
def txt : Deed → Str
  | .chg _ _ _ _ t => t
  | .bck _ => Str.empty
def spAfter (C : Addr) (Tb : Tab) : Sp := spF C Tb (fun d : Deed => [eD d]) (fun d => isC d = true ∧ (txt d).length ≤ 1000) (fun d => .dat (.int (aft d)))
theorem sz1000 {n : Nat} (h : n ≤ 1000) : n ≤ sizeLine := Nat.le_trans h (by decide)
theorem w_after (F : Def K mg "after" s_after ["deed"]) (T : Txt K mg C) : Cal P w K mg base 1 "after" (spAfter C Tb) := by
  refine F.cal sc_after (sp_len fun _ => rfl) fun f cdv A outer s H vs Q E hr h => ?_
  obtain ⟨d, lo, r, hlo, ht, ⟨hc, hl⟩, kk⟩ := h
  cases d with
  | bck p => cases hc
  | chg m rm bh n t =>
  have hl' : t.length ≤ sizeLine := sz1000 hl
  refine ⟨_, (pss_one (ps_ret (pe_op op_add (pe_ix (ixT (K := K)) (pv 0) pe_int (fun _ _ => rfl)) (pe_callB call_len_str (by rfl) T.m_len PySem.boot_len (pa_cons (pe_ix (ixT (K := K)) (pv 0) pe_int (fun _ _ => rfl)) pa_nil))))), ?_⟩
  refine go_enter (n := 0) r hlo ht kk rfl ?_
  show Go C Tb _ [.dat (.tuple [.str "change", .str m, .tuple (rm.map eM), eO bh, .int n, .str t])] _ _
  exact go_retd (ed_i0 (ed_ixT (ed_var (by rfl)) ed_int (by walk_at "s")) (ed_lenS (ed_ixT (ed_var (by rfl)) ed_int (by walk_at "s")) (by walk_at "s"))) rfl
/-- counts -/
def cnts (rows : Rws) : List Nat := rows.map List.length
def eC (cs : List Nat) : List PyData := cs.map fun (c : Nat) => .int (c : Int)
def spCounts (C : Addr) (Tb : Tab) : Sp := spF C Tb (fun rows : Rws => [objD (eL rows)]) (fun rows => rows.length ≤ 1000) (fun rows => .own (eC (cnts rows)))
theorem w_counts (F : MDef K C "counts" "Deeds.counts" s_Deeds_counts ["self"]) (T : Txt K mg C) : Met P w K mg base 1 C "counts" (spCounts C Tb) := by
  refine F.met T.cl sc_Deeds_counts (sp_len fun _ => rfl) fun f cdv A outer s H vs Q E hr h => ?_
  obtain ⟨rows, lo, r, hlo, ht, hl, kk⟩ := h
  have hl : rows.length ≤ 1000 := hl
  refine ⟨_, (pss_one (ps_ret (pe_lc (own := [("row", 1)]) rfl sc_Deeds_counts.nd (listI (K := K) (fldK (K := K) (pv 0) rfl)) (blkOk_by (N := N_Deeds_counts) (sc := defScope s_Deeds_counts) (by decide +kernel)) (fun _ _ _ _ _ => (pg_name (i := 1) sc_Deeds_counts.nd rfl (Or.inl rfl))) (fun _ _ _ _ _ => pts_nil) (fun _ _ _ _ _ => (pe_callB (lenQ (K := K)) (by rfl) T.m_len PySem.boot_len (pa_cons (pv 1) pa_nil)))))), ?_⟩
  refine go_enter (n := 1) r hlo ht kk rfl ?_
  show Go C Tb _ [.dat (objD (eL rows)), .un] _ _
  have e : Sl.own (rows.map fun r => PyData.int (r.length : Int)) = .own (eC (cnts rows)) := by
    unfold eC cnts
    rw [List.map_map]
    rfl
  exact go_ret ((ef_map rows (fun r => .list (r.map eD)) (fun r => .int (r.length : Int)) ((ei_list (ed_rows T.cl T.nR (ed_var (by rfl))))).c (by omega) (by walk_at "no") (fun x hx => ⟨_, _, tg_name, (by decide), (by walk_at "no"), (es_len ((ed_var (by rfl))).es).is (by rw [List.length_map])⟩)).is e) rfl
/-- lacking -/
def spLack (C : Addr) (Tb : Tab) : Sp := spF C Tb (fun x : Rws × List Nat => [objD (eL x.1), .list (eC x.2)]) (fun x => x.1.length = 8 ∧ x.2.length = 8 ∧ (∀ r, r ∈ x.1 → r.length ≤ 1000) ∧ ∀ c, c ∈ x.2 → c ≤ 1000) (fun x => .own ((lack x.1 x.2).map eT))
theorem lackR_len {r : Nat} {row : List Deed} {c : Nat} (h : row.length ≤ 1000) : (lackR r row c).length ≤ 1000 := by
  unfold lackR
  rw [List.length_map, List.length_range]
  omega
theorem lackN_len {rows : Rws} {cs : List Nat} (h : ∀ r, r ∈ rows → r.length ≤ 1000) : ∀ n, n ≤ rows.length → (lackN rows cs n).length ≤ 1000 * n
  | 0, _ => by simp [lackN]
  | n + 1, hn => by
    rw [lackN_succ, List.length_append]
    have h1 := lackN_len (cs := cs) h n (by omega)
    have h2 : (lackR n (rows.getD n []) (cs.getD n 0)).length ≤ 1000 := lackR_len (h _ (List.mem_of_getElem? (get_getD (by omega))))
    omega
theorem lackR_take {r : Nat} {row : List Deed} {c j x : Nat} (h : (List.range (row.length - c))[j]? = some x) : (lackR r row c).take (j + 1) = (lackR r row c).take j ++ [((r : Int), ((c + x : Nat) : Int) + 1, row.getD (c + x) default)] := by
  refine take_snoc ?_
  unfold lackR
  rw [List.getElem?_map, h]
  rfl
theorem w_lacking (F : Def K mg "lacking" s_lacking ["deeds", "counts"]) (T : Txt K mg C) : Cal P w K mg base 1 "lacking" (spLack C Tb) := by
  refine F.cal sc_lacking (sp_len fun _ => rfl) fun f cdv A outer s H vs Q E hr h => ?_
  obtain ⟨⟨rows, cs⟩, lo, r, hlo, ht, ⟨h1, h2, h3, h4⟩, kk⟩ := h
  have h1 : rows.length = 8 := h1
  have h2 : cs.length = 8 := h2
  have h3 : ∀ r, r ∈ rows → r.length ≤ 1000 := h3
  have h4 : ∀ c, c ∈ cs → c ≤ 1000 := h4
  refine ⟨_, (pss_cons (ps_set (i := 2) sc_lacking.nd rfl (Or.inl rfl) (pe_lst pa_nil))
      (pss_cons (ps_for PassesOwn.never rfl (pi_range1 (by rfl) T.m_range (pa_cons (pe_gc (by rfl) T.rep) pa_nil)) (pg_name (i := 3) sc_lacking.nd rfl (Or.inl rfl)) (pss_one (ps_for PassesOwn.never rfl (pi_range2 (by rfl) T.m_range (pa_cons (pe_ix (ixL (K := K)) (pv 1) (pv 3) (fun _ _ => rfl)) (pa_cons (pe_callB (lenQ (K := K)) (by rfl) T.m_len PySem.boot_len (pa_cons (pe_ix (ixL (K := K)) (fldK (K := K) (pv 0) rfl) (pv 3) (fun _ _ => rfl)) pa_nil)) pa_nil))) (pg_name (i := 4) sc_lacking.nd rfl (Or.inl rfl)) (pss_one (ps_expr (bmK (K := K) PySem.F.plainAttrs_list PySem.F.slot_list_append PySem.F.type_list_append mt_append (pv 2) (pa_cons (pe_tup (pa_cons (pv 3) (pa_cons (pe_op op_add (pv 4) pe_int) (pa_cons (pe_ix (ixL (K := K)) (pe_ix (ixL (K := K)) (fldK (K := K) (pv 0) rfl) (pv 3) (fun _ _ => rfl)) (pv 4) (fun _ _ => rfl)) pa_nil)))) pa_nil)))))))
      (pss_one (ps_ret (pv 2))))), ?_⟩
  refine go_enter (n := 3) r hlo ht kk rfl ?_
  show Go C Tb _ [.dat (objD (eL rows)), .dat (.list (eC cs)), .un, .un, .un] _ _
  refine gs (ef_lst ea_nil) ?_
  refine gf (List.range 8) (fun (i : Nat) => .int (i : Int)) (fun i => [.dat (objD (eL rows)), .dat (.list (eC cs)), .own ((lackN rows cs i).map eT), .un, .un]) (fun _ => True) (ei_range1 (ea_cons ed_int ea_nil) (by walk_at "s")) (by walk_at "le") trivial (fun i x hx hp => ⟨_, _, tg_name, (by walk_at "no"), ?_⟩) ?_
  · -- body
    obtain ⟨hi, rfl⟩ := range_get hx
    have a1 : atI (eC cs) (x : Int) = some (.int ((cs.getD x 0 : Nat) : Int)) := at_map (get_getD (by omega))
    have a2 : atI (eL rows) (x : Int) = some (.list ((rows.getD x []).map eD)) := eL_at (by omega)
    have b1 : cs.getD x 0 ≤ 1000 := h4 _ (List.mem_of_getElem? (get_getD (by omega)))
    have b2 : (rows.getD x []).length ≤ 1000 := h3 _ (List.mem_of_getElem? (get_getD (by omega)))
    have b3 := lackN_len (cs := cs) h3 x (by omega)
    generalize hrow : rows.getD x [] = row at a2 b2
    generalize hcnt : cs.getD x 0 = c at a1 b1
    refine go_for (List.range (row.length - c)) (fun (j : Nat) => .int ((c : Int) + (j : Int))) (fun j => [.dat (objD (eL rows)), .dat (.list (eC cs)), .own ((lackN rows cs x ++ (lackR x row c).take j).map eT), .dat (.int (x : Int)), .un]) (fun _ => True)
      (ei_range2 (n := row.length - c) (ea_cons (es_ix ((ed_var (by rfl))).es (ed_var (by rfl)) (by walk_at "s")) (ea_cons (es_len ((es_ix ((ed_rows T.cl T.nR (ed_var (by rfl)))).es (ed_var (by rfl)) (by walk_at "s"))).es) ea_nil)) (by walk_at "s") (by walk_at "s") (by omega) (by rw [List.length_map]; omega) (by rw [List.length_map]; omega))
      (by rw [List.take_zero, List.append_nil]; walk_at "le") trivial (fun j y hy hq => ⟨_, _, tg_name, (by walk_at "no"), ?_⟩) (fun _ => ⟨?_, trivial⟩)
    · obtain ⟨hj, rfl⟩ := range_get hy
      have a3 : atI (row.map eD) ((c : Int) + (y : Int)) = some (eD (row.getD (c + y) default)) := by
        rw [← Int.natCast_add]
        exact at_map (get_getD (by omega))
      refine go_app (by rfl) (ed_tup (ea_cons (ed_var (by rfl)) (ea_cons (ed_i0 (ed_var (by rfl)) ed_int) (ea_cons (es_ix ((es_ix ((ed_rows T.cl T.nR (ed_var (by rfl)))).es (ed_var (by rfl)) (by walk_at "s"))).es (ed_var (by rfl)) (by walk_at "s")) ea_nil)))) ?_ ⟨?_, trivial⟩
      · rw [List.length_map, List.length_append, List.length_take]
        have := lackR_len (r := x) (c := c) b2
        omega
      · rw [lackR_take hy, ← List.append_assoc]
        rw [List.map_append (l₂ := [_])]
        walk_at "le"
    · rw [lackN_succ, hrow, hcnt, List.take_of_length_le (by unfold lackR; rw [List.length_map]; exact Nat.le_refl _)]
      walk_at "le"
  · intro _
    exact go_retv (by rfl) (by simp) rfl
end
end G

set_option maxRecDepth 100000
set_option maxHeartbeats 4000000
/-! walks, part 2: inserted, forces, changes -/
namespace M
open PySem G
open L2 (atI)
theorem valI_any (kvs : List (Int × PyData)) (n : Int) : (valI kvs n).isSome = kvs.any fun kv => decide (kv.1 = n) := by
  unfold valI
  rw [Option.isSome_map]
  induction kvs with
  | nil => rfl
  | cons a r ih =>
    rw [List.find?_cons, List.any_cons]
    cases decide (a.1 = n) with
    | true => rfl
    | false => rw [ih]; rfl
theorem valI_put (kvs : List (Int × PyData)) (p n : Int) (d : PyData) : (valI (putI kvs p d) n).isSome = ((valI kvs n).isSome || decide (p = n)) := by
  rw [valI_any, valI_any]
  unfold putI
  split
  · rename_i h
    have e : ((kvs.map fun kv => if kv.1 = p then (kv.1, d) else kv).any fun kv => decide (kv.1 = n)) = kvs.any fun kv => decide (kv.1 = n) := by
      rw [List.any_map]
      congr 1
      funext kv
      show decide ((if kv.1 = p then (kv.1, d) else kv).1 = n) = _
      split <;> rfl
    rw [e]
    by_cases hpn : p = n
    · rw [← hpn, h]; rfl
    · rw [decide_eq_false hpn, Bool.or_false]
  · rw [List.any_append, List.any_cons, List.any_nil, Bool.or_false]
theorem putI_len (kvs : List (Int × PyData)) (p : Int) (d : PyData) : (putI kvs p d).length ≤ kvs.length + 1 := by
  unfold putI
  split
  · rw [List.length_map]; omega
  · rw [List.length_append]; exact Nat.le_refl _
def tkD (row : List Deed) : Nat → List (Int × PyData)
  | 0 => []
  | k + 1 => if (row.length : Int) - (k : Int) ∈ tk row k then tkD row k else
      match row.getD (row.length - 1 - k) default with
      | .bck p => putI (tkD row k) p (.bool true)
      | .chg .. => tkD row k
theorem tkD_len (row : List Deed) : ∀ k, (tkD row k).length ≤ k
  | 0 => Nat.le_refl 0
  | k + 1 => by
    have ih := tkD_len row k
    unfold tkD
    split
    · omega
    · split
      · exact Nat.le_trans (putI_len _ _ _) (by omega)
      · omega
theorem tkD_val (row : List Deed) (n : Int) : ∀ k, (valI (tkD row k) n).isSome = decide (n ∈ tk row k)
  | 0 => rfl
  | k + 1 => by
    have ih := tkD_val row n k
    have e : tk row (k + 1) = tkStep row k (tk row k) := rfl
    rw [e]
    unfold tkD tkStep
    by_cases hb : (row.length : Int) - (k : Int) ∈ tk row k
    · rw [if_pos hb, if_pos hb]; exact ih
    · rw [if_neg hb, if_neg hb]
      cases hd : row.getD (row.length - 1 - k) default with
      | bck p =>
        show (valI (putI (tkD row k) p (.bool true)) n).isSome = decide (n ∈ tk row k ++ [p])
        rw [valI_put, ih]
        by_cases h1 : n ∈ tk row k
        · rw [decide_eq_true h1, decide_eq_true (List.mem_append_left _ h1)]; rfl
        · by_cases h2 : p = n
          · rw [decide_eq_true h2, decide_eq_true (show n ∈ tk row k ++ [p] by simp [h2]), Bool.or_true]
          · rw [decide_eq_false h1, decide_eq_false h2, decide_eq_false (show ¬ n ∈ tk row k ++ [p] by
              intro q
              rcases List.mem_append.mp q with q | q
              · exact h1 q
              · exact h2 (List.mem_singleton.mp q).symm)]; rfl
      | chg m rm bh n' t => exact ih
theorem eqv_int (p n : Int) : PyData.eqv (.int p) (.int n) = decide (p = n) := rfl
theorem eqv_bck (d : Deed) (n : Int) : PyData.eqv (eD d) (.tuple [.str "back", .int n]) = decide (d = .bck n) := by
  cases d with
  | chg m rm bh n' t => rfl
  | bck p =>
    have e : PyData.eqv (eD (.bck p)) (.tuple [.str "back", .int n]) = (decide ((("back" : Str) : Str) = "back") && (PyData.eqv (.int p) (.int n) && true)) := rfl
    rw [e, decide_eq_true rfl, Bool.true_and, Bool.and_true, eqv_int]
    by_cases h : p = n
    · rw [h]; simp
    · rw [decide_eq_false h, decide_eq_false fun q => h (Deed.bck.inj q)]
end M
namespace G
open PySem L2 M
local macro_rules | `(tactic| walk_at "s") => `(tactic| first | rfl | assumption | decide | omega | exact Or.inr ⟨by omega, by omega⟩ | exact Or.inl ⟨by omega, by omega⟩ | exact ⟨by omega, by omega⟩)
local macro_rules | `(tactic| walk_at "le") => `(tactic| (repeat (first | exact Le.nil | refine Le.eq ?_ | refine Le.un ?_)))
local macro_rules | `(tactic| walk_at "no") => `(tactic| (repeat (first | exact no_nil | refine no_cons rfl ?_)))
abbrev s_inserted : Stmt := topS 4
abbrev N_inserted : List Str := ["replica", "deed", "result", "behind", "index", "character", "mark"]
theorem sc_inserted : FnScope N_inserted ["replica", "deed"] (defScope s_inserted) := ⟨rfl, rfl, rfl, by decide +kernel, rfl, by decide +kernel, by decide +kernel⟩
abbrev s_Deeds_forces : Stmt := inClass (topS 6) 4
abbrev N_Deeds_forces : List Str := ["self", "replica", "row", "taken", "result", "place", "in_force"]
theorem sc_Deeds_forces : FnScope N_Deeds_forces ["self", "replica"] (defScope s_Deeds_forces) := ⟨rfl, rfl, rfl, by decide +kernel, rfl, by decide +kernel, by decide +kernel⟩
abbrev s_Deeds_changes : Stmt := inClass (topS 6) 6
abbrev N_Deeds_changes : List Str := ["self", "module", "result", "replica", "deed", "in_force"]
theorem sc_Deeds_changes : FnScope N_Deeds_changes ["self", "module"] (defScope s_Deeds_changes) := ⟨rfl, rfl, rfl, by decide +kernel, rfl, by decide +kernel, by decide +kernel⟩
abbrev s__law_inserted : Stmt := topS 18
abbrev N__law_inserted : List Str := ["_law_replica", "_law_deed_here", "_law_found", "_law_behind", "_law_k"]
theorem sc__law_inserted : FnScope N__law_inserted ["_law_replica", "_law_deed_here"] (defScope s__law_inserted) := ⟨rfl, rfl, rfl, by decide +kernel, rfl, by decide +kernel, by decide +kernel⟩
abbrev s__law_forces : Stmt := topS 19
abbrev N__law_forces : List Str := ["_law_row_here", "_law_forces_here", "_law_k", "_law_place", "_law_takers", "_law_j"]
theorem sc__law_forces : FnScope N__law_forces ["_law_row_here"] (defScope s__law_forces) := ⟨rfl, rfl, rfl, by decide +kernel, rfl, by decide +kernel, by decide +kernel⟩
abbrev s__law_changes : Stmt := topS 20
abbrev N__law_changes : List Str := ["_law_rows", "_law_module", "_law_found", "_law_replica", "_law_forces_here", "_law_k"]
theorem sc__law_changes : FnScope N__law_changes ["_law_rows", "_law_module"] (defScope s__law_changes) := ⟨rfl, rfl, rfl, by decide +kernel, rfl, by decide +kernel, by decide +kernel⟩
section
variable {P : Program} {w : World} {K : PySem.W.Frag} {mg : Str → Option Value} {base : Heap} {C : Addr} {Tb : Tab}
def spIns (C : Addr) (Tb : Tab) : Sp := spF C Tb (fun x : Int × Deed => [.int x.1, eD x.2]) (fun x => isC x.2 = true ∧ (txt x.2).length ≤ 1000) (fun x => .own ((ins x.1 x.2).map eI))
theorem w_inserted (F : Def K mg "inserted" s_inserted ["replica", "deed"]) (T : Txt K mg C) : Cal P w K mg base 1 "inserted" (spIns C Tb) := by
  refine F.cal sc_inserted (sp_len fun _ => rfl) fun f cdv A outer s H vs Q E hr h => ?_
  obtain ⟨⟨r, d⟩, lo, rr, hlo, ht, ⟨hc, hl⟩, kk⟩ := h
  cases d with
  | bck p => cases hc
  | chg m rm bh n t =>
  have hl' : t.length ≤ 1000 := hl
  refine ⟨_, (pss_cons (ps_set (i := 2) sc_inserted.nd rfl (Or.inl rfl) (pe_lst pa_nil))
      (pss_cons (ps_set (i := 3) sc_inserted.nd rfl (Or.inl rfl) (pe_ix (ixT (K := K)) (pv 1) pe_int (fun _ _ => rfl)))
      (pss_cons (ps_for PassesOwn.never rfl (pi_enumS (by rfl) T.m_enumerate (pa_cons (pe_ix (ixT (K := K)) (pv 1) pe_int (fun _ _ => rfl)) pa_nil)) (tupK (K := K) (n := 2) rfl (pgs_cons (pg_name (i := 4) sc_inserted.nd rfl (Or.inl rfl)) (pgs_cons (pg_name (i := 5) sc_inserted.nd rfl (Or.inl rfl)) pgs_nil))) (pss_cons (ps_set (i := 6) sc_inserted.nd rfl (Or.inl rfl) (pe_tup (pa_cons (pe_op op_add (pe_ix (ixT (K := K)) (pv 1) pe_int (fun _ _ => rfl)) (pv 4)) (pa_cons (pv 0) pa_nil))))
      (pss_cons (ps_expr (bmK (K := K) PySem.F.plainAttrs_list PySem.F.slot_list_append PySem.F.type_list_append mt_append (pv 2) (pa_cons (pe_tup (pa_cons (pv 6) (pa_cons (pv 3) (pa_cons (pv 5) pa_nil)))) pa_nil)))
      (pss_one (ps_set (i := 3) sc_inserted.nd rfl (Or.inl rfl) (pv 6))))))
      (pss_one (ps_ret (pv 2)))))), ?_⟩
  refine go_enter (n := 5) rr hlo ht kk rfl ?_
  show Go C Tb _ [.dat (.int r), .dat (.tuple [.str "change", .str m, .tuple (rm.map eM), eO bh, .int n, .str t]), .un, .un, .un, .un, .un] _ _
  refine gs (ef_lst ea_nil) ?_
  refine gsd (ed_ixT (ed_var (by rfl)) ed_int (by walk_at "s")) ?_
  refine gfr t.length (fun (i : Nat) => .tuple [.int (i : Int), .str ((sgn t).getD i Str.empty)]) (fun i => [.dat (.int r), .dat (.tuple [.str "change", .str m, .tuple (rm.map eM), eO bh, .int n, .str t]), .own (((List.range i).map (insAt r n bh t)).map eI), .dat (eO (bhAt r n bh i)), .un, .un, .un]) 
    (ei_enumS (ea_cons (ed_ixT (ed_var (by rfl)) ed_int (by walk_at "s")) ea_nil)) (by walk_at "le") (fun i hi => ⟨_, _, (tg_tup (tgs_cons (tgs_cons tgs_nil))), (by walk_at "no"), ?_⟩) ?_
  · skip
    refine gsd (ed_tup (ea_cons (ed_i0 (ed_ixT (ed_var (by rfl)) ed_int (by walk_at "s")) (ed_var (by rfl))) (ea_cons (ed_var (by rfl)) ea_nil))) ?_
    refine ga (by rfl) (ed_tup (ea_cons (ed_var (by rfl)) (ea_cons (ed_var (by rfl)) (ea_cons (ed_var (by rfl)) ea_nil)))) (by rw [List.length_map, List.length_map, List.length_range]; omega) ?_
    refine go_setd (ed_var (by rfl)) ?_
    rw [map_succ, List.map_append, eO_succ]
    walk_at "le"
  · exact go_retv (by rfl) (by simp) rfl
theorem w_law_inserted (F : Def K mg "_law_inserted" s__law_inserted ["_law_replica", "_law_deed_here"]) (T : Txt K mg C) : Cal P w K mg base 1 "_law_inserted" (spIns C Tb) := by
  refine F.cal sc__law_inserted (sp_len fun _ => rfl) fun f cdv A outer s H vs Q E hr h => ?_
  obtain ⟨⟨r, d⟩, lo, rr, hlo, ht, ⟨hc, hl⟩, kk⟩ := h
  cases d with
  | bck p => cases hc
  | chg m rm bh n t =>
  have hl' : t.length ≤ 1000 := hl
  have hl2 : t.length ≤ sizeLine := sz1000 hl
  refine ⟨_, (pss_cons (ps_set (i := 2) sc__law_inserted.nd rfl (Or.inl rfl) (pe_lst pa_nil))
      (pss_cons (ps_set (i := 3) sc__law_inserted.nd rfl (Or.inl rfl) (pe_ix (ixT (K := K)) (pv 1) pe_int (fun _ _ => rfl)))
      (pss_cons (ps_for PassesOwn.never rfl (pi_range1 (by rfl) T.m_range (pa_cons (pe_callB call_len_str (by rfl) T.m_len PySem.boot_len (pa_cons (pe_ix (ixT (K := K)) (pv 1) pe_int (fun _ _ => rfl)) pa_nil)) pa_nil)) (pg_name (i := 4) sc__law_inserted.nd rfl (Or.inl rfl)) (pss_cons (ps_expr (bmK (K := K) PySem.F.plainAttrs_list PySem.F.slot_list_append PySem.F.type_list_append mt_append (pv 2) (pa_cons (pe_tup (pa_cons (pe_tup (pa_cons (pe_op op_add (pe_ix (ixT (K := K)) (pv 1) pe_int (fun _ _ => rfl)) (pv 4)) (pa_cons (pv 0) pa_nil))) (pa_cons (pv 3) (pa_cons (pe_ix ix_str (pe_ix (ixT (K := K)) (pv 1) pe_int (fun _ _ => rfl)) (pv 4) (fun _ _ => rfl)) pa_nil)))) pa_nil)))
      (pss_one (ps_set (i := 3) sc__law_inserted.nd rfl (Or.inl rfl) (pe_tup (pa_cons (pe_op op_add (pe_ix (ixT (K := K)) (pv 1) pe_int (fun _ _ => rfl)) (pv 4)) (pa_cons (pv 0) pa_nil)))))))
      (pss_one (ps_ret (pv 2)))))), ?_⟩
  refine go_enter (n := 3) rr hlo ht kk rfl ?_
  show Go C Tb _ [.dat (.int r), .dat (.tuple [.str "change", .str m, .tuple (rm.map eM), eO bh, .int n, .str t]), .un, .un, .un] _ _
  refine gs (ef_lst ea_nil) ?_
  refine gsd (ed_ixT (ed_var (by rfl)) ed_int (by walk_at "s")) ?_
  refine gfr t.length (fun (i : Nat) => .int (i : Int)) (fun i => [.dat (.int r), .dat (.tuple [.str "change", .str m, .tuple (rm.map eM), eO bh, .int n, .str t]), .own (((List.range i).map (insAt r n bh t)).map eI), .dat (eO (bhAt r n bh i)), .un]) 
    (ei_range1 (ea_cons (ed_lenS (ed_ixT (ed_var (by rfl)) ed_int (by walk_at "s")) (by walk_at "s")) ea_nil) (by omega)) (by walk_at "le") (fun i hi => ⟨_, _, tg_name, (by walk_at "no"), ?_⟩) ?_
  · skip
    obtain ⟨c, ec, hc2⟩ := sgn_at hi
    refine ga (by rfl) (ed_tup (ea_cons (ed_tup (ea_cons (ed_i0 (ed_ixT (ed_var (by rfl)) ed_int (by walk_at "s")) (ed_var (by rfl))) (ea_cons (ed_var (by rfl)) ea_nil))) (ea_cons (ed_var (by rfl)) (ea_cons (ed_ixS (ed_ixT (ed_var (by rfl)) ed_int (by walk_at "s")) (ed_var (by rfl)) hl2 hc2) ea_nil)))) (by rw [List.length_map, List.length_map, List.length_range]; omega) ?_
    refine go_setd (ed_tup (ea_cons (ed_i0 (ed_ixT (ed_var (by rfl)) ed_int (by walk_at "s")) (ed_var (by rfl))) (ea_cons (ed_var (by rfl)) ea_nil))) ?_
    rw [map_succ, List.map_append, eO_succ, ← ec]
    walk_at "le"
  · exact go_retv (by rfl) (by simp) rfl
/-- forces -/
theorem nbc : decide (("change" : Str) = "back") = false := by decide
theorem nbb : decide (("back" : Str) = "back") = true := by decide
theorem ncc : decide (("change" : Str) = "change") = true := by decide
theorem nbc' : decide (("back" : Str) = "change") = false := by decide
def spForces (C : Addr) (Tb : Tab) : Sp := spF C Tb (fun x : Rws × Nat => [objD (eL x.1), .int (x.2 : Int)]) (fun x => x.2 < x.1.length ∧ (x.1.getD x.2 []).length ≤ 1000) (fun x => .own ((frc (x.1.getD x.2 [])).map .bool))
theorem w_forces (F : MDef K C "forces" "Deeds.forces" s_Deeds_forces ["self", "replica"]) (T : Txt K mg C) : Met P w K mg base 1 C "forces" (spForces C Tb) := by
  refine F.met T.cl sc_Deeds_forces (sp_len fun _ => rfl) fun f cdv A outer s H vs Q E hr h => ?_
  obtain ⟨⟨rows, r⟩, lo, rr, hlo, ht, ⟨hc, hl⟩, kk⟩ := h

  have hc : r < rows.length := hc
  have hl : (rows.getD r []).length ≤ 1000 := hl
  have a2 : atI (eL rows) (r : Int) = some (.list ((rows.getD r []).map eD)) := eL_at hc
  refine ⟨_, (pss_cons (ps_set (i := 2) sc_Deeds_forces.nd rfl (Or.inl rfl) (pe_ix (ixL (K := K)) (fldK (K := K) (pv 0) rfl) (pv 1) (fun _ _ => rfl)))
      (pss_cons (ps_set (i := 3) sc_Deeds_forces.nd rfl (Or.inl rfl) pe_dnewK)
      (pss_cons (ps_set (i := 4) sc_Deeds_forces.nd rfl (Or.inl rfl) (pe_lst pa_nil))
      (pss_cons (ps_for PassesOwn.never rfl (pi_range3 (by rfl) T.m_range (pa_cons (pe_callB (lenQ (K := K)) (by rfl) T.m_len PySem.boot_len (pa_cons (pv 2) pa_nil)) (pa_cons pe_int (pa_cons (pe_un un_neg pe_int) pa_nil)))) (pg_name (i := 5) sc_Deeds_forces.nd rfl (Or.inl rfl)) (pss_cons (ps_set (i := 6) sc_Deeds_forces.nd rfl (Or.inl rfl) (pe_cmp (pc_dnotin (hu1 hr) (pv 5) (pv 3)) rfl))
      (pss_cons (ps_if (PW.pt (pw_and (pt_val (pv 6)) (pw_and1 (pt_cmpR op_eq (pe_ix (ixT (K := K)) (pe_ix (ixL (K := K)) (pv 2) (pe_op op_sub (pv 5) pe_int) (fun _ _ => rfl)) pe_int (fun _ _ => rfl)) pe_str (nomark _))))) (pss_one (ps_dput (hu1 hr) (pv 3) (pe_ix (ixT (K := K)) (pe_ix (ixL (K := K)) (pv 2) (pe_op op_sub (pv 5) pe_int) (fun _ _ => rfl)) pe_int (fun _ _ => rfl)) pe_bl rfl)) pss_nil)
      (pss_one (ps_expr (bmK (K := K) PySem.F.plainAttrs_list PySem.F.slot_list_append PySem.F.type_list_append mt_append (pv 4) (pa_cons (pv 6) pa_nil)))))))
      (pss_one (ps_ret (revK (K := K) (pv 4)))))))), ?_⟩
  refine go_enter (n := 5) rr hlo ht kk rfl ?_
  show Go C Tb _ [.dat (objD (eL rows)), .dat (.int (r : Int)), .un, .un, .un, .un, .un] _ (fun s => s = .own ((frc (rows.getD r [])).map .bool))
  generalize rows.getD r [] = row at a2 hl
  refine gsd (es_ix ((ed_rows T.cl T.nR (ed_var (by rfl)))).es (ed_var (by rfl)) (by walk_at "s")) ?_
  refine gs ef_newI ?_
  refine gs (ef_lst ea_nil) ?_
  refine gfr row.length (fun (i : Nat) => .int ((row.length : Int) - (i : Int))) (fun i => [.dat (objD (eL rows)), .dat (.int (r : Int)), .dat (.list (row.map eD)), .dI (tkD row i), .own (((List.range i).map (fB row)).map .bool), .un, .un])
    (ei_range3 (n := row.length) (a := (row.length : Int)) (b := 0) (ea_cons ((es_len ((ed_var (by rfl))).es).is (by rw [List.length_map])) (ea_cons ed_int (ea_cons (ed_neg ed_int) ea_nil))) (by omega) (by omega) (by decide) (by decide) (by omega))
    (by walk_at "le") (fun i hi => ⟨_, _, tg_name, (by walk_at "no"), ?_⟩) ?_
  · have e1 : (row.length : Int) - (i : Int) - 1 = ((row.length - 1 - i : Nat) : Int) := by omega
    have a3 : atI (row.map eD) ((row.length : Int) - (i : Int) - 1) = some (eD (row.getD (row.length - 1 - i) default)) := by
      rw [e1]
      exact at_map (get_getD (by omega))
    have ef : (!(valI (tkD row i) ((row.length : Int) - (i : Int))).isSome) = fB row i := by rw [tkD_val]; rfl
    have hk : (tkD row i).length ≤ 1000000 := Nat.le_trans (tkD_len row i) (by omega)
    have hln : (((List.range i).map (fB row)).map PyData.bool).length ≤ 1000000 := by rw [List.length_map, List.length_map, List.length_range]; omega
    refine gsd ((ed_nidI (by rfl) (ed_var (by rfl))).is (by rw [ef])) ?_
    by_cases hf : fB row i = true
    · have hnm : ¬ (row.length : Int) - (i : Int) ∈ tk row i := fun q => by
        unfold fB at hf
        rw [decide_eq_true q] at hf
        cases hf
      cases hd : row.getD (row.length - 1 - i) default with
      | chg m rm bh n t =>
        rw [hd] at a3
        refine gi ((et_and (et_B (ed_var (by rfl))) (fun hb => (et_T (ed_eqS (ed_ixT (es_ix ((ed_var (by rfl))).es (ed_i0 (ed_var (by rfl)) ed_int) a3) ed_int (by rfl)) ed_str)))).is (by rw [nbc, Bool.and_false])) (fun hb => by cases hb) (fun hb => gn ?_)
        refine go_app (by rfl) (ed_var (by rfl)) hln ?_
        have e : tkD row (i + 1) = tkD row i := by
          rw [tkD, if_neg hnm, hd]
        rw [map_succ, List.map_append, e]
        walk_at "le"
      | bck p =>
        rw [hd] at a3
        refine gi ((et_and (et_B (ed_var (by rfl))) (fun hb => (et_T (ed_eqS (ed_ixT (es_ix ((ed_var (by rfl))).es (ed_i0 (ed_var (by rfl)) ed_int) a3) ed_int (by rfl)) ed_str)))).is (by rw [nbb, Bool.and_true, hf])) (fun hb => ?_) (fun hb => by cases hb)
        refine go_seq (go_dputI (N := fun Γ' => Γ' = [.dat (objD (eL rows)), .dat (.int (r : Int)), .dat (.list (row.map eD)), .dI (putI (tkD row i) p (.bool true)), .own (((List.range i).map (fB row)).map .bool), .dat (.int ((row.length : Int) - (i : Int))), .dat (.bool (fB row i))]) (by rfl) ed_bl (ed_ixT (es_ix ((ed_var (by rfl))).es (ed_i0 (ed_var (by rfl)) ed_int) a3) ed_int (by rfl)) hk rfl) fun Γ' e => ?_
        subst e
        refine go_app (by rfl) (ed_var (by rfl)) hln ?_
        have e : tkD row (i + 1) = putI (tkD row i) p (.bool true) := by
          rw [tkD, if_neg hnm, hd]
        rw [map_succ, List.map_append, e]
        walk_at "le"
    · have hf : fB row i = false := by cases h : fB row i with
        | true => exact absurd h hf
        | false => rfl
      have hnm : (row.length : Int) - (i : Int) ∈ tk row i := by
        apply Classical.byContradiction
        intro q
        unfold fB at hf
        rw [decide_eq_false q] at hf
        cases hf
      refine gi (b := false) ((et_and (b := false) (et_B (ed_var (by rfl))) (fun hb => absurd hb (by rw [hf]; simp))).is (by rw [hf]; rfl)) (fun hb => by cases hb) (fun hb => gn ?_)
      refine go_app (by rfl) (ed_var (by rfl)) hln ?_
      have e : tkD row (i + 1) = tkD row i := by
        rw [tkD, if_pos hnm]
      rw [map_succ, List.map_append, e]
      walk_at "le"
  · have e : (((List.range row.length).map (fB row)).map PyData.bool).reverse = (frc row).map .bool := by
      unfold frc
      rw [List.map_reverse]
    exact go_ret ((es_rev (es_own (by rfl))).is (by rw [e])) rfl
end
end G

set_option maxRecDepth 100000
set_option maxHeartbeats 4000000
/-! walks, part 3: changes, the law's forces and changes -/
namespace M
open PySem G
open L2 (atI)
theorem frc_eq (row : List Deed) : frc row = (List.range row.length).map fun k => fB row (row.length - 1 - k) := by
  unfold frc
  refine List.ext_getElem (by simp) fun i h1 h2 => ?_
  rw [List.getElem_reverse, List.getElem_map, List.getElem_map, List.getElem_range, List.getElem_range, List.length_map, List.length_range]
theorem zip_enc {α β : Type} {n : Nat} {xs : List α} {ys : List β} {f : α → PyData} {g : β → PyData} (dx : α) (dy : β) (h1 : n ≤ xs.length) (h2 : n ≤ ys.length) :
    ((List.range n).map fun i => PyData.tuple [(xs.map f).getD i .none, (ys.map g).getD i .none]) = (List.range n).map fun i => PyData.tuple [f (xs.getD i dx), g (ys.getD i dy)] := by
  refine List.map_congr_left fun i hi => ?_
  have hi := List.mem_range.mp hi
  have e1 : (xs.map f).getD i .none = f (xs.getD i dx) := by
    rw [List.getD_eq_getElem?_getD, List.getElem?_map, get_getD (d := dx) (show i < xs.length by omega)]
    rfl
  have e2 : (ys.map g).getD i .none = g (ys.getD i dy) := by
    rw [List.getD_eq_getElem?_getD, List.getElem?_map, get_getD (d := dy) (show i < ys.length by omega)]
    rfl
  rw [e1, e2]
theorem takers (row : List Deed) (i : Nat) (f : Nat → PyData) : decide (((((List.range i).filter fun j => fB row j && decide (row.getD (row.length - 1 - j) default = .bck ((row.length : Int) - (i : Int)))).map f).length : Int) = 0) = fB row i := by
  have h := tk_mem row ((row.length : Int) - (i : Int)) i
  unfold fB at h ⊢
  by_cases hb : (row.length : Int) - (i : Int) ∈ tk row i
  · obtain ⟨j, h1, h2, h3⟩ := h.mp hb
    rw [decide_eq_true hb]
    refine decide_eq_false fun q => ?_
    have q : (((List.range i).filter fun j => !decide ((row.length : Int) - (j : Int) ∈ tk row j) && decide (row.getD (row.length - 1 - j) default = .bck ((row.length : Int) - (i : Int)))).map f).length = 0 := by omega
    rw [List.length_map, List.length_eq_zero_iff, List.filter_eq_nil_iff] at q
    refine q j (List.mem_range.mpr h1) ?_
    rw [h2, Bool.true_and, decide_eq_true h3]
  · rw [decide_eq_false hb]
    refine decide_eq_true ?_
    have q : (((List.range i).filter fun j => !decide ((row.length : Int) - (j : Int) ∈ tk row j) && decide (row.getD (row.length - 1 - j) default = .bck ((row.length : Int) - (i : Int)))).map f).length = 0 := by
      rw [List.length_map, List.length_eq_zero_iff, List.filter_eq_nil_iff]
      intro j hj q
      rw [Bool.and_eq_true] at q
      exact hb (h.mpr ⟨j, List.mem_range.mp hj, q.1, of_decide_eq_true q.2⟩)
    omega
theorem chgR_take_yes {r : Nat} {row : List Deed} {m : Str} {i : Nat} {d : Deed} (hd : row.getD i default = d) (h : isM m d = true) : (List.range (i + 1)).filterMap (chgAt r row m) = (List.range i).filterMap (chgAt r row m) ++ [((r : Int), d, (frc row).getD i false)] := by
  rw [fm_succ]
  unfold chgAt
  rw [hd, if_pos h]
  rfl
theorem chgR_take_no {r : Nat} {row : List Deed} {m : Str} {i : Nat} {d : Deed} (hd : row.getD i default = d) (h : ¬ isM m d = true) : (List.range (i + 1)).filterMap (chgAt r row m) = (List.range i).filterMap (chgAt r row m) := by
  rw [fm_succ]
  unfold chgAt
  rw [hd, if_neg h]
  exact List.append_nil _
/-! what is plain, flat, well shaped -/
theorem pln_eM (k : M.Mk) : pln (eM k) = true := rfl
theorem plnA_eM (l : List M.Mk) : plnA (l.map eM) = true := by
  induction l with
  | nil => rfl
  | cons a r ih => exact ih
theorem pln_eO (b : Option M.Mk) : pln (eO b) = true := by cases b <;> rfl
theorem pln_eD (d : Deed) : pln (eD d) = true := by
  cases d with
  | bck p => rfl
  | chg m rm bh n t =>
    show (pln (.tuple (rm.map eM)) && (pln (eO bh) && true)) = true
    have h1 : pln (.tuple (rm.map eM)) = true := plnA_eM rm
    rw [h1, pln_eO]
    rfl
theorem plnA_all : ∀ l : List PyData, (∀ d, d ∈ l → pln d = true) → plnA l = true
  | [], _ => rfl
  | a :: r, h => by
    have h1 := h a List.mem_cons_self
    have h2 := plnA_all r fun d hd => h d (List.mem_cons_of_mem _ hd)
    unfold plnA
    rw [h1, h2]
    rfl
theorem plnA_map {α : Type} (f : α → PyData) (l : List α) (h : ∀ x, x ∈ l → pln (f x) = true) : plnA (l.map f) = true := plnA_all _ fun d hd => by
  obtain ⟨x, hx, rfl⟩ := List.mem_map.mp hd
  exact h x hx
def lay (n : Nat) (d : PyData) : Prop := d.canLay0 = true ∧ d.depth ≤ n
theorem lay_all {n : Nat} : ∀ {l : List PyData}, (∀ d, d ∈ l → lay n d) → PyData.canLayAll0 l = true ∧ PyData.depthAll l ≤ n
  | [], _ => ⟨rfl, Nat.zero_le _⟩
  | a :: r, h => by
    obtain ⟨h1, h2⟩ := h a List.mem_cons_self
    obtain ⟨h3, h4⟩ := lay_all (l := r) fun d hd => h d (List.mem_cons_of_mem _ hd)
    refine ⟨by unfold PyData.canLayAll0; rw [h1, h3]; rfl, ?_⟩
    unfold PyData.depthAll
    omega
theorem lay_tup {n : Nat} {l : List PyData} (h : ∀ d, d ∈ l → lay n d) : lay (n + 1) (.tuple l) := by
  obtain ⟨h1, h2⟩ := lay_all h
  refine ⟨by unfold PyData.canLay0; exact h1, ?_⟩
  unfold PyData.depth
  omega
theorem lay_lst {n : Nat} {l : List PyData} (h : ∀ d, d ∈ l → lay n d) : lay (n + 1) (.list l) := by
  obtain ⟨h1, h2⟩ := lay_all h
  refine ⟨by unfold PyData.canLay0; exact h1, ?_⟩
  unfold PyData.depth
  omega
theorem lay_map {α : Type} {n : Nat} {f : α → PyData} {l : List α} (h : ∀ x, x ∈ l → lay n (f x)) : ∀ d, d ∈ l.map f → lay n d := fun d hd => by
  obtain ⟨x, hx, rfl⟩ := List.mem_map.mp hd
  exact h x hx
theorem lay_int {n : Nat} {i : Int} : lay n (.int i) := ⟨by unfold PyData.canLay0; rfl, by unfold PyData.depth; omega⟩
theorem lay_bl {n : Nat} {i : Bool} : lay n (.bool i) := ⟨by unfold PyData.canLay0; rfl, by unfold PyData.depth; omega⟩
theorem lay_non {n : Nat} : lay n .none := ⟨by unfold PyData.canLay0; rfl, by unfold PyData.depth; omega⟩
theorem lay_str {n : Nat} {x : Str} (h : PyData.strOk x = true) : lay n (.str x) := ⟨by unfold PyData.canLay0; exact h, by unfold PyData.depth; omega⟩
theorem lay_nil {n : Nat} : ∀ d, d ∈ ([] : List PyData) → lay n d := fun d h => by cases h
theorem lay_cons {n : Nat} {a : PyData} {l : List PyData} (h : lay n a) (t : ∀ d, d ∈ l → lay n d) : ∀ d, d ∈ a :: l → lay n d := fun d hd => by
  rcases List.mem_cons.mp hd with q | q
  · rw [q]; exact h
  · exact t d q
theorem lay.shaped {n : Nat} {d : PyData} (h : lay n d) (hn : n ≤ 64) : SeqAt.shaped d = true := by
  unfold SeqAt.shaped
  rw [h.1, Bool.true_and]
  exact decide_eq_true (Nat.le_trans h.2 hn)
theorem lay.up {n m : Nat} {d : PyData} (h : lay n d) (hn : n ≤ m) : lay m d := ⟨h.1, Nat.le_trans h.2 hn⟩
theorem lay_eM {n : Nat} (k : M.Mk) : lay (n + 1) (eM k) := lay_tup (lay_cons lay_int (lay_cons lay_int lay_nil))
theorem lay_eO {n : Nat} (b : Option M.Mk) : lay (n + 1) (eO b) := by
  cases b with
  | none => exact lay_non
  | some k => exact lay_eM k
def dS : Deed → Prop
  | .chg m _ _ _ t => PyData.strOk m = true ∧ PyData.strOk t = true
  | .bck _ => True
theorem ok_change : PyData.strOk "change" = true := by decide +kernel
theorem ok_back : PyData.strOk "back" = true := by decide +kernel
theorem lay_eD {d : Deed} (h : dS d) : lay 3 (eD d) := by
  cases d with
  | bck p => exact lay_tup (lay_cons (lay_str ok_back) (lay_cons lay_int lay_nil))
  | chg m rm bh n t => exact lay_tup (lay_cons (lay_str ok_change) (lay_cons (lay_str h.1) (lay_cons (lay_tup (lay_map fun k _ => lay_eM k)) (lay_cons (lay_eO bh) (lay_cons lay_int (lay_cons (lay_str h.2) lay_nil))))))
end M
namespace G
open PySem L2 M
local macro_rules | `(tactic| walk_at "s") => `(tactic| first | rfl | assumption | decide | omega | exact Or.inr ⟨by omega, by omega⟩ | exact Or.inl ⟨by omega, by omega⟩ | exact ⟨by omega, by omega⟩)
local macro_rules | `(tactic| walk_at "le") => `(tactic| (repeat (first | exact Le.nil | refine Le.eq ?_ | refine Le.un ?_)))
local macro_rules | `(tactic| walk_at "no") => `(tactic| (repeat (first | exact no_nil | refine no_cons rfl ?_)))
section
variable {P : Program} {w : World} {K : PySem.W.Frag} {mg : Str → Option Value} {base : Heap} {C : Addr} {Tb : Tab}
theorem Ei.is {wi : TI} {Γ : List Sl} {ds ds' : List PyData} (h : Ei C Tb wi Γ ds) (e : ds = ds') : Ei C Tb wi Γ ds' := e ▸ h
def R100 (rows : Rws) : Prop := rows.length = 8 ∧ ∀ r, r ∈ rows → r.length ≤ 100
theorem R100.at {rows : Rws} (h : R100 rows) {r : Nat} (hr : r < 8) : (rows.getD r []).length ≤ 100 := h.2 _ (getD_mem (by rw [h.1]; exact hr))
def spChanges (C : Addr) (Tb : Tab) : Sp := spF C Tb (fun x : Rws × Str => [objD (eL x.1), .str x.2]) (fun x => R100 x.1) (fun x => .own ((chgs x.1 x.2).map eG))
theorem w_changes (F : MDef K C "changes" "Deeds.changes" s_Deeds_changes ["self", "module"]) (T : Txt K mg C) (c_forces : Met P w K mg base 1 C "forces" (spForces C Tb)) : Met P w K mg base 2 C "changes" (spChanges C Tb) := by
  refine F.met T.cl sc_Deeds_changes (sp_len fun _ => rfl) fun f cdv A outer s H vs Q E hr h => ?_
  obtain ⟨⟨rows, m⟩, lo, rr, hlo, ht, hR, kk⟩ := h
  have hR : R100 rows := hR
  have h1 := hR.1
  refine ⟨_, (pss_cons (ps_set (i := 2) sc_Deeds_changes.nd rfl (Or.inl rfl) (pe_lst pa_nil))
      (pss_cons (ps_for PassesOwn.never rfl (pi_range1 (by rfl) T.m_range (pa_cons (pe_gc (by rfl) T.rep) pa_nil)) (pg_name (i := 3) sc_Deeds_changes.nd rfl (Or.inl rfl)) (pss_one (ps_for PassesOwn.never rfl (pi_zip (by rfl) T.m_zip (pa_cons (pe_ix (ixL (K := K)) (fldK (K := K) (pv 0) rfl) (pv 3) (fun _ _ => rfl)) (pa_cons (pe_mt c_forces (hr.mono (by omega)) (pv 0) (pa_cons (pv 3) pa_nil)) pa_nil))) (tupK (K := K) (n := 2) rfl (pgs_cons (pg_name (i := 4) sc_Deeds_changes.nd rfl (Or.inl rfl)) (pgs_cons (pg_name (i := 5) sc_Deeds_changes.nd rfl (Or.inl rfl)) pgs_nil))) (pss_one (ps_if (PW.pt (pw_and (pt_cmpR op_eq (pe_ix (ixT (K := K)) (pv 4) pe_int (fun _ _ => rfl)) pe_str (nomark _)) (pw_and1 (pt_cmpR op_eq (pe_ix (ixT (K := K)) (pv 4) pe_int (fun _ _ => rfl)) (pv 1) (nomark _))))) (pss_one (ps_expr (bmK (K := K) PySem.F.plainAttrs_list PySem.F.slot_list_append PySem.F.type_list_append mt_append (pv 2) (pa_cons (pe_tup (pa_cons (pv 3) (pa_cons (pv 4) (pa_cons (pv 5) pa_nil)))) pa_nil)))) pss_nil)))))
      (pss_one (ps_ret (pv 2))))), ?_⟩
  refine go_enter (n := 4) rr hlo ht kk rfl ?_
  show Go C Tb _ [.dat (objD (eL rows)), .dat (.str m), .un, .un, .un, .un] _ (fun s => s = .own ((chgs rows m).map eG))
  refine gs (ef_lst ea_nil) ?_
  refine gfr 8 (fun i => .int (i : Int)) (fun r => [.dat (objD (eL rows)), .dat (.str m), .own ((chgN rows m r).map eG), .un, .un, .un]) (ei_range1 (ea_cons ed_int ea_nil) (by walk_at "s")) (by walk_at "le") (fun r hr8 => ⟨_, _, tg_name, (by walk_at "no"), ?_⟩) ?_
  · have a2 : atI (eL rows) (r : Int) = some (.list ((rows.getD r []).map eD)) := eL_at (by omega)
    have b2 := hR.at hr8
    have b3 := chgN_len (m := m) (c := 100) (n := r) fun j hj => hR.at (show j < 8 by omega)
    have hs := chgN_succ rows m r
    have hpre : r < rows.length ∧ (rows.getD r []).length ≤ 1000 := ⟨by omega, by omega⟩
    obtain ⟨row, hrow⟩ : ∃ row, rows.getD r [] = row := ⟨_, rfl⟩
    rw [hrow] at a2 b2 hs
    refine gor row.length (fun i => .tuple [eD (row.getD i default), .bool ((frc row).getD i false)]) (fun i => [.dat (objD (eL rows)), .dat (.str m), .own ((chgN rows m r ++ (List.range i).filterMap (chgAt r row m)).map eG), .dat (.int (r : Int)), .un, .un])
      ((ei_zip (ea_cons (es_ix ((ed_rows T.cl T.nR (ed_var (by rfl)))).es (ed_var (by rfl)) (by walk_at "s")) (ea_cons ((ef_meth (rows, r) (ed_var (by rfl)) (ea_cons (ed_var (by rfl)) ea_nil) rfl hpre).is (show _ = Sl.own ((frc row).map .bool) by rw [← hrow])).list ea_nil)) (by rw [List.length_map, List.length_map, frc_length]) (by rw [List.length_map])).is (zip_enc default false (Nat.le_refl _) (by rw [frc_length]; exact Nat.le_refl _)))
      (by rw [List.range_zero, List.filterMap_nil, List.append_nil]; walk_at "le") (fun i hi => ⟨_, _, (tg_tup (tgs_cons (tgs_cons tgs_nil))), (by walk_at "no"), ?_⟩) ?_
    · have hlen : ((chgN rows m r ++ (List.range i).filterMap (chgAt r row m)).map eG).length ≤ 1000000 := by
        rw [List.length_map, List.length_append]
        have := fm_len (chgAt r row m) i
        omega
      cases hd : row.getD i default with
      | bck p =>
        refine go_if ((et_and (b := false) (et_T (ed_eqS (ed_ixT (ed_var (by rfl)) ed_int (by walk_at "s")) ed_str)) (fun hb => absurd hb (by rw [nbc']; simp))).is (by rw [nbc', Bool.false_and])) (fun hb => by cases hb) (fun hb => ?_)
        refine go_next ?_
        rw [chgR_take_no hd (fun q => by cases q)]
        walk_at "le"
      | chg m' rm bh n t =>
        refine go_if ((et_and (et_T (ed_eqS (ed_ixT (ed_var (by rfl)) ed_int (by walk_at "s")) ed_str)) (fun hb => (et_T (ed_eqS (ed_ixT (ed_var (by rfl)) ed_int (by walk_at "s")) (ed_var (by rfl)))))).is (by rw [ncc, Bool.true_and])) (fun hb => ?_) (fun hb => ?_)
        · refine go_app (by rfl) (ed_tup (ea_cons (ed_var (by rfl)) (ea_cons (ed_var (by rfl)) (ea_cons (ed_var (by rfl)) ea_nil)))) hlen ?_
          rw [chgR_take_yes hd hb, ← List.append_assoc, List.map_append (l₂ := [_])]
          walk_at "le"
        · refine go_next ?_
          rw [chgR_take_no hd (fun q => by have q : decide (m' = m) = true := q; rw [hb] at q; cases q)]
          walk_at "le"
    · show Le _ _
      rw [hs]
      walk_at "le"
  · exact go_retv (by rfl) (by simp) rfl
def spForcesL (C : Addr) (Tb : Tab) : Sp := spF C Tb (fun x : List Deed => [.list (x.map eD)]) (fun x => x.length ≤ 1000 ∧ ∀ d, d ∈ x → dS d) (fun x => .own ((frc x).map .bool))
theorem w_law_forces (F : Def K mg "_law_forces" s__law_forces ["_law_row_here"]) (T : Txt K mg C) : Cal P w K mg base 1 "_law_forces" (spForcesL C Tb) := by
  refine F.cal sc__law_forces (sp_len fun _ => rfl) fun f cdv A outer s H vs Q E hr h => ?_
  obtain ⟨row, lo, rr, hlo, ht, ⟨hl, hS⟩, kk⟩ := h
  have hl : row.length ≤ 1000 := hl
  have hS : ∀ d, d ∈ row → dS d := hS
  refine ⟨_, (pss_cons (ps_set (i := 1) sc__law_forces.nd rfl (Or.inr rfl) (pe_lst pa_nil))
      (pss_cons (ps_for PassesOwn.never rfl (pi_range1 (by rfl) T.m_range (pa_cons (pe_callB (lenQ (K := K)) (by rfl) T.m_len PySem.boot_len (pa_cons (pv 0) pa_nil)) pa_nil)) (pg_name (i := 2) sc__law_forces.nd rfl (Or.inl rfl)) (pss_cons (ps_set (i := 3) sc__law_forces.nd rfl (Or.inr rfl) (pe_op op_sub (pe_callB (lenQ (K := K)) (by rfl) T.m_len PySem.boot_len (pa_cons (pv 0) pa_nil)) (pv 2)))
      (pss_cons (ps_setLc (i := 4) (own := [("_law_j", 5)]) rfl sc__law_forces.nd rfl rfl (sw_true rfl rfl rfl (by decide +kernel)) (pi_range1 (by rfl) T.m_range (pa_cons (pe_callB (lenQ (K := K)) (by rfl) T.m_len PySem.boot_len (pa_cons (pv 1) pa_nil)) pa_nil)) (blkOk_by (N := N__law_forces) (sc := defScope s__law_forces) (by decide +kernel)) (fun _ _ _ _ _ => (pg_name (i := 5) sc__law_forces.nd rfl (Or.inl rfl))) (fun _ _ _ _ _ => (pts_one (PW.pt (pw_and (pt_val (pe_ix (ixL (K := K)) (pv 1) (pv 5) (fun _ _ => rfl))) (pw_and1 (pt_cmpR (eqD (K := K) hr.units) (pe_ix (ixL (K := K)) (pv 0) (pe_op op_sub (pe_op op_sub (pe_callB (lenQ (K := K)) (by rfl) T.m_len PySem.boot_len (pa_cons (pv 0) pa_nil)) pe_int) (pv 5)) (fun _ _ => rfl)) (pe_tup (pa_cons pe_str (pa_cons (pv 3) pa_nil))) (nomark _))))))) (fun _ _ _ _ _ => (pv 5)))
      (pss_one (ps_expr (bmK (K := K) PySem.F.plainAttrs_list PySem.F.slot_list_append PySem.F.type_list_append mt_append (pv 1) (pa_cons (pe_cmpR op_eq (pe_callB (lenQ (K := K)) (by rfl) T.m_len PySem.boot_len (pa_cons (pv 4) pa_nil)) pe_int (nomark _)) pa_nil)))))))
      (pss_one (ps_ret (pe_lc (own := [("_law_k", 2)]) rfl sc__law_forces.nd (pi_range1 (by rfl) T.m_range (pa_cons (pe_callB (lenQ (K := K)) (by rfl) T.m_len PySem.boot_len (pa_cons (pv 0) pa_nil)) pa_nil)) (blkOk_by (N := N__law_forces) (sc := defScope s__law_forces) (by decide +kernel)) (fun _ _ _ _ _ => (pg_name (i := 2) sc__law_forces.nd rfl (Or.inl rfl))) (fun _ _ _ _ _ => pts_nil) (fun _ _ _ _ _ => (pe_ix (ixL (K := K)) (pv 1) (pe_op op_sub (pe_op op_sub (pe_callB (lenQ (K := K)) (by rfl) T.m_len PySem.boot_len (pa_cons (pv 0) pa_nil)) pe_int) (pv 2)) (fun _ _ => rfl)))))))), ?_⟩
  refine go_enter (n := 5) rr hlo ht kk rfl ?_
  show Go C Tb _ [.dat (.list (row.map eD)), .un, .un, .un, .un, .un] _ (fun s => s = .own ((frc row).map .bool))
  refine gs (ef_lst ea_nil) ?_
  refine gfr row.length (fun i => .int (i : Int)) (fun i => [.dat (.list (row.map eD)), .own (((List.range i).map (fB row)).map .bool), .un, .un, .un, .un]) (ei_range1 (ea_cons ((es_len ((ed_var (by rfl))).es).is (by rw [List.length_map])) ea_nil) (by omega)) (by walk_at "le") (fun i hi => ⟨_, _, tg_name, (by walk_at "no"), ?_⟩) ?_
  · refine gsd (ed_i0 ((es_len ((ed_var (by rfl))).es).is (by rw [List.length_map])) (ed_var (by rfl))) ?_
    refine gs (ef_lc (List.range i) (fun (j : Nat) => .int (j : Int)) (fun j => fB row j && decide (row.getD (row.length - 1 - j) default = .bck ((row.length : Int) - (i : Int)))) (fun (j : Nat) => .int (j : Int)) ((ei_range1 (n := i) (ea_cons ((es_len (es_own (by rfl))).is (by rw [List.length_map, List.length_map, List.length_range])) ea_nil) (by omega))).c (by rw [List.length_range]; omega) (by walk_at "no") (fun j hj => ⟨_, _, tg_name, (by decide), (by walk_at "no"), ?_, fun hp => (ed_var (by rfl))⟩)) ?_
    · have hj := List.mem_range.mp hj
      have a1 : atI (((List.range i).map (fB row)).map PyData.bool) (j : Int) = some (.bool (fB row j)) := by
        rw [List.map_map]
        exact at_map (List.getElem?_range hj)
      have e1 : (row.length : Int) - 1 - (j : Int) = ((row.length - 1 - j : Nat) : Int) := by omega
      have a3 : atI (row.map eD) ((row.length : Int) - 1 - (j : Int)) = some (eD (row.getD (row.length - 1 - j) default)) := by
        rw [e1]
        exact at_map (get_getD (by omega))
      refine (et_and (et_B (es_ix (es_own (by rfl)) (ed_var (by rfl)) a1)) (fun hb => (et_T ((er_eqD ((es_ix ((ed_var (by rfl))).es (ed_i0 (ed_i0 ((es_len ((ed_var (by rfl))).es).is (by rw [List.length_map])) ed_int) (ed_var (by rfl))) a3)).er ((ed_tup (ea_cons ed_str (ea_cons (ed_var (by rfl)) ea_nil)))).er (pln_eD _) (by rfl) ((lay_eD (hS _ (getD_mem (by omega)))).shaped (by decide)) ((lay_tup (n := 0) (lay_cons (lay_str ok_back) (lay_cons lay_int lay_nil))).shaped (by decide))).is (by rw [eqv_bck])))))
    · refine go_app (by rfl) ((ed_eqI (es_len (es_own (by rfl))) ed_int).is (by rw [takers])) (by rw [List.length_map, List.length_map, List.length_range]; omega) ?_
      rw [map_succ, List.map_append]
      walk_at "le"
  · refine go_ret ((ef_map (List.range row.length) (fun (j : Nat) => .int (j : Int)) (fun k => .bool (fB row (row.length - 1 - k))) ((ei_range1 (n := row.length) (ea_cons ((es_len ((ed_var (by rfl))).es).is (by rw [List.length_map])) ea_nil) (by omega))).c (by rw [List.length_range]; omega) (by walk_at "no") (fun k hk => ⟨_, _, tg_name, (by decide), (by walk_at "no"), (es_ix (es_own (by rfl)) (ed_i0 (ed_i0 ((es_len ((ed_var (by rfl))).es).is (by rw [List.length_map])) ed_int) (ed_var (by rfl))) ?_)⟩)).is ?_) rfl
    · have hk := List.mem_range.mp hk
      have e1 : (row.length : Int) - 1 - (k : Int) = ((row.length - 1 - k : Nat) : Int) := by omega
      show atI (((List.range row.length).map (fB row)).map PyData.bool) ((row.length : Int) - 1 - (k : Int)) = _
      rw [e1, List.map_map]
      exact at_map (List.getElem?_range (by omega))
    · rw [frc_eq, List.map_map]
      rfl
def spChangesL (C : Addr) (Tb : Tab) : Sp := spF C Tb (fun x : Rws × Str => [.list (eL x.1), .str x.2]) (fun x => R100 x.1 ∧ ∀ r, r ∈ x.1 → ∀ d, d ∈ r → dS d) (fun x => .own ((chgs x.1 x.2).map eG))
theorem w_law_changes (F : Def K mg "_law_changes" s__law_changes ["_law_rows", "_law_module"]) (T : Txt K mg C) (c__law_forces : Cal P w K mg base 1 "_law_forces" (spForcesL C Tb)) : Cal P w K mg base 2 "_law_changes" (spChangesL C Tb) := by
  refine F.cal sc__law_changes (sp_len fun _ => rfl) fun f cdv A outer s H vs Q E hr h => ?_
  obtain ⟨⟨rows, m⟩, lo, rr, hlo, ht, ⟨hR, hS⟩, kk⟩ := h
  have hR : R100 rows := hR
  have hS : ∀ r, r ∈ rows → ∀ d, d ∈ r → dS d := hS
  have h1 := hR.1
  refine ⟨_, (pss_cons (ps_set (i := 2) sc__law_changes.nd rfl (Or.inl rfl) (pe_lst pa_nil))
      (pss_cons (ps_for PassesOwn.never rfl (pi_range1 (by rfl) T.m_range (pa_cons pe_int pa_nil)) (pg_name (i := 3) sc__law_changes.nd rfl (Or.inl rfl)) (pss_cons (ps_set (i := 4) sc__law_changes.nd rfl (Or.inl rfl) (pe_c c__law_forces (hr.mono (by omega)) (by rfl) (pa_cons (pe_ix (ixL (K := K)) (pv 0) (pv 3) (fun _ _ => rfl)) pa_nil)))
      (pss_one (ps_for PassesOwn.never rfl (pi_range1 (by rfl) T.m_range (pa_cons (pe_callB (lenQ (K := K)) (by rfl) T.m_len PySem.boot_len (pa_cons (pe_ix (ixL (K := K)) (pv 0) (pv 3) (fun _ _ => rfl)) pa_nil)) pa_nil)) (pg_name (i := 5) sc__law_changes.nd rfl (Or.inl rfl)) (pss_one (ps_if (PW.pt (pw_and (pt_cmpR op_eq (pe_ix (ixT (K := K)) (pe_ix (ixL (K := K)) (pe_ix (ixL (K := K)) (pv 0) (pv 3) (fun _ _ => rfl)) (pv 5) (fun _ _ => rfl)) pe_int (fun _ _ => rfl)) pe_str (nomark _)) (pw_and1 (pt_cmpR op_eq (pe_ix (ixT (K := K)) (pe_ix (ixL (K := K)) (pe_ix (ixL (K := K)) (pv 0) (pv 3) (fun _ _ => rfl)) (pv 5) (fun _ _ => rfl)) pe_int (fun _ _ => rfl)) (pv 1) (nomark _))))) (pss_one (ps_expr (bmK (K := K) PySem.F.plainAttrs_list PySem.F.slot_list_append PySem.F.type_list_append mt_append (pv 2) (pa_cons (pe_tup (pa_cons (pv 3) (pa_cons (pe_ix (ixL (K := K)) (pe_ix (ixL (K := K)) (pv 0) (pv 3) (fun _ _ => rfl)) (pv 5) (fun _ _ => rfl)) (pa_cons (pe_ix (ixL (K := K)) (pv 4) (pv 5) (fun _ _ => rfl)) pa_nil)))) pa_nil)))) pss_nil))))))
      (pss_one (ps_ret (pv 2))))), ?_⟩
  refine go_enter (n := 4) rr hlo ht kk rfl ?_
  show Go C Tb _ [.dat (.list (eL rows)), .dat (.str m), .un, .un, .un, .un] _ (fun s => s = .own ((chgs rows m).map eG))
  refine gs (ef_lst ea_nil) ?_
  refine gfr 8 (fun i => .int (i : Int)) (fun r => [.dat (.list (eL rows)), .dat (.str m), .own ((chgN rows m r).map eG), .un, .un, .un]) (ei_range1 (n := 8) (ea_cons ed_int ea_nil) (by walk_at "s")) (by walk_at "le") (fun r hr8 => ⟨_, _, tg_name, (by walk_at "no"), ?_⟩) ?_
  · have a2 : atI (eL rows) (r : Int) = some (.list ((rows.getD r []).map eD)) := eL_at (by omega)
    have b2 := hR.at hr8
    have b3 := chgN_len (m := m) (c := 100) (n := r) fun j hj => hR.at (show j < 8 by omega)
    have hs := chgN_succ rows m r
    have hd := hS _ (getD_mem (d := []) (show r < rows.length by omega))
    generalize rows.getD r [] = row at a2 b2 hs hd
    refine gsd ((ef_call row (ea_cons (es_ix ((ed_var (by rfl))).es (ed_var (by rfl)) a2) ea_nil) ⟨by omega, hd⟩)).list ?_
    refine gor row.length (fun i => .int (i : Int)) (fun i => [.dat (.list (eL rows)), .dat (.str m), .own ((chgN rows m r ++ (List.range i).filterMap (chgAt r row m)).map eG), .dat (.int (r : Int)), .dat (.list ((frc row).map .bool)), .un])
      (ei_range1 (ea_cons ((es_len ((es_ix ((ed_var (by rfl))).es (ed_var (by rfl)) a2)).es).is (by rw [List.length_map])) ea_nil) (by omega))
      (by rw [List.range_zero, List.filterMap_nil, List.append_nil]; walk_at "le") (fun i hi => ⟨_, _, tg_name, (by walk_at "no"), ?_⟩) ?_
    · have hlen : ((chgN rows m r ++ (List.range i).filterMap (chgAt r row m)).map eG).length ≤ 1000000 := by
        rw [List.length_map, List.length_append]
        have := fm_len (chgAt r row m) i
        omega
      have a3 : atI (row.map eD) (i : Int) = some (eD (row.getD i default)) := at_map (get_getD hi)
      have a4 : atI ((frc row).map PyData.bool) (i : Int) = some (.bool ((frc row).getD i false)) := at_map (get_getD (by rw [frc_length]; exact hi))
      cases hd : row.getD i default with
      | bck p =>
        rw [hd] at a3
        refine go_if ((et_and (b := false) (et_T (ed_eqS (ed_ixT (es_ix ((es_ix ((ed_var (by rfl))).es (ed_var (by rfl)) a2)).es (ed_var (by rfl)) a3) ed_int (by walk_at "s")) ed_str)) (fun hb => absurd hb (by rw [nbc']; simp))).is (by rw [nbc', Bool.false_and])) (fun hb => by cases hb) (fun hb => ?_)
        refine go_next ?_
        rw [chgR_take_no hd (fun q => by cases q)]
        walk_at "le"
      | chg m' rm bh n t =>
        rw [hd] at a3
        refine go_if ((et_and (et_T (ed_eqS (ed_ixT (es_ix ((es_ix ((ed_var (by rfl))).es (ed_var (by rfl)) a2)).es (ed_var (by rfl)) a3) ed_int (by walk_at "s")) ed_str)) (fun hb => (et_T (ed_eqS (ed_ixT (es_ix ((es_ix ((ed_var (by rfl))).es (ed_var (by rfl)) a2)).es (ed_var (by rfl)) a3) ed_int (by walk_at "s")) (ed_var (by rfl)))))).is (by rw [ncc, Bool.true_and])) (fun hb => ?_) (fun hb => ?_)
        · refine go_app (by rfl) (ed_tup (ea_cons (ed_var (by rfl)) (ea_cons (es_ix ((es_ix ((ed_var (by rfl))).es (ed_var (by rfl)) a2)).es (ed_var (by rfl)) a3) (ea_cons (es_ix ((ed_var (by rfl))).es (ed_var (by rfl)) a4) ea_nil)))) hlen ?_
          rw [chgR_take_yes hd hb, ← List.append_assoc, List.map_append (l₂ := [_])]
          walk_at "le"
        · refine go_next ?_
          rw [chgR_take_no hd (fun q => by have q : decide (m' = m) = true := q; rw [hb] at q; cases q)]
          walk_at "le"
    · show Le _ _
      rw [hs]
      walk_at "le"
  · exact go_retv (by rfl) (by simp) rfl
end
end G

set_option maxRecDepth 100000
set_option maxHeartbeats 4000000
/-! walks, part 4: the law's small functions -/
namespace G
open PySem L2 M
local macro_rules | `(tactic| walk_at "s") => `(tactic| first | rfl | assumption | decide | omega | exact Or.inr ⟨by omega, by omega⟩ | exact Or.inl ⟨by omega, by omega⟩ | exact ⟨by omega, by omega⟩)
local macro_rules | `(tactic| walk_at "le") => `(tactic| (repeat (first | exact Le.nil | refine Le.eq ?_ | refine Le.un ?_)))
local macro_rules | `(tactic| walk_at "no") => `(tactic| (repeat (first | exact no_nil | refine no_cons rfl ?_)))
abbrev s__law_at : Stmt := topS 15
abbrev N__law_at : List Str := ["_law_draws_here", "_law_index"]
theorem sc__law_at : FnScope N__law_at ["_law_draws_here", "_law_index"] (defScope s__law_at) := ⟨rfl, rfl, rfl, by decide +kernel, rfl, by decide +kernel, by decide +kernel⟩
abbrev s__law_last : Stmt := topS 22
abbrev N__law_last : List Str := ["_law_rows", "_law_last_here", "_law_row_here", "_law_deed_here"]
theorem sc__law_last : FnScope N__law_last ["_law_rows"] (defScope s__law_last) := ⟨rfl, rfl, rfl, by decide +kernel, rfl, by decide +kernel, by decide +kernel⟩
abbrev s__law_modules : Stmt := topS 23
abbrev N__law_modules : List Str := []
theorem sc__law_modules : FnScope N__law_modules [] (defScope s__law_modules) := ⟨rfl, rfl, rfl, by decide +kernel, rfl, by decide +kernel, by decide +kernel⟩
abbrev s__law_letters : Stmt := topS 24
abbrev N__law_letters : List Str := ["_law_draws_here", "_law_index", "_law_chars", "_law_text", "_law_k"]
theorem sc__law_letters : FnScope N__law_letters ["_law_draws_here", "_law_index"] (defScope s__law_letters) := ⟨rfl, rfl, rfl, by decide +kernel, rfl, by decide +kernel, by decide +kernel⟩
abbrev s__law_visible : Stmt := topS 26
abbrev N__law_visible : List Str := ["_law_rows", "_law_counts", "_law_k"]
theorem sc__law_visible : FnScope N__law_visible ["_law_rows", "_law_counts"] (defScope s__law_visible) := ⟨rfl, rfl, rfl, by decide +kernel, rfl, by decide +kernel, by decide +kernel⟩
abbrev s__law_lacking : Stmt := topS 31
abbrev N__law_lacking : List Str := ["_law_rows", "_law_counts", "_law_packet", "_law_replica", "_law_place"]
theorem sc__law_lacking : FnScope N__law_lacking ["_law_rows", "_law_counts"] (defScope s__law_lacking) := ⟨rfl, rfl, rfl, by decide +kernel, rfl, by decide +kernel, by decide +kernel⟩
section
variable {P : Program} {w : World} {K : PySem.W.Frag} {mg : Str → Option Value} {base : Heap} {C : Addr} {Tb : Tab}
def spAt (C : Addr) (Tb : Tab) : Sp := spF C Tb (fun x : List Int × Nat => [.list (eN x.1), .int (x.2 : Int)]) (fun x => Dr x.1 ∧ x.2 ≤ 900000) (fun x => .dat (.int (lawAt x.1 (x.2 : Int))))
theorem w_at (F : Def K mg "_law_at" s__law_at ["_law_draws_here", "_law_index"]) (T : Txt K mg C) (c__law_mix : Cal P w K mg base 1 "_law_mix" (spMix C Tb)) : Cal P w K mg base 2 "_law_at" (spAt C Tb) := by
  refine F.cal sc__law_at (sp_len fun _ => rfl) fun f cdv A outer s H vs Q E hr h => ?_
  obtain ⟨⟨ds, i⟩, lo, rr, hlo, ht, ⟨hD, hi⟩, kk⟩ := h
  have hD : Dr ds := hD
  have hi : i ≤ 900000 := hi
  have hl := hD.1
  refine ⟨_, (pss_cons (ps_if (pt_cmpR op_lt (pv 1) (pe_callB (lenQ (K := K)) (by rfl) T.m_len PySem.boot_len (pa_cons (pv 0) pa_nil)) (nomark _)) (pss_one (ps_ret (pe_ix (ixL (K := K)) (pv 0) (pv 1) (fun _ _ => rfl)))) pss_nil)
      (pss_cons (ps_if (pt_cmpR op_eq (pe_callB (lenQ (K := K)) (by rfl) T.m_len PySem.boot_len (pa_cons (pv 0) pa_nil)) pe_int (nomark _)) (pss_one (ps_ret (pe_c c__law_mix (hr.mono (by omega)) (by rfl) (pa_cons (pv 1) (pa_cons pe_int pa_nil))))) pss_nil)
      (pss_one (ps_ret (pe_c c__law_mix (hr.mono (by omega)) (by rfl) (pa_cons (pe_op op_add (pe_ix (ixL (K := K)) (pv 0) (pe_op op_mod (pe_callTy call_int1 (by rfl) T.m_int (by decide +kernel) (pa_cons (pv 1) pa_nil)) (pe_callB (lenQ (K := K)) (by rfl) T.m_len PySem.boot_len (pa_cons (pv 0) pa_nil))) (fun _ _ => rfl)) (pe_op op_mul (pv 1) pe_int)) (pa_cons (pv 1) pa_nil))))))), ?_⟩
  refine go_enter (n := 0) rr hlo ht kk rfl ?_
  show Go C Tb _ [.dat (.list (ds.map .int)), .dat (.int (i : Int))] _ (fun s => s = .dat (.int (lawAt ds (i : Int))))
  refine gi (et_T (ed_ib (ed_var (by rfl)) ((es_len ((ed_var (by rfl))).es).is (by rw [List.length_map])))) (fun hb => ?_) (fun hb => gn ?_)
  · have hb := of_decide_eq_true hb
    have e : lawAt ds (i : Int) = ds.getD i 0 := by
      unfold lawAt
      rw [if_pos hb, Int.toNat_natCast]
    rw [e]
    exact gr (es_ix ((ed_var (by rfl))).es (ed_var (by rfl)) (at_map (get_getD (by omega)))) rfl
  · have hb := of_decide_eq_false hb
    refine gi (et_T (ed_eqI ((es_len ((ed_var (by rfl))).es).is (by rw [List.length_map])) ed_int)) (fun hc => ?_) (fun hc => gn ?_)
    · have hc := of_decide_eq_true hc
      have e : lawAt ds (i : Int) = mix (i : Int) 77 := by
        unfold lawAt
        rw [if_neg hb, if_pos (by omega)]
      rw [e]
      exact gr ((ef_call ((i : Int), 77) (ea_cons (ed_var (by rfl)) (ea_cons ed_int ea_nil)) ⟨by show (-1000000 : Int) ≤ 77; decide, by show (77 : Int) ≤ 1000000; decide⟩)).ed rfl
    · have hc := of_decide_eq_false hc
      have e : lawAt ds (i : Int) = mix (ds.getD ((i : Int) % (ds.length : Int)).toNat 0 + (i : Int) * 131) (i : Int) := by
        unfold lawAt
        rw [if_neg hb, if_neg (by omega)]
      rw [e]
      have hm1 := Int.emod_nonneg (i : Int) (show (ds.length : Int) ≠ 0 by omega)
      have hm2 := Int.emod_lt_of_pos (i : Int) (show 0 < (ds.length : Int) by omega)
      have a1 : atI (ds.map PyData.int) ((i : Int) % (ds.length : Int)) = some (.int (ds.getD ((i : Int) % (ds.length : Int)).toNat 0)) := by
        have q : ((i : Int) % (ds.length : Int)) = ((((i : Int) % (ds.length : Int)).toNat : Nat) : Int) := by omega
        rw [q, Int.toNat_natCast]
        exact at_map (get_getD (by omega))
      exact go_retd ((ef_call (_, (i : Int)) (ea_cons (ed_i0 (es_ix ((ed_var (by rfl))).es (ed_mod (ed_int1 (ed_var (by rfl))) ((es_len ((ed_var (by rfl))).es).is (by rw [List.length_map])) (by omega)) a1) (ed_mul (ed_var (by rfl)) ed_int (Or.inr ⟨by decide, by decide⟩))) (ea_cons (ed_var (by rfl)) ea_nil)) ⟨by show -1000000 ≤ (i : Int); omega, by show (i : Int) ≤ 1000000; omega⟩)).ed rfl
def spLast (C : Addr) (Tb : Tab) : Sp := spF C Tb (fun x : Rws => [.list (eL x)]) (fun x => ∀ r, r ∈ x → ∀ d, d ∈ r → (txt d).length ≤ 1000) (fun x => .dat (.int (lastN x)))
theorem w_last (F : Def K mg "_law_last" s__law_last ["_law_rows"]) (T : Txt K mg C) : Cal P w K mg base 1 "_law_last" (spLast C Tb) := by
  refine F.cal sc__law_last (sp_len fun _ => rfl) fun f cdv A outer s H vs Q E hr h => ?_
  obtain ⟨rows, lo, rr, hlo, ht, hS, kk⟩ := h
  have hS : ∀ r, r ∈ rows → ∀ d, d ∈ r → (txt d).length ≤ 1000 := hS
  refine ⟨_, (pss_cons (ps_set (i := 1) sc__law_last.nd rfl (Or.inl rfl) pe_int)
      (pss_cons (ps_for PassesOwn.never rfl (listI (K := K) (pv 0)) (pg_name (i := 2) sc__law_last.nd rfl (Or.inl rfl)) (pss_one (ps_for PassesOwn.never rfl (listI (K := K) (pv 2)) (pg_name (i := 3) sc__law_last.nd rfl (Or.inl rfl)) (pss_one (ps_if (pt_cmpR op_eq (pe_ix (ixT (K := K)) (pv 3) pe_int (fun _ _ => rfl)) pe_str (nomark _)) (pss_one (ps_set (i := 1) sc__law_last.nd rfl (Or.inl rfl) (pe_callB (call_max2 rfl) (by rfl) T.m_max (by decide +kernel) (pa_cons (pv 1) (pa_cons (pe_op op_add (pe_ix (ixT (K := K)) (pv 3) pe_int (fun _ _ => rfl)) (pe_callB call_len_str (by rfl) T.m_len PySem.boot_len (pa_cons (pe_ix (ixT (K := K)) (pv 3) pe_int (fun _ _ => rfl)) pa_nil))) pa_nil))))) pss_nil)))))
      (pss_one (ps_ret (pv 1))))), ?_⟩
  refine go_enter (n := 3) rr hlo ht kk rfl ?_
  show Go C Tb _ [.dat (.list (eL rows)), .un, .un, .un] _ (fun s => s = .dat (.int (lastN rows)))
  refine gsd ed_int ?_
  refine gfl rows (fun r => .list (r.map eD)) (fun i => [.dat (.list (eL rows)), .dat (.int ((rows.take i).foldl lastR 0)), .un, .un]) (ei_list (ed_var (by rfl))) (by walk_at "le") (fun i row hx => ⟨_, _, tg_name, (by walk_at "no"), ?_⟩) ?_
  · have hr2 := hS row (List.mem_of_getElem? hx)
    refine gol row eD (fun j => [.dat (.list (eL rows)), .dat (.int ((row.take j).foldl last1 ((rows.take i).foldl lastR 0))), .dat (.list (row.map eD)), .un]) (ei_list (ed_var (by rfl))) (by walk_at "le") (fun j d hd => ⟨_, _, tg_name, (by walk_at "no"), ?_⟩) ?_
    · have hl := hr2 d (List.mem_of_getElem? hd)
      have e := take_snoc hd
      have e2 : (row.take (j + 1)).foldl last1 ((rows.take i).foldl lastR 0) = last1 ((row.take j).foldl last1 ((rows.take i).foldl lastR 0)) d := by rw [e, List.foldl_append]; rfl
      rw [e2]
      generalize (row.take j).foldl last1 ((rows.take i).foldl lastR 0) = a
      cases d with
      | bck p =>
        refine go_if ((et_T (ed_eqS (ed_ixT (ed_var (by rfl)) ed_int (by walk_at "s")) ed_str)).is nbc') (fun hb => by cases hb) (fun hb => ?_)
        refine go_next ?_
        walk_at "le"
      | chg m rm bh n t =>
        have hl2 : t.length ≤ sizeLine := sz1000 hl
        refine go_if ((et_T (ed_eqS (ed_ixT (ed_var (by rfl)) ed_int (by walk_at "s")) ed_str)).is ncc) (fun hb => ?_) (fun hb => by cases hb)
        refine go_setd (ed_m2 (f := mx) (ed_var (by rfl)) (ed_i0 (ed_ixT (ed_var (by rfl)) ed_int (by walk_at "s")) (ed_lenS (ed_ixT (ed_var (by rfl)) ed_int (by walk_at "s")) hl2))) ?_
        walk_at "le"
    · have e2 : (rows.take (i + 1)).foldl lastR 0 = lastR ((rows.take i).foldl lastR 0) row := by rw [take_snoc hx, List.foldl_append]; rfl
      show Le _ _
      rw [e2, List.take_length]
      walk_at "le"
  · rw [List.take_length]
    exact go_retd (ed_var (by rfl)) rfl
def spMods (C : Addr) (Tb : Tab) : Sp := spF C Tb (fun _ : Unit => []) (fun _ => True) (fun _ => .own (mods.map .str))
theorem w_modules (F : Def K mg "_law_modules" s__law_modules []) (T : Txt K mg C) : Cal P w K mg base 1 "_law_modules" (spMods C Tb) := by
  refine F.cal sc__law_modules (sp_len fun _ => rfl) fun f cdv A outer s H vs Q E hr h => ?_
  obtain ⟨_, lo, rr, hlo, ht, hS, kk⟩ := h
  refine ⟨_, (pss_one (ps_ret (pe_lst (pa_cons pe_str (pa_cons pe_str (pa_cons pe_str (pa_cons (pe_op op_mulS pe_str pe_int) pa_nil))))))), ?_⟩
  refine go_enter (n := 0) rr hlo ht kk rfl ?_
  show Go C Tb _ [] _ (fun s => s = .own (mods.map .str))
  exact go_ret (ef_lst (ea_cons ed_str (ea_cons ed_str (ea_cons ed_str (ea_cons (ed_mulS ed_str ed_int ⟨by decide +kernel, fun _ _ => by decide +kernel, fun _ _ => by decide +kernel⟩) ea_nil))))) rfl
def spLetters (C : Addr) (Tb : Tab) : Sp := spF C Tb (fun x : List Int × Nat => [.list (eN x.1), .int (x.2 : Int)]) (fun x => Dr x.1 ∧ x.2 ≤ 800000) (fun x => .dat (.str (letters x.1 x.2)))
theorem w_letters (F : Def K mg "_law_letters" s__law_letters ["_law_draws_here", "_law_index"]) (T : Txt K mg C) (c__law_at : Cal P w K mg base 2 "_law_at" (spAt C Tb)) : Cal P w K mg base 3 "_law_letters" (spLetters C Tb) := by
  refine F.cal sc__law_letters (sp_len fun _ => rfl) fun f cdv A outer s H vs Q E hr h => ?_
  obtain ⟨⟨ds, i⟩, lo, rr, hlo, ht, ⟨hD, hi⟩, kk⟩ := h
  have hD : Dr ds := hD
  have hi : i ≤ 800000 := hi
  refine ⟨_, (pss_cons (ps_set (i := 2) sc__law_letters.nd rfl (Or.inl rfl) pe_str)
      (pss_cons (ps_set (i := 3) sc__law_letters.nd rfl (Or.inl rfl) pe_str)
      (pss_cons (ps_for PassesOwn.never rfl (pi_range1 (by rfl) T.m_range (pa_cons (pe_op op_mod (pe_c c__law_at (hr.mono (by omega)) (by rfl) (pa_cons (pv 0) (pa_cons (pv 1) pa_nil))) pe_int) pa_nil)) (pg_name (i := 4) sc__law_letters.nd rfl (Or.inl rfl)) (pss_one (ps_set (i := 3) sc__law_letters.nd rfl (Or.inl rfl) (pe_op op_add_str (pv 3) (pe_ix ix_str (pv 2) (pe_op op_mod (pe_op op_add (pe_c c__law_at (hr.mono (by omega)) (by rfl) (pa_cons (pv 0) (pa_cons (pe_op op_add (pv 1) pe_int) pa_nil))) (pe_op op_mul pe_int (pv 4))) pe_int) (fun _ _ => rfl))))))
      (pss_one (ps_ret (pv 3)))))), ?_⟩
  refine go_enter (n := 3) rr hlo ht kk rfl ?_
  show Go C Tb _ [.dat (.list (eN ds)), .dat (.int (i : Int)), .un, .un, .un] _ (fun s => s = .dat (.str (letters ds i)))
  have h1 := lawAt_lo hD i
  have h2 := lawAt_lo hD (i + 1)
  have e1 : ((i + 1 : Nat) : Int) = (i : Int) + 1 := Int.natCast_succ i
  refine gsd ed_str ?_
  refine gsd ed_str ?_
  obtain ⟨n, hn, hn5⟩ : ∃ n : Nat, lawAt ds (i : Int) % 5 = (n : Int) ∧ n < 5 := ⟨(lawAt ds (i : Int) % 5).toNat, by omega, by omega⟩
  have eL : letters ds i = lettersN ds i n := by unfold letters; rw [hn, Int.toNat_natCast]
  rw [eL]
  refine gfr n (fun k => .int (k : Int)) (fun k => [.dat (.list (eN ds)), .dat (.int (i : Int)), .dat (.str chars), .dat (.str (lettersN ds i k)), .un])
    (ei_range1 (ea_cons ((ed_mod ((ef_call (ds, i) (ea_cons (ed_var (by rfl)) (ea_cons (ed_var (by rfl)) ea_nil)) ⟨hD, by show i ≤ 900000; omega⟩)).ed ed_int (by decide)).is (by rw [hn])) ea_nil) (by omega)) (by walk_at "le") (fun k hk => ⟨_, _, tg_name, (by walk_at "no"), ?_⟩) ?_
  · have hk5 : k < 5 := by omega
    have hlen := lettersN_len ds i k
    obtain ⟨c, hc⟩ : ∃ c : Nat, (lawAt ds ((i : Int) + 1) + 37 * (k : Int)) % 95 = (c : Int) ∧ c < 95 := ⟨((lawAt ds ((i : Int) + 1) + 37 * (k : Int)) % 95).toNat, by omega, by omega⟩
    have ec : chAt ((lawAt ds ((i : Int) + 1) + 37 * (k : Int)) % 95) = ⟨#[chars.cps.toList.getD c 0]⟩ := by rw [hc.1]; rfl
    refine go_setd (ed_addS (ed_var (by rfl)) ((ed_ixS (x := chars) (c := chars.cps.toList.getD c 0) (ed_var (by rfl)) (ed_mod (ed_i0 ((ef_call (ds, i + 1) (ea_cons (ed_var (by rfl)) (ea_cons ((ed_i0 (ed_var (by rfl)) ed_int).is (by rw [e1])) ea_nil)) ⟨hD, by show i + 1 ≤ 900000; omega⟩)).ed (ed_mul ed_int (ed_var (by rfl)) (Or.inl ⟨by decide, by decide⟩))) ed_int (by decide)) (Nat.le_trans (show chars.length ≤ 95 by decide +kernel) (by decide)) ?_).is (by rw [← ec])) ?_) ?_
    · show atI chars.cps.toList ((lawAt ds ((i + 1 : Nat) : Int) + 37 * (k : Int)) % 95) = _
      rw [e1, hc.1]
      exact at_nat (get_getD (by rw [chars_len]; exact hc.2))
    · rw [hlen]
      exact Nat.le_trans (show k + 1 ≤ 1000 by omega) (by decide)
    · walk_at "le"
  · exact go_retd (ed_var (by rfl)) rfl
def spVis (C : Addr) (Tb : Tab) : Sp := spF C Tb (fun x : Rws × List Nat => [.list (eL x.1), .list (eC x.2)]) (fun x => x.1.length = 8 ∧ x.2.length = 8) (fun x => .own2 (eR (vis x.1 x.2)))
theorem w_visible (F : Def K mg "_law_visible" s__law_visible ["_law_rows", "_law_counts"]) (T : Txt K mg C) : Cal P w K mg base 1 "_law_visible" (spVis C Tb) := by
  refine F.cal sc__law_visible (sp_len fun _ => rfl) fun f cdv A outer s H vs Q E hr h => ?_
  obtain ⟨⟨rows, cs⟩, lo, rr, hlo, ht, ⟨h1, h2⟩, kk⟩ := h
  have h1 : rows.length = 8 := h1
  have h2 : cs.length = 8 := h2
  refine ⟨_, (pss_one (ps_ret (pe_lc (own := [("_law_k", 2)]) rfl sc__law_visible.nd (pi_range1 (by rfl) T.m_range (pa_cons pe_int pa_nil)) (blkOk_by (N := N__law_visible) (sc := defScope s__law_visible) (by decide +kernel)) (fun _ _ _ _ _ => (pg_name (i := 2) sc__law_visible.nd rfl (Or.inl rfl))) (fun _ _ _ _ _ => pts_nil) (fun _ _ _ _ _ => (pe_slice (slL (K := K)) (pe_ix (ixL (K := K)) (pv 0) (pv 2) (fun _ _ => rfl)) po_none (po_some (pe_ix (ixL (K := K)) (pv 1) (pv 2) (fun _ _ => rfl)))))))), ?_⟩
  refine go_enter (n := 1) rr hlo ht kk rfl ?_
  show Go C Tb _ [.dat (.list (eL rows)), .dat (.list (eC cs)), .un] _ (fun s => s = .own2 (eR (vis rows cs)))
  refine go_ret ((ef_lcO (List.range 8) (fun (j : Nat) => .int (j : Int)) (fun k => ((rows.getD k []).map eD).take (cs.getD k 0)) ((ei_range1 (n := 8) (ea_cons ed_int ea_nil) (by decide))).c (by decide) (by walk_at "no") (fun k hk => ⟨_, _, tg_name, (by decide), (by walk_at "no"), ?_⟩)).is ?_) rfl
  · have hk := List.mem_range.mp hk
    have a2 : atI (eL rows) (k : Int) = some (.list ((rows.getD k []).map eD)) := eL_at (by omega)
    have a1 : atI (eC cs) (k : Int) = some (.int ((cs.getD k 0 : Nat) : Int)) := at_map (get_getD (by omega))
    exact es_slTo ((es_ix ((ed_var (by rfl))).es (ed_var (by rfl)) a2)).es (es_ix ((ed_var (by rfl))).es (ed_var (by rfl)) a1)
  · have e : ((List.range 8).map fun k => ((rows.getD k []).map eD).take (cs.getD k 0)) = eR (vis rows cs) := by
      unfold eR vis
      rw [List.map_map]
      refine List.map_congr_left fun k _ => ?_
      show _ = ((rows.getD k []).take (cs.getD k 0)).map eD
      rw [List.map_take]
    rw [e]
def spLackL (C : Addr) (Tb : Tab) : Sp := spF C Tb (fun x : Rws × List Nat => [.list (eL x.1), .list (eC x.2)]) (fun x => x.1.length = 8 ∧ x.2.length = 8 ∧ (∀ r, r ∈ x.1 → r.length ≤ 1000) ∧ ∀ c, c ∈ x.2 → c ≤ 1000) (fun x => .own ((lack x.1 x.2).map eT))
theorem w_law_lacking (F : Def K mg "_law_lacking" s__law_lacking ["_law_rows", "_law_counts"]) (T : Txt K mg C) : Cal P w K mg base 1 "_law_lacking" (spLackL C Tb) := by
  refine F.cal sc__law_lacking (sp_len fun _ => rfl) fun f cdv A outer s H vs Q E hr h => ?_
  obtain ⟨⟨rows, cs⟩, lo, r, hlo, ht, ⟨h1, h2, h3, h4⟩, kk⟩ := h
  have h1 : rows.length = 8 := h1
  have h2 : cs.length = 8 := h2
  have h3 : ∀ r, r ∈ rows → r.length ≤ 1000 := h3
  have h4 : ∀ c, c ∈ cs → c ≤ 1000 := h4
  refine ⟨_, (pss_cons (ps_set (i := 2) sc__law_lacking.nd rfl (Or.inl rfl) (pe_lst pa_nil))
      (pss_cons (ps_for PassesOwn.never rfl (pi_range1 (by rfl) T.m_range (pa_cons pe_int pa_nil)) (pg_name (i := 3) sc__law_lacking.nd rfl (Or.inl rfl)) (pss_one (ps_for PassesOwn.never rfl (pi_range2 (by rfl) T.m_range (pa_cons (pe_ix (ixL (K := K)) (pv 1) (pv 3) (fun _ _ => rfl)) (pa_cons (pe_callB (lenQ (K := K)) (by rfl) T.m_len PySem.boot_len (pa_cons (pe_ix (ixL (K := K)) (pv 0) (pv 3) (fun _ _ => rfl)) pa_nil)) pa_nil))) (pg_name (i := 4) sc__law_lacking.nd rfl (Or.inl rfl)) (pss_one (ps_expr (bmK (K := K) PySem.F.plainAttrs_list PySem.F.slot_list_append PySem.F.type_list_append mt_append (pv 2) (pa_cons (pe_tup (pa_cons (pv 3) (pa_cons (pe_op op_add (pv 4) pe_int) (pa_cons (pe_ix (ixL (K := K)) (pe_ix (ixL (K := K)) (pv 0) (pv 3) (fun _ _ => rfl)) (pv 4) (fun _ _ => rfl)) pa_nil)))) pa_nil)))))))
      (pss_one (ps_ret (pv 2))))), ?_⟩
  refine go_enter (n := 3) r hlo ht kk rfl ?_
  show Go C Tb _ [.dat (.list (eL rows)), .dat (.list (eC cs)), .un, .un, .un] _ (fun s => s = .own ((lack rows cs).map eT))
  refine gs (ef_lst ea_nil) ?_
  refine gfr 8 (fun i => .int (i : Int)) (fun i => [.dat (.list (eL rows)), .dat (.list (eC cs)), .own ((lackN rows cs i).map eT), .un, .un]) (ei_range1 (n := 8) (ea_cons ed_int ea_nil) (by decide)) (by walk_at "le") (fun x hi => ⟨_, _, tg_name, (by walk_at "no"), ?_⟩) ?_
  · have a1 : atI (eC cs) (x : Int) = some (.int ((cs.getD x 0 : Nat) : Int)) := at_map (get_getD (by omega))
    have a2 : atI (eL rows) (x : Int) = some (.list ((rows.getD x []).map eD)) := eL_at (by omega)
    have b1 : cs.getD x 0 ≤ 1000 := h4 _ (getD_mem (by omega))
    have b2 : (rows.getD x []).length ≤ 1000 := h3 _ (getD_mem (by omega))
    have b3 := lackN_len (cs := cs) h3 x (by omega)
    have hs := lackN_succ rows cs x
    generalize rows.getD x [] = row at a2 b2 hs
    generalize cs.getD x 0 = c at a1 b1 hs
    refine gor (row.length - c) (fun j => .int ((c : Int) + (j : Int))) (fun j => [.dat (.list (eL rows)), .dat (.list (eC cs)), .own ((lackN rows cs x ++ (lackR x row c).take j).map eT), .dat (.int (x : Int)), .un])
      (ei_range2 (n := row.length - c) (ea_cons (es_ix ((ed_var (by rfl))).es (ed_var (by rfl)) a1) (ea_cons ((es_len ((es_ix ((ed_var (by rfl))).es (ed_var (by rfl)) a2)).es).is (by rw [List.length_map])) ea_nil)) (by omega) (by omega) (by omega) (by omega) (by omega))
      (by rw [List.take_zero, List.append_nil]; walk_at "le") (fun y hj => ⟨_, _, tg_name, (by walk_at "no"), ?_⟩) ?_
    · have a3 : atI (row.map eD) ((c : Int) + (y : Int)) = some (eD (row.getD (c + y) default)) := by
        rw [← Int.natCast_add]
        exact at_map (get_getD (by omega))
      refine go_app (by rfl) (ed_tup (ea_cons (ed_var (by rfl)) (ea_cons (ed_i0 (ed_var (by rfl)) ed_int) (ea_cons (es_ix ((es_ix ((ed_var (by rfl))).es (ed_var (by rfl)) a2)).es (ed_var (by rfl)) a3) ea_nil)))) ?_ ?_
      · rw [List.length_map, List.length_append, List.length_take]
        have := lackR_len (r := x) (c := c) b2
        omega
      · rw [lackR_take (List.getElem?_range hj), ← List.append_assoc]
        rw [List.map_append (l₂ := [_])]
        walk_at "le"
    · show Le _ _
      rw [hs, List.take_of_length_le (by unfold lackR; rw [List.length_map, List.length_range]; exact Nat.le_refl _)]
      walk_at "le"
  · exact go_retv (by rfl) (by simp) rfl
end
end G

set_option maxRecDepth 100000
set_option maxHeartbeats 4000000
/-! walks, part 5: objects -/
namespace G
open PySem L2 M
local macro_rules | `(tactic| walk_at "s") => `(tactic| first | rfl | assumption | decide | omega | exact Or.inr ⟨by omega, by omega⟩ | exact Or.inl ⟨by omega, by omega⟩ | exact ⟨by omega, by omega⟩)
local macro_rules | `(tactic| walk_at "le") => `(tactic| (repeat (first | exact Le.nil | refine Le.eq ?_ | refine Le.un ?_)))
local macro_rules | `(tactic| walk_at "no") => `(tactic| (repeat (first | exact no_nil | refine no_cons rfl ?_)))
abbrev s_Deeds___init__ : Stmt := inClass (topS 6) 0
abbrev N_Deeds___init__ : List Str := ["self", "_"]
theorem sc_Deeds___init__ : FnScope N_Deeds___init__ ["self"] (defScope s_Deeds___init__) := ⟨rfl, rfl, rfl, by decide +kernel, rfl, by decide +kernel, by decide +kernel⟩
abbrev s_Deeds_add : Stmt := inClass (topS 6) 2
abbrev N_Deeds_add : List Str := ["self", "replica", "deed"]
theorem sc_Deeds_add : FnScope N_Deeds_add ["self", "replica", "deed"] (defScope s_Deeds_add) := ⟨rfl, rfl, rfl, by decide +kernel, rfl, by decide +kernel, by decide +kernel⟩
abbrev s_Deeds_copy : Stmt := inClass (topS 6) 3
abbrev N_Deeds_copy : List Str := ["self", "result", "row"]
theorem sc_Deeds_copy : FnScope N_Deeds_copy ["self"] (defScope s_Deeds_copy) := ⟨rfl, rfl, rfl, by decide +kernel, rfl, by decide +kernel, by decide +kernel⟩
section
variable {P : Program} {w : World} {K : PySem.W.Frag} {mg : Str → Option Value} {base : Heap} {C : Addr} {Tb : Tab}
theorem w_init (F : CDef K mg C "Deeds" "Deeds.__init__" s_Deeds___init__ ["self"]) (T : Txt K mg C) : Mak P w K mg base 1 "Deeds" C (spInit C Tb) := by
  refine F.mak sc_Deeds___init__ (fun vs H Q E ⟨x, dx, e, _⟩ => by rw [e]; rfl) fun f cdv A outer s H vs Q E hr h => ?_
  obtain ⟨x, dx, rfl, hx, ht, kk⟩ := h
  refine ⟨_, (pss_one (ps_fld (pv 0) (pe_lc (own := [("_", 1)]) rfl sc_Deeds___init__.nd (pi_range1 (by rfl) T.m_range (pa_cons (pe_gc (by rfl) T.rep) pa_nil)) (blkOk_by (N := N_Deeds___init__) (sc := defScope s_Deeds___init__) (by decide +kernel)) (fun _ _ _ _ _ => (pg_name (i := 1) sc_Deeds___init__.nd rfl (Or.inl rfl))) (fun _ _ _ _ _ => pts_nil) (fun _ _ _ _ _ => (pe_lst pa_nil))) rfl)), ?_⟩
  have S : Sa C Tb (fun _ => []) (fun b => b = x) H (L2.start N_Deeds___init__ [.ref x]) [.un, .un] := by
    refine ⟨rfl, fun i s h => ?_, fun _ _ => rfl, fun i j l h => absurd h (by simp), fun _ => List.nodup_nil, fun i l h => absurd h (by simp), fun l hl => ⟨.ins C dx [], (congrArg H hl).trans hx, trivial⟩, ht⟩
    match i, h with
    | 0, h => cases h; exact rfl
    | 1, h => cases h; exact rfl
    | i + 2, h => cases h
  refine (ef_lcO (C := C) (T := Tb) (Γ := [.un, .un]) (List.range 8) (fun (j : Nat) => .int (j : Int)) (fun _ => []) ((ei_range1 (n := 8) (ea_cons ed_int ea_nil) (by decide))).c (by decide) (by walk_at "no") (fun y hy => ⟨_, _, tg_name, (by decide), (by walk_at "no"), ef_lst ea_nil⟩)) (fun _ => []) _ H _ _ S fun v H1 fpn x1 fr nd ok => ?_
  obtain ⟨a, as, e1, e2, e3, e4⟩ := ok
  cases e1
  subst e2
  refine ⟨.ref x, rfl, x, C, dx, [], rfl, x1.kp _ _ hx nt_ins, T.cl, T.nR, by decide, ?_⟩
  refine kk H1 a as x1 fr nd e3 e4.length ?_
  intro b hb
  have key : ∀ {as : List Addr} {dss : List (List PyData)} {W : Hp}, Rows C W H1 as dss → (∀ ds, ds ∈ dss → ds = []) → ∀ b, b ∈ as → H1 b = some (.lst []) := by
    intro as dss W r
    induction r with
    | nil => intro _ b hb; cases hb
    | @cons c ds l1 l2 h t ih =>
      intro hd b hb
      rcases List.mem_cons.mp hb with hb | hb
      · obtain ⟨xs, q1, q2⟩ := h
        rw [hd ds List.mem_cons_self] at q2
        cases q2
        rw [hb]
        exact q1
      · exact ih (fun d hd' => hd d (List.mem_cons_of_mem _ hd')) b hb
  exact key e4 (fun ds hds => by
    obtain ⟨j, _, e⟩ := List.mem_map.mp hds
    exact e.symm) b hb
theorem w_add (F : MDef K C "add" "Deeds.add" s_Deeds_add ["self", "replica", "deed"]) (T : Txt K mg C) : Met P w K mg base 1 C "add" (spAdd C) := by
  refine F.met T.cl sc_Deeds_add (fun vs H Q E ⟨o, dx, a, as, r, j, b, xs, v, e, _⟩ => by rw [e]; rfl) fun f cdv A outer s H vs Q E hr h => ?_
  obtain ⟨o, dx, a, as, r, j, b, xs, v, rfl, h1, h2, h3, h4, h5, h6, q⟩ := h
  refine ⟨_, (pss_one (ps_expr (bmK (K := K) PySem.F.plainAttrs_list PySem.F.slot_list_append PySem.F.type_list_append mt_append (pe_ix (ixL (K := K)) (fldK (K := K) (pv 0) rfl) (pv 1) (fun _ _ => rfl)) (pa_cons (pv 2) pa_nil)))), ?_⟩
  refine ⟨.ref o, rfl, o, C, dx, flds a, .ref a, rfl, h1, T.cl, T.nR, flds_rows a, .int r, rfl, a, as.map V.ref, r, .ref b, rfl, rfl, SqL.of h2, ?_, .inl ⟨rfl, xs, SqL.of h5⟩, v, rfl, b, xs, v, rfl, rfl, h5, h6, q⟩
  unfold L2.atI
  rw [List.length_map, h3]
  show (as.map V.ref)[j]? = some (V.ref b)
  rw [List.getElem?_map, h4]
  rfl
def spCopy (C : Addr) (Tb : Tab) : Sp := spF C Tb (fun rows : Rws => [objD (eL rows)]) (fun rows => rows.length ≤ 1000) (fun rows => .obj (eR rows))
theorem w_copy (F : MDef K C "copy" "Deeds.copy" s_Deeds_copy ["self"]) (T : Txt K mg C) (c_Deeds : Mak P w K mg base 1 "Deeds" C (spInit C Tb)) : Met P w K mg base 3 C "copy" (spCopy C Tb) := by
  refine F.met T.cl sc_Deeds_copy (sp_len fun _ => rfl) fun f cdv A outer s H vs Q E hr h => ?_
  obtain ⟨rows, lo, r, hlo, ht, hl, kk⟩ := h
  have hl : rows.length ≤ 1000 := hl
  refine ⟨_, (pss_cons (ps_set (i := 1) sc_Deeds_copy.nd rfl (Or.inl rfl) (pe_mk c_Deeds (hr.mono (by omega)) (by rfl)))
      (pss_cons (ps_fld (pv 1) (pe_lc (own := [("row", 2)]) rfl sc_Deeds_copy.nd (listI (K := K) (fldK (K := K) (pv 0) rfl)) (blkOk_by (N := N_Deeds_copy) (sc := defScope s_Deeds_copy) (by decide +kernel)) (fun _ _ _ _ _ => (pg_name (i := 2) sc_Deeds_copy.nd rfl (Or.inl rfl))) (fun _ _ _ _ _ => pts_nil) (fun _ _ _ _ _ => (pe_callTy (listQ (K := K)) (by rfl) T.m_list (by decide +kernel) (pa_cons (pv 2) pa_nil)))) rfl)
      (pss_one (ps_ret (pv 1))))), ?_⟩
  refine go_enter (n := 2) r hlo ht kk rfl ?_
  show Go C Tb _ [.dat (objD (eL rows)), .un, .un] _ (fun s => s = .obj (eR rows))
  refine gs ef_mk ?_
  refine go_seq (go_fldO (N := fun Γ' => Γ' = [.dat (objD (eL rows)), .obj (eR rows), .un]) T.cl T.nR (by rfl) (ef_lcO rows (fun r => .list (r.map eD)) (fun r => r.map eD) ((ei_list (ed_rows T.cl T.nR (ed_var (by rfl))))).c (by omega) (by walk_at "no") (fun x hx => ⟨_, _, tg_name, (by decide), (by walk_at "no"), (es_listOf ((ed_var (by rfl))).es)⟩)) rfl) fun Γ' e => ?_
  subst e
  exact go_retv (by rfl) (by simp) rfl
end
end G

set_option maxRecDepth 100000
set_option maxHeartbeats 4000000
/-! walks, part 6: fits and what takes -/
namespace G
open PySem L2 M
local macro_rules | `(tactic| walk_at "s") => `(tactic| first | rfl | assumption | decide | omega | exact Or.inr ⟨by omega, by omega⟩ | exact Or.inl ⟨by omega, by omega⟩ | exact ⟨by omega, by omega⟩)
local macro_rules | `(tactic| walk_at "le") => `(tactic| (repeat (first | exact Le.nil | refine Le.eq ?_ | refine Le.un ?_)))
local macro_rules | `(tactic| walk_at "no") => `(tactic| (repeat (first | exact no_nil | refine no_cons rfl ?_)))
abbrev s_Deeds_fits : Stmt := inClass (topS 6) 11
abbrev N_Deeds_fits : List Str := ["self", "replica", "deed", "row", "earlier", "known", "other", "change", "_", "mark", "named"]
theorem sc_Deeds_fits : FnScope N_Deeds_fits ["self", "replica", "deed"] (defScope s_Deeds_fits) := ⟨rfl, rfl, rfl, by decide +kernel, rfl, by decide +kernel, by decide +kernel⟩
abbrev s__can_take : Stmt := topS 9
abbrev N__can_take : List Str := ["deeds", "triple", "replica", "place", "deed"]
theorem sc__can_take : FnScope N__can_take ["deeds", "triple"] (defScope s__can_take) := ⟨rfl, rfl, rfl, by decide +kernel, rfl, by decide +kernel, by decide +kernel⟩
abbrev s__next_of : Stmt := topS 10
abbrev N__next_of : List Str := ["deeds", "packet", "triple"]
theorem sc__next_of : FnScope N__next_of ["deeds", "packet"] (defScope s__next_of) := ⟨rfl, rfl, rfl, by decide +kernel, rfl, by decide +kernel, by decide +kernel⟩
abbrev s_received : Stmt := topS 11
abbrev N_received : List Str := ["deeds", "packet", "result", "taken", "triple"]
theorem sc_received : FnScope N_received ["deeds", "packet"] (defScope s_received) := ⟨rfl, rfl, rfl, by decide +kernel, rfl, by decide +kernel, by decide +kernel⟩
section
variable {P : Program} {w : World} {K : PySem.W.Frag} {mg : Str → Option Value} {base : Heap} {C : Addr} {Tb : Tab}
def RB (rows : Rws) : Prop := R100 rows ∧ ∀ r, r ∈ rows → ∀ d, d ∈ r → dB d
theorem RB.at {rows : Rws} (h : RB rows) {r i : Nat} (hr : r < 8) (hi : i < (rows.getD r []).length) : dB ((rows.getD r []).getD i default) := h.2 _ (getD_mem (by rw [h.1.1]; exact hr)) _ (getD_mem hi)
theorem RB.chg {rows : Rws} (h : RB rows) {m : Str} {c : Chg} (hc : c ∈ chgs rows m) : ∃ (r : Nat) (d : Deed) (f : Bool), r < 8 ∧ c = ((r : Int), d, f) ∧ dB d ∧ isM m d = true := by
  obtain ⟨r, i, h1, h2, h3, h4⟩ := mem_chgs hc
  exact ⟨r, _, _, h1, h4, h.at h1 h2, h3⟩
theorem isM_C {m : Str} {d : Deed} (h : isM m d = true) : isC d = true := by
  obtain ⟨rm, bh, n, t, rfl⟩ := isM_chg h
  rfl
theorem dB_txt {d : Deed} (h : dB d) : (txt d).length ≤ 1000 := by
  cases d with
  | bck p => exact Nat.zero_le _
  | chg m rm bh n t =>
    obtain ⟨_, _, h, _⟩ := h
    exact Nat.le_trans h (by decide)
theorem chgs_len {rows : Rws} (h : R100 rows) (m : Str) : (chgs rows m).length ≤ 800 := chgN_len (c := 100) fun r hr => h.at hr
def spFits (C : Addr) (Tb : Tab) : Sp := spF C Tb (fun x : Rws × Nat × Deed => [objD (eL x.1), .int (x.2.1 : Int), eD x.2.2]) (fun x => RB x.1 ∧ x.2.1 < 8 ∧ dA x.2.2) (fun x => .dat (.bool (fits x.1 x.2.1 x.2.2)))
theorem w_fits (F : MDef K C "fits" "Deeds.fits" s_Deeds_fits ["self", "replica", "deed"]) (T : Txt K mg C) (c_after : Cal P w K mg base 1 "after" (spAfter C Tb)) (c_changes : Met P w K mg base 2 C "changes" (spChanges C Tb)) (c_inserted : Cal P w K mg base 1 "inserted" (spIns C Tb)) : Met P w K mg base 3 C "fits" (spFits C Tb) := by
  refine F.met T.cl sc_Deeds_fits (sp_len fun _ => rfl) fun f cdv A outer s H vs Q E hr h => ?_
  obtain ⟨⟨rows, r, d⟩, lo, rr, hlo, ht, ⟨hR0, hr0, hA0⟩, kk⟩ := h
  have hR : RB rows := hR0
  have hr8 : r < 8 := hr0
  have hA : dA d := hA0
  clear hR0 hr0 hA0
  have h1 := hR.1.1
  have a2 : atI (eL rows) (r : Int) = some (.list ((rows.getD r []).map eD)) := eL_at (by omega)
  have b2 := hR.1.at hr8
  refine ⟨_, (pss_cons (ps_set (i := 3) sc_Deeds_fits.nd rfl (Or.inl rfl) (pe_ix (ixL (K := K)) (fldK (K := K) (pv 0) rfl) (pv 1) (fun _ _ => rfl)))
      (pss_cons (ps_if (pt_cmpR op_eq (pe_ix (ixT (K := K)) (pv 2) pe_int (fun _ _ => rfl)) pe_str (nomark _)) (pss_one (ps_ret (pe_chain op_le op_le pe_int (pe_ix (ixT (K := K)) (pv 2) pe_int (fun _ _ => rfl)) (pe_callB (lenQ (K := K)) (by rfl) T.m_len PySem.boot_len (pa_cons (pv 3) pa_nil))))) pss_nil)
      (pss_cons (ps_if (PW.pt (pw_or (pt_cmpR op_lt (pe_ix (ixT (K := K)) (pv 2) pe_int (fun _ _ => rfl)) pe_int (nomark _)) (pw_or1 (pt_not (pt_chain op_le op_le pe_int (pe_callB call_len_str (by rfl) T.m_len PySem.boot_len (pa_cons (pe_ix (ixT (K := K)) (pv 2) pe_int (fun _ _ => rfl)) pa_nil)) (pe_gc (by rfl) T.lon)))))) (pss_one (ps_ret pe_bl)) pss_nil)
      (pss_cons (ps_for PassesOwn.never rfl (listI (K := K) (pv 3)) (pg_name (i := 4) sc_Deeds_fits.nd rfl (Or.inl rfl)) (pss_one (ps_if (PW.pt (pw_and (pt_cmpR op_eq (pe_ix (ixT (K := K)) (pv 4) pe_int (fun _ _ => rfl)) pe_str (nomark _)) (pw_and1 (pt_cmpR op_lt (pe_ix (ixT (K := K)) (pv 2) pe_int (fun _ _ => rfl)) (pe_c c_after (hr.mono (by omega)) (by rfl) (pa_cons (pv 4) pa_nil)) (nomark _))))) (pss_one (ps_ret pe_bl)) pss_nil)))
      (pss_cons (ps_set (i := 5) sc_Deeds_fits.nd rfl (Or.inr rfl) pe_dnewT)
      (pss_cons (ps_for PassesOwn.never rfl (listI (K := K) (pe_mt c_changes (hr.mono (by omega)) (pv 0) (pa_cons (pe_ix (ixT (K := K)) (pv 2) pe_int (fun _ _ => rfl)) pa_nil))) (tupK (K := K) (n := 3) rfl (pgs_cons (pg_name (i := 6) sc_Deeds_fits.nd rfl (Or.inl rfl)) (pgs_cons (pg_name (i := 7) sc_Deeds_fits.nd rfl (Or.inl rfl)) (pgs_cons (pg_name (i := 8) sc_Deeds_fits.nd rfl (Or.inl rfl)) pgs_nil)))) (pss_one (ps_expr (bmK (K := K) PySem.F.plainAttrs_dict PySem.F.slot_dict_update PySem.F.type_dict_update (mt_updT (hu1 hr)) (pv 5) (pa_cons (pe_dcT (hu1 hr) (own := [("mark", 9), ("_", 8)]) rfl sc_Deeds_fits.nd (listI (K := K) (pe_c c_inserted (hr.mono (by omega)) (by rfl) (pa_cons (pv 6) (pa_cons (pv 7) pa_nil)))) (blkOk_by (N := N_Deeds_fits) (sc := defScope s_Deeds_fits) (by decide +kernel)) (fun _ _ _ _ _ => (tupK (K := K) (n := 3) rfl (pgs_cons (pg_name (i := 9) sc_Deeds_fits.nd rfl (Or.inl rfl)) (pgs_cons (pg_name (i := 8) sc_Deeds_fits.nd rfl (Or.inl rfl)) (pgs_cons (pg_name (i := 8) sc_Deeds_fits.nd rfl (Or.inl rfl)) pgs_nil))))) (fun _ _ _ _ _ => (pv 9)) (fun _ _ _ _ _ => pe_bl)) pa_nil)))))
      (pss_cons (ps_set (i := 10) sc_Deeds_fits.nd rfl (Or.inl rfl) (pe_callTy (listQ (K := K)) (by rfl) T.m_list (by decide +kernel) (pa_cons (pe_ix (ixT (K := K)) (pv 2) pe_int (fun _ _ => rfl)) pa_nil)))
      (pss_cons (ps_if (pt_cmp (pc_notN (pe_ix (ixT (K := K)) (pv 2) pe_int (fun _ _ => rfl)))) (pss_one (ps_expr (bmK (K := K) PySem.F.plainAttrs_list PySem.F.slot_list_append PySem.F.type_list_append mt_append (pv 10) (pa_cons (pe_ix (ixT (K := K)) (pv 2) pe_int (fun _ _ => rfl)) pa_nil)))) pss_nil)
      (pss_one (ps_ret (pe_callB (allQ (K := K) rfl) (by rfl) T.m_all (by decide +kernel) (pa_cons (pe_lc (own := [("mark", 9)]) rfl sc_Deeds_fits.nd (listI (K := K) (pv 10)) (blkOk_by (N := N_Deeds_fits) (sc := defScope s_Deeds_fits) (by decide +kernel)) (fun _ _ _ _ _ => (pg_name (i := 9) sc_Deeds_fits.nd rfl (Or.inl rfl))) (fun _ _ _ _ _ => pts_nil) (fun _ _ _ _ _ => (pe_and (pe_cmp (pc_din (hu1 hr) (pv 9) (pv 5)) rfl) (pe_one (pe_cmpR op_lt (pe_ix (ixT (K := K)) (pv 9) pe_int (fun _ _ => rfl)) (pe_ix (ixT (K := K)) (pv 2) pe_int (fun _ _ => rfl)) (nomark _)))))) pa_nil)))))))))))), ?_⟩
  refine go_enter (n := 8) rr hlo ht kk rfl ?_
  cases d with
  | bck p =>
    show Go C Tb _ [.dat (objD (eL rows)), .dat (.int (r : Int)), .dat (.tuple [.str "back", .int p]), .un, .un, .un, .un, .un, .un, .un, .un] _ (fun s => s = .dat (.bool (fits rows r (.bck p))))
    refine gsd (es_ix ((ed_rows T.cl T.nR (ed_var (by rfl)))).es (ed_var (by rfl)) a2) ?_
    refine gi ((et_T (ed_eqS (ed_ixT (ed_var (by rfl)) ed_int (by walk_at "s")) ed_str)).is nbb) (fun hb => ?_) (fun hb => by cases hb)
    exact gr (ed_chain ed_int (ed_ixT (ed_var (by rfl)) ed_int (by walk_at "s")) ((es_len ((ed_var (by rfl))).es).is (by rw [List.length_map]))) rfl
  | chg m rm bh n t =>
    have hA : m.length ≤ 1000 ∧ rm.length ≤ 1000 := hA
    show Go C Tb _ [.dat (objD (eL rows)), .dat (.int (r : Int)), .dat (.tuple [.str "change", .str m, .tuple (rm.map eM), eO bh, .int n, .str t]), .un, .un, .un, .un, .un, .un, .un, .un] _ (fun s => s = .dat (.bool (fitsC rows r m rm bh n)))
    have ef : ∀ b : Bool, fitsC rows r m rm bh n = b → fitsC rows r m rm bh n = b := fun _ h => h
    refine gsd (es_ix ((ed_rows T.cl T.nR (ed_var (by rfl)))).es (ed_var (by rfl)) a2) ?_
    refine gi ((et_T (ed_eqS (ed_ixT (ed_var (by rfl)) ed_int (by walk_at "s")) ed_str)).is nbc) (fun hb => by cases hb) (fun hb => gn ?_)
    refine gi (et_or (et_T (ed_ib (ed_ixT (ed_var (by rfl)) ed_int (by walk_at "s")) ed_int)) (fun hb => (et_not (et_T (ed_chain ed_int (ed_lenS (ed_ixT (ed_var (by rfl)) ed_int (by walk_at "s")) (sz1000 hA.1)) ed_int))))) (fun hb => ?_) (fun hb => gn ?_)
    · have e : fitsC rows r m rm bh n = false := by
        unfold fitsC
        rw [show (decide (n < 1) || !(decide ((1 : Int) ≤ (m.length : Int)) && decide ((m.length : Int) ≤ 40))) = true from hb]
        rfl
      rw [e]
      exact gr ed_bl rfl
    · have e1 : fitsC rows r m rm bh n = (!(rows.getD r []).any (bad n) && (rm ++ bh.toList).all fun k => decide (k ∈ kn (chgs rows m)) && decide (k.1 < n)) := by
        unfold fitsC
        rw [show (decide (n < 1) || !(decide ((1 : Int) ≤ (m.length : Int)) && decide ((m.length : Int) ≤ 40))) = false from hb]
        rfl
      rw [e1]
      have hBr : ∀ d, d ∈ rows.getD r [] → dB d := fun d hd => hR.2 _ (getD_mem (show r < rows.length by omega)) d hd
      generalize hrow : rows.getD r [] = row at b2 hBr
      refine gf row eD (fun i => [.dat (objD (eL rows)), .dat (.int (r : Int)), .dat (.tuple [.str "change", .str m, .tuple (rm.map eM), eO bh, .int n, .str t]), .dat (.list (row.map eD)), .un, .un, .un, .un, .un, .un, .un]) (fun i => (row.take i).any (bad n) = false)
        (ei_list (ed_var (by rfl))) (by walk_at "le") rfl (fun i d hx hp => ⟨_, _, tg_name, (by walk_at "no"), ?_⟩) ?_
      · have hd := hBr d (List.mem_of_getElem? hx)
        have hstep : bad n d = false → (row.take (i + 1)).any (bad n) = false := fun hq => by
          rw [take_snoc hx, List.any_append, hp, List.any_cons, hq]
          rfl
        have hin : bad n d = true → row.any (bad n) = true := fun hq => List.any_eq_true.mpr ⟨d, List.mem_of_getElem? hx, hq⟩
        cases d with
        | bck p =>
          refine go_if ((et_and (b := false) (et_T (ed_eqS (ed_ixT (ed_var (by rfl)) ed_int (by walk_at "s")) ed_str)) (fun hb => absurd hb (by rw [nbc']; simp))).is (by rw [nbc', Bool.false_and])) (fun hb => by cases hb) (fun hb => ?_)
          exact go_next ⟨by walk_at "le", hstep rfl⟩
        | chg m' rm' bh' n' t' =>
          refine go_if ((et_and (et_T (ed_eqS (ed_ixT (ed_var (by rfl)) ed_int (by walk_at "s")) ed_str)) (fun hb => (et_T (ed_ib (ed_ixT (ed_var (by rfl)) ed_int (by walk_at "s")) ((ef_call (Deed.chg m' rm' bh' n' t') (ea_cons (ed_var (by rfl)) ea_nil) (by exact ⟨rfl, dB_txt hd⟩))).ed)))).is (by rw [ncc, Bool.true_and])) (fun hb => ?_) (fun hb => ?_)
          · rw [hin hb]
            exact go_retd ed_bl rfl
          · exact go_next ⟨by walk_at "le", hstep hb⟩
      · intro hp
        rw [List.take_length] at hp
        rw [hp]
        refine gs ef_newT ?_
        have hcs := chgs_len hR.1 m
        have hC := fun c hc => hR.chg (m := m) (c := c) hc
        have hCt : ∀ i, ((chgs rows m).take i).length ≤ 800 := fun i => by rw [List.length_take]; omega
        refine gfl (chgs rows m) eG (fun i => [.dat (objD (eL rows)), .dat (.int (r : Int)), .dat (.tuple [.str "change", .str m, .tuple (rm.map eM), eO bh, .int n, .str t]), .dat (.list (row.map eD)), .un, .dT (knD ((chgs rows m).take i)), .un, .un, .un, .un, .un])
          (ei_list ((ef_meth (rows, m) (ed_var (by rfl)) (ea_cons (ed_ixT (ed_var (by rfl)) ed_int (by walk_at "s")) ea_nil) rfl hR.1)).list) (by walk_at "le") (fun i c hx => ⟨_, _, (tg_tup (tgs_cons (tgs_cons (tgs_cons tgs_nil)))), (by walk_at "no"), ?_⟩) ?_
        · obtain ⟨r', d', f', hr', rfl, hd', hm'⟩ := hC c (List.mem_of_getElem? hx)
          have hk := knD_len (cs := (chgs rows m).take i) (b := 5) (fun c hc => by
            obtain ⟨r2, d2, f2, _, rfl, q, _⟩ := hC c (List.mem_of_mem_take hc)
            exact ins_len q)
          have hil := ins_len (r := (r' : Int)) hd'
          have hdl : (insD ((r' : Int), d', f')).length ≤ 5 := Nat.le_trans (dcl_len _) hil
          have := hCt i
          refine go_updT (by rfl) (ef_dcT (ins (r' : Int) d') eI (fun x => x.1) (fun _ => .bool true) ((ei_list ((ef_call ((r' : Int), d') (ea_cons (ed_var (by rfl)) (ea_cons (ed_var (by rfl)) ea_nil)) ⟨isM_C hm', dB_txt hd'⟩)).list)).c (by omega) (by walk_at "no") (fun x hx => ⟨_, _, (tg_tup (tgs_cons (tgs_cons (tgs_cons tgs_nil)))), (by decide), (by walk_at "no"), ed_var (by rfl), ed_bl⟩)) ?_ (.inr (insD_small (f := f') rfl hr' hd')) ?_
          · show (knD ((chgs rows m).take i)).length + (insD ((r' : Int), d', f')).length ≤ 1000000
            omega
          · rw [take_snoc hx, knD_snoc]
            walk_at "le"
        · rw [List.take_length]
          refine gs (ed_listOfT (ed_ixT (ed_var (by rfl)) ed_int (by walk_at "s"))) ?_
          refine go_seq (M := fun Γ' => Γ' = [.dat (objD (eL rows)), .dat (.int (r : Int)), .dat (.tuple [.str "change", .str m, .tuple (rm.map eM), eO bh, .int n, .str t]), .dat (.list (row.map eD)), .un, .dT (knD (chgs rows m)), .un, .un, .un, .un, .own ((rm ++ bh.toList).map eM)]) ?_ fun Γ' e => ?_
          · cases bh with
            | none =>
              refine go_if (b := false) ((et_B (er_notN ((ed_ixT (ed_var (by rfl)) ed_int (by walk_at "s"))).er)).is (by rfl)) (fun hb => by cases hb) (fun hb => go_next ?_)
              rw [show rm ++ (none : Option M.Mk).toList = rm by simp]
              rfl
            | some k =>
              refine go_if (b := true) ((et_B (er_notN ((ed_ixT (ed_var (by rfl)) ed_int (by walk_at "s"))).er)).is (by rfl)) (fun hb => ?_) (fun hb => by cases hb)
              refine go_app (by rfl) (ed_ixT (ed_var (by rfl)) ed_int (by walk_at "s")) (by rw [List.length_map]; omega) ?_
              rw [show rm ++ (some k).toList = rm ++ [k] from rfl, List.map_append]
              rfl
          · subst e
            have hl : (rm ++ bh.toList).length ≤ 1001 := by
              rw [List.length_append]
              cases bh with
              | none => exact Nat.le_succ_of_le hA.2
              | some k => exact Nat.succ_le_succ hA.2
            generalize rm ++ bh.toList = l at hl
            refine go_retd ((es_all (((ef_map l eM (fun k => .bool (decide (k ∈ kn (chgs rows m)) && decide (k.1 < n))) (ec_own (es_own (by rfl))) (by omega) (by walk_at "no") (fun k hx => ⟨_, _, tg_name, (by decide), (by walk_at "no"), (ed_andV ((ed_indT (m := k) (by rfl) (ed_var (by rfl))).is (by rw [knD_some])) (fun hb => (ed_ib (ed_ixT (ds := [.int k.1, .int k.2]) (ed_var (by rfl)) ed_int (by walk_at "s")) (ed_ixT (ed_var (by rfl)) ed_int (by walk_at "s")))))⟩)).is (show _ = Sl.own ((l.map fun k => decide (k ∈ kn (chgs rows m)) && decide (k.1 < n)).map .bool) by rw [List.map_map]; rfl))).es).is ?_) rfl
            rw [List.all_map]
            rfl
end
end G

set_option maxRecDepth 100000
set_option maxHeartbeats 4000000
/-! walks, part 7: what is received -/
namespace M
open PySem G
theorem frmA_all : ∀ l : List PyData, (∀ d, d ∈ l → frm d = true) → frmA l = true
  | [], _ => rfl
  | a :: r, h => by
    have h1 := h a List.mem_cons_self
    have h2 := frmA_all r fun d hd => h d (List.mem_cons_of_mem _ hd)
    unfold frmA
    rw [h1, h2]
    rfl
theorem frmA_map {α : Type} (f : α → PyData) (l : List α) (h : ∀ x, x ∈ l → frm (f x) = true) : frmA (l.map f) = true := frmA_all _ fun d hd => by
  obtain ⟨x, hx, rfl⟩ := List.mem_map.mp hd
  exact h x hx
theorem frm_eM (k : M.Mk) : frm (eM k) = true := rfl
theorem frm_eO (b : Option M.Mk) : frm (eO b) = true := by cases b <;> rfl
theorem frm_eD (d : Deed) : frm (eD d) = true := by
  cases d with
  | bck p => rfl
  | chg m rm bh n t =>
    show (frm (.tuple (rm.map eM)) && (frm (eO bh) && true)) = true
    have h1 : frm (.tuple (rm.map eM)) = true := frmA_map _ _ fun k _ => frm_eM k
    rw [h1, frm_eO]
    rfl
theorem frm_eT (t : Trip) : frm (eT t) = true := by
  show (frm (eD t.2.2) && true) = true
  rw [frm_eD]
  rfl
def eX : Option Trip → PyData
  | none => .none
  | some t => eT t
theorem frm_eX (o : Option Trip) : frm (eX o) = true := by
  cases o with
  | none => rfl
  | some t => exact frm_eT t
theorem isNo_eX (o : Option Trip) : (!isNo (eX o)) = o.isSome := by cases o <;> rfl
end M
namespace G
open PySem L2 M
local macro_rules | `(tactic| walk_at "s") => `(tactic| first | rfl | assumption | decide | omega | exact Or.inr ⟨by omega, by omega⟩ | exact Or.inl ⟨by omega, by omega⟩ | exact ⟨by omega, by omega⟩)
local macro_rules | `(tactic| walk_at "le") => `(tactic| (repeat (first | exact Le.nil | refine Le.eq ?_ | refine Le.un ?_)))
local macro_rules | `(tactic| walk_at "no") => `(tactic| (repeat (first | exact no_nil | refine no_cons rfl ?_)))
section
variable {P : Program} {w : World} {K : PySem.W.Frag} {mg : Str → Option Value} {base : Heap} {C : Addr} {Tb : Tab}
theorem Er.is {te : TE} {Γ : List Sl} {d d' : PyData} (h : Er C Tb te Γ d) (e : d = d') : Er C Tb te Γ d' := e ▸ h
/-- triples that serve -/
def TB (t : Trip) : Prop := tR t ∧ dB t.2.2
theorem dB_dA {d : Deed} (h : dB d) : dA d := by
  cases d with
  | bck p => trivial
  | chg m rm bh n t =>
    obtain ⟨_, _, _, h1, h2⟩ := h
    exact ⟨by omega, by omega⟩
def spTake (C : Addr) (Tb : Tab) : Sp := spF C Tb (fun x : Rws × Trip => [objD (eL x.1), eT x.2]) (fun x => RB x.1 ∧ TB x.2) (fun x => .dat (.bool (takes x.1 x.2)))
theorem w_can_take (F : Def K mg "_can_take" s__can_take ["deeds", "triple"]) (T : Txt K mg C) (c_fits : Met P w K mg base 3 C "fits" (spFits C Tb)) : Cal P w K mg base 4 "_can_take" (spTake C Tb) := by
  refine F.cal sc__can_take (sp_len fun _ => rfl) fun f cdv A outer s H vs Q E hr h => ?_
  obtain ⟨⟨rows, t0, t1, d⟩, lo, rr, hlo, ht, ⟨hR0, ⟨⟨ha, hb⟩, hB0⟩⟩, kk⟩ := h
  have hR : RB rows := hR0
  have hB : dB d := hB0
  have ha : 0 ≤ t0 := ha
  have hb : t0 < 8 := hb
  have h1 := hR.1.1
  refine ⟨_, (pss_cons (ps_asg (pv 1) (tupK (K := K) (n := 3) rfl (pgs_cons (pg_name (i := 2) sc__can_take.nd rfl (Or.inl rfl)) (pgs_cons (pg_name (i := 3) sc__can_take.nd rfl (Or.inl rfl)) (pgs_cons (pg_name (i := 4) sc__can_take.nd rfl (Or.inl rfl)) pgs_nil)))))
      (pss_cons (ps_if (PW.pt (pw_or (pt_not (pt_chain op_le op_lt pe_int (pv 2) (pe_gc (by rfl) T.rep))) (pw_or1 (pt_cmpR op_ne (pv 3) (pe_op op_add (pe_callB (lenQ (K := K)) (by rfl) T.m_len PySem.boot_len (pa_cons (pe_ix (ixL (K := K)) (fldK (K := K) (pv 0) rfl) (pv 2) (fun _ _ => rfl)) pa_nil)) pe_int) (nomark _))))) (pss_one (ps_ret pe_bl)) pss_nil)
      (pss_one (ps_ret (pe_mt c_fits (hr.mono (by omega)) (pv 0) (pa_cons (pv 2) (pa_cons (pv 4) pa_nil))))))), ?_⟩
  refine go_enter (n := 3) rr hlo ht kk rfl ?_
  show Go C Tb _ [.dat (objD (eL rows)), .dat (.tuple [.int t0, .int t1, eD d]), .un, .un, .un] _ (fun s => s = .dat (.bool (takes rows (t0, t1, d))))
  obtain ⟨r, rfl⟩ : ∃ r : Nat, t0 = (r : Int) := ⟨t0.toNat, by omega⟩
  have a2 : atI (eL rows) (r : Int) = some (.list ((rows.getD r []).map eD)) := eL_at (by omega)
  refine gt (ed_var (by rfl)) (tg_tup (tgs_cons (tgs_cons (tgs_cons tgs_nil)))) (by walk_at "no") ?_
  have e8 : (decide ((0 : Int) ≤ (r : Int)) && decide ((r : Int) < 8)) = true := by rw [decide_eq_true ha, decide_eq_true hb]; rfl
  refine gi ((et_or (et_not (et_T (ed_chain ed_int (ed_var (by rfl)) ed_int))) (fun hb => (et_T (ed_neI (ed_var (by rfl)) (ed_i0 ((es_len ((es_ix ((ed_rows T.cl T.nR (ed_var (by rfl)))).es (ed_var (by rfl)) a2)).es).is (by rw [List.length_map])) ed_int))))).is (show (!(decide ((0 : Int) ≤ (r : Int)) && decide ((r : Int) < 8)) || _) = _ by rw [e8, Bool.not_true, Bool.false_or])) (fun hb => ?_) (fun hb => gn ?_)
  · have e : takes rows ((r : Int), t1, d) = false := by
      unfold takes lenAt
      rw [Int.toNat_natCast]
      rw [show decide (t1 = ((rows.getD r []).length : Int) + 1) = false by simpa using hb]
      rfl
    rw [e]
    exact gr ed_bl rfl
  · have e : takes rows ((r : Int), t1, d) = fits rows r d := by
      unfold takes lenAt
      rw [Int.toNat_natCast]
      rw [show decide (t1 = ((rows.getD r []).length : Int) + 1) = true by simpa using hb]
      rfl
    rw [e]
    exact go_retd ((ef_meth (rows, r, d) (ed_var (by rfl)) (ea_cons (ed_var (by rfl)) (ea_cons (ed_var (by rfl)) ea_nil)) rfl (by exact ⟨hR, by show r < 8; omega, dB_dA hB⟩))).ed rfl
def spNext (C : Addr) (Tb : Tab) : Sp := spF C Tb (fun x : Rws × List Trip => [objD (eL x.1), .list (x.2.map eT)]) (fun x => RB x.1 ∧ ∀ t, t ∈ x.2 → TB t) (fun x => .dat (eX (nx x.1 x.2)))
theorem w_next_of (F : Def K mg "_next_of" s__next_of ["deeds", "packet"]) (T : Txt K mg C) (c__can_take : Cal P w K mg base 4 "_can_take" (spTake C Tb)) : Cal P w K mg base 5 "_next_of" (spNext C Tb) := by
  refine F.cal sc__next_of (sp_len fun _ => rfl) fun f cdv A outer s H vs Q E hr h => ?_
  obtain ⟨⟨rows, p⟩, lo, rr, hlo, ht, ⟨hR0, hp0⟩, kk⟩ := h
  have hR : RB rows := hR0
  have hp : ∀ t, t ∈ p → TB t := hp0
  refine ⟨_, (pss_cons (ps_for PassesOwn.never rfl (listI (K := K) (pv 1)) (pg_name (i := 2) sc__next_of.nd rfl (Or.inl rfl)) (pss_one (ps_if (pt_val (pe_c c__can_take (hr.mono (by omega)) (by rfl) (pa_cons (pv 0) (pa_cons (pv 2) pa_nil)))) (pss_one (ps_ret (pv 2))) pss_nil)))
      (pss_one (ps_ret pe_non))), ?_⟩
  refine go_enter (n := 1) rr hlo ht kk rfl ?_
  show Go C Tb _ [.dat (objD (eL rows)), .dat (.list (p.map eT)), .un] _ (fun s => s = .dat (eX (nx rows p)))
  refine gf p eT (fun i => [.dat (objD (eL rows)), .dat (.list (p.map eT)), .un]) (fun i => nx rows p = nx rows (p.drop i)) (ei_list (ed_var (by rfl))) (by walk_at "le") rfl (fun i t hx hq => ⟨_, _, tg_name, (by walk_at "no"), ?_⟩) ?_
  · have ed : p.drop i = t :: p.drop (i + 1) := by
      obtain ⟨h1, h2⟩ := List.getElem?_eq_some_iff.mp hx
      rw [← h2]
      exact List.drop_eq_getElem_cons h1
    refine go_if (et_B ((ef_call (rows, t) (ea_cons (ed_var (by rfl)) (ea_cons (ed_var (by rfl)) ea_nil)) (by exact ⟨hR, hp t (List.mem_of_getElem? hx)⟩))).ed) (fun hb => ?_) (fun hb => ?_)
    · have hb : takes rows t = true := hb
      rw [hq, ed]
      unfold nx
      rw [List.find?_cons, hb]
      exact go_retd (ed_var (by rfl)) rfl
    · have hb : takes rows t = false := hb
      refine go_next ⟨by walk_at "le", ?_⟩
      rw [hq, ed]
      unfold nx
      rw [List.find?_cons, hb]
  · intro hq
    rw [List.drop_length] at hq
    rw [hq]
    exact go_retd ed_non rfl
def spRcv (C : Addr) (Tb : Tab) : Sp := spF C Tb (fun x : Rws × List Trip => [objD (eL x.1), .list (x.2.map eT)]) (fun x => RB x.1 ∧ (∀ t, t ∈ x.2 → TB t) ∧ (∀ r, r ∈ x.1 → r.length ≤ 40) ∧ x.2.length ≤ 60) (fun x => .rcv (eR (rcv x.1 x.2).1) ((rcv x.1 x.2).2.map eT))
/-- what holds while packets are taken -/
structure Pr (rows0 : Rws) (p : List Trip) (a : Rws × List Trip) : Prop where
  n8 : a.1.length = 8
  sz : ∀ r, r < 8 → (a.1.getD r []).length + pend a.1 p ≤ 100
  ok : ∀ r, r ∈ a.1 → ∀ d, d ∈ r → dB d
  en : run p (pend a.1 p) a = rcv rows0 p
  tk : a.2.length + pend a.1 p ≤ 60
theorem Pr.rb {rows0 : Rws} {p : List Trip} {a : Rws × List Trip} (h : Pr rows0 p a) : RB a.1 := ⟨⟨h.n8, fun r hr => by
  obtain ⟨i, hi, e⟩ := List.mem_iff_getElem.mp hr
  have := h.sz i (by rw [← h.n8]; exact hi)
  rw [List.getD_eq_getElem?_getD, List.getElem?_eq_getElem hi, e] at this
  have : r.length + pend a.1 p ≤ 100 := this
  omega⟩, h.ok⟩
theorem mem_set {α : Type} {l : List α} {i : Nat} {x y : α} (h : x ∈ l.set i y) : x ∈ l ∨ x = y := List.mem_or_eq_of_mem_set h
theorem Pr.step {rows0 : Rws} {p : List Trip} {a : Rws × List Trip} {t : Trip} (h : Pr rows0 p a) (hp : ∀ t, t ∈ p → TB t) (ht : nx a.1 p = some t) : Pr rows0 p (addT a.1 t, a.2 ++ [t]) := by
  obtain ⟨h3, h4⟩ := nx_some ht
  have h5 := hp t h3
  have hr : t.1.toNat < a.1.length := by
    have := h5.1.2
    have := h.n8
    omega
  have hlt : pend (addT a.1 t) p < pend a.1 p := pend_add h4 h3 hr
  refine ⟨(addD_length _ _ _).trans h.n8, fun r hr8 => ?_, fun r hr2 d hd => ?_, ?_, ?_⟩
  · have e : ((addT a.1 t).getD r []).length = (a.1.getD r []).length + if r = t.1.toNat then 1 else 0 := addD_len hr r
    have := h.sz r hr8
    show ((addT a.1 t).getD r []).length + pend (addT a.1 t) p ≤ 100
    split at e <;> omega
  · rcases mem_set hr2 with q | q
    · exact h.ok r q d hd
    · rw [q] at hd
      rcases List.mem_append.mp hd with hd | hd
      · exact h.ok _ (getD_mem hr) d hd
      · rw [List.mem_singleton.mp hd]
        exact h5.2
  · have := h.en
    cases hn : pend a.1 p with
    | zero => omega
    | succ n =>
      rw [hn, run_some ht] at this
      rw [← this]
      exact run_enough (fun t ht => (hp t ht).1) _ _ _ ((addD_length _ _ _).trans h.n8) (Nat.le_refl _) (by show pend (addT a.1 t) p ≤ n; omega)
  · have := h.tk
    show (a.2 ++ [t]).length + pend (addT a.1 t) p ≤ 60
    rw [List.length_append]
    show a.2.length + 1 + _ ≤ 60
    omega
theorem w_received (F : Def K mg "received" s_received ["deeds", "packet"]) (T : Txt K mg C) (c_copy : Met P w K mg base 3 C "copy" (spCopy C Tb)) (c__next_of : Cal P w K mg base 5 "_next_of" (spNext C Tb)) (c_add : Met P w K mg base 1 C "add" (spAdd C)) : Cal P w K mg base 6 "received" (spRcv C Tb) := by
  refine F.cal sc_received (sp_len fun _ => rfl) fun f cdv A outer s H vs Q E hr h => ?_
  obtain ⟨⟨rows, p⟩, lo, rr, hlo, ht, ⟨hR0, hp0, hz0, hl0⟩, kk⟩ := h
  have hR : RB rows := hR0
  have hp : ∀ t, t ∈ p → TB t := hp0
  have hz : ∀ r, r ∈ rows → r.length ≤ 40 := hz0
  have hl : p.length ≤ 60 := hl0
  have h8 := hR.1.1
  refine ⟨_, (pss_cons (ps_set (i := 2) sc_received.nd rfl (Or.inl rfl) (pe_mt0 c_copy (hr.mono (by omega)) (pv 0)))
      (pss_cons (ps_set (i := 3) sc_received.nd rfl (Or.inl rfl) (pe_lst pa_nil))
      (pss_cons (ps_set (i := 4) sc_received.nd rfl (Or.inl rfl) (pe_c c__next_of (hr.mono (by omega)) (by rfl) (pa_cons (pv 2) (pa_cons (pv 1) pa_nil))))
      (pss_cons (ps_while PassesOwn.never (pt_cmp (pc_notN (pv 4))) (pss_cons (ps_expr (pe_mt c_add (hr.mono (by omega)) (pv 2) (pa_cons (pe_ix (ixT (K := K)) (pv 4) pe_int (fun _ _ => rfl)) (pa_cons (pe_ix (ixT (K := K)) (pv 4) pe_int (fun _ _ => rfl)) pa_nil))))
      (pss_cons (ps_expr (bmK (K := K) PySem.F.plainAttrs_list PySem.F.slot_list_append PySem.F.type_list_append mt_append (pv 3) (pa_cons (pv 4) pa_nil)))
      (pss_one (ps_set (i := 4) sc_received.nd rfl (Or.inl rfl) (pe_c c__next_of (hr.mono (by omega)) (by rfl) (pa_cons (pv 2) (pa_cons (pv 1) pa_nil))))))))
      (pss_one (ps_ret (pe_tup (pa_cons (pv 2) (pa_cons (pv 3) pa_nil))))))))), ?_⟩
  refine go_enter (n := 3) rr hlo ht kk rfl ?_
  show Go C Tb _ [.dat (objD (eL rows)), .dat (.list (p.map eT)), .un, .un, .un] _ (fun s => s = .rcv (eR (rcv rows p).1) ((rcv rows p).2.map eT))
  have p0 : Pr rows p (rows, []) := ⟨h8, fun r hr => by
    have := hz _ (getD_mem (d := []) (show r < rows.length by omega))
    have := pend_le rows p
    show (rows.getD r []).length + pend rows p ≤ 100
    omega, hR.2, run_enough (fun t ht => (hp t ht).1) _ _ _ h8 (Nat.le_refl _) (by show pend rows p ≤ p.length + 1; have := pend_le rows p; omega), by
    show 0 + pend rows p ≤ 60
    have := pend_le rows p
    omega⟩
  refine gs (ef_meth0 rows (ed_var (by rfl)) rfl (by show rows.length ≤ 1000; omega)) ?_
  refine gs (ef_lst ea_nil) ?_
  have nxt : ∀ {a : Rws × List Trip} {x : Sl} {E : XK}, Pr rows p a → Ed C Tb (tCall (spNext C Tb) [] E (tCons (tVar 2) (tCons (tVar 1) tNil))) [.dat (objD (eL rows)), .dat (.list (p.map eT)), .obj (eR a.1), .own (a.2.map eT), x] (eX (nx a.1 p)) := fun {a x E} h =>
    (er_call (a.1, p) (er_cons ((er_obj (by rfl)).is (by rw [eL_eq])) (er_cons ((ed_var (by rfl))).er er_nil)) (by exact ⟨h.rb, hp⟩) (by exact frm_eX _)).ed
  refine gsd (nxt (a := (rows, [])) p0) ?_
  refine go_seq (M := fun Γ' => ∃ x, Γ' = [.dat (objD (eL rows)), .dat (.list (p.map eT)), .obj (eR (rcv rows p).1), .own ((rcv rows p).2.map eT), x]) ?_ fun Γ' e => ?_
  · refine go_while (fun a => [.dat (objD (eL rows)), .dat (.list (p.map eT)), .obj (eR a.1), .own (a.2.map eT), .dat (eX (nx a.1 p))]) (Pr rows p) (fun a => pend a.1 p) (rows, []) (by walk_at "le") p0 fun a ha => ⟨(nx a.1 p).isSome, (et_B (er_notN ((ed_var (by rfl))).er)).is (isNo_eX _), fun hb => ?_, fun hb => ?_⟩
    · cases hn : nx a.1 p with
      | none => rw [hn] at hb; cases hb
      | some t =>
        obtain ⟨h3, h4⟩ := nx_some hn
        obtain ⟨t0, t1, d⟩ := t
        obtain ⟨⟨ha1, ha2⟩, hdB⟩ := hp _ h3
        have ha1 : 0 ≤ t0 := ha1
        have ha2 : t0 < 8 := ha2
        obtain ⟨r, rfl⟩ : ∃ r : Nat, t0 = (r : Int) := ⟨t0.toNat, by omega⟩
        have hr8 : r < a.1.length := by rw [ha.n8]; omega
        have hsz := ha.sz r (by omega)
        have st := ha.step hp hn
        have hlt : pend (addT a.1 ((r : Int), t1, d)) p < pend a.1 p := pend_add h4 h3 (by rw [Int.toNat_natCast]; exact hr8)
        have es : (eR a.1).set r ((a.1.getD r []).map eD ++ [eD d]) = eR (addT a.1 ((r : Int), t1, d)) := eR_set _ _ _
        have htk := ha.tk
        show Go C Tb _ [.dat (objD (eL rows)), .dat (.list (p.map eT)), .obj (eR a.1), .own (a.2.map eT), .dat (.tuple [.int (r : Int), .int t1, eD d])] _ _
        refine go_seq (go_add (N := fun Γ' => Γ' = [.dat (objD (eL rows)), .dat (.list (p.map eT)), .obj (eR (addT a.1 ((r : Int), t1, d))), .own (a.2.map eT), .dat (.tuple [.int (r : Int), .int t1, eD d])]) (j := r) (by rfl) (ed_ixT (ed_var (by rfl)) ed_int (by walk_at "s")) (ed_ixT (ed_var (by rfl)) ed_int (by walk_at "s")) (by rw [eR_length]; exact ix_nat hr8) (eR_at hr8) (by rw [List.length_map]; omega) (by rw [es]; rfl)) fun Γ' e => ?_
        subst e
        refine ga (by rfl) (ed_var (by rfl)) (by rw [List.length_map]; omega) ?_
        have em : (a.2.map eT ++ [.tuple [.int (r : Int), .int t1, eD d]]) = (a.2 ++ [((r : Int), t1, d)]).map eT := by rw [List.map_append]; rfl
        show Go C Tb _ [.dat (objD (eL rows)), .dat (.list (p.map eT)), .obj (eR (addT a.1 ((r : Int), t1, d))), .own (a.2.map eT ++ [.tuple [.int (r : Int), .int t1, eD d]]), .dat (.tuple [.int (r : Int), .int t1, eD d])] _ _
        rw [em]
        exact go_setd (nxt st) ⟨_, st, hlt, by walk_at "le"⟩
    · cases hn : nx a.1 p with
      | some t => rw [hn] at hb; cases hb
      | none =>
        have e := ha.en
        rw [run_done hn] at e
        rw [← e]
        exact ⟨_, rfl⟩
  · obtain ⟨x, rfl⟩ := e
    exact go_retRcv (by rfl) (by rfl) rfl
end
end G

set_option maxRecDepth 100000
set_option maxHeartbeats 4000000
/-! walks, part 8: the row of a module and its text -/
namespace M
open PySem G
/-- marks within bounds -/
def kB (k : M.Mk) : Prop := ∃ n r : Nat, n < 300 ∧ r < 8 ∧ k = ((n : Int), (r : Int))
def dM (d : Deed) : Prop := ∀ k, k ∈ rmOf d → kB k
theorem kB_small {k : M.Mk} (h : kB k) : small (kP k) := by
  obtain ⟨n, r, h1, h2, rfl⟩ := h
  exact ⟨n, r, h1, h2, rfl⟩
theorem dB_rm {d : Deed} (h : dB d) : (rmOf d).length ≤ 10 := by
  cases d with
  | bck p => exact Nat.zero_le _
  | chg m rm bh n t => exact h.2.2.2.1
end M
namespace G
open PySem L2 M
local macro_rules | `(tactic| walk_at "s") => `(tactic| first | rfl | assumption | decide | omega | exact Or.inr ⟨by omega, by omega⟩ | exact Or.inl ⟨by omega, by omega⟩ | exact ⟨by omega, by omega⟩)
local macro_rules | `(tactic| walk_at "le") => `(tactic| (repeat (first | exact Le.nil | refine Le.eq ?_ | refine Le.un ?_)))
local macro_rules | `(tactic| walk_at "no") => `(tactic| (repeat (first | exact no_nil | refine no_cons rfl ?_)))
abbrev s_Deeds_row : Stmt := inClass (topS 6) 8
abbrev N_Deeds_row : List Str := ["self", "module", "removed", "found", "replica", "deed", "in_force", "mark", "behind", "char", "places", "seen", "index"]
theorem sc_Deeds_row : FnScope N_Deeds_row ["self", "module"] (defScope s_Deeds_row) := ⟨rfl, rfl, rfl, by decide +kernel, rfl, by decide +kernel, by decide +kernel⟩
abbrev s_Deeds_text : Stmt := inClass (topS 6) 9
abbrev N_Deeds_text : List Str := ["self", "module", "_", "char", "seen"]
theorem sc_Deeds_text : FnScope N_Deeds_text ["self", "module"] (defScope s_Deeds_text) := ⟨rfl, rfl, rfl, by decide +kernel, rfl, by decide +kernel, by decide +kernel⟩
section
variable {P : Program} {w : World} {K : PySem.W.Frag} {mg : Str → Option Value} {base : Heap} {C : Addr} {Tb : Tab} {c1 P1 : Addr}
/-- rows that serve -/
structure RM (rows : Rws) (m : Str) : Prop where
  rb : RB rows
  dm : ∀ r, r ∈ rows → ∀ d, d ∈ r → dM d
  cl : Cl (chgs rows m)
theorem RM.chg {rows : Rws} {m : Str} (h : RM rows m) {c : Chg} (hc : c ∈ chgs rows m) : ∃ (r : Nat) (d : Deed) (f : Bool), r < 8 ∧ c = ((r : Int), d, f) ∧ dB d ∧ isM m d = true ∧ dM d := by
  obtain ⟨r, i, h1, h2, h3, h4⟩ := mem_chgs hc
  exact ⟨r, _, _, h1, h4, h.rb.at h1 h2, h3, h.dm _ (getD_mem (by rw [h.rb.1.1]; exact h1)) _ (getD_mem h2)⟩
theorem fnd_small {rows : Rws} {m : Str} (h : RM rows m) {cs : List Chg} (hs : ∀ c, c ∈ cs → c ∈ chgs rows m) : ∀ c, c ∈ cs → (ins c.1 c.2.1).length ≤ 5 := fun c hc => by
  obtain ⟨r, d, f, _, rfl, q, _⟩ := h.chg (hs c hc)
  exact ins_len q
def lamQ : Str := "Deeds.row" ++ ".<locals>." ++ "<lambda>"
def spRow (C : Addr) (Tb : Tab) : Sp := spF C Tb (fun x : Rws × Str => [objD (eL x.1), .str x.2]) (fun x => RM x.1 x.2) (fun x => .own ((rowP x.1 x.2).map eV))
theorem w_row (F : MDefL K C "row" "Deeds.row" s_Deeds_row ["self", "module"] c1) (T : Txt K mg C) (TB : LamX.TabB base mg c1 P1) (tt : TabT Tb P1 lamQ) (c_changes : Met P w K mg base 2 C "changes" (spChanges C Tb)) (c_inserted : Cal P w K mg base 1 "inserted" (spIns C Tb)) : Met P w K mg base 3 C "row" (spRow C Tb) := by
  refine F.met T.cl sc_Deeds_row (sp_len fun _ => rfl) fun f A outer s H vs Q E hr h => ?_
  obtain ⟨⟨rows, m⟩, lo, rr, hlo, ht, hM0, kk⟩ := h
  have hM : RM rows m := hM0
  have hcs := chgs_len hM.rb.1 m
  refine ⟨_, (pss_cons (ps_set (i := 2) sc_Deeds_row.nd rfl (Or.inl rfl) pe_dnewT)
      (pss_cons (ps_set (i := 3) sc_Deeds_row.nd rfl (Or.inl rfl) (pe_lst pa_nil))
      (pss_cons (ps_for PassesOwn.never rfl (listI (K := K) (pe_mt c_changes (hr.mono (by omega)) (pv 0) (pa_cons (pv 1) pa_nil))) (tupK (K := K) (n := 3) rfl (pgs_cons (pg_name (i := 4) sc_Deeds_row.nd rfl (Or.inl rfl)) (pgs_cons (pg_name (i := 5) sc_Deeds_row.nd rfl (Or.inl rfl)) (pgs_cons (pg_name (i := 6) sc_Deeds_row.nd rfl (Or.inr rfl)) pgs_nil)))) (pss_cons (ps_expr (bmK (K := K) PySem.F.plainAttrs_list PySem.F.slot_list_extend PySem.F.type_list_extend mt_extend (pv 3) (pa_cons (pe_lc (own := [("mark", 7), ("behind", 8), ("char", 9)]) rfl sc_Deeds_row.nd (listI (K := K) (pe_c c_inserted (hr.mono (by omega)) (by rfl) (pa_cons (pv 4) (pa_cons (pv 5) pa_nil)))) (blkOk_by (N := N_Deeds_row) (sc := defScope s_Deeds_row) (by decide +kernel)) (fun _ _ _ _ _ => (tupK (K := K) (n := 3) rfl (pgs_cons (pg_name (i := 7) sc_Deeds_row.nd rfl (Or.inl rfl)) (pgs_cons (pg_name (i := 8) sc_Deeds_row.nd rfl (Or.inl rfl)) (pgs_cons (pg_name (i := 9) sc_Deeds_row.nd rfl (Or.inl rfl)) pgs_nil))))) (fun _ _ _ _ _ => pts_nil) (fun _ _ _ _ _ => (pe_tup (pa_cons (pv 7) (pa_cons (pv 8) (pa_cons (pv 9) (pa_cons (pv 6) pa_nil))))))) pa_nil)))
      (pss_one (ps_if (pt_val (pv 6)) (pss_one (ps_expr (bmK (K := K) PySem.F.plainAttrs_dict PySem.F.slot_dict_update PySem.F.type_dict_update (mt_updT (hu1 hr)) (pv 2) (pa_cons (pe_dcT (hu1 hr) (own := [("mark", 7)]) rfl sc_Deeds_row.nd (tupI (K := K) (pe_ix (ixT (K := K)) (pv 5) pe_int (fun _ _ => rfl))) (blkOk_by (N := N_Deeds_row) (sc := defScope s_Deeds_row) (by decide +kernel)) (fun _ _ _ _ _ => (pg_name (i := 7) sc_Deeds_row.nd rfl (Or.inl rfl))) (fun _ _ _ _ _ => (pv 7)) (fun _ _ _ _ _ => pe_bl)) pa_nil)))) pss_nil))))
      (pss_cons (ps_set (i := 10) sc_Deeds_row.nd rfl (Or.inl rfl) (pe_lst pa_nil))
      (pss_cons (ps_set (i := 11) sc_Deeds_row.nd rfl (Or.inr rfl) pe_dnewT)
      (pss_cons (ps_for PassesOwn.never rfl (listI (K := K) (sort0K (K := K) (by rfl) T.m_sorted TB rfl tt.mem tt.un (hu64 hr) (hdp hr) (pa_cons (pv 3) pa_nil))) (tupK (K := K) (n := 4) rfl (pgs_cons (pg_name (i := 7) sc_Deeds_row.nd rfl (Or.inl rfl)) (pgs_cons (pg_name (i := 8) sc_Deeds_row.nd rfl (Or.inl rfl)) (pgs_cons (pg_name (i := 9) sc_Deeds_row.nd rfl (Or.inl rfl)) (pgs_cons (pg_name (i := 6) sc_Deeds_row.nd rfl (Or.inr rfl)) pgs_nil))))) (pss_cons (ps_set (i := 12) sc_Deeds_row.nd rfl (Or.inl rfl) pe_int)
      (pss_cons (ps_if (pt_cmp (pc_notN (pv 8))) (pss_one (ps_set (i := 12) sc_Deeds_row.nd rfl (Or.inl rfl) (pe_op op_add (bmK (K := K) PySem.F.plainAttrs_list PySem.F.slot_list_index PySem.F.type_list_index (indexD (K := K) (hu65 hr)) (pv 10) (pa_cons (pv 8) pa_nil)) pe_int))) pss_nil)
      (pss_cons (ps_expr (bmK (K := K) PySem.F.plainAttrs_list PySem.F.slot_list_insert PySem.F.type_list_insert mt_insert (pv 10) (pa_cons (pv 12) (pa_cons (pv 7) pa_nil))))
      (pss_one (ps_dput (hu1 hr) (pv 11) (pv 7) (pe_tup (pa_cons (pv 9) (pa_cons (pe_and (pv 6) (pe_one (pe_cmp (pc_dnotin (hu1 hr) (pv 7) (pv 2)) rfl))) pa_nil))) rfl))))))
      (pss_one (ps_ret (pe_lc (own := [("mark", 7)]) rfl sc_Deeds_row.nd (listI (K := K) (pv 10)) (blkOk_by (N := N_Deeds_row) (sc := defScope s_Deeds_row) (by decide +kernel)) (fun _ _ _ _ _ => (pg_name (i := 7) sc_Deeds_row.nd rfl (Or.inl rfl))) (fun _ _ _ _ _ => pts_nil) (fun _ _ _ _ _ => (pe_op (catA (K := K)) (pe_tup (pa_cons (pv 7) pa_nil)) (pe_dget (hu1 hr) (pv 11) (pv 7) (fun _ _ => rfl))))))))))))), ?_⟩
  refine go_enter (n := 11) rr hlo ht kk rfl ?_
  show Go C Tb _ [.dat (objD (eL rows)), .dat (.str m), .un, .un, .un, .un, .un, .un, .un, .un, .un, .un, .un] _ (fun s => s = .own ((rowC (chgs rows m)).map eV))
  have hCl := hM.cl
  have hch := fun {c} hc => hM.chg (c := c) hc
  have hi5 : ∀ {cs : List Chg}, (∀ c, c ∈ cs → c ∈ chgs rows m) → ∀ c, c ∈ cs → (ins c.1 c.2.1).length ≤ 5 := fun hs => fnd_small hM hs
  have hRB := hM.rb.1
  have hcall : ∀ {E : XK} {te : TE} {ta : TA} {Γ : List Sl}, Ed C Tb te Γ (objD (eL rows)) → EA C Tb ta Γ [.str m] → Ef C Tb (tMeth C "changes" (spChanges C Tb) [] E te ta) Γ (.own ((chgs rows m).map eG)) := fun h1 h2 => ef_meth (rows, m) h1 h2 rfl hRB
  generalize chgs rows m = cs at hcs hCl hch hi5 hcall
  have hf5 := fnd_len (hi5 (cs := cs) fun c hc => hc)
  have hsl := srt_len cs
  refine gs ef_newT ?_
  refine gs (ef_lst ea_nil) ?_
  refine gfl cs eG (fun i => [.dat (objD (eL rows)), .dat (.str m), .dT (rmD (cs.take i)), .own ((fnd (cs.take i)).map eF), .un, .un, .un, .un, .un, .un, .un, .un, .un])
    (ei_list ((hcall (ed_var (by rfl)) (ea_cons (ed_var (by rfl)) ea_nil)).list)) (by walk_at "le") (fun i c hx => ⟨_, _, (tg_tup (tgs_cons (tgs_cons (tgs_cons tgs_nil)))), (by walk_at "no"), ?_⟩) ?_
  · obtain ⟨r', d', f', hr', rfl, hd', hm', hdm⟩ := hch (List.mem_of_getElem? hx)
    have hil := ins_len (r := (r' : Int)) hd'
    have hsub : ∀ c, c ∈ cs.take i → c ∈ cs := fun c hc => List.mem_of_mem_take hc
    have hti : (cs.take i).length ≤ 800 := by rw [List.length_take]; omega
    have hfl := fnd_len (hi5 hsub)
    have hrl := rmD_len (cs := cs.take i) (b := 10) (fun c hc => by
      obtain ⟨_, _, _, _, rfl, q, _⟩ := hch (hsub c hc)
      exact dB_rm q)
    have hr10 := dB_rm hd'
    have e1 : fnd (cs.take (i + 1)) = fnd (cs.take i) ++ insF ((r' : Int), d', f') := by rw [take_snoc hx, fnd_snoc]
    have e2 : rmD (cs.take (i + 1)) = rmD1 (rmD (cs.take i)) ((r' : Int), d', f') := by rw [take_snoc hx, rmD_snoc]
    rw [e1, e2]
    refine go_seq (go_extend (N := fun Γ' => Γ' = [.dat (objD (eL rows)), .dat (.str m), .dT (rmD (cs.take i)), .own ((fnd (cs.take i) ++ insF ((r' : Int), d', f')).map eF), .dat (.int (r' : Int)), .dat (eD d'), .dat (.bool f'), .un, .un, .un, .un, .un, .un]) (by rfl)
      ((ef_map (ins (r' : Int) d') eI (fun x => .tuple [eM x.1, eO x.2.1, .str x.2.2, .bool f']) ((ei_list ((ef_call ((r' : Int), d') (ea_cons (ed_var (by rfl)) (ea_cons (ed_var (by rfl)) ea_nil)) (by exact ⟨isM_C hm', dB_txt hd'⟩))).list)).c (by omega) (by walk_at "no") (fun x hx => ⟨_, _, (tg_tup (tgs_cons (tgs_cons (tgs_cons tgs_nil)))), (by decide), (by walk_at "no"), (ed_tup (ea_cons (ed_var (by rfl)) (ea_cons (ed_var (by rfl)) (ea_cons (ed_var (by rfl)) (ea_cons (ed_var (by rfl)) ea_nil)))))⟩))).es ?_ ?_) fun Γ' e => ?_
    · rw [List.length_map, List.length_map]
      omega
    · rw [List.map_append]
      unfold insF
      rw [List.map_map]
      rfl
    · subst e
      cases f' with
      | false =>
        refine go_if (et_B (ed_var (by rfl))) (fun hb => by cases hb) (fun hb => ?_)
        refine go_next ?_
        show Le _ [.dat (objD (eL rows)), .dat (.str m), .dT (rmD (cs.take i)), .own ((fnd (cs.take i) ++ insF ((r' : Int), d', false)).map eF), .un, .un, .un, .un, .un, .un, .un, .un, .un]
        walk_at "le"
      | true =>
        refine go_if (et_B (ed_var (by rfl))) (fun hb => ?_) (fun hb => by cases hb)
        obtain ⟨rm, bh, n, t, rfl⟩ := isM_chg hm'
        have hr10 : rm.length ≤ 10 := hr10
        have hdl : (dcl id (fun _ => PyData.bool true) rm).length ≤ rm.length := dcl_len _
        refine go_updT (by rfl) (ef_dcT rm eM id (fun _ => .bool true) ((ei_tup (ed_ixT (ds := [.str "change", .str m, .tuple (rm.map eM), eO bh, .int n, .str t]) (ed_var (by rfl)) ed_int (by walk_at "s")))).c (by omega) (by walk_at "no") (fun x hx => ⟨_, _, tg_name, (by decide), (by walk_at "no"), ed_var (by rfl), ed_bl⟩)) (Nat.le_trans (Nat.add_le_add (show (rmD (cs.take i)).length ≤ 8000 by omega) (Nat.le_trans (dcl_len _) hr10)) (by decide)) (.inr fun p hp => ?_) ?_
        · obtain ⟨k, hk, e⟩ := dcl_keys hp
          rw [e]
          exact kB_small (hdm k hk)
        · show Le _ [.dat (objD (eL rows)), .dat (.str m), .dT (mergeK putT (rmD (cs.take i)) (dcl id (fun _ => .bool true) rm)), .own ((fnd (cs.take i) ++ insF ((r' : Int), .chg m rm bh n t, true)).map eF), .un, .un, .un, .un, .un, .un, .un, .un, .un]
          walk_at "le"
  · rw [List.take_length]
    refine gs (ef_lst ea_nil) ?_
    refine gs ef_newT ?_
    refine go_frz (i := 3) (by rfl) ?_
    refine gfl (srt cs) eF (fun i => [.dat (objD (eL rows)), .dat (.str m), .dT (rmD cs), .dat (.list ((fnd cs).map eF)), .un, .un, .un, .un, .un, .un, .own ((plc ((srt cs).take i)).map eM), .dT (snD (rmL cs) ((srt cs).take i)), .un])
      (ei_list ((ef_sort0 (fnd cs) eF (fun x : FI => x.1) (fun x => [eO x.2.1, .str x.2.2.1, .bool x.2.2.2]) (fun _ _ => rfl) (ea_cons (ed_var (by rfl)) ea_nil) (by omega)).list)) (by walk_at "le") (fun i x hx => ⟨_, _, (tg_tup (tgs_cons (tgs_cons (tgs_cons (tgs_cons tgs_nil))))), (by walk_at "no"), ?_⟩) ?_
    · have hat := fun {b} hb => hCl.at hx (b := b) hb
      have hi : i < (srt cs).length := (List.getElem?_eq_some_iff.mp hx).1
      have hpl := plc_len ((srt cs).take i)
      rw [List.length_take] at hpl
      have e1 : plc ((srt cs).take (i + 1)) = plStep (plc ((srt cs).take i)) x := by rw [take_snoc hx, plc_snoc]
      have e2 : snD (rmL cs) ((srt cs).take (i + 1)) = putT (snD (rmL cs) ((srt cs).take i)) (kP x.1) (vF (rmL cs) x) := by rw [take_snoc hx]; exact dcl_snoc
      have hsn : (snD (rmL cs) ((srt cs).take i)).length ≤ ((srt cs).take i).length := dcl_len _
      rw [List.length_take] at hsn
      rw [e1, e2]
      obtain ⟨k, bh, ch, ff⟩ := x
      have hat : ∀ {b : M.Mk}, bh = some b → b ∈ plc ((srt cs).take i) := hat
      generalize plc ((srt cs).take i) = pl at hat hpl
      generalize snD (rmL cs) ((srt cs).take i) = sn at hsn
      refine gsd ed_int ?_
      refine go_seq (M := fun Γ' => Γ' = [.dat (objD (eL rows)), .dat (.str m), .dT (rmD cs), .dat (.list ((fnd cs).map eF)), .un, .un, .dat (.bool ff), .dat (eM k), .dat (eO bh), .dat (.str ch), .own (pl.map eM), .dT sn, .dat (.int (plAt pl bh : Int))]) ?_ fun Γ' e => ?_
      · cases bh with
        | none =>
          refine go_if (b := false) ((et_B (er_notN ((ed_var (by rfl))).er)).is (by rfl)) (fun hb => by cases hb) (fun hb => go_next ?_)
          rfl
        | some b =>
          have hb := hat rfl
          have hidx : pl.idxOf b < pl.length := List.idxOf_lt_length_iff.mpr hb
          have hget : pl[pl.idxOf b]? = some b := by
            rw [List.getElem?_eq_getElem hidx, List.getElem_idxOf hidx]
          refine go_if (b := true) ((et_B (er_notN ((ed_var (by rfl))).er)).is (by rfl)) (fun hb => ?_) (fun hb => by cases hb)
          refine go_setd (ed_i0 (es_indexD (j := pl.idxOf b) (z := eM b) (es_own (by rfl)) (ed_var (by rfl)) (plnA_eM pl) rfl ?_ ((lay_eM (n := 0) b).shaped (by decide)) (by rw [List.getElem?_map, hget]; rfl) (by rw [eqv_eM, decide_eq_true rfl]) ?_) ed_int) ?_
          · exact (lay_lst (n := 1) (lay_map fun k _ => lay_eM k)).shaped (by decide)
          · intro q z hq hz
            rw [List.getElem?_map] at hz
            obtain ⟨y, hy, e⟩ := Option.map_eq_some_iff.mp hz
            rw [← e, eqv_eM]
            refine decide_eq_false fun hyb => ?_
            obtain ⟨hql, hyq⟩ := List.getElem?_eq_some_iff.mp hy
            have := List.not_of_lt_findIdx (xs := pl) (p := (· == b)) (i := q) hq
            rw [hyq, hyb] at this
            simp at this
          · rfl
      · subst e
        have hplt : plAt pl bh ≤ pl.length := by
          unfold plAt
          cases bh with
          | none => exact Nat.zero_le _
          | some b => exact List.idxOf_lt_length_iff.mpr (hat rfl)
        refine go_seq (go_insert (N := fun Γ' => Γ' = [.dat (objD (eL rows)), .dat (.str m), .dT (rmD cs), .dat (.list ((fnd cs).map eF)), .un, .un, .dat (.bool ff), .dat (eM k), .dat (eO bh), .dat (.str ch), .own ((plStep pl (k, bh, ch, ff)).map eM), .dT sn, .dat (.int (plAt pl bh : Int))]) (by rfl) (ed_var (by rfl)) (ed_var (by rfl)) (by rw [List.length_map]; omega) (by omega) (by omega) ?_) fun Γ' e => ?_
        · rw [Int.toNat_natCast]
          unfold plStep
          rw [List.map_append, List.map_append, List.map_take, List.map_drop]
          rfl
        · subst e
          refine go_dputT (m := k) (by rfl) (ed_tup (ea_cons (ed_var (by rfl)) (ea_cons ((ed_andV (b := !decide (k ∈ rmL cs)) (ed_var (by rfl)) (fun hb => ((ed_nidT (m := k) (by rfl) (ed_var (by rfl))).is (by rw [rmD_some]))))) ea_nil))) (ed_var (by rfl)) (by omega) ?_
          show Le _ [.dat (objD (eL rows)), .dat (.str m), .dT (rmD cs), .dat (.list ((fnd cs).map eF)), .un, .un, .un, .un, .un, .un, .own ((plStep pl (k, bh, ch, ff)).map eM), .dT (putT sn (kP k) (vF (rmL cs) (k, bh, ch, ff))), .un]
          walk_at "le"
    · rw [List.take_length]
      have hpl := plc_len (srt cs)
      refine go_ret ((ef_map (plc (srt cs)) eM (fun k => eV (rowAt (rmL cs) (srt cs) k)) (ec_own (es_own (by rfl))) (by omega) (by walk_at "no") (fun k hx => ⟨_, _, tg_name, (by decide), (by walk_at "no"), ?_⟩)).is (by unfold rowC; rw [List.map_map]; rfl)) rfl
      obtain ⟨y, h1, h2⟩ := lkF_some ((plc_mem k (srt cs)).mp hx)
      have hv : valT (snD (rmL cs) (srt cs)) (kP k) = some (vF (rmL cs) y) := by rw [snD_val, h1]; rfl
      have er : eV (rowAt (rmL cs) (srt cs) k) = .tuple ([eM k] ++ [.str y.2.2.1, .bool (y.2.2.2 && !decide (y.1 ∈ rmL cs))]) := by
        unfold rowAt
        rw [h1]
        rfl
      rw [er]
      exact ed_catT (ed_tup (ea_cons (ed_var (by rfl)) ea_nil)) (ed_dgetT (m := k) (by rfl) (ed_var (by rfl)) hv) (show 1 + 2 ≤ sizeLine by decide)
theorem sgn_len (t : Str) (i : Nat) : ((sgn t).getD i Str.empty).length ≤ 1 := by
  rw [List.getD_eq_getElem?_getD]
  cases h : (sgn t)[i]? with
  | none => exact Nat.zero_le _
  | some z =>
    unfold sgn at h
    rw [List.getElem?_map] at h
    obtain ⟨c, _, e⟩ := Option.map_eq_some_iff.mp h
    rw [← e]
    exact Nat.le_refl 1
theorem fnd_ch {cs : List Chg} {x : FI} (h : x ∈ fnd cs) : x.2.2.1.length ≤ 1 := by
  unfold fnd at h
  rw [List.mem_flatten] at h
  obtain ⟨l, h1, h2⟩ := h
  obtain ⟨c, _, rfl⟩ := List.mem_map.mp h1
  obtain ⟨y, hy, rfl⟩ := List.mem_map.mp h2
  cases hd : c.2.1 with
  | bck p => rw [hd] at hy; cases hy
  | chg m rm bh n t =>
    rw [hd] at hy
    obtain ⟨i, _, rfl⟩ := List.mem_map.mp hy
    exact sgn_len t i
theorem rowC_ch {cs : List Chg} {x : RI} (h : x ∈ rowC cs) : x.2.1.length ≤ 1 := by
  obtain ⟨k, _, rfl⟩ := List.mem_map.mp h
  unfold rowAt
  cases q : lkF (srt cs) k with
  | none => exact Nat.zero_le _
  | some y =>
    unfold lkF at q
    exact fnd_ch ((srt_mem cs y).mp (List.mem_reverse.mp (List.mem_of_find?_eq_some q)))
def txtL (rows : Rws) (m : Str) : List Str := ((rowP rows m).filter fun x => x.2.2).map fun x => x.2.1
def txtP (rows : Rws) (m : Str) : Str := Txt.join "" (txtL rows m)
theorem sum_le1 : ∀ (l : List Str), (∀ x, x ∈ l → x.length ≤ 1) → (l.map fun x => x.length).sum ≤ l.length
  | [], _ => Nat.le_refl _
  | a :: r, h => by
    have h1 := h a List.mem_cons_self
    have h2 := sum_le1 r fun x hx => h x (List.mem_cons_of_mem _ hx)
    rw [List.map_cons, List.sum_cons, List.length_cons]
    omega
theorem rowP_len {rows : Rws} {m : Str} (h : RM rows m) : (rowP rows m).length ≤ 4000 := by
  unfold rowP rowC
  rw [List.length_map, plc_len, srt_len]
  have h1 := fnd_len (fnd_small h (cs := chgs rows m) fun c hc => hc)
  have h2 := chgs_len h.rb.1 m
  omega
def spText (C : Addr) (Tb : Tab) : Sp := spF C Tb (fun x : Rws × Str => [objD (eL x.1), .str x.2]) (fun x => RM x.1 x.2) (fun x => .dat (.str (txtP x.1 x.2)))
theorem w_text (F : MDef K C "text" "Deeds.text" s_Deeds_text ["self", "module"]) (T : Txt K mg C) (c_row : Met P w K mg base 3 C "row" (spRow C Tb)) : Met P w K mg base 4 C "text" (spText C Tb) := by
  refine F.met T.cl sc_Deeds_text (sp_len fun _ => rfl) fun f cdv A outer s H vs Q E hr h => ?_
  obtain ⟨⟨rows, m⟩, lo, rr, hlo, ht, hM0, kk⟩ := h
  have hM : RM rows m := hM0
  refine ⟨_, (pss_one (ps_ret (pe_join pe_str (pe_lc (own := [("_", 2), ("char", 3), ("seen", 4)]) rfl sc_Deeds_text.nd (listI (K := K) (pe_mt c_row (hr.mono (by omega)) (pv 0) (pa_cons (pv 1) pa_nil))) (blkOk_by (N := N_Deeds_text) (sc := defScope s_Deeds_text) (by decide +kernel)) (fun _ _ _ _ _ => (tupK (K := K) (n := 3) rfl (pgs_cons (pg_name (i := 2) sc_Deeds_text.nd rfl (Or.inl rfl)) (pgs_cons (pg_name (i := 3) sc_Deeds_text.nd rfl (Or.inl rfl)) (pgs_cons (pg_name (i := 4) sc_Deeds_text.nd rfl (Or.inl rfl)) pgs_nil))))) (fun _ _ _ _ _ => (pts_one (pt_val (pv 4)))) (fun _ _ _ _ _ => (pv 3)))))), ?_⟩
  refine go_enter (n := 3) rr hlo ht kk rfl ?_
  show Go C Tb _ [.dat (objD (eL rows)), .dat (.str m), .un, .un, .un] _ (fun s => s = .dat (.str (txtP rows m)))
  have hl := rowP_len hM
  have hf : (txtL rows m).length ≤ 4000 := by
    unfold txtL
    rw [List.length_map]
    exact Nat.le_trans (List.length_filter_le _ _) hl
  have hs := sum_le1 (txtL rows m) fun x hx => by
    obtain ⟨y, hy, rfl⟩ := List.mem_map.mp hx
    exact rowC_ch (List.mem_filter.mp hy).1
  refine go_retd (es_join ed_str (((ef_lc (rowP rows m) eV (fun x => x.2.2) (fun x => .str x.2.1) ((ei_list ((ef_meth (rows, m) (ed_var (by rfl)) (ea_cons (ed_var (by rfl)) ea_nil) rfl (by exact hM)).list)).c) (by omega) (by walk_at "no") (fun x hx => ⟨_, _, (tg_tup (tgs_cons (tgs_cons (tgs_cons tgs_nil)))), (by decide), (by walk_at "no"), (et_B (ed_var (by rfl))), fun hp => (ed_var (by rfl))⟩))).is (show _ = Sl.own ((txtL rows m).map .str) by unfold txtL; rw [List.map_map]; rfl)).es ?_) rfl
  have e : ("" : Str).length = 0 := by decide +kernel
  rw [e, Nat.mul_zero, Nat.add_zero]
  exact Nat.le_trans hs (by omega)
end
end G

set_option maxRecDepth 100000
set_option maxHeartbeats 4000000
/-! walks, part 9: the law's row, fits -/
namespace M
open PySem G
open L2 (atI)
theorem any_eqv (l : List M.Mk) (k : M.Mk) : ((l.map eM).any fun z => PyData.eqv z (eM k)) = decide (k ∈ l) := by
  rw [List.any_map]
  induction l with
  | nil => rfl
  | cons a r ih =>
    rw [List.any_cons, ih]
    show (PyData.eqv (eM a) (eM k) || _) = _
    rw [eqv_eM]
    by_cases h1 : a = k
    · rw [decide_eq_true h1, decide_eq_true (show k ∈ a :: r by rw [h1]; exact List.mem_cons_self)]; rfl
    · by_cases h2 : k ∈ r
      · rw [decide_eq_true h2, Bool.or_true, decide_eq_true (List.mem_cons_of_mem _ h2)]
      · rw [decide_eq_false h1, decide_eq_false h2, decide_eq_false fun q => ?_]; rfl
        rcases List.mem_cons.mp q with q | q
        · exact h1 q.symm
        · exact h2 q
def riOf (R : List M.Mk) (x : FI) : RI := (x.1, x.2.2.1, x.2.2.2 && !decide (x.1 ∈ R))
def rlStep (R : List M.Mk) (l : List RI) (x : FI) : List RI := l.take (plAt (l.map fun y => y.1) x.2.1) ++ [riOf R x] ++ l.drop (plAt (l.map fun y => y.1) x.2.1)
def rlc (R : List M.Mk) (xs : List FI) : List RI := xs.foldl (rlStep R) []
theorem rlc_snoc (R : List M.Mk) (xs : List FI) (x : FI) : rlc R (xs ++ [x]) = rlStep R (rlc R xs) x := by
  unfold rlc
  rw [List.foldl_append]
  rfl
theorem rlc_marks (R : List M.Mk) (xs : List FI) : (rlc R xs).map (fun y => y.1) = plc xs := by
  refine snoc_ind (P := fun xs => (rlc R xs).map (fun y => y.1) = plc xs) rfl (fun l x ih => ?_) xs
  rw [rlc_snoc, plc_snoc]
  unfold rlStep plStep
  rw [List.map_append, List.map_append, List.map_take, List.map_drop, ih]
  rfl
def rowL (rows : Rws) (m : Str) : List RI := rlc (rmL (chgs rows m)) (srt (chgs rows m))


theorem rowL_marks (rows : Rws) (m : Str) : (rowL rows m).map (fun y => y.1) = mks rows m := rlc_marks _ _
end M
namespace G
open PySem L2 M
local macro_rules | `(tactic| walk_at "s") => `(tactic| first | rfl | assumption | decide | omega | exact Or.inr ⟨by omega, by omega⟩ | exact Or.inl ⟨by omega, by omega⟩ | exact ⟨by omega, by omega⟩)
local macro_rules | `(tactic| walk_at "le") => `(tactic| (repeat (first | exact Le.nil | refine Le.eq ?_ | refine Le.un ?_)))
local macro_rules | `(tactic| walk_at "no") => `(tactic| (repeat (first | exact no_nil | refine no_cons rfl ?_)))
abbrev s__law_row : Stmt := topS 21
abbrev N__law_row : List Str := ["_law_rows", "_law_module", "_law_removed", "_law_found", "_law_replica", "_law_deed_here", "_law_force", "_law_mark", "_law_behind", "_law_char", "_law_row_here", "_law_at_here", "_law_each"]
theorem sc__law_row : FnScope N__law_row ["_law_rows", "_law_module"] (defScope s__law_row) := ⟨rfl, rfl, rfl, by decide +kernel, rfl, by decide +kernel, by decide +kernel⟩
abbrev s__law_fits : Stmt := topS 28
abbrev N__law_fits : List Str := ["_law_rows", "_law_replica", "_law_deed_here", "_law_earlier", "_law_marks", "_law_other", "_law_change", "_law_force", "_law_each", "_law_mark"]
theorem sc__law_fits : FnScope N__law_fits ["_law_rows", "_law_replica", "_law_deed_here"] (defScope s__law_fits) := ⟨rfl, rfl, rfl, by decide +kernel, rfl, by decide +kernel, by decide +kernel⟩
section
variable {P : Program} {w : World} {K : PySem.W.Frag} {mg : Str → Option Value} {base : Heap} {C : Addr} {Tb : Tab} {c2 P2 : Addr}
def lamQ2 : Str := "_law_row" ++ ".<locals>." ++ "<lambda>"
def AS' (rows : Rws) : Prop := ∀ r, r ∈ rows → ∀ d, d ∈ r → dS d
def spRowL (C : Addr) (Tb : Tab) : Sp := spF C Tb (fun x : Rws × Str => [.list (eL x.1), .str x.2]) (fun x => RM x.1 x.2 ∧ AS' x.1) (fun x => .own ((rowL x.1 x.2).map eV))
theorem w_law_row (F : DefL K mg "_law_row" s__law_row ["_law_rows", "_law_module"] c2) (T : Txt K mg C) (TB : LamX.TabB base mg c2 P2) (tt : TabT Tb P2 lamQ2) (c__law_changes : Cal P w K mg base 2 "_law_changes" (spChangesL C Tb)) (c__law_inserted : Cal P w K mg base 1 "_law_inserted" (spIns C Tb)) : Cal P w K mg base 3 "_law_row" (spRowL C Tb) := by
  refine F.cal sc__law_row (sp_len fun _ => rfl) fun f A outer s H vs Q E hr h => ?_
  obtain ⟨⟨rows, m⟩, lo, rr, hlo, ht, ⟨hM0, hS0⟩, kk⟩ := h
  have hM : RM rows m := hM0
  have hS : AS' rows := hS0
  have hcs := chgs_len hM.rb.1 m
  refine ⟨_, (pss_cons (ps_set (i := 2) sc__law_row.nd rfl (Or.inl rfl) (pe_lst pa_nil))
      (pss_cons (ps_set (i := 3) sc__law_row.nd rfl (Or.inl rfl) (pe_lst pa_nil))
      (pss_cons (ps_for PassesOwn.never rfl (listI (K := K) (pe_c c__law_changes (hr.mono (by omega)) (by rfl) (pa_cons (pv 0) (pa_cons (pv 1) pa_nil)))) (tupK (K := K) (n := 3) rfl (pgs_cons (pg_name (i := 4) sc__law_row.nd rfl (Or.inl rfl)) (pgs_cons (pg_name (i := 5) sc__law_row.nd rfl (Or.inl rfl)) (pgs_cons (pg_name (i := 6) sc__law_row.nd rfl (Or.inl rfl)) pgs_nil)))) (pss_cons (ps_for PassesOwn.never rfl (listI (K := K) (pe_c c__law_inserted (hr.mono (by omega)) (by rfl) (pa_cons (pv 4) (pa_cons (pv 5) pa_nil)))) (tupK (K := K) (n := 3) rfl (pgs_cons (pg_name (i := 7) sc__law_row.nd rfl (Or.inl rfl)) (pgs_cons (pg_name (i := 8) sc__law_row.nd rfl (Or.inl rfl)) (pgs_cons (pg_name (i := 9) sc__law_row.nd rfl (Or.inl rfl)) pgs_nil)))) (pss_one (ps_expr (bmK (K := K) PySem.F.plainAttrs_list PySem.F.slot_list_append PySem.F.type_list_append mt_append (pv 3) (pa_cons (pe_tup (pa_cons (pv 7) (pa_cons (pv 8) (pa_cons (pv 9) (pa_cons (pv 6) pa_nil))))) pa_nil)))))
      (pss_one (ps_if (pt_val (pv 6)) (pss_one (ps_set (i := 2) sc__law_row.nd rfl (Or.inl rfl) (pe_op op_cat (pv 2) (pe_callTy (listQ (K := K)) (by rfl) T.m_list (by decide +kernel) (pa_cons (pe_ix (ixT (K := K)) (pv 5) pe_int (fun _ _ => rfl)) pa_nil))))) pss_nil))))
      (pss_cons (ps_set (i := 10) sc__law_row.nd rfl (Or.inl rfl) (pe_lst pa_nil))
      (pss_cons (ps_for PassesOwn.never rfl (listI (K := K) (sort0K (K := K) (by rfl) T.m_sorted TB rfl tt.mem tt.un (hu64 hr) (hdp hr) (pa_cons (pv 3) pa_nil))) (tupK (K := K) (n := 4) rfl (pgs_cons (pg_name (i := 7) sc__law_row.nd rfl (Or.inl rfl)) (pgs_cons (pg_name (i := 8) sc__law_row.nd rfl (Or.inl rfl)) (pgs_cons (pg_name (i := 9) sc__law_row.nd rfl (Or.inl rfl)) (pgs_cons (pg_name (i := 6) sc__law_row.nd rfl (Or.inl rfl)) pgs_nil))))) (pss_cons (ps_set (i := 11) sc__law_row.nd rfl (Or.inl rfl) pe_int)
      (pss_cons (ps_if (pt_cmp (pc_notN (pv 8))) (pss_one (ps_set (i := 11) sc__law_row.nd rfl (Or.inl rfl) (pe_op op_add (bmK (K := K) PySem.F.plainAttrs_list PySem.F.slot_list_index PySem.F.type_list_index (indexD (K := K) (hu65 hr)) (pe_lc (own := [("_law_each", 12)]) rfl sc__law_row.nd (listI (K := K) (pv 10)) (blkOk_by (N := N__law_row) (sc := defScope s__law_row) (by decide +kernel)) (fun _ _ _ _ _ => (pg_name (i := 12) sc__law_row.nd rfl (Or.inl rfl))) (fun _ _ _ _ _ => pts_nil) (fun _ _ _ _ _ => (pe_ix (ixT (K := K)) (pv 12) pe_int (fun _ _ => rfl)))) (pa_cons (pv 8) pa_nil)) pe_int))) pss_nil)
      (pss_one (ps_expr (bmK (K := K) PySem.F.plainAttrs_list PySem.F.slot_list_insert PySem.F.type_list_insert mt_insert (pv 10) (pa_cons (pv 11) (pa_cons (pe_tup (pa_cons (pv 7) (pa_cons (pv 9) (pa_cons (pe_and (pv 6) (pe_one (pe_cmpR (notInD (K := K) (hu65 hr)) (pv 7) (pv 2) (by rfl)))) pa_nil)))) pa_nil))))))))
      (pss_one (ps_ret (pv 10)))))))), ?_⟩
  refine go_enter (n := 11) rr hlo ht kk rfl ?_
  show Go C Tb _ [.dat (.list (eL rows)), .dat (.str m), .un, .un, .un, .un, .un, .un, .un, .un, .un, .un, .un] _ (fun s => s = .own ((rlc (rmL (chgs rows m)) (srt (chgs rows m))).map eV))
  have hCl := hM.cl
  have hch := fun {c} hc => hM.chg (c := c) hc
  have hi5 : ∀ {cs : List Chg}, (∀ c, c ∈ cs → c ∈ chgs rows m) → ∀ c, c ∈ cs → (ins c.1 c.2.1).length ≤ 5 := fun hs => fnd_small hM hs
  have hRB := hM.rb.1
  have hcall : ∀ {E : XK} {ta : TA} {Γ : List Sl}, EA C Tb ta Γ [.list (eL rows), .str m] → Ef C Tb (tCall (spChangesL C Tb) [] E ta) Γ (.own ((chgs rows m).map eG)) := fun h1 => ef_call (rows, m) h1 ⟨hRB, hS⟩
  generalize chgs rows m = cs at hcs hCl hch hi5 hcall
  have hf5 := fnd_len (hi5 (cs := cs) fun c hc => hc)
  have hsl := srt_len cs
  have hrm : ∀ {l : List Chg}, (∀ c, c ∈ l → c ∈ cs) → (rmL l).length ≤ 10 * l.length := fun {l} hl => by
    refine snoc_ind (P := fun l => (∀ c, c ∈ l → c ∈ cs) → (rmL l).length ≤ 10 * l.length) (fun _ => Nat.zero_le _) (fun l c ih h => ?_) l hl
    rw [rmL_snoc, List.length_append, List.length_append]
    have h1 := ih fun x hx => h x (List.mem_append_left _ hx)
    obtain ⟨_, d2, _, _, rfl, q, _⟩ := hch (h c (List.mem_append_right _ (List.mem_singleton.mpr rfl)))
    have h2 : (rmOf d2).length ≤ 10 := dB_rm q
    split
    · show _ + (rmOf d2).length ≤ 10 * (l.length + 1)
      omega
    · show _ + 0 ≤ 10 * (l.length + 1)
      omega
  refine gs (ef_lst ea_nil) ?_
  refine gs (ef_lst ea_nil) ?_
  refine gfl cs eG (fun i => [.dat (.list (eL rows)), .dat (.str m), .own ((rmL (cs.take i)).map eM), .own ((fnd (cs.take i)).map eF), .un, .un, .un, .un, .un, .un, .un, .un, .un])
    (ei_list ((hcall (ea_cons (ed_var (by rfl)) (ea_cons (ed_var (by rfl)) ea_nil))).list)) (by walk_at "le") (fun i c hx => ⟨_, _, (tg_tup (tgs_cons (tgs_cons (tgs_cons tgs_nil)))), (by walk_at "no"), ?_⟩) ?_
  · obtain ⟨r', d', f', hr', rfl, hd', hm', hdm⟩ := hch (List.mem_of_getElem? hx)
    have hil := ins_len (r := (r' : Int)) hd'
    have hsub : ∀ c, c ∈ cs.take i → c ∈ cs := fun c hc => List.mem_of_mem_take hc
    have hti : (cs.take i).length ≤ 800 := by rw [List.length_take]; omega
    have hfl := fnd_len (hi5 hsub)
    have hrl := hrm hsub
    have hr10 := dB_rm hd'
    have e1 : fnd (cs.take (i + 1)) = fnd (cs.take i) ++ insF ((r' : Int), d', f') := by rw [take_snoc hx, fnd_snoc]
    have e2 : rmL (cs.take (i + 1)) = rmL (cs.take i) ++ (if f' = true then rmOf d' else []) := by rw [take_snoc hx, rmL_snoc]
    rw [e1, e2]
    have einsF : insF ((r' : Int), d', f') = (ins (r' : Int) d').map fun x => (x.1, x.2.1, x.2.2, f') := rfl
    refine gfl (ins (r' : Int) d') eI (fun j => [.dat (.list (eL rows)), .dat (.str m), .own ((rmL (cs.take i)).map eM), .own ((fnd (cs.take i) ++ (insF ((r' : Int), d', f')).take j).map eF), .dat (.int (r' : Int)), .dat (eD d'), .dat (.bool f'), .un, .un, .un, .un, .un, .un])
      (ei_list ((ef_call ((r' : Int), d') (ea_cons (ed_var (by rfl)) (ea_cons (ed_var (by rfl)) ea_nil)) (by exact ⟨isM_C hm', dB_txt hd'⟩))).list) (by rw [List.take_zero, List.append_nil]; walk_at "le") (fun j x hxj => ⟨_, _, (tg_tup (tgs_cons (tgs_cons (tgs_cons tgs_nil)))), (by walk_at "no"), ?_⟩) ?_
    · have e3 : (insF ((r' : Int), d', f')).take (j + 1) = (insF ((r' : Int), d', f')).take j ++ [(x.1, x.2.1, x.2.2, f')] := take_snoc (by rw [einsF, List.getElem?_map, hxj]; rfl)
      have h5 : (insF ((r' : Int), d', f')).length ≤ 5 := by rw [einsF, List.length_map]; exact hil
      rw [e3, ← List.append_assoc]
      refine go_app (by rfl) (ed_tup (ea_cons (ed_var (by rfl)) (ea_cons (ed_var (by rfl)) (ea_cons (ed_var (by rfl)) (ea_cons (ed_var (by rfl)) ea_nil))))) ?_ ?_
      · rw [List.length_map, List.length_append, List.length_take]
        omega
      · rw [List.map_append (l₂ := [_])]
        walk_at "le"
    · have e4 : (insF ((r' : Int), d', f')).take (ins (r' : Int) d').length = insF ((r' : Int), d', f') := List.take_of_length_le (by rw [einsF, List.length_map]; exact Nat.le_refl _)
      rw [e4]
      cases f' with
      | false =>
        refine go_if (et_B (ed_var (by rfl))) (fun hb => by cases hb) (fun hb => go_next ?_)
        rw [if_neg (by decide), List.append_nil]
        walk_at "le"
      | true =>
        refine go_if (et_B (ed_var (by rfl))) (fun hb => ?_) (fun hb => by cases hb)
        obtain ⟨rm, bh, n, t, rfl⟩ := isM_chg hm'
        have hr10 : rm.length ≤ 10 := hr10
        refine go_set (es_cat (es_own (by rfl)) ((ed_listOfT (ed_ixT (ds := [.str "change", .str m, .tuple (rm.map eM), eO bh, .int n, .str t]) (ed_var (by rfl)) ed_int (by walk_at "s")))).es ?_) ?_
        · rw [List.length_map, List.length_map]
          exact Nat.le_of_lt (sz (by omega))
        · have e6 : (rmL (cs.take i) ++ rmOf (.chg m rm bh n t)).map eM = (rmL (cs.take i)).map eM ++ rm.map eM := by rw [List.map_append]; rfl
          rw [if_pos rfl, e6]
          walk_at "le"
  · rw [List.take_length]
    refine gs (ef_lst ea_nil) ?_
    refine go_frz (i := 3) (by rfl) ?_
    have hrm' := hrm (l := cs) fun c hc => hc
    refine gfl (srt cs) eF (fun i => [.dat (.list (eL rows)), .dat (.str m), .own ((rmL cs).map eM), .dat (.list ((fnd cs).map eF)), .un, .un, .un, .un, .un, .un, .own ((rlc (rmL cs) ((srt cs).take i)).map eV), .un, .un])
      (ei_list ((ef_sort0 (fnd cs) eF (fun x : FI => x.1) (fun x => [eO x.2.1, .str x.2.2.1, .bool x.2.2.2]) (fun _ _ => rfl) (ea_cons (ed_var (by rfl)) ea_nil) (by omega)).list)) (by walk_at "le") (fun i x hx => ⟨_, _, (tg_tup (tgs_cons (tgs_cons (tgs_cons (tgs_cons tgs_nil))))), (by walk_at "no"), ?_⟩) ?_
    · have hat := fun {b} hb => hCl.at hx (b := b) hb
      have hi : i < (srt cs).length := (List.getElem?_eq_some_iff.mp hx).1
      have hpl := plc_len ((srt cs).take i)
      rw [List.length_take] at hpl
      have hmk := rlc_marks (rmL cs) ((srt cs).take i)
      have e1 : rlc (rmL cs) ((srt cs).take (i + 1)) = rlStep (rmL cs) (rlc (rmL cs) ((srt cs).take i)) x := by rw [take_snoc hx, rlc_snoc]
      rw [e1]
      obtain ⟨k, bh, ch, ff⟩ := x
      have hat : ∀ {b : M.Mk}, bh = some b → b ∈ plc ((srt cs).take i) := hat
      rw [← hmk] at hat hpl
      rw [List.length_map] at hpl
      generalize rlc (rmL cs) ((srt cs).take i) = rl at hat hpl
      refine gsd ed_int ?_
      refine go_seq (M := fun Γ' => Γ' = [.dat (.list (eL rows)), .dat (.str m), .own ((rmL cs).map eM), .dat (.list ((fnd cs).map eF)), .un, .un, .dat (.bool ff), .dat (eM k), .dat (eO bh), .dat (.str ch), .own (rl.map eV), .dat (.int (plAt (rl.map fun y => y.1) bh : Int)), .un]) ?_ fun Γ' e => ?_
      · cases bh with
        | none =>
          refine go_if (b := false) ((et_B (er_notN ((ed_var (by rfl))).er)).is (by rfl)) (fun hb => by cases hb) (fun hb => go_next ?_)
          rfl
        | some b =>
          have hb := hat rfl
          have hidx : (rl.map fun y => y.1).idxOf b < (rl.map fun y => y.1).length := List.idxOf_lt_length_iff.mpr hb
          have hget : (rl.map fun y => y.1)[(rl.map fun y => y.1).idxOf b]? = some b := by
            rw [List.getElem?_eq_getElem hidx, List.getElem_idxOf hidx]
          have el : rl.map (fun y => eM y.1) = (rl.map fun y => y.1).map eM := by rw [List.map_map]; rfl
          refine go_if (b := true) ((et_B (er_notN ((ed_var (by rfl))).er)).is (by rfl)) (fun hb => ?_) (fun hb => by cases hb)
          refine go_setd (ed_i0 (es_indexD (ds := (rl.map fun y => y.1).map eM) (j := (rl.map fun y => y.1).idxOf b) (z := eM b) (((ef_map rl eV (fun y => eM y.1) (ec_own (es_own (by rfl))) (by omega) (by walk_at "no") (fun x hx => ⟨_, _, tg_name, (by decide), (by walk_at "no"), (ed_ixT (ds := [eM x.1, .str x.2.1, .bool x.2.2]) (ed_var (by rfl)) ed_int (by walk_at "s"))⟩)).is (by rw [el])).es) (ed_var (by rfl)) (plnA_eM _) rfl ?_ ((lay_eM (n := 0) b).shaped (by decide)) (by rw [List.getElem?_map, hget]; rfl) (by rw [eqv_eM, decide_eq_true rfl]) ?_) ed_int) ?_
          · exact (lay_lst (n := 1) (lay_map fun k _ => lay_eM k)).shaped (by decide)
          · intro q z hq hz
            rw [List.getElem?_map] at hz
            obtain ⟨y, hy, e⟩ := Option.map_eq_some_iff.mp hz
            rw [← e, eqv_eM]
            refine decide_eq_false fun hyb => ?_
            obtain ⟨hql, hyq⟩ := List.getElem?_eq_some_iff.mp hy
            have := List.not_of_lt_findIdx (xs := rl.map fun y : RI => y.1) (p := (· == b)) (i := q) hq
            rw [hyq, hyb] at this
            simp at this
          · rfl
      · subst e
        have hplt : plAt (rl.map fun y => y.1) bh ≤ rl.length := by
          unfold plAt
          cases bh with
          | none => exact Nat.zero_le _
          | some b =>
            have : (rl.map fun y => y.1).idxOf b < (rl.map fun y => y.1).length := List.idxOf_lt_length_iff.mpr (hat rfl)
            rw [List.length_map] at this
            exact this
        refine go_insert (by rfl) (ed_var (by rfl)) (ed_tup (ea_cons (ed_var (by rfl)) (ea_cons (ed_var (by rfl)) (ea_cons (ed_andV (b := !decide (k ∈ rmL cs)) (ed_var (by rfl)) (fun hb => (er_notInD ((ed_var (by rfl))).er ((es_own (by rfl))).er rfl ?_ ((lay_eM (n := 0) k).shaped (by decide)) ?_).is (by rw [any_eqv]))) ea_nil)))) (by rw [List.length_map]; omega) (by omega) (by omega) ?_
        · exact plnA_eM _
        · exact (lay_lst (n := 1) (lay_map fun k _ => lay_eM k)).shaped (by decide)
        · rw [Int.toNat_natCast]
          have e5 : (rlStep (rmL cs) rl (k, bh, ch, ff)).map eV = (rl.map eV).take (plAt (rl.map fun y => y.1) bh) ++ [.tuple [eM k, .str ch, .bool (ff && !decide (k ∈ rmL cs))]] ++ (rl.map eV).drop (plAt (rl.map fun y => y.1) bh) := by
            unfold rlStep
            rw [List.map_append, List.map_append, List.map_take, List.map_drop]
            rfl
          rw [e5]
          walk_at "le"
    · rw [List.take_length]
      exact go_retv (by rfl) (by simp) rfl
end
end G

set_option maxRecDepth 100000
set_option maxHeartbeats 4000000
/-! walks, part 10: the law's fits, first, received -/
namespace M
open PySem G
open L2 (atI)
def badO (n : Int) (Ks : List M.Mk) : Option M.Mk → Bool
  | none => false
  | some k => !decide (k ∈ Ks) || decide (k.1 ≥ n)
theorem badO_all (n : Int) (Ks : List M.Mk) (rm : List M.Mk) (bh : Option M.Mk) : ((rm.map some ++ [bh]).any (badO n Ks)) = !((rm ++ bh.toList).all fun k => decide (k ∈ Ks) && decide (k.1 < n)) := by
  have one : ∀ k : M.Mk, badO n Ks (some k) = !(decide (k ∈ Ks) && decide (k.1 < n)) := fun k => by
    show (!decide (k ∈ Ks) || decide (k.1 ≥ n)) = _
    by_cases h1 : k ∈ Ks
    · by_cases h2 : k.1 < n
      · rw [decide_eq_true h1, decide_eq_true h2, decide_eq_false (show ¬ k.1 ≥ n by omega)]; rfl
      · rw [decide_eq_true h1, decide_eq_false h2, decide_eq_true (show k.1 ≥ n by omega)]; rfl
    · rw [decide_eq_false h1]; rfl
  have many : ∀ l : List M.Mk, (l.map some).any (badO n Ks) = !(l.all fun k => decide (k ∈ Ks) && decide (k.1 < n)) := by
    intro l
    induction l with
    | nil => rfl
    | cons a r ih =>
      rw [List.map_cons, List.any_cons, List.all_cons, ih, one]
      exact (Bool.not_and _ _).symm
  rw [List.any_append, List.all_append, many, Bool.not_and]
  congr 1
  cases bh with
  | none => rfl
  | some k =>
    show (badO n Ks (some k) || false) = !((decide (k ∈ Ks) && decide (k.1 < n)) && true)
    rw [one, Bool.or_false, Bool.and_true]
theorem head_eq (n : Int) (l : Nat) : (decide (n < 1) || (decide ((l : Int) < 1) || decide ((l : Int) > 40))) = (decide (n < 1) || !(decide ((1 : Int) ≤ (l : Int)) && decide ((l : Int) ≤ 40))) := by
  congr 1
  by_cases h1 : (l : Int) < 1
  · rw [decide_eq_true h1, decide_eq_false (show ¬ (1 : Int) ≤ (l : Int) by omega)]; rfl
  · by_cases h2 : (l : Int) > 40
    · rw [decide_eq_true h2, decide_eq_false (show ¬ (l : Int) ≤ 40 by omega), Bool.or_true, Bool.and_false]; rfl
    · rw [decide_eq_false h1, decide_eq_false h2, decide_eq_true (show (1 : Int) ≤ (l : Int) by omega), decide_eq_true (show (l : Int) ≤ 40 by omega)]; rfl
/-- where the first stands -/
def fsI (rows : Rws) (p : List Trip) : Option Nat := p.findIdx? (takes rows)
def eJ : Option Nat → Int
  | none => -1
  | some i => (i : Int)
end M
namespace G
open PySem L2 M
local macro_rules | `(tactic| walk_at "s") => `(tactic| first | rfl | assumption | decide | omega | exact Or.inr ⟨by omega, by omega⟩ | exact Or.inl ⟨by omega, by omega⟩ | exact ⟨by omega, by omega⟩)
local macro_rules | `(tactic| walk_at "le") => `(tactic| (repeat (first | exact Le.nil | refine Le.eq ?_ | refine Le.un ?_)))
local macro_rules | `(tactic| walk_at "no") => `(tactic| (repeat (first | exact no_nil | refine no_cons rfl ?_)))
abbrev s__law_first : Stmt := topS 29
abbrev N__law_first : List Str := ["_law_rows", "_law_packet", "_law_k", "_law_replica", "_law_place", "_law_deed_here"]
theorem sc__law_first : FnScope N__law_first ["_law_rows", "_law_packet"] (defScope s__law_first) := ⟨rfl, rfl, rfl, by decide +kernel, rfl, by decide +kernel, by decide +kernel⟩
abbrev s__law_received : Stmt := topS 30
abbrev N__law_received : List Str := ["_law_rows", "_law_packet", "_law_grown", "_law_row_here", "_law_taken", "_law_at_here", "_law_k"]
theorem sc__law_received : FnScope N__law_received ["_law_rows", "_law_packet"] (defScope s__law_received) := ⟨rfl, rfl, rfl, by decide +kernel, rfl, by decide +kernel, by decide +kernel⟩
section
variable {P : Program} {w : World} {K : PySem.W.Frag} {mg : Str → Option Value} {base : Heap} {C : Addr} {Tb : Tab}
def spFitsL (C : Addr) (Tb : Tab) : Sp := spF C Tb (fun x : Rws × Nat × Deed => [.list (eL x.1), .int (x.2.1 : Int), eD x.2.2]) (fun x => RB x.1 ∧ x.2.1 < 8 ∧ dA x.2.2 ∧ AS' x.1) (fun x => .dat (.bool (fits x.1 x.2.1 x.2.2)))
theorem lay_marks (l : List M.Mk) : SeqAt.shaped (.list (l.map eM)) = true := (lay_lst (n := 1) (lay_map fun k _ => lay_eM k)).shaped (by decide)
theorem w_law_fits (F : Def K mg "_law_fits" s__law_fits ["_law_rows", "_law_replica", "_law_deed_here"]) (T : Txt K mg C) (c__law_changes : Cal P w K mg base 2 "_law_changes" (spChangesL C Tb)) (c__law_inserted : Cal P w K mg base 1 "_law_inserted" (spIns C Tb)) : Cal P w K mg base 3 "_law_fits" (spFitsL C Tb) := by
  refine F.cal sc__law_fits (sp_len fun _ => rfl) fun f cdv A outer s H vs Q E hr h => ?_
  obtain ⟨⟨rows, r, d⟩, lo, rr, hlo, ht, ⟨hR0, hr0, hA0, hS0⟩, kk⟩ := h
  have hR : RB rows := hR0
  have hr8 : r < 8 := hr0
  have hA : dA d := hA0
  have hS : AS' rows := hS0
  clear hR0 hr0 hA0 hS0
  have h1 := hR.1.1
  have a2 : atI (eL rows) (r : Int) = some (.list ((rows.getD r []).map eD)) := eL_at (by omega)
  have b2 := hR.1.at hr8
  refine ⟨_, (pss_cons (ps_if (pt_cmpR op_eq (pe_ix (ixT (K := K)) (pv 2) pe_int (fun _ _ => rfl)) pe_str (nomark _)) (pss_one (ps_ret (pe_and (pe_cmpR op_le pe_int (pe_ix (ixT (K := K)) (pv 2) pe_int (fun _ _ => rfl)) (nomark _)) (pe_one (pe_cmpR op_le (pe_ix (ixT (K := K)) (pv 2) pe_int (fun _ _ => rfl)) (pe_callB (lenQ (K := K)) (by rfl) T.m_len PySem.boot_len (pa_cons (pe_ix (ixL (K := K)) (pv 0) (pv 1) (fun _ _ => rfl)) pa_nil)) (nomark _)))))) pss_nil)
      (pss_cons (ps_if (PW.pt (pw_or (pt_cmpR op_lt (pe_ix (ixT (K := K)) (pv 2) pe_int (fun _ _ => rfl)) pe_int (nomark _)) (pw_or (pt_cmpR op_lt (pe_callB call_len_str (by rfl) T.m_len PySem.boot_len (pa_cons (pe_ix (ixT (K := K)) (pv 2) pe_int (fun _ _ => rfl)) pa_nil)) pe_int (nomark _)) (pw_or1 (pt_cmpR op_gt (pe_callB call_len_str (by rfl) T.m_len PySem.boot_len (pa_cons (pe_ix (ixT (K := K)) (pv 2) pe_int (fun _ _ => rfl)) pa_nil)) pe_int (nomark _)))))) (pss_one (ps_ret pe_bl)) pss_nil)
      (pss_cons (ps_for PassesOwn.never rfl (listI (K := K) (pe_ix (ixL (K := K)) (pv 0) (pv 1) (fun _ _ => rfl))) (pg_name (i := 3) sc__law_fits.nd rfl (Or.inl rfl)) (pss_one (ps_if (PW.pt (pw_and (pt_cmpR op_eq (pe_ix (ixT (K := K)) (pv 3) pe_int (fun _ _ => rfl)) pe_str (nomark _)) (pw_and1 (pt_cmpR op_lt (pe_ix (ixT (K := K)) (pv 2) pe_int (fun _ _ => rfl)) (pe_op op_add (pe_ix (ixT (K := K)) (pv 3) pe_int (fun _ _ => rfl)) (pe_callB call_len_str (by rfl) T.m_len PySem.boot_len (pa_cons (pe_ix (ixT (K := K)) (pv 3) pe_int (fun _ _ => rfl)) pa_nil))) (nomark _))))) (pss_one (ps_ret pe_bl)) pss_nil)))
      (pss_cons (ps_set (i := 4) sc__law_fits.nd rfl (Or.inl rfl) (pe_lst pa_nil))
      (pss_cons (ps_for PassesOwn.never rfl (listI (K := K) (pe_c c__law_changes (hr.mono (by omega)) (by rfl) (pa_cons (pv 0) (pa_cons (pe_ix (ixT (K := K)) (pv 2) pe_int (fun _ _ => rfl)) pa_nil)))) (tupK (K := K) (n := 3) rfl (pgs_cons (pg_name (i := 5) sc__law_fits.nd rfl (Or.inl rfl)) (pgs_cons (pg_name (i := 6) sc__law_fits.nd rfl (Or.inl rfl)) (pgs_cons (pg_name (i := 7) sc__law_fits.nd rfl (Or.inl rfl)) pgs_nil)))) (pss_one (ps_set (i := 4) sc__law_fits.nd rfl (Or.inl rfl) (pe_op op_cat (pv 4) (pe_lc (own := [("_law_each", 8)]) rfl sc__law_fits.nd (listI (K := K) (pe_c c__law_inserted (hr.mono (by omega)) (by rfl) (pa_cons (pv 5) (pa_cons (pv 6) pa_nil)))) (blkOk_by (N := N__law_fits) (sc := defScope s__law_fits) (by decide +kernel)) (fun _ _ _ _ _ => (pg_name (i := 8) sc__law_fits.nd rfl (Or.inl rfl))) (fun _ _ _ _ _ => pts_nil) (fun _ _ _ _ _ => (pe_ix (ixT (K := K)) (pv 8) pe_int (fun _ _ => rfl))))))))
      (pss_cons (ps_for PassesOwn.never rfl (listI (K := K) (pe_op op_cat (pe_callTy (listQ (K := K)) (by rfl) T.m_list (by decide +kernel) (pa_cons (pe_ix (ixT (K := K)) (pv 2) pe_int (fun _ _ => rfl)) pa_nil)) (pe_lst (pa_cons (pe_ix (ixT (K := K)) (pv 2) pe_int (fun _ _ => rfl)) pa_nil)))) (pg_name (i := 9) sc__law_fits.nd rfl (Or.inl rfl)) (pss_one (ps_if (PW.pt (pw_and (pt_cmp (pc_notN (pv 9))) (pw_and1 (PW.pt (pw_or (pt_cmpR (notInD (K := K) (hu65 hr)) (pv 9) (pv 4) (by rfl)) (pw_or1 (pt_cmpR op_ge (pe_ix (ixT (K := K)) (pv 9) pe_int (fun _ _ => rfl)) (pe_ix (ixT (K := K)) (pv 2) pe_int (fun _ _ => rfl)) (nomark _)))))))) (pss_one (ps_ret pe_bl)) pss_nil)))
      (pss_one (ps_ret pe_bl)))))))), ?_⟩
  refine go_enter (n := 7) rr hlo ht kk rfl ?_
  cases d with
  | bck p =>
    show Go C Tb _ [.dat (.list (eL rows)), .dat (.int (r : Int)), .dat (.tuple [.str "back", .int p]), .un, .un, .un, .un, .un, .un, .un] _ (fun s => s = .dat (.bool (fits rows r (.bck p))))
    refine gi ((et_T (ed_eqS (ed_ixT (ed_var (by rfl)) ed_int (by walk_at "s")) ed_str)).is nbb) (fun hb => ?_) (fun hb => by cases hb)
    exact gr (ed_andV (ed_ib ed_int (ed_ixT (ed_var (by rfl)) ed_int (by walk_at "s"))) (fun hb => (ed_ib (ed_ixT (ed_var (by rfl)) ed_int (by walk_at "s")) ((es_len ((es_ix ((ed_var (by rfl))).es (ed_var (by rfl)) a2)).es).is (by rw [List.length_map]))))) rfl
  | chg m rm bh n t =>
    have hA : m.length ≤ 1000 ∧ rm.length ≤ 1000 := hA
    show Go C Tb _ [.dat (.list (eL rows)), .dat (.int (r : Int)), .dat (.tuple [.str "change", .str m, .tuple (rm.map eM), eO bh, .int n, .str t]), .un, .un, .un, .un, .un, .un, .un] _ (fun s => s = .dat (.bool (fitsC rows r m rm bh n)))
    refine gi ((et_T (ed_eqS (ed_ixT (ed_var (by rfl)) ed_int (by walk_at "s")) ed_str)).is nbc) (fun hb => by cases hb) (fun hb => gn ?_)
    refine gi ((et_or (et_T (ed_ib (ed_ixT (ed_var (by rfl)) ed_int (by walk_at "s")) ed_int)) (fun hb => (et_or (et_T (ed_ib (ed_lenS (ed_ixT (ed_var (by rfl)) ed_int (by walk_at "s")) (sz1000 hA.1)) ed_int)) (fun hb => (et_T (ed_ib (ed_lenS (ed_ixT (ed_var (by rfl)) ed_int (by walk_at "s")) (sz1000 hA.1)) ed_int)))))).is (head_eq n m.length)) (fun hb => ?_) (fun hb => gn ?_)
    · have e : fitsC rows r m rm bh n = false := by
        unfold fitsC
        rw [hb]
        rfl
      rw [e]
      exact gr ed_bl rfl
    · have e1 : fitsC rows r m rm bh n = (!(rows.getD r []).any (bad n) && (rm ++ bh.toList).all fun k => decide (k ∈ kn (chgs rows m)) && decide (k.1 < n)) := by
        unfold fitsC
        rw [hb]
        rfl
      rw [e1]
      have hBr : ∀ d, d ∈ rows.getD r [] → dB d := fun d hd => hR.2 _ (getD_mem (show r < rows.length by omega)) d hd
      generalize hrow : rows.getD r [] = row at a2 b2 hBr
      refine gf row eD (fun i => [.dat (.list (eL rows)), .dat (.int (r : Int)), .dat (.tuple [.str "change", .str m, .tuple (rm.map eM), eO bh, .int n, .str t]), .un, .un, .un, .un, .un, .un, .un]) (fun i => (row.take i).any (bad n) = false)
        (ei_list (es_ix ((ed_var (by rfl))).es (ed_var (by rfl)) a2)) (by walk_at "le") rfl (fun i d hx hp => ⟨_, _, tg_name, (by walk_at "no"), ?_⟩) ?_
      · have hd := hBr d (List.mem_of_getElem? hx)
        have hstep : bad n d = false → (row.take (i + 1)).any (bad n) = false := fun hq => by
          rw [take_snoc hx, List.any_append, hp, List.any_cons, hq]
          rfl
        have hin : bad n d = true → row.any (bad n) = true := fun hq => List.any_eq_true.mpr ⟨d, List.mem_of_getElem? hx, hq⟩
        cases d with
        | bck p =>
          refine go_if ((et_and (b := false) (et_T (ed_eqS (ed_ixT (ed_var (by rfl)) ed_int (by walk_at "s")) ed_str)) (fun hb => absurd hb (by rw [nbc']; simp))).is (by rw [nbc', Bool.false_and])) (fun hb => by cases hb) (fun hb => ?_)
          exact go_next ⟨by walk_at "le", hstep rfl⟩
        | chg m' rm' bh' n' t' =>
          have htl : t'.length ≤ sizeLine := sz1000 (dB_txt hd)
          refine go_if ((et_and (et_T (ed_eqS (ed_ixT (ed_var (by rfl)) ed_int (by walk_at "s")) ed_str)) (fun hb => (et_T (ed_ib (ed_ixT (ed_var (by rfl)) ed_int (by walk_at "s")) (ed_i0 (ed_ixT (ed_var (by rfl)) ed_int (by walk_at "s")) (ed_lenS (ed_ixT (ed_var (by rfl)) ed_int (by walk_at "s")) htl)))))).is (by rw [ncc, Bool.true_and])) (fun hb => ?_) (fun hb => ?_)
          · rw [hin hb]
            exact go_retd ed_bl rfl
          · exact go_next ⟨by walk_at "le", hstep hb⟩
      · intro hp
        rw [List.take_length] at hp
        rw [hp]
        refine gs (ef_lst ea_nil) ?_
        have hcs := chgs_len hR.1 m
        have hC := fun c hc => hR.chg (m := m) (c := c) hc
        have hCt : ∀ i, ((chgs rows m).take i).length ≤ 800 := fun i => by rw [List.length_take]; omega
        have hkl : ∀ {l : List Chg}, (∀ c, c ∈ l → c ∈ chgs rows m) → (kn l).length ≤ 5 * l.length := fun {l} hl => by
          refine snoc_ind (P := fun l => (∀ c, c ∈ l → c ∈ chgs rows m) → (kn l).length ≤ 5 * l.length) (fun _ => Nat.zero_le _) (fun l c ih h => ?_) l hl
          rw [kn_snoc, List.length_append, List.length_append]
          have h1 := ih fun x hx => h x (List.mem_append_left _ hx)
          obtain ⟨r2, d2, f2, _, rfl, q, _⟩ := hC c (h c (List.mem_append_right _ (List.mem_singleton.mpr rfl)))
          have h2 : (insM ((r2 : Int), d2, f2)).length ≤ 5 := by
            unfold insM
            rw [List.length_map]
            exact ins_len q
          show _ + _ ≤ 5 * (l.length + 1)
          omega
        refine gfl (chgs rows m) eG (fun i => [.dat (.list (eL rows)), .dat (.int (r : Int)), .dat (.tuple [.str "change", .str m, .tuple (rm.map eM), eO bh, .int n, .str t]), .un, .own ((kn ((chgs rows m).take i)).map eM), .un, .un, .un, .un, .un])
          (ei_list ((ef_call (rows, m) (ea_cons (ed_var (by rfl)) (ea_cons (ed_ixT (ed_var (by rfl)) ed_int (by walk_at "s")) ea_nil)) (by exact ⟨hR.1, hS⟩)).list)) (by walk_at "le") (fun i c hx => ⟨_, _, (tg_tup (tgs_cons (tgs_cons (tgs_cons tgs_nil)))), (by walk_at "no"), ?_⟩) ?_
        · obtain ⟨r', d', f', hr', rfl, hd', hm'⟩ := hC c (List.mem_of_getElem? hx)
          have hk := hkl (l := (chgs rows m).take i) fun c hc => List.mem_of_mem_take hc
          have hil := ins_len (r := (r' : Int)) hd'
          have := hCt i
          have e1 : kn ((chgs rows m).take (i + 1)) = kn ((chgs rows m).take i) ++ insM ((r' : Int), d', f') := by rw [take_snoc hx, kn_snoc]
          have e2 : (insM ((r' : Int), d', f')).map eM = (ins (r' : Int) d').map fun x => eM x.1 := by unfold insM; rw [List.map_map]; rfl
          rw [e1, List.map_append, e2]
          refine go_set (es_cat (es_own (by rfl)) ((ef_map (ins (r' : Int) d') eI (fun x => eM x.1) ((ei_list ((ef_call ((r' : Int), d') (ea_cons (ed_var (by rfl)) (ea_cons (ed_var (by rfl)) ea_nil)) (by exact ⟨isM_C hm', dB_txt hd'⟩)).list)).c) (by omega) (by walk_at "no") (fun x hx => ⟨_, _, tg_name, (by decide), (by walk_at "no"), (ed_ixT (ds := [eM x.1, eO x.2.1, .str x.2.2]) (ed_var (by rfl)) ed_int (by walk_at "s"))⟩))).es ?_) ?_
          · rw [List.length_map, List.length_map]
            exact Nat.le_of_lt (sz (by omega))
          · walk_at "le"
        · rw [List.take_length]
          have hk := hkl (l := chgs rows m) fun c hc => hc
          have eO' : rm.map eM ++ [eO bh] = (rm.map some ++ [bh]).map eO := by rw [List.map_append, List.map_map]; rfl
          have ball := badO_all n (kn (chgs rows m)) rm bh
          have hl : (rm.map some ++ [bh]).length ≤ 1001 := by
            rw [List.length_append, List.length_map]
            exact Nat.succ_le_succ hA.2
          rw [show (!false && (rm ++ bh.toList).all fun k => decide (k ∈ kn (chgs rows m)) && decide (k.1 < n)) = !(rm.map some ++ [bh]).any (badO n (kn (chgs rows m))) by rw [ball, Bool.not_not]; rfl]
          generalize kn (chgs rows m) = Ks at hk
          have hlist : ∀ {te : TE} {Γ : List Sl}, Ed C Tb te Γ (.list (rm.map eM ++ [eO bh])) → Ed C Tb te Γ (.list ((rm.map some ++ [bh]).map eO)) := fun h => h.is (by rw [eO'])
          generalize rm.map some ++ [bh] = xs at hl hlist
          refine gf xs eO (fun i => [.dat (.list (eL rows)), .dat (.int (r : Int)), .dat (.tuple [.str "change", .str m, .tuple (rm.map eM), eO bh, .int n, .str t]), .un, .own (Ks.map eM), .un, .un, .un, .un, .un]) (fun i => (xs.take i).any (badO n Ks) = false)
            (ei_list (hlist ((es_cat ((ed_listOfT (ed_ixT (ed_var (by rfl)) ed_int (by walk_at "s")))).es ((ef_lst (ea_cons (ed_ixT (ed_var (by rfl)) ed_int (by walk_at "s")) ea_nil))).es (by rw [List.length_map]; exact Nat.le_trans (Nat.succ_le_succ hA.2) (by decide))).list))) (by walk_at "le") rfl (fun i o hx hp => ⟨_, _, tg_name, (by walk_at "no"), ?_⟩) ?_
          · have hstep : badO n Ks o = false → (xs.take (i + 1)).any (badO n Ks) = false := fun hq => by
              rw [take_snoc hx, List.any_append, hp, List.any_cons, hq]
              rfl
            have hin : badO n Ks o = true → xs.any (badO n Ks) = true := fun hq => List.any_eq_true.mpr ⟨o, List.mem_of_getElem? hx, hq⟩
            cases o with
            | none =>
              refine go_if (b := false) ((et_and (a := false) (b := false) ((et_B (er_notN ((ed_var (by rfl))).er)).is (by rfl)) (fun hb => by cases hb)).is rfl) (fun hb => by cases hb) (fun hb => ?_)
              exact go_next ⟨by walk_at "le", hstep rfl⟩
            | some k =>
              refine go_if (b := badO n Ks (some k)) ((et_and (a := true) ((et_B (er_notN ((ed_var (by rfl))).er)).is (by rfl)) (fun hb => (et_or (et_T ((er_notInD ((ed_var (by rfl))).er ((es_own (by rfl))).er rfl (plnA_eM _) ((lay_eM (n := 0) k).shaped (by decide)) (lay_marks _)).is (by rw [any_eqv]))) (fun hb => (et_T (ed_ib (ed_ixT (ds := [.int k.1, .int k.2]) (ed_var (by rfl)) ed_int (by walk_at "s")) (ed_ixT (ed_var (by rfl)) ed_int (by walk_at "s"))))))))) (fun hb => ?_) (fun hb => ?_)
              · rw [hin hb]
                exact go_retd ed_bl rfl
              · exact go_next ⟨by walk_at "le", hstep hb⟩
          · intro hp
            rw [List.take_length] at hp
            rw [hp]
            exact go_retd ed_bl rfl
end
end G

set_option maxRecDepth 100000
set_option maxHeartbeats 4000000
/-! walks, part 11: the law's first, received -/
namespace M
open PySem G
open L2 (atI)
theorem fsI_none {rows : Rws} {p : List Trip} (h : p.any (takes rows) = false) : fsI rows p = none := by
  unfold fsI
  rw [List.findIdx?_eq_none_iff]
  intro x hx
  cases q : takes rows x with
  | false => rfl
  | true => rw [List.any_eq_true.mpr ⟨x, hx, q⟩] at h; cases h
theorem fsI_some {rows : Rws} {p : List Trip} {i : Nat} {t : Trip} (h : (p.take i).any (takes rows) = false) (ht : p[i]? = some t) (hq : takes rows t = true) : fsI rows p = some i := by
  obtain ⟨h1, h2⟩ := List.getElem?_eq_some_iff.mp ht
  unfold fsI
  rw [List.findIdx?_eq_some_iff_getElem]
  refine ⟨h1, by rw [h2]; exact hq, fun j hj q => ?_⟩
  have : (p.take i).any (takes rows) = true := List.any_eq_true.mpr ⟨p[j]'(by omega), List.mem_iff_getElem?.mpr ⟨j, by rw [List.getElem?_take, if_pos hj]; exact List.getElem?_eq_getElem _⟩, q⟩
  rw [h] at this
  cases this
theorem fsI_nx : ∀ {p : List Trip} {rows : Rws}, (fsI rows p = none ∧ nx rows p = none) ∨ ∃ i t, fsI rows p = some i ∧ nx rows p = some t ∧ p[i]? = some t
  | [], _ => .inl ⟨rfl, rfl⟩
  | a :: r, rows => by
    unfold fsI nx
    rw [List.findIdx?_cons, List.find?_cons]
    cases h : takes rows a with
    | true => exact .inr ⟨0, a, rfl, rfl, rfl⟩
    | false =>
      rcases fsI_nx (p := r) (rows := rows) with ⟨h1, h2⟩ | ⟨i, t, h1, h2, h3⟩
      · unfold fsI at h1
        unfold nx at h2
        exact .inl ⟨by rw [h1]; rfl, h2⟩
      · unfold fsI at h1
        unfold nx at h2
        exact .inr ⟨i + 1, t, by rw [h1]; rfl, h2, h3⟩
def stepA (p : List Trip) (a : Rws × List Trip) : Rws × List Trip := match nx a.1 p with
  | none => a
  | some t => (addT a.1 t, a.2 ++ [t])
theorem run_step (p : List Trip) : ∀ (n : Nat) (a : Rws × List Trip), run p (n + 1) a = stepA p (run p n a)
  | 0, a => by
    unfold stepA
    show run p 1 a = match nx a.1 p with
      | none => a
      | some t => (addT a.1 t, a.2 ++ [t])
    cases h : nx a.1 p with
    | none => rw [run_done h]
    | some t => rw [run_some h]; rfl
  | n + 1, a => by
    cases h : nx a.1 p with
    | none =>
      rw [run_done h, run_done h]
      unfold stepA
      rw [h]
    | some t =>
      rw [run_some h, run_some h]
      exact run_step p n _
end M
namespace G
open PySem L2 M
local macro_rules | `(tactic| walk_at "s") => `(tactic| first | rfl | assumption | decide | omega | exact Or.inr ⟨by omega, by omega⟩ | exact Or.inl ⟨by omega, by omega⟩ | exact ⟨by omega, by omega⟩)
local macro_rules | `(tactic| walk_at "le") => `(tactic| (repeat (first | exact Le.nil | refine Le.eq ?_ | refine Le.un ?_)))
local macro_rules | `(tactic| walk_at "no") => `(tactic| (repeat (first | exact no_nil | refine no_cons rfl ?_)))
section
variable {P : Program} {w : World} {K : PySem.W.Frag} {mg : Str → Option Value} {base : Heap} {C : Addr} {Tb : Tab}
def spFirst (C : Addr) (Tb : Tab) : Sp := spF C Tb (fun x : Rws × List Trip => [.list (eL x.1), .list (x.2.map eT)]) (fun x => RB x.1 ∧ AS' x.1 ∧ (∀ t, t ∈ x.2 → TB t) ∧ x.2.length ≤ 60) (fun x => .dat (.int (eJ (fsI x.1 x.2))))
theorem w_law_first (F : Def K mg "_law_first" s__law_first ["_law_rows", "_law_packet"]) (T : Txt K mg C) (c__law_fits : Cal P w K mg base 3 "_law_fits" (spFitsL C Tb)) : Cal P w K mg base 4 "_law_first" (spFirst C Tb) := by
  refine F.cal sc__law_first (sp_len fun _ => rfl) fun f cdv A outer s H vs Q E hr h => ?_
  obtain ⟨⟨rows, p⟩, lo, rr, hlo, ht, ⟨hR0, hS0, hp0, hl0⟩, kk⟩ := h
  have hR : RB rows := hR0
  have hS : AS' rows := hS0
  have hp : ∀ t, t ∈ p → TB t := hp0
  have hl : p.length ≤ 60 := hl0
  have h1 := hR.1.1
  refine ⟨_, (pss_cons (ps_for PassesOwn.never rfl (pi_range1 (by rfl) T.m_range (pa_cons (pe_callB (lenQ (K := K)) (by rfl) T.m_len PySem.boot_len (pa_cons (pv 1) pa_nil)) pa_nil)) (pg_name (i := 2) sc__law_first.nd rfl (Or.inl rfl)) (pss_cons (ps_asg (pe_ix (ixL (K := K)) (pv 1) (pv 2) (fun _ _ => rfl)) (tupK (K := K) (n := 3) rfl (pgs_cons (pg_name (i := 3) sc__law_first.nd rfl (Or.inl rfl)) (pgs_cons (pg_name (i := 4) sc__law_first.nd rfl (Or.inl rfl)) (pgs_cons (pg_name (i := 5) sc__law_first.nd rfl (Or.inl rfl)) pgs_nil)))))
      (pss_one (ps_if (PW.pt (pw_and (pt_cmpR op_eq (pv 4) (pe_op op_add (pe_callB (lenQ (K := K)) (by rfl) T.m_len PySem.boot_len (pa_cons (pe_ix (ixL (K := K)) (pv 0) (pv 3) (fun _ _ => rfl)) pa_nil)) pe_int) (nomark _)) (pw_and1 (pt_val (pe_c c__law_fits (hr.mono (by omega)) (by rfl) (pa_cons (pv 0) (pa_cons (pv 3) (pa_cons (pv 5) pa_nil)))))))) (pss_one (ps_ret (pv 2))) pss_nil))))
      (pss_one (ps_ret (pe_un un_neg pe_int)))), ?_⟩
  refine go_enter (n := 4) rr hlo ht kk rfl ?_
  show Go C Tb _ [.dat (.list (eL rows)), .dat (.list (p.map eT)), .un, .un, .un, .un] _ (fun s => s = .dat (.int (eJ (fsI rows p))))
  refine gf (List.range p.length) (fun (i : Nat) => .int (i : Int)) (fun i => [.dat (.list (eL rows)), .dat (.list (p.map eT)), .un, .un, .un, .un]) (fun i => (p.take i).any (takes rows) = false) (ei_range1 (ea_cons ((es_len ((ed_var (by rfl))).es).is (by rw [List.length_map])) ea_nil) (by omega)) (by walk_at "le") rfl (fun i x hx hq => ⟨_, _, tg_name, (by walk_at "no"), ?_⟩) ?_
  · obtain ⟨hi, rfl⟩ := range_get hx
    have hget : p[x]? = some (p[x]'hi) := List.getElem?_eq_getElem hi
    obtain ⟨t, ht⟩ : ∃ t, p[x]'hi = t := ⟨_, rfl⟩
    rw [ht] at hget
    obtain ⟨⟨ha, hb⟩, hB⟩ := hp t (List.mem_of_getElem? hget)
    have hstep : takes rows t = false → (p.take (x + 1)).any (takes rows) = false := fun hq2 => by
      rw [take_snoc hget, List.any_append, hq, List.any_cons, hq2]
      rfl
    have hfs := fsI_some hq hget
    obtain ⟨t0, t1, d⟩ := t
    have ha : 0 ≤ t0 := ha
    have hb : t0 < 8 := hb
    have hB : dB d := hB
    obtain ⟨r, rfl⟩ : ∃ r : Nat, t0 = (r : Int) := ⟨t0.toNat, by omega⟩
    have a1 : atI (p.map eT) (x : Int) = some (.tuple [.int (r : Int), .int t1, eD d]) := at_map hget
    have a2 : atI (eL rows) (r : Int) = some (.list ((rows.getD r []).map eD)) := eL_at (by omega)
    have et : takes rows ((r : Int), t1, d) = (decide (t1 = ((rows.getD r []).length : Int) + 1) && fits rows r d) := by
      unfold takes lenAt
      rw [Int.toNat_natCast]
    refine gt (es_ix ((ed_var (by rfl))).es (ed_var (by rfl)) a1) (tg_tup (tgs_cons (tgs_cons (tgs_cons tgs_nil)))) (by walk_at "no") ?_
    refine go_if ((et_and (et_T (ed_eqI (ed_var (by rfl)) (ed_i0 ((es_len ((es_ix ((ed_var (by rfl))).es (ed_var (by rfl)) a2)).es).is (by rw [List.length_map])) ed_int))) (fun hb => (et_B ((ef_call (rows, r, d) (ea_cons (ed_var (by rfl)) (ea_cons (ed_var (by rfl)) (ea_cons (ed_var (by rfl)) ea_nil))) (by exact ⟨hR, by show r < 8; omega, dB_dA hB, hS⟩))).ed))).is et.symm) (fun hb => ?_) (fun hb => ?_)
    · rw [hfs hb]
      exact go_retd (ed_var (by rfl)) rfl
    · exact go_next ⟨by walk_at "le", hstep hb⟩
  · intro hq
    rw [List.length_range, List.take_length] at hq
    rw [fsI_none hq]
    exact go_retd (ed_neg ed_int) rfl
/-- triples that serve the law -/
def TS (t : Trip) : Prop := TB t ∧ dS t.2.2
def spRcvL (C : Addr) (Tb : Tab) : Sp := spF C Tb (fun x : Rws × List Trip => [.list (eL x.1), .list (x.2.map eT)]) (fun x => RB x.1 ∧ AS' x.1 ∧ (∀ t, t ∈ x.2 → TS t) ∧ (∀ r, r ∈ x.1 → r.length ≤ 40) ∧ x.2.length ≤ 60) (fun x => .own [.list (eL (rcv x.1 x.2).1), .list ((rcv x.1 x.2).2.map eT)])
theorem Pr.start {rows : Rws} {p : List Trip} (hR : RB rows) (hp : ∀ t, t ∈ p → TB t) (hz : ∀ r, r ∈ rows → r.length ≤ 40) (hl : p.length ≤ 60) : Pr rows p (rows, []) := ⟨hR.1.1, fun r hr => by
    have h8 := hR.1.1
    have := hz _ (getD_mem (d := []) (show r < rows.length by omega))
    have := pend_le rows p
    show (rows.getD r []).length + pend rows p ≤ 100
    omega, hR.2, run_enough (fun t ht => (hp t ht).1) _ _ _ hR.1.1 (Nat.le_refl _) (by show pend rows p ≤ p.length + 1; have := pend_le rows p; omega), by
    show 0 + pend rows p ≤ 60
    have := pend_le rows p
    omega⟩
theorem Pr.stepA {rows0 : Rws} {p : List Trip} {a : Rws × List Trip} (h : Pr rows0 p a) (hp : ∀ t, t ∈ p → TB t) : Pr rows0 p (stepA p a) := by
  unfold M.stepA
  cases hn : nx a.1 p with
  | none => exact h
  | some t => exact h.step hp hn
theorem Pr.run {rows0 : Rws} {p : List Trip} {a : Rws × List Trip} (h : Pr rows0 p a) (hp : ∀ t, t ∈ p → TB t) : ∀ n, Pr rows0 p (M.run p n a)
  | 0 => h
  | n + 1 => by rw [run_step]; exact (Pr.run h hp n).stepA hp
theorem AS'.add {rows : Rws} {t : Trip} (h : AS' rows) (ht : dS t.2.2) (hr : t.1.toNat < rows.length) : AS' (addT rows t) := fun r hr2 d hd => by
  rcases mem_set hr2 with q | q
  · exact h r q d hd
  · rw [q] at hd
    rcases List.mem_append.mp hd with hd | hd
    · exact h _ (getD_mem hr) d hd
    · rw [List.mem_singleton.mp hd]
      exact ht
theorem AS'.run {rows0 : Rws} {p : List Trip} {a : Rws × List Trip} (h : AS' a.1) (hP : Pr rows0 p a) (hp : ∀ t, t ∈ p → TS t) : ∀ n, AS' (M.run p n a).1
  | 0 => h
  | n + 1 => by
    rw [run_step]
    have ih := AS'.run h hP hp n
    have hP2 := hP.run (fun t ht => (hp t ht).1) n
    unfold M.stepA
    cases hn : nx (M.run p n a).1 p with
    | none => exact ih
    | some t =>
      obtain ⟨h3, _⟩ := nx_some hn
      obtain ⟨⟨⟨h4, h5⟩, _⟩, h6⟩ := hp t h3
      exact ih.add h6 (by rw [hP2.n8]; omega)
theorem w_law_received (F : Def K mg "_law_received" s__law_received ["_law_rows", "_law_packet"]) (T : Txt K mg C) (c__law_first : Cal P w K mg base 4 "_law_first" (spFirst C Tb)) : Cal P w K mg base 5 "_law_received" (spRcvL C Tb) := by
  refine F.cal sc__law_received (sp_len fun _ => rfl) fun f cdv A outer s H vs Q E hr h => ?_
  obtain ⟨⟨rows, p⟩, lo, rr, hlo, ht, ⟨hR0, hS0, hp0, hz0, hl0⟩, kk⟩ := h
  have hR : RB rows := hR0
  have hS : AS' rows := hS0
  have hp : ∀ t, t ∈ p → TS t := hp0
  have hz : ∀ r, r ∈ rows → r.length ≤ 40 := hz0
  have hl : p.length ≤ 60 := hl0
  have h8 := hR.1.1
  have hpB : ∀ t, t ∈ p → TB t := fun t ht => (hp t ht).1
  refine ⟨_, (pss_cons (ps_setLc (i := 2) (own := [("_law_row_here", 3)]) rfl sc__law_received.nd rfl rfl (sw_true rfl rfl rfl (by decide +kernel)) (listI (K := K) (pv 0)) (blkOk_by (N := N__law_received) (sc := defScope s__law_received) (by decide +kernel)) (fun _ _ _ _ _ => (pg_name (i := 3) sc__law_received.nd rfl (Or.inl rfl))) (fun _ _ _ _ _ => pts_nil) (fun _ _ _ _ _ => (pe_callTy (listQ (K := K)) (by rfl) T.m_list (by decide +kernel) (pa_cons (pv 3) pa_nil))))
      (pss_cons (ps_set (i := 4) sc__law_received.nd rfl (Or.inl rfl) (pe_lst pa_nil))
      (pss_cons (ps_set (i := 5) sc__law_received.nd rfl (Or.inl rfl) (pe_c c__law_first (hr.mono (by omega)) (by rfl) (pa_cons (pv 2) (pa_cons (pv 1) pa_nil))))
      (pss_cons (ps_for PassesOwn.never rfl (pi_range1 (by rfl) T.m_range (pa_cons (pe_op op_add (pe_callB (lenQ (K := K)) (by rfl) T.m_len PySem.boot_len (pa_cons (pv 1) pa_nil)) pe_int) pa_nil)) (pg_name (i := 6) sc__law_received.nd rfl (Or.inl rfl)) (pss_one (ps_if (pt_cmpR op_ge (pv 5) pe_int (nomark _)) (pss_cons (ps_expr (bmK (K := K) PySem.F.plainAttrs_list PySem.F.slot_list_append PySem.F.type_list_append mt_append (pe_ix (ixL (K := K)) (pv 2) (pe_ix (ixT (K := K)) (pe_ix (ixL (K := K)) (pv 1) (pv 5) (fun _ _ => rfl)) pe_int (fun _ _ => rfl)) (fun _ _ => rfl)) (pa_cons (pe_ix (ixT (K := K)) (pe_ix (ixL (K := K)) (pv 1) (pv 5) (fun _ _ => rfl)) pe_int (fun _ _ => rfl)) pa_nil)))
      (pss_cons (ps_expr (bmK (K := K) PySem.F.plainAttrs_list PySem.F.slot_list_append PySem.F.type_list_append mt_append (pv 4) (pa_cons (pe_ix (ixL (K := K)) (pv 1) (pv 5) (fun _ _ => rfl)) pa_nil)))
      (pss_one (ps_set (i := 5) sc__law_received.nd rfl (Or.inl rfl) (pe_c c__law_first (hr.mono (by omega)) (by rfl) (pa_cons (pv 2) (pa_cons (pv 1) pa_nil))))))) pss_nil)))
      (pss_one (ps_ret (pe_lst (pa_cons (pv 2) (pa_cons (pv 4) pa_nil))))))))), ?_⟩
  refine go_enter (n := 5) rr hlo ht kk rfl ?_
  show Go C Tb _ [.dat (.list (eL rows)), .dat (.list (p.map eT)), .un, .un, .un, .un, .un] _ (fun s => s = .own [.list (eL (run p (p.length + 1) (rows, [])).1), .list ((run p (p.length + 1) (rows, [])).2.map eT)])
  have p0 := Pr.start hR hpB hz hl
  refine gs (ef_lcO rows (fun r => .list (r.map eD)) (fun r => r.map eD) ((ei_list (ed_var (by rfl)))).c (by omega) (by walk_at "no") (fun x hx => ⟨_, _, tg_name, (by decide), (by walk_at "no"), (es_listOf ((ed_var (by rfl))).es)⟩)) ?_
  refine gs (ef_lst ea_nil) ?_
  have nxt : ∀ {a : Rws × List Trip} {x y z : Sl} {E : XK}, Pr rows p a → AS' a.1 → Ed C Tb (tCall (spFirst C Tb) [] E (tCons (tVar 2) (tCons (tVar 1) tNil))) [.dat (.list (eL rows)), .dat (.list (p.map eT)), .own2 (eR a.1), x, .own (a.2.map eT), y, z] (.int (eJ (fsI a.1 p))) := fun {a x y z E} h hS =>
    (er_call (a.1, p) (er_cons ((er_own2 (by rfl)).is (by rw [eL_eq])) (er_cons ((ed_var (by rfl))).er er_nil)) (by exact ⟨h.rb, hS, hpB, hl⟩) (by rfl)).ed
  refine gsd (nxt (a := (rows, [])) p0 hS) ?_
  refine gfr (p.length + 1) (fun i => .int (i : Int)) (fun i => [.dat (.list (eL rows)), .dat (.list (p.map eT)), .own2 (eR (run p i (rows, [])).1), .un, .own ((run p i (rows, [])).2.map eT), .dat (.int (eJ (fsI (run p i (rows, [])).1 p))), .un])
    (ei_range1 (ea_cons ((ed_i0 (es_len ((ed_var (by rfl))).es) ed_int).is (by rw [List.length_map]; rfl)) ea_nil) (by omega)) (by walk_at "le") (fun i hi => ⟨_, _, tg_name, (by walk_at "no"), ?_⟩) ?_
  · have ha := p0.run hpB i
    have hSa := AS'.run (a := (rows, [])) hS p0 hp i
    have ha' := p0.run hpB (i + 1)
    have hSa' := AS'.run (a := (rows, [])) hS p0 hp (i + 1)
    rw [run_step] at ha' hSa' ⊢
    generalize run p i (rows, []) = a at ha hSa ha' hSa'
    rcases fsI_nx (p := p) (rows := a.1) with ⟨h1, h2⟩ | ⟨j, t, h1, h2, h3⟩
    · have es : stepA p a = a := by unfold M.stepA; rw [h2]
      rw [es]
      refine go_if ((et_T (ed_ib (ed_var (by rfl)) ed_int)).is (by rw [h1])) (fun hb => by cases hb) (fun hb => go_next ?_)
      walk_at "le"
    · have es : stepA p a = (addT a.1 t, a.2 ++ [t]) := by unfold M.stepA; rw [h2]
      rw [es] at ha' hSa' ⊢
      obtain ⟨⟨⟨k1, k2⟩, _⟩, _⟩ := hp t (List.mem_of_getElem? h3)
      obtain ⟨t0, t1, d⟩ := t
      have k1 : 0 ≤ t0 := k1
      have k2 : t0 < 8 := k2
      obtain ⟨r, rfl⟩ : ∃ r : Nat, t0 = (r : Int) := ⟨t0.toNat, by omega⟩
      have hr8 : r < a.1.length := by rw [ha.n8]; omega
      have hsz := ha.sz r (by omega)
      have htk := ha.tk
      have a1 : atI (p.map eT) (j : Int) = some (.tuple [.int (r : Int), .int t1, eD d]) := at_map h3
      have es2 : (eR a.1).set r ((a.1.getD r []).map eD ++ [eD d]) = eR (addT a.1 ((r : Int), t1, d)) := eR_set _ _ _
      rw [h1]
      show Go C Tb _ [.dat (.list (eL rows)), .dat (.list (p.map eT)), .own2 (eR a.1), .un, .own (a.2.map eT), .dat (.int (j : Int)), .dat (.int (i : Int))] _ _
      refine go_if ((et_T (ed_ib (ed_var (by rfl)) ed_int)).is (show decide ((j : Int) ≥ 0) = true from decide_eq_true (by omega))) (fun hb => ?_) (fun hb => by cases hb)
      refine go_seq (go_app2 (N := fun Γ' => Γ' = [.dat (.list (eL rows)), .dat (.list (p.map eT)), .own2 (eR (addT a.1 ((r : Int), t1, d))), .un, .own (a.2.map eT), .dat (.int (j : Int)), .dat (.int (i : Int))]) (j := r) (by rfl) (ed_ixT (es_ix ((ed_var (by rfl))).es (ed_var (by rfl)) a1) ed_int (by walk_at "s")) (by rw [eR_length]; exact ix_nat hr8) (eR_at hr8) (ed_ixT (es_ix ((ed_var (by rfl))).es (ed_var (by rfl)) a1) ed_int (by walk_at "s")) (by rw [List.length_map]; omega) (by rw [es2]; rfl)) fun Γ' e => ?_
      subst e
      refine ga (by rfl) (es_ix ((ed_var (by rfl))).es (ed_var (by rfl)) a1) (by rw [List.length_map]; omega) ?_
      have em : (a.2.map eT ++ [.tuple [.int (r : Int), .int t1, eD d]]) = (a.2 ++ [((r : Int), t1, d)]).map eT := by rw [List.map_append]; rfl
      show Go C Tb _ [.dat (.list (eL rows)), .dat (.list (p.map eT)), .own2 (eR (addT a.1 ((r : Int), t1, d))), .un, .own (a.2.map eT ++ [.tuple [.int (r : Int), .int t1, eD d]]), .dat (.int (j : Int)), .dat (.int (i : Int))] _ _
      rw [em]
      refine go_setd (nxt ha' hSa') ?_
      walk_at "le"
  · refine go_frz2 (i := 2) (by rfl) ?_
    refine go_frz (i := 4) (by rfl) ?_
    refine go_ret ((ef_lst (ea_cons (ed_var (by rfl)) (ea_cons (ed_var (by rfl)) ea_nil))).is (by rw [eL_eq])) rfl
end
end G

set_option maxRecDepth 100000
set_option maxHeartbeats 4000000
/-! walks, part 12: the law's deeds -/
namespace G
open PySem L2 M
local macro_rules | `(tactic| walk_at "s") => `(tactic| first | rfl | assumption | decide | omega | exact Or.inr ⟨by omega, by omega⟩ | exact Or.inl ⟨by omega, by omega⟩ | exact ⟨by omega, by omega⟩)
local macro_rules | `(tactic| walk_at "le") => `(tactic| (repeat (first | exact Le.nil | refine Le.eq ?_ | refine Le.un ?_)))
local macro_rules | `(tactic| walk_at "no") => `(tactic| (repeat (first | exact no_nil | refine no_cons rfl ?_)))
abbrev s__law_deed : Stmt := topS 25
abbrev N__law_deed : List Str := ["_law_draws_here", "_law_index", "_law_rows", "_law_replica", "_law_own", "_law_module", "_law_marks", "_law_each", "_law_removed", "_law_k", "_law_behind", "_law_number", "_law_mark", "_law_deed_here"]
theorem sc__law_deed : FnScope N__law_deed ["_law_draws_here", "_law_index", "_law_rows", "_law_replica"] (defScope s__law_deed) := ⟨rfl, rfl, rfl, by decide +kernel, rfl, by decide +kernel, by decide +kernel⟩
abbrev s__law_triples : Stmt := topS 27
abbrev N__law_triples : List Str := ["_law_draws_here", "_law_start_here", "_law_steps", "_law_most", "_law_rows", "_law_k", "_law_counts", "_law_j", "_law_triples_here", "_law_base", "_law_replica", "_law_other", "_law_deed_here"]
theorem sc__law_triples : FnScope N__law_triples ["_law_draws_here", "_law_start_here", "_law_steps", "_law_most"] (defScope s__law_triples) := ⟨rfl, rfl, rfl, by decide +kernel, rfl, by decide +kernel, by decide +kernel⟩
section
variable {P : Program} {w : World} {K : PySem.W.Frag} {mg : Str → Option Value} {base : Heap} {C : Addr} {Tb : Tab}
theorem at_c {ds : List Int} {j : Nat} {td te : TE} {Γ : List Sl} {E : XK} (hD : Dr ds) (hj : j ≤ 900000) (h1 : Ed C Tb td Γ (.list (eN ds))) (h2 : Ed C Tb te Γ (.int (j : Int))) : Ed C Tb (tCall (spAt C Tb) [] E (tCons td (tCons te tNil))) Γ (.int (la ds j)) :=
  (ef_call (ds, j) (ea_cons h1 (ea_cons h2 ea_nil)) ⟨hD, hj⟩).ed
/-- rows that serve for every module -/
structure RA (rows : Rws) : Prop where
  rb : RB rows
  dm : ∀ r, r ∈ rows → ∀ d, d ∈ r → dM d
  cl : ∀ m, Cl (chgs rows m)
  as : AS' rows
theorem RA.rm {rows : Rws} (h : RA rows) (m : Str) : RM rows m := ⟨h.rb, h.dm, h.cl m⟩
theorem mks_len {rows : Rws} (h : RA rows) (m : Str) : (mks rows m).length ≤ 4000 := by
  unfold mks
  rw [plc_len, srt_len]
  have h1 := fnd_len (fnd_small (h.rm m) (cs := chgs rows m) fun c hc => hc)
  have h2 := chgs_len h.rb.1 m
  omega
def spDeed (C : Addr) (Tb : Tab) : Sp := spF C Tb (fun x : List Int × Nat × Rws × Nat => [.list (eN x.1), .int (x.2.1 : Int), .list (eL x.2.2.1), .int (x.2.2.2 : Int)]) (fun x => Dr x.1 ∧ x.2.1 ≤ 700000 ∧ RA x.2.2.1 ∧ x.2.2.2 < 8) (fun x => .dat (eD (lawDeed x.1 x.2.1 x.2.2.1 x.2.2.2)))
theorem w_law_deed (F : Def K mg "_law_deed" s__law_deed ["_law_draws_here", "_law_index", "_law_rows", "_law_replica"]) (T : Txt K mg C) (c__law_at : Cal P w K mg base 2 "_law_at" (spAt C Tb)) (c__law_modules : Cal P w K mg base 1 "_law_modules" (spMods C Tb)) (c__law_row : Cal P w K mg base 3 "_law_row" (spRowL C Tb))
    (c__law_last : Cal P w K mg base 1 "_law_last" (spLast C Tb)) (c__law_letters : Cal P w K mg base 3 "_law_letters" (spLetters C Tb)) : Cal P w K mg base 4 "_law_deed" (spDeed C Tb) := by
  refine F.cal sc__law_deed (sp_len fun _ => rfl) fun f cdv A outer s H vs Q E hr h => ?_
  obtain ⟨⟨ds, i, rows, r⟩, lo, rr, hlo, ht, ⟨hD0, hi0, hR0, hr0⟩, kk⟩ := h
  have hD : Dr ds := hD0
  have hi : i ≤ 700000 := hi0
  have hR : RA rows := hR0
  have hr8 : r < 8 := hr0
  have h8 := hR.rb.1.1
  have a2 : atI (eL rows) (r : Int) = some (.list ((rows.getD r []).map eD)) := eL_at (by omega)
  have b2 := hR.rb.1.at hr8
  have lo0 := fun j => lawAt_lo hD j
  refine ⟨_, (pss_cons (ps_set (i := 4) sc__law_deed.nd rfl (Or.inl rfl) (pe_ix (ixL (K := K)) (pv 2) (pv 3) (fun _ _ => rfl)))
      (pss_cons (ps_if (PW.pt (pw_and (pt_cmpR op_eq (pe_op op_mod (pe_c c__law_at (hr.mono (by omega)) (by rfl) (pa_cons (pv 0) (pa_cons (pv 1) pa_nil))) pe_int) pe_int (nomark _)) (pw_and1 (pt_cmpR op_gt (pe_callB (lenQ (K := K)) (by rfl) T.m_len PySem.boot_len (pa_cons (pv 4) pa_nil)) pe_int (nomark _))))) (pss_one (ps_ret (pe_tup (pa_cons pe_str (pa_cons (pe_op op_add pe_int (pe_op op_mod (pe_c c__law_at (hr.mono (by omega)) (by rfl) (pa_cons (pv 0) (pa_cons (pe_op op_add (pv 1) pe_int) pa_nil))) (pe_callB (lenQ (K := K)) (by rfl) T.m_len PySem.boot_len (pa_cons (pv 4) pa_nil)))) pa_nil))))) pss_nil)
      (pss_cons (ps_set (i := 5) sc__law_deed.nd rfl (Or.inl rfl) (pe_ix (ixL (K := K)) (pe_c0 c__law_modules (hr.mono (by omega)) (by rfl)) (pe_op op_fdiv (pe_op op_mod (pe_c c__law_at (hr.mono (by omega)) (by rfl) (pa_cons (pv 0) (pa_cons (pe_op op_add (pv 1) pe_int) pa_nil))) pe_int) pe_int) (fun _ _ => rfl)))
      (pss_cons (ps_setLc (i := 6) (own := [("_law_each", 7)]) rfl sc__law_deed.nd rfl rfl (sw_true rfl rfl rfl (by decide +kernel)) (listI (K := K) (pe_c c__law_row (hr.mono (by omega)) (by rfl) (pa_cons (pv 2) (pa_cons (pv 5) pa_nil)))) (blkOk_by (N := N__law_deed) (sc := defScope s__law_deed) (by decide +kernel)) (fun _ _ _ _ _ => (pg_name (i := 7) sc__law_deed.nd rfl (Or.inl rfl))) (fun _ _ _ _ _ => pts_nil) (fun _ _ _ _ _ => (pe_ix (ixT (K := K)) (pv 7) pe_int (fun _ _ => rfl))))
      (pss_cons (ps_set (i := 8) sc__law_deed.nd rfl (Or.inl rfl) (pe_lst pa_nil))
      (pss_cons (ps_for PassesOwn.never rfl (pi_range1 (by rfl) T.m_range (pa_cons (pe_op op_mod (pe_c c__law_at (hr.mono (by omega)) (by rfl) (pa_cons (pv 0) (pa_cons (pe_op op_add (pv 1) pe_int) pa_nil))) pe_int) pa_nil)) (pg_name (i := 9) sc__law_deed.nd rfl (Or.inl rfl)) (pss_one (ps_if (pt_cmpR op_gt (pe_callB (lenQ (K := K)) (by rfl) T.m_len PySem.boot_len (pa_cons (pv 6) pa_nil)) pe_int (nomark _)) (pss_one (ps_expr (bmK (K := K) PySem.F.plainAttrs_list PySem.F.slot_list_append PySem.F.type_list_append mt_append (pv 8) (pa_cons (pe_ix (ixL (K := K)) (pv 6) (pe_op op_mod (pe_c c__law_at (hr.mono (by omega)) (by rfl) (pa_cons (pv 0) (pa_cons (pe_op op_add (pe_op op_add (pv 1) pe_int) (pv 9)) pa_nil))) (pe_callB (lenQ (K := K)) (by rfl) T.m_len PySem.boot_len (pa_cons (pv 6) pa_nil))) (fun _ _ => rfl)) pa_nil)))) pss_nil)))
      (pss_cons (ps_set (i := 10) sc__law_deed.nd rfl (Or.inl rfl) pe_non)
      (pss_cons (ps_if (PW.pt (pw_and (pt_cmpR op_gt (pe_callB (lenQ (K := K)) (by rfl) T.m_len PySem.boot_len (pa_cons (pv 6) pa_nil)) pe_int (nomark _)) (pw_and1 (pt_cmpR op_ne (pe_op op_mod (pe_c c__law_at (hr.mono (by omega)) (by rfl) (pa_cons (pv 0) (pa_cons (pe_op op_add (pv 1) pe_int) pa_nil))) pe_int) pe_int (nomark _))))) (pss_one (ps_set (i := 10) sc__law_deed.nd rfl (Or.inl rfl) (pe_ix (ixL (K := K)) (pv 6) (pe_op op_mod (pe_op op_fdiv (pe_c c__law_at (hr.mono (by omega)) (by rfl) (pa_cons (pv 0) (pa_cons (pe_op op_add (pv 1) pe_int) pa_nil))) pe_int) (pe_callB (lenQ (K := K)) (by rfl) T.m_len PySem.boot_len (pa_cons (pv 6) pa_nil))) (fun _ _ => rfl)))) pss_nil)
      (pss_cons (ps_set (i := 11) sc__law_deed.nd rfl (Or.inl rfl) pe_int)
      (pss_cons (ps_for PassesOwn.never rfl (listI (K := K) (pe_op op_cat (pv 8) (pe_lst (pa_cons (pv 10) pa_nil)))) (pg_name (i := 12) sc__law_deed.nd rfl (Or.inl rfl)) (pss_one (ps_if (pt_cmp (pc_notN (pv 12))) (pss_one (ps_set (i := 11) sc__law_deed.nd rfl (Or.inl rfl) (pe_callB (call_max2 rfl) (by rfl) T.m_max (by decide +kernel) (pa_cons (pv 11) (pa_cons (pe_op op_add (pe_ix (ixT (K := K)) (pv 12) pe_int (fun _ _ => rfl)) pe_int) pa_nil))))) pss_nil)))
      (pss_cons (ps_for PassesOwn.never rfl (listI (K := K) (pv 4)) (pg_name (i := 13) sc__law_deed.nd rfl (Or.inl rfl)) (pss_one (ps_if (pt_cmpR op_eq (pe_ix (ixT (K := K)) (pv 13) pe_int (fun _ _ => rfl)) pe_str (nomark _)) (pss_one (ps_set (i := 11) sc__law_deed.nd rfl (Or.inl rfl) (pe_callB (call_max2 rfl) (by rfl) T.m_max (by decide +kernel) (pa_cons (pv 11) (pa_cons (pe_op op_add (pe_ix (ixT (K := K)) (pv 13) pe_int (fun _ _ => rfl)) (pe_callB call_len_str (by rfl) T.m_len PySem.boot_len (pa_cons (pe_ix (ixT (K := K)) (pv 13) pe_int (fun _ _ => rfl)) pa_nil))) pa_nil))))) pss_nil)))
      (pss_cons (ps_set (i := 11) sc__law_deed.nd rfl (Or.inl rfl) (pe_op op_add (pv 11) (pe_ix (ixL (K := K)) (pe_lst (pa_cons pe_int (pa_cons pe_int (pa_cons pe_int (pa_cons pe_int pa_nil))))) (pe_op op_mod (pe_c c__law_at (hr.mono (by omega)) (by rfl) (pa_cons (pv 0) (pa_cons (pe_op op_add (pv 1) pe_int) pa_nil))) pe_int) (fun _ _ => rfl))))
      (pss_cons (ps_if (pt_cmpR op_eq (pe_op op_mod (pe_op op_fdiv (pe_c c__law_at (hr.mono (by omega)) (by rfl) (pa_cons (pv 0) (pa_cons (pe_op op_add (pv 1) pe_int) pa_nil))) pe_int) pe_int) pe_int (nomark _)) (pss_one (ps_set (i := 11) sc__law_deed.nd rfl (Or.inl rfl) (pe_callB (call_max2 rfl) (by rfl) T.m_max (by decide +kernel) (pa_cons (pv 11) (pa_cons (pe_op op_add (pe_c c__law_last (hr.mono (by omega)) (by rfl) (pa_cons (pv 2) pa_nil)) pe_int) pa_nil))))) pss_nil)
      (pss_one (ps_ret (pe_tup (pa_cons pe_str (pa_cons (pv 5) (pa_cons (pe_callTy (tupleQ (K := K)) (by rfl) T.m_tuple (by decide +kernel) (pa_cons (pv 8) pa_nil)) (pa_cons (pv 10) (pa_cons (pv 11) (pa_cons (pe_c c__law_letters (hr.mono (by omega)) (by rfl) (pa_cons (pv 0) (pa_cons (pe_op op_add (pv 1) pe_int) pa_nil))) pa_nil)))))))))))))))))))))), ?_⟩
  refine go_enter (n := 10) rr hlo ht kk rfl ?_
  show Go C Tb _ [.dat (.list (eN ds)), .dat (.int (i : Int)), .dat (.list (eL rows)), .dat (.int (r : Int)), .un, .un, .un, .un, .un, .un, .un, .un, .un, .un] _ (fun s => s = .dat (eD (lawDeed ds i rows r)))
  have hown : ∀ d, d ∈ rows.getD r [] → (txt d).length ≤ 1000 := fun d hd => dB_txt (hR.rb.2 _ (getD_mem (show r < rows.length by omega)) d hd)
  refine gsd (es_ix ((ed_var (by rfl))).es (ed_var (by rfl)) a2) ?_
  refine gi (et_and (et_T (ed_eqI (ed_mod (at_c (j := i) hD (by omega) (ed_var (by rfl)) (ed_var (by rfl))) ed_int (by decide)) ed_int)) (fun hb => (et_T (ed_ib ((es_len ((ed_var (by rfl))).es).is (by rw [List.length_map])) ed_int)))) (fun hb => ?_) (fun hb => gn ?_)
  · rw [Bool.and_eq_true] at hb
    have g1 := of_decide_eq_true hb.1
    have g2 := of_decide_eq_true hb.2
    have e : lawDeed ds i rows r = .bck (1 + la ds (i + 1) % ((rows.getD r []).length : Int)) := by
      unfold lawDeed
      rw [if_pos ⟨g1, by omega⟩]
    rw [e]
    exact gr (ed_tup (ea_cons ed_str (ea_cons (ed_i0 ed_int (ed_mod (at_c (j := i + 1) hD (by omega) (ed_var (by rfl)) ((ed_i0 (ed_var (by rfl)) ed_int).is (by rfl))) ((es_len ((ed_var (by rfl))).es).is (by rw [List.length_map])) (by omega))) ea_nil))) rfl
  · have e : lawDeed ds i rows r = .chg (dMod ds i) (dRm ds i (mks rows (dMod ds i)) (la ds (i + 2) % 4).toNat) (dBh ds i (mks rows (dMod ds i))) (dNum ds i (dRm ds i (mks rows (dMod ds i)) (la ds (i + 2) % 4).toNat) (dBh ds i (mks rows (dMod ds i))) (rows.getD r []) rows) (letters ds (i + 9)) := by
      unfold lawDeed
      rw [if_neg fun q => ?_]
      rw [Bool.and_eq_false_iff] at hb
      rcases hb with hb | hb
      · exact of_decide_eq_false hb q.1
      · have := of_decide_eq_false hb
        omega
    rw [e]
    have hm := lo0 (i + 1)
    have am : atI (mods.map PyData.str) (la ds (i + 1) % 16 / 5) = some (.str (dMod ds i)) := at_lt (d := Str.empty) (by unfold la; omega) (by show _ < (4 : Int); unfold la; omega)
    refine gsd (es_ix ((ef_call () ea_nil trivial).es) (ed_div (ed_mod (at_c (j := i + 1) hD (by omega) (ed_var (by rfl)) ((ed_i0 (ed_var (by rfl)) ed_int).is (by rfl))) ed_int (by decide)) ed_int (by decide)) am) ?_
    generalize dMod ds i = m
    have hrl : (rowL rows m).length ≤ 4000 := by
      have := mks_len hR m
      rw [← rowL_marks, List.length_map] at this
      exact this
    refine gs ((ef_map (rowL rows m) eV (fun x => eM x.1) ((ei_list ((ef_call (rows, m) (ea_cons (ed_var (by rfl)) (ea_cons (ed_var (by rfl)) ea_nil)) (by exact ⟨hR.rm m, hR.as⟩)).list)).c) (by omega) (by walk_at "no") (fun x hx => ⟨_, _, tg_name, (by decide), (by walk_at "no"), (ed_ixT (ds := [eM x.1, .str x.2.1, .bool x.2.2]) (ed_var (by rfl)) ed_int (by walk_at "s"))⟩)).is (show _ = Sl.own ((mks rows m).map eM) by rw [← rowL_marks, List.map_map]; rfl)) ?_
    have hkl := mks_len hR m
    generalize mks rows m = Ks at hkl
    refine gs (ef_lst ea_nil) ?_
    have h2 := lo0 (i + 2)
    refine gfr (la ds (i + 2) % 4).toNat (fun k => .int (k : Int)) (fun k => [.dat (.list (eN ds)), .dat (.int (i : Int)), .dat (.list (eL rows)), .dat (.int (r : Int)), .dat (.list ((rows.getD r []).map eD)), .dat (.str m), .own (Ks.map eM), .un, .own ((dRm ds i Ks k).map eM), .un, .un, .un, .un, .un])
      (ei_range1 (ea_cons ((ed_mod (at_c (j := i + 2) hD (by omega) (ed_var (by rfl)) ((ed_i0 (ed_var (by rfl)) ed_int).is (by rfl))) ed_int (by decide)).is (by unfold la; rw [Int.toNat_of_nonneg (by omega)])) ea_nil) (by unfold la; omega)) (by unfold dRm; split <;> walk_at "le") (fun k hk => ⟨_, _, tg_name, (by walk_at "no"), ?_⟩) ?_
    · have hk4 : k < 4 := by unfold la at hk; omega
      by_cases hK : 0 < Ks.length
      · have ed : dRm ds i Ks (k + 1) = dRm ds i Ks k ++ [pick Ks (la ds (i + 3 + k))] := by
          unfold dRm
          rw [if_pos hK, if_pos hK, map_succ]
        have hrl : (dRm ds i Ks k).length = k := by
          unfold dRm
          rw [if_pos hK, List.length_map, List.length_range]
        rw [ed]
        refine go_if ((et_T (ed_ib ((es_len (es_own (by rfl))).is (by rw [List.length_map])) ed_int)).is (show decide ((Ks.length : Int) > 0) = true from decide_eq_true (by omega))) (fun hb => ?_) (fun hb => by cases hb)
        refine go_app (by rfl) (es_ix (es_own (by rfl)) (ed_mod (at_c (j := i + 3 + k) hD (by omega) (ed_var (by rfl)) ((ed_i0 (ed_i0 (ed_var (by rfl)) ed_int) (ed_var (by rfl))).is (by rfl))) ((es_len (es_own (by rfl))).is (by rw [List.length_map])) (by omega)) (at_mod (d := default) hK _)) (by rw [List.length_map]; omega) ?_
        rw [List.map_append]
        walk_at "le"
      · have ed : dRm ds i Ks (k + 1) = dRm ds i Ks k := by
          unfold dRm
          rw [if_neg hK, if_neg hK]
        rw [ed]
        refine go_if ((et_T (ed_ib ((es_len (es_own (by rfl))).is (by rw [List.length_map])) ed_int)).is (show decide ((Ks.length : Int) > 0) = false from decide_eq_false (by omega))) (fun hb => by cases hb) (fun hb => go_next ?_)
        walk_at "le"
    · have hrm : (dRm ds i Ks (la ds (i + 2) % 4).toNat).length ≤ 4 := by
        unfold dRm
        split
        · rw [List.length_map, List.length_range]
          unfold la
          omega
        · exact Nat.zero_le _
      generalize dRm ds i Ks (la ds (i + 2) % 4).toNat = rm at hrm
      refine gsd ed_non ?_
      have h7 := lo0 (i + 7)
      refine go_seq (M := fun Γ' => Γ' = [.dat (.list (eN ds)), .dat (.int (i : Int)), .dat (.list (eL rows)), .dat (.int (r : Int)), .dat (.list ((rows.getD r []).map eD)), .dat (.str m), .own (Ks.map eM), .un, .own (rm.map eM), .un, .dat (eO (dBh ds i Ks)), .un, .un, .un]) ?_ fun Γ' e => ?_
      · refine go_if (et_and (et_T (ed_ib ((es_len (es_own (by rfl))).is (by rw [List.length_map])) ed_int)) (fun hb => (et_T (ed_neI (ed_mod (at_c (j := i + 7) hD (by omega) (ed_var (by rfl)) ((ed_i0 (ed_var (by rfl)) ed_int).is (by rfl))) ed_int (by decide)) ed_int)))) (fun hb => ?_) (fun hb => ?_)
        · rw [Bool.and_eq_true] at hb
          have g1 : 0 < Ks.length := by
            have := of_decide_eq_true hb.1
            omega
          have g2 : ¬ la ds (i + 7) % 5 = 0 := of_decide_eq_false (by have := hb.2; rw [Bool.not_eq_true'] at this; exact this)
          have eb : dBh ds i Ks = some (pick Ks (la ds (i + 7) / 5)) := by
            unfold dBh
            rw [if_pos ⟨g1, g2⟩]
          rw [eb]
          exact go_setd (es_ix (es_own (by rfl)) (ed_mod (ed_div (at_c (j := i + 7) hD (by omega) (ed_var (by rfl)) ((ed_i0 (ed_var (by rfl)) ed_int).is (by rfl))) ed_int (by decide)) ((es_len (es_own (by rfl))).is (by rw [List.length_map])) (by omega)) (at_mod (d := default) g1 _)) rfl
        · have eb : dBh ds i Ks = none := by
            unfold dBh
            rw [if_neg fun q => ?_]
            rw [Bool.and_eq_false_iff] at hb
            rcases hb with hb | hb
            · have := of_decide_eq_false hb
              omega
            · rw [Bool.not_eq_false'] at hb
              exact q.2 (of_decide_eq_true hb)
          rw [eb]
          exact go_next rfl
      · subst e
        generalize dBh ds i Ks = bh
        refine gsd ed_int ?_
        have eO' : rm.map eM ++ [eO bh] = (rm.map some ++ [bh]).map eO := by rw [List.map_append, List.map_map]; rfl
        have hlist : ∀ {te : TE} {Γ : List Sl}, Ed C Tb te Γ (.list (rm.map eM ++ [eO bh])) → Ed C Tb te Γ (.list ((rm.map some ++ [bh]).map eO)) := fun h => h.is (by rw [eO'])
        have hxl : (rm.map some ++ [bh]).length ≤ 5 := by
          rw [List.length_append, List.length_map]
          exact Nat.succ_le_succ hrm
        have edn : dNum ds i rm bh (rows.getD r []) rows = (if la ds (i + 8) / 4 % 2 = 0 then mx (lastR ((rm.map some ++ [bh]).foldl num1 1) (rows.getD r []) + ([0, 0, 1, 5] : List Int).getD (la ds (i + 8) % 4).toNat 0) (lastN rows + 1) else (lastR ((rm.map some ++ [bh]).foldl num1 1) (rows.getD r []) + ([0, 0, 1, 5] : List Int).getD (la ds (i + 8) % 4).toNat 0)) := rfl
        rw [edn]
        generalize rm.map some ++ [bh] = xs at hlist hxl
        refine gfl xs eO (fun k => [.dat (.list (eN ds)), .dat (.int (i : Int)), .dat (.list (eL rows)), .dat (.int (r : Int)), .dat (.list ((rows.getD r []).map eD)), .dat (.str m), .un, .un, .own (rm.map eM), .un, .dat (eO bh), .dat (.int ((xs.take k).foldl num1 1)), .un, .un])
          (ei_list (hlist ((es_cat (es_own (by rfl)) ((ef_lst (ea_cons (ed_var (by rfl)) ea_nil))).es (by rw [List.length_map]; exact Nat.le_trans (Nat.succ_le_succ hrm) (by decide))).list))) (by walk_at "le") (fun k o hx => ⟨_, _, tg_name, (by walk_at "no"), ?_⟩) ?_
        · have ef : (xs.take (k + 1)).foldl num1 1 = num1 ((xs.take k).foldl num1 1) o := by rw [take_snoc hx, List.foldl_append]; rfl
          rw [ef]
          generalize (xs.take k).foldl num1 1 = a
          cases o with
          | none =>
            refine go_if (b := false) ((et_B (er_notN ((ed_var (by rfl))).er)).is (by rfl)) (fun hb => by cases hb) (fun hb => go_next ?_)
            walk_at "le"
          | some k =>
            refine go_if (b := true) ((et_B (er_notN ((ed_var (by rfl))).er)).is (by rfl)) (fun hb => ?_) (fun hb => by cases hb)
            refine go_setd (ed_m2 (f := mx) (ed_var (by rfl)) (ed_i0 (ed_ixT (ds := [.int k.1, .int k.2]) (ed_var (by rfl)) ed_int (by walk_at "s")) ed_int)) ?_
            walk_at "le"
        · rw [List.take_length]
          generalize xs.foldl num1 1 = n1
          have hownl := b2
          refine gfl (rows.getD r []) eD (fun k => [.dat (.list (eN ds)), .dat (.int (i : Int)), .dat (.list (eL rows)), .dat (.int (r : Int)), .dat (.list ((rows.getD r []).map eD)), .dat (.str m), .un, .un, .own (rm.map eM), .un, .dat (eO bh), .dat (.int (((rows.getD r []).take k).foldl last1 n1)), .un, .un])
            (ei_list (ed_var (by rfl))) (by walk_at "le") (fun k d hd => ⟨_, _, tg_name, (by walk_at "no"), ?_⟩) ?_
          · have hl := hown d (List.mem_of_getElem? hd)
            have e2 : ((rows.getD r []).take (k + 1)).foldl last1 n1 = last1 (((rows.getD r []).take k).foldl last1 n1) d := by rw [take_snoc hd, List.foldl_append]; rfl
            rw [e2]
            generalize ((rows.getD r []).take k).foldl last1 n1 = a
            cases d with
            | bck p =>
              refine go_if ((et_T (ed_eqS (ed_ixT (ed_var (by rfl)) ed_int (by walk_at "s")) ed_str)).is nbc') (fun hb => by cases hb) (fun hb => ?_)
              refine go_next ?_
              walk_at "le"
            | chg m' rm' bh' n' t' =>
              have hl2 : t'.length ≤ sizeLine := sz1000 hl
              refine go_if ((et_T (ed_eqS (ed_ixT (ed_var (by rfl)) ed_int (by walk_at "s")) ed_str)).is ncc) (fun hb => ?_) (fun hb => by cases hb)
              refine go_setd (ed_m2 (f := mx) (ed_var (by rfl)) (ed_i0 (ed_ixT (ed_var (by rfl)) ed_int (by walk_at "s")) (ed_lenS (ed_ixT (ed_var (by rfl)) ed_int (by walk_at "s")) hl2))) ?_
              walk_at "le"
          · rw [List.take_length]
            show Go C Tb _ [.dat (.list (eN ds)), .dat (.int (i : Int)), .dat (.list (eL rows)), .dat (.int (r : Int)), .dat (.list ((rows.getD r []).map eD)), .dat (.str m), .un, .un, .own (rm.map eM), .un, .dat (eO bh), .dat (.int (lastR n1 (rows.getD r []))), .un, .un] _ _
            generalize lastR n1 (rows.getD r []) = n2
            have h8' := lo0 (i + 8)
            refine gsd (ed_i0 (ed_var (by rfl)) (es_ix ((ef_lst (ea_cons ed_int (ea_cons ed_int (ea_cons ed_int (ea_cons ed_int ea_nil)))))).es (ed_mod (at_c (j := i + 8) hD (by omega) (ed_var (by rfl)) ((ed_i0 (ed_var (by rfl)) ed_int).is (by rfl))) ed_int (by decide)) (at_lt (xs := ([0, 0, 1, 5] : List Int)) (f := .int) (d := 0) (by unfold la; omega) (by show _ < (4 : Int); unfold la; omega)))) ?_
            generalize n2 + ([0, 0, 1, 5] : List Int).getD (la ds (i + 8) % 4).toNat 0 = n3
            have fin : ∀ (n4 : Int), n4 = (if la ds (i + 8) / 4 % 2 = 0 then mx n3 (lastN rows + 1) else n3) → n4 = (if la ds (i + 8) / 4 % 2 = 0 then mx n3 (lastN rows + 1) else n3) := fun _ h => h
            refine go_seq (M := fun Γ' => Γ' = [.dat (.list (eN ds)), .dat (.int (i : Int)), .dat (.list (eL rows)), .dat (.int (r : Int)), .dat (.list ((rows.getD r []).map eD)), .dat (.str m), .un, .un, .own (rm.map eM), .un, .dat (eO bh), .dat (.int (if la ds (i + 8) / 4 % 2 = 0 then mx n3 (lastN rows + 1) else n3)), .un, .un]) ?_ fun Γ' e => ?_
            · refine go_if (et_T (ed_eqI (ed_mod (ed_div (at_c (j := i + 8) hD (by omega) (ed_var (by rfl)) ((ed_i0 (ed_var (by rfl)) ed_int).is (by rfl))) ed_int (by decide)) ed_int (by decide)) ed_int)) (fun hb => ?_) (fun hb => ?_)
              · rw [if_pos (of_decide_eq_true hb)]
                exact go_setd (ed_m2 (f := mx) (ed_var (by rfl)) (ed_i0 ((ef_call rows (ea_cons (ed_var (by rfl)) ea_nil) (by exact fun r hr d hd => dB_txt (hR.rb.2 r hr d hd)))).ed ed_int)) rfl
              · rw [if_neg (of_decide_eq_false hb)]
                exact go_next rfl
            · subst e
              exact go_retd (ed_tup (ea_cons ed_str (ea_cons (ed_var (by rfl)) (ea_cons (es_tupleOf (es_own (by rfl))) (ea_cons (ed_var (by rfl)) (ea_cons (ed_var (by rfl)) (ea_cons ((ef_call (ds, i + 9) (ea_cons (ed_var (by rfl)) (ea_cons ((ed_i0 (ed_var (by rfl)) ed_int).is (by rfl)) ea_nil)) (by exact ⟨hD, by show i + 9 ≤ 800000; omega⟩))).ed ea_nil))))))) rfl
end
end G

set_option maxRecDepth 100000
set_option maxHeartbeats 4000000
/-! walks, part 13: the law's triples -/
namespace G
open PySem L2 M
local macro_rules | `(tactic| walk_at "s") => `(tactic| first | rfl | assumption | decide | omega | exact Or.inr ⟨by omega, by omega⟩ | exact Or.inl ⟨by omega, by omega⟩ | exact ⟨by omega, by omega⟩)
local macro_rules | `(tactic| walk_at "le") => `(tactic| (repeat (first | exact Le.nil | refine Le.eq ?_ | refine Le.un ?_)))
local macro_rules | `(tactic| walk_at "no") => `(tactic| (repeat (first | exact no_nil | refine no_cons rfl ?_)))
section
variable {P : Program} {w : World} {K : PySem.W.Frag} {mg : Str → Option Value} {base : Heap} {C : Addr} {Tb : Tab}
theorem ef_nil2 {Γ : List Sl} : Ef C Tb (tLst tNil) Γ (.own2 []) := fun fp lo H σ Q S k =>
  (ef_lst (ds := []) ea_nil) fp lo H σ Q S fun v H' fpn x fr nd ok => k v H' fpn x fr nd (by
    obtain ⟨l, xs, e1, e2, e3, e4⟩ := ok
    cases e4
    exact ⟨l, [], e1, e2, e3, .nil⟩)
def spTriples (C : Addr) (Tb : Tab) : Sp := spF C Tb (fun x : List Int × Nat × Nat × Nat => [.list (eN x.1), .int (x.2.1 : Int), .int (x.2.2.1 : Int), .int (x.2.2.2 : Int)]) (fun x => Dr x.1 ∧ x.2.1 ≤ 1000 ∧ x.2.2.1 ≤ 40 ∧ 0 < x.2.2.2 ∧ x.2.2.2 ≤ 8 ∧ ∀ k, k < x.2.2.1 → RA (tVis x.1 x.2.1 x.2.2.2 k (tSt x.1 x.2.1 x.2.2.2 k)))
  (fun x => .own ((tSt x.1 x.2.1 x.2.2.2 x.2.2.1).2.2.map eT))
theorem w_law_triples (F : Def K mg "_law_triples" s__law_triples ["_law_draws_here", "_law_start_here", "_law_steps", "_law_most"]) (T : Txt K mg C) (c__law_at : Cal P w K mg base 2 "_law_at" (spAt C Tb)) (c__law_visible : Cal P w K mg base 1 "_law_visible" (spVis C Tb)) (c__law_deed : Cal P w K mg base 4 "_law_deed" (spDeed C Tb)) : Cal P w K mg base 5 "_law_triples" (spTriples C Tb) := by
  refine F.cal sc__law_triples (sp_len fun _ => rfl) fun f cdv A outer s H vs Q E hr h => ?_
  obtain ⟨⟨ds, st, sn, mo⟩, lo, rr, hlo, ht, ⟨hD0, hs0, hn0, hm0, hm8, hR0⟩, kk⟩ := h
  have hD : Dr ds := hD0
  have hs : st ≤ 1000 := hs0
  have hn : sn ≤ 40 := hn0
  have hm : 0 < mo := hm0
  have hm8 : mo ≤ 8 := hm8
  have hR : ∀ k, k < sn → RA (tVis ds st mo k (tSt ds st mo k)) := hR0
  clear hD0 hs0 hn0 hm0 hR0
  refine ⟨_, (pss_cons (ps_setLc (i := 4) (own := [("_law_k", 5)]) rfl sc__law_triples.nd rfl rfl (sw_true rfl rfl rfl (by decide +kernel)) (pi_range1 (by rfl) T.m_range (pa_cons pe_int pa_nil)) (blkOk_by (N := N__law_triples) (sc := defScope s__law_triples) (by decide +kernel)) (fun _ _ _ _ _ => (pg_name (i := 5) sc__law_triples.nd rfl (Or.inl rfl))) (fun _ _ _ _ _ => pts_nil) (fun _ _ _ _ _ => (pe_lst pa_nil)))
      (pss_cons (ps_set (i := 6) sc__law_triples.nd rfl (Or.inr rfl) (pe_lst pa_nil))
      (pss_cons (ps_for PassesOwn.never rfl (pi_range1 (by rfl) T.m_range (pa_cons (pv 3) pa_nil)) (pg_name (i := 5) sc__law_triples.nd rfl (Or.inl rfl)) (pss_one (ps_expr (bmK (K := K) PySem.F.plainAttrs_list PySem.F.slot_list_append PySem.F.type_list_append mt_append (pv 6) (pa_cons (pe_lc (own := [("_law_j", 7)]) rfl sc__law_triples.nd (pi_range1 (by rfl) T.m_range (pa_cons pe_int pa_nil)) (blkOk_by (N := N__law_triples) (sc := defScope s__law_triples) (by decide +kernel)) (fun _ _ _ _ _ => (pg_name (i := 7) sc__law_triples.nd rfl (Or.inl rfl))) (fun _ _ _ _ _ => pts_nil) (fun _ _ _ _ _ => pe_int)) pa_nil)))))
      (pss_cons (ps_set (i := 8) sc__law_triples.nd rfl (Or.inl rfl) (pe_lst pa_nil))
      (pss_cons (ps_for PassesOwn.never rfl (pi_range1 (by rfl) T.m_range (pa_cons (pv 2) pa_nil)) (pg_name (i := 5) sc__law_triples.nd rfl (Or.inl rfl)) (pss_cons (ps_set (i := 9) sc__law_triples.nd rfl (Or.inl rfl) (pe_op op_add (pv 1) (pe_op op_mul pe_int (pv 5))))
      (pss_cons (ps_set (i := 10) sc__law_triples.nd rfl (Or.inr rfl) (pe_op op_mod (pe_c c__law_at (hr.mono (by omega)) (by rfl) (pa_cons (pv 0) (pa_cons (pv 9) pa_nil))) (pv 3)))
      (pss_cons (ps_set (i := 11) sc__law_triples.nd rfl (Or.inr rfl) (pe_op op_mod (pe_c c__law_at (hr.mono (by omega)) (by rfl) (pa_cons (pv 0) (pa_cons (pe_op op_add (pv 9) pe_int) pa_nil))) (pe_op op_add (pv 3) pe_int)))
      (pss_cons (ps_if (pt_cmpR op_lt (pv 11) (pv 3) (nomark _)) (pss_one (ps_asg (pe_lc (own := [("_law_j", 7)]) rfl sc__law_triples.nd (pi_range1 (by rfl) T.m_range (pa_cons pe_int pa_nil)) (blkOk_by (N := N__law_triples) (sc := defScope s__law_triples) (by decide +kernel)) (fun _ _ _ _ _ => (pg_name (i := 7) sc__law_triples.nd rfl (Or.inl rfl))) (fun _ _ _ _ _ => pts_nil) (fun _ _ _ _ _ => (pe_callB (call_max2 rfl) (by rfl) T.m_max (by decide +kernel) (pa_cons (pe_ix (ixL (K := K)) (pe_ix (ixL (K := K)) (pv 6) (pv 10) (fun _ _ => rfl)) (pv 7) (fun _ _ => rfl)) (pa_cons (pe_ix (ixL (K := K)) (pe_ix (ixL (K := K)) (pv 6) (pv 11) (fun _ _ => rfl)) (pv 7) (fun _ _ => rfl)) pa_nil))))) (pg_sub (pv 6) (pv 10) set_list))) pss_nil)
      (pss_cons (ps_set (i := 12) sc__law_triples.nd rfl (Or.inl rfl) (pe_c c__law_deed (hr.mono (by omega)) (by rfl) (pa_cons (pv 0) (pa_cons (pe_op op_add (pv 9) pe_int) (pa_cons (pe_c c__law_visible (hr.mono (by omega)) (by rfl) (pa_cons (pv 4) (pa_cons (pe_ix (ixL (K := K)) (pv 6) (pv 10) (fun _ _ => rfl)) pa_nil))) (pa_cons (pv 10) pa_nil))))))
      (pss_cons (ps_expr (bmK (K := K) PySem.F.plainAttrs_list PySem.F.slot_list_append PySem.F.type_list_append mt_append (pe_ix (ixL (K := K)) (pv 4) (pv 10) (fun _ _ => rfl)) (pa_cons (pv 12) pa_nil)))
      (pss_cons (ps_asg (pe_callB (lenQ (K := K)) (by rfl) T.m_len PySem.boot_len (pa_cons (pe_ix (ixL (K := K)) (pv 4) (pv 10) (fun _ _ => rfl)) pa_nil)) (pg_sub (pe_ix (ixL (K := K)) (pv 6) (pv 10) (fun _ _ => rfl)) (pv 10) set_list))
      (pss_one (ps_expr (bmK (K := K) PySem.F.plainAttrs_list PySem.F.slot_list_append PySem.F.type_list_append mt_append (pv 8) (pa_cons (pe_tup (pa_cons (pv 10) (pa_cons (pe_callB (lenQ (K := K)) (by rfl) T.m_len PySem.boot_len (pa_cons (pe_ix (ixL (K := K)) (pv 4) (pv 10) (fun _ _ => rfl)) pa_nil)) (pa_cons (pv 12) pa_nil)))) pa_nil))))))))))))
      (pss_one (ps_ret (pv 8)))))))), ?_⟩
  refine go_enter (n := 9) rr hlo ht kk rfl ?_
  show Go C Tb _ [.dat (.list (eN ds)), .dat (.int (st : Int)), .dat (.int (sn : Int)), .dat (.int (mo : Int)), .un, .un, .un, .un, .un, .un, .un, .un, .un] _ (fun s => s = .own ((tSt ds st mo sn).2.2.map eT))
  refine gs (ef_lcO (List.range 8) (fun (j : Nat) => .int (j : Int)) (fun _ => []) ((ei_range1 (n := 8) (ea_cons ed_int ea_nil) (by decide))).c (by decide) (by walk_at "no") (fun x hx => ⟨_, _, tg_name, (by decide), (by walk_at "no"), ef_lst ea_nil⟩)) ?_
  refine gs ef_nil2 ?_
  have ez : ((List.range 8).map fun _ => PyData.int 0) = eC (List.replicate 8 0) := rfl
  refine gfr mo (fun i => .int (i : Int)) (fun i => [.dat (.list (eN ds)), .dat (.int (st : Int)), .dat (.int (sn : Int)), .dat (.int (mo : Int)), .own2 (eR (List.replicate 8 [])), .un, .own2 ((List.replicate i (List.replicate 8 0)).map eC), .un, .un, .un, .un, .un, .un]) (ei_range1 (ea_cons (ed_var (by rfl)) ea_nil) (by omega)) (by walk_at "le") (fun i hi => ⟨_, _, tg_name, (by walk_at "no"), ?_⟩) ?_
  · refine go_appN (by rfl) ((ef_map (List.range 8) (fun (j : Nat) => .int (j : Int)) (fun _ => .int 0) ((ei_range1 (n := 8) (ea_cons ed_int ea_nil) (by decide))).c (by decide) (by walk_at "no") (fun x hx => ⟨_, _, tg_name, (by decide), (by walk_at "no"), ed_int⟩)).is (by rw [ez])) (by rw [List.length_map, List.length_replicate]; omega) ?_
    have e : (List.replicate (i + 1) (List.replicate 8 0)).map eC = (List.replicate i (List.replicate 8 0)).map eC ++ [eC (List.replicate 8 0)] := by rw [List.replicate_succ' (n := i), List.map_append]; rfl
    rw [e]
    walk_at "le"
  · refine gs (ef_lst ea_nil) ?_
    refine gfr sn (fun i => .int (i : Int)) (fun k => [.dat (.list (eN ds)), .dat (.int (st : Int)), .dat (.int (sn : Int)), .dat (.int (mo : Int)), .own2 (eR (tSt ds st mo k).1), .un, .own2 ((tSt ds st mo k).2.1.map eC), .un, .own ((tSt ds st mo k).2.2.map eT), .un, .un, .un, .un]) (ei_range1 (ea_cons (ed_var (by rfl)) ea_nil) (by omega)) (by walk_at "le") (fun k hk => ⟨_, _, tg_name, (by walk_at "no"), ?_⟩) ?_
    · have hsz := tSz_at ds st hm hm8 k
      have hRk := hR k hk
      have est : tSt ds st mo (k + 1) = (addD (tSt ds st mo k).1 (tRep ds st mo k) (lawDeed ds (st + 16 * k + 2) (vis (tSt ds st mo k).1 ((tCs ds st mo k (tSt ds st mo k)).getD (tRep ds st mo k) [])) (tRep ds st mo k)), (tCs ds st mo k (tSt ds st mo k)).set (tRep ds st mo k) (((tCs ds st mo k (tSt ds st mo k)).getD (tRep ds st mo k) []).set (tRep ds st mo k) ((addD (tSt ds st mo k).1 (tRep ds st mo k) (lawDeed ds (st + 16 * k + 2) (vis (tSt ds st mo k).1 ((tCs ds st mo k (tSt ds st mo k)).getD (tRep ds st mo k) [])) (tRep ds st mo k))).getD (tRep ds st mo k) []).length), (tSt ds st mo k).2.2 ++ [((tRep ds st mo k : Int), (((addD (tSt ds st mo k).1 (tRep ds st mo k) (lawDeed ds (st + 16 * k + 2) (vis (tSt ds st mo k).1 ((tCs ds st mo k (tSt ds st mo k)).getD (tRep ds st mo k) [])) (tRep ds st mo k))).getD (tRep ds st mo k) []).length : Int), lawDeed ds (st + 16 * k + 2) (vis (tSt ds st mo k).1 ((tCs ds st mo k (tSt ds st mo k)).getD (tRep ds st mo k) [])) (tRep ds st mo k))]) := rfl
      rw [est]
      obtain ⟨q1, q2⟩ := tSz_cs hsz hm ds st
      have hrep := tRep_lt (ds := ds) (start := st) (k := k) hm
      have hoth : tOth ds st mo k < mo + 1 := by
        unfold tOth
        have h1 := Int.emod_nonneg (la ds (st + 16 * k + 1)) (show (mo : Int) + 1 ≠ 0 by omega)
        have h2 := Int.emod_lt_of_pos (la ds (st + 16 * k + 1)) (show 0 < (mo : Int) + 1 by omega)
        omega
      have er : la ds (st + 16 * k) % (mo : Int) = (tRep ds st mo k : Int) := by
        unfold tRep
        rw [Int.toNat_of_nonneg (Int.emod_nonneg _ (by omega))]
      have eo : la ds (st + 16 * k + 1) % ((mo : Int) + 1) = (tOth ds st mo k : Int) := by
        unfold tOth
        rw [Int.toNat_of_nonneg (Int.emod_nonneg _ (by omega))]
      unfold tVis at hRk
      have ec : tCs ds st mo k (tSt ds st mo k) = cs1 (tSt ds st mo k).2.1 (tRep ds st mo k) (tOth ds st mo k) mo := rfl
      generalize tCs ds st mo k (tSt ds st mo k) = c1 at ec q1 q2 hRk
      generalize tSt ds st mo k = s0 at hsz ec hRk
      obtain ⟨rows, cs, tr⟩ := s0
      have n8 : rows.length = 8 := hsz.n8
      have rl : ∀ r, r < 8 → (rows.getD r []).length ≤ k := hsz.rl
      have cl : cs.length = mo := hsz.cl
      have c8 : ∀ c, c ∈ cs → c.length = 8 := hsz.c8
      have tl : tr.length = k := hsz.tl
      have ec : c1 = cs1 cs (tRep ds st mo k) (tOth ds st mo k) mo := ec
      have hRk : RA (vis rows (c1.getD (tRep ds st mo k) [])) := hRk
      show Go C Tb _ [.dat (.list (eN ds)), .dat (.int (st : Int)), .dat (.int (sn : Int)), .dat (.int (mo : Int)), .own2 (eR rows), .dat (.int (k : Int)), .own2 (cs.map eC), .un, .own (tr.map eT), .un, .un, .un, .un] _ _
      refine gsd ((ed_i0 (ed_var (by rfl)) (ed_mul ed_int (ed_var (by rfl)) (Or.inl ⟨by decide, by decide⟩))).is (show _ = PyData.int ((st + 16 * k : Nat) : Int) by rfl)) ?_
      refine gsd ((ed_mod (at_c (j := st + 16 * k) hD (by omega) (ed_var (by rfl)) (ed_var (by rfl))) (ed_var (by rfl)) (by omega)).is (by rw [er])) ?_
      refine gsd ((ed_mod (at_c (j := st + 16 * k + 1) hD (by omega) (ed_var (by rfl)) ((ed_i0 (ed_var (by rfl)) ed_int).is (by rfl))) (ed_i0 (ed_var (by rfl)) ed_int) (by omega)).is (by rw [eo])) ?_
      show Go C Tb _ [.dat (.list (eN ds)), .dat (.int (st : Int)), .dat (.int (sn : Int)), .dat (.int (mo : Int)), .own2 (eR rows), .dat (.int (k : Int)), .own2 (cs.map eC), .un, .own (tr.map eT), .dat (.int ((st + 16 * k : Nat) : Int)), .dat (.int (tRep ds st mo k : Int)), .dat (.int (tOth ds st mo k : Int)), .un] _ _
      generalize tRep ds st mo k = R at hrep ec hRk
      generalize tOth ds st mo k = O at hoth ec
      refine go_seq (M := fun Γ' => Γ' = [.dat (.list (eN ds)), .dat (.int (st : Int)), .dat (.int (sn : Int)), .dat (.int (mo : Int)), .own2 (eR rows), .dat (.int (k : Int)), .own2 (c1.map eC), .un, .own (tr.map eT), .dat (.int ((st + 16 * k : Nat) : Int)), .dat (.int (R : Int)), .dat (.int (O : Int)), .un]) ?_ fun Γ' e => ?_
      · refine go_if (et_T (ed_ib (ed_var (by rfl)) (ed_var (by rfl)))) (fun hb => ?_) (fun hb => ?_)
        · have hb : (O : Int) < (mo : Int) := of_decide_eq_true hb
          have ec2 : c1 = cs.set R (joinC (cs.getD R []) (cs.getD O [])) := by
            rw [ec]
            unfold cs1
            rw [if_pos (by omega)]
          have hcR := c8 _ (getD_mem (d := []) (show R < cs.length by omega))
          have hcO := c8 _ (getD_mem (d := []) (show O < cs.length by omega))
          have aR : atI (cs.map eC) (R : Int) = some (eC (cs.getD R [])) := at_map (get_getD (by omega))
          have aO : atI (cs.map eC) (O : Int) = some (eC (cs.getD O [])) := at_map (get_getD (by omega))
          refine go_setN (j := R) (ds := eC (joinC (cs.getD R []) (cs.getD O []))) (by rfl) ((ef_map (List.range 8) (fun (j : Nat) => .int (j : Int)) (fun j => .int ((mxN ((cs.getD R []).getD j 0) ((cs.getD O []).getD j 0) : Nat) : Int)) ((ei_range1 (n := 8) (ea_cons ed_int ea_nil) (by decide))).c (by decide) (by walk_at "no") (fun j hj => ⟨_, _, tg_name, (by decide), (by walk_at "no"), ?_⟩)).is ?_) (ed_var (by rfl)) (by rw [List.length_map]; exact ix_nat (by omega)) ?_
          · have hj := List.mem_range.mp hj
            exact (ed_m2 (f := mx) (es_ix (es_ix2 (by rfl) (ed_var (by rfl)) aR) (ed_var (by rfl)) (at_map (get_getD (d := 0) (by omega)))) (es_ix (es_ix2 (by rfl) (ed_var (by rfl)) aO) (ed_var (by rfl)) (at_map (get_getD (d := 0) (by omega))))).is (by rw [mx_nat])
          · unfold eC joinC
            rw [List.map_map]
            rfl
          · rw [ec2, List.map_set]
            rfl
        · have hb : ¬ (O : Int) < (mo : Int) := of_decide_eq_false hb
          have ec2 : c1 = cs := by
            rw [ec]
            unfold cs1
            rw [if_neg (by omega)]
          rw [ec2]
          exact go_next rfl
      · subst e
        have hcR := q2 _ (getD_mem (d := []) (show R < c1.length by omega))
        have aR : atI (c1.map eC) (R : Int) = some (eC (c1.getD R [])) := at_map (get_getD (by omega))
        have hvf : (eR (vis rows (c1.getD R []))).all frmA = true := List.all_eq_true.mpr fun x hx => by
          obtain ⟨y, _, rfl⟩ := List.mem_map.mp hx
          exact frmA_map _ _ fun d _ => frm_eD d
        refine gsd (ef_call (ds, st + 16 * k + 2, vis rows (c1.getD R []), R) (ea_cons (ed_var (by rfl)) (ea_cons ((ed_i0 (ed_var (by rfl)) ed_int).is (by rfl)) (ea_cons (((er_call (rows, c1.getD R []) (er_cons ((er_own2 (by rfl)).is (by rw [eL_eq])) (er_cons (es_ix2 (by rfl) (ed_var (by rfl)) aR).er er_nil)) (by exact ⟨n8, hcR⟩) (by exact hvf)).list2).is (by rw [eL_eq])) (ea_cons (ed_var (by rfl)) ea_nil)))) (by exact ⟨hD, by show st + 16 * k + 2 ≤ 700000; omega, hRk, by show R < 8; omega⟩)).ed ?_
        generalize lawDeed ds (st + 16 * k + 2) (vis rows (c1.getD R [])) R = d
        have hr8 : R < rows.length := by omega
        have hlen := rl R (by omega)
        have es : (eR rows).set R ((rows.getD R []).map eD ++ [eD d]) = eR (addD rows R d) := eR_set _ _ _
        refine go_seq (go_app2 (N := fun Γ' => Γ' = [.dat (.list (eN ds)), .dat (.int (st : Int)), .dat (.int (sn : Int)), .dat (.int (mo : Int)), .own2 (eR (addD rows R d)), .dat (.int (k : Int)), .own2 (c1.map eC), .un, .own (tr.map eT), .dat (.int ((st + 16 * k : Nat) : Int)), .dat (.int (R : Int)), .dat (.int (O : Int)), .dat (eD d)]) (j := R) (by rfl) (ed_var (by rfl)) (by rw [eR_length]; exact ix_nat hr8) (eR_at hr8) (ed_var (by rfl)) (by rw [List.length_map]; omega) (by rw [es]; rfl)) fun Γ' e => ?_
        subst e
        have hl2 : (addD rows R d).length = 8 := (addD_length _ _ _).trans n8
        generalize addD rows R d = rows' at hl2
        have aL : atI (eR rows') (R : Int) = some ((rows'.getD R []).map eD) := at_nat (eR_at (by omega))
        have es2 : (c1.map eC).set R ((eC (c1.getD R [])).set R (.int ((rows'.getD R []).length : Int))) = (c1.set R ((c1.getD R []).set R (rows'.getD R []).length)).map eC := by
          rw [List.map_set]
          unfold eC
          rw [List.map_set]
        refine go_seq (go_set2 (N := fun Γ' => Γ' = [.dat (.list (eN ds)), .dat (.int (st : Int)), .dat (.int (sn : Int)), .dat (.int (mo : Int)), .own2 (eR rows'), .dat (.int (k : Int)), .own2 ((c1.set R ((c1.getD R []).set R (rows'.getD R []).length)).map eC), .un, .own (tr.map eT), .dat (.int ((st + 16 * k : Nat) : Int)), .dat (.int (R : Int)), .dat (.int (O : Int)), .dat (eD d)]) (j := R) (n := R) (ds := eC (c1.getD R [])) (by rfl) ((es_len (es_ix2 (by rfl) (ed_var (by rfl)) aL)).is (by rw [List.length_map])) (ed_var (by rfl)) (by rw [List.length_map]; exact ix_nat (by omega)) (by rw [List.getElem?_map, get_getD (d := []) (show R < c1.length by omega)]; rfl) (ed_var (by rfl)) (by unfold eC; rw [List.length_map, hcR]; exact ix_nat (by omega)) (by rw [es2]; rfl)) fun Γ' e => ?_
        subst e
        refine go_app (by rfl) (ed_tup (ea_cons (ed_var (by rfl)) (ea_cons ((es_len (es_ix2 (by rfl) (ed_var (by rfl)) aL)).is (by rw [List.length_map])) (ea_cons (ed_var (by rfl)) ea_nil)))) (by rw [List.length_map]; omega) ?_
        have em : (tr ++ [((R : Int), ((rows'.getD R []).length : Int), d)]).map eT = tr.map eT ++ [.tuple [.int (R : Int), .int ((rows'.getD R []).length : Int), eD d]] := by rw [List.map_append]; rfl
        show Le _ [.dat (.list (eN ds)), .dat (.int (st : Int)), .dat (.int (sn : Int)), .dat (.int (mo : Int)), .own2 (eR rows'), .un, .own2 ((c1.set R ((c1.getD R []).set R (rows'.getD R []).length)).map eC), .un, .own ((tr ++ [((R : Int), ((rows'.getD R []).length : Int), d)]).map eT), .un, .un, .un, .un]
        rw [em]
        walk_at "le"
    · exact go_retv (by rfl) (by simp) rfl
end
end G

set_option maxRecDepth 100000
set_option maxHeartbeats 4000000
/-! walks, part 14: the law's comparison -/
namespace M
open PySem G
/-- data of n levels at most -/
def smOk : Nat → PyData → Prop
  | _, .dict _ => False
  | 0, .list _ => False
  | 0, .tuple _ => False
  | n + 1, .list ds => ds.length ≤ 1000000 ∧ ∀ x, x ∈ ds → smOk n x
  | n + 1, .tuple ds => ds.length ≤ 1000000 ∧ ∀ x, x ∈ ds → smOk n x
  | _, .none => True
  | _, .bool _ => True
  | _, .int _ => True
  | _, .str _ => True
end M
namespace G
open PySem L2 M
local macro_rules | `(tactic| walk_at "s") => `(tactic| first | rfl | assumption | decide | omega | exact Or.inr ⟨by omega, by omega⟩ | exact Or.inl ⟨by omega, by omega⟩ | exact ⟨by omega, by omega⟩)
local macro_rules | `(tactic| walk_at "le") => `(tactic| (repeat (first | exact Le.nil | refine Le.eq ?_ | refine Le.un ?_)))
local macro_rules | `(tactic| walk_at "no") => `(tactic| (repeat (first | exact no_nil | refine no_cons rfl ?_)))
abbrev s__law_is_integer : Stmt := topS 16
abbrev N__law_is_integer : List Str := ["_law_actual"]
theorem sc__law_is_integer : FnScope N__law_is_integer ["_law_actual"] (defScope s__law_is_integer) := ⟨rfl, rfl, rfl, by decide +kernel, rfl, by decide +kernel, by decide +kernel⟩
abbrev s__law_same : Stmt := topS 17
abbrev N__law_same : List Str := ["_law_actual", "_law_expected", "_law_k"]
theorem sc__law_same : FnScope N__law_same ["_law_actual", "_law_expected"] (defScope s__law_same) := ⟨rfl, rfl, rfl, by decide +kernel, rfl, by decide +kernel, by decide +kernel⟩
section
variable {P : Program} {w : World} {K : PySem.W.Frag} {mg : Str → Option Value} {base : Heap} {C : Addr} {Tb : Tab}
def spIsInt (C : Addr) (Tb : Tab) : Sp := spF C Tb (fun i : Int => [.int i]) (fun _ => True) (fun _ => .dat (.bool true))
theorem w_is_integer (F : Def K mg "_law_is_integer" s__law_is_integer ["_law_actual"]) (T : Txt K mg C) : Cal P w K mg base 1 "_law_is_integer" (spIsInt C Tb) := by
  refine F.cal sc__law_is_integer (sp_len fun _ => rfl) fun f cdv A outer s H vs Q E hr h => ?_
  obtain ⟨i, lo, rr, hlo, ht, _, kk⟩ := h
  refine ⟨_, (pss_one (ps_ret (pe_and (pe_callB call_isi (by rfl) T.m_isinstance (by decide +kernel) (pa_cons (pv 0) (pa_cons (pe_ty (n := "int") (by rfl) T.m_int (by decide +kernel)) pa_nil))) (pe_one (pe_not (pe_callB call_isi (by rfl) T.m_isinstance (by decide +kernel) (pa_cons (pv 0) (pa_cons (pe_ty (n := "bool") (by rfl) T.m_bool (by decide +kernel)) pa_nil)))))))), ?_⟩
  refine go_enter (n := 0) rr hlo ht kk rfl ?_
  show Go C Tb _ [.dat (.int i)] _ (fun s => s = .dat (.bool true))
  exact go_retd (ed_andV (a := true) (b := true) (ed_isi (ed_var (by rfl)) (by rfl) (by rfl)) (fun hb => ((ed_notV (a := false) (ed_isi (ed_var (by rfl)) (by rfl) (by rfl))).is (by rfl)))) rfl
def spSame (C : Addr) (Tb : Tab) (n : Nat) : Sp := spF C Tb (fun d : PyData => [d, d]) (fun d => smOk n d) (fun _ => .dat (.bool true))
theorem same_c {n : Nat} {ta tb : TE} {Γ : List Sl} {E : XK} {x : PyData} (h1 : Ed C Tb ta Γ x) (h2 : Ed C Tb tb Γ x) (h3 : smOk n x) : Ed C Tb (tCall (spSame C Tb n) [] E (tCons ta (tCons tb tNil))) Γ (.bool true) :=
  (ef_call (args := fun d : PyData => [d, d]) (pre := fun d => smOk n d) (res := fun _ => .dat (.bool true)) x (ea_cons h1 (ea_cons h2 ea_nil)) h3).ed
def spNo : Sp := fun _ _ _ _ => False
theorem w_same_no (F : Def K mg "_law_same" s__law_same ["_law_actual", "_law_expected"]) : Cal P w K mg base 1 "_law_same" spNo :=
  F.cal sc__law_same (fun vs H Q E h => h.elim) fun f cdv A outer s H vs Q E hr h => h.elim
theorem w_same_step {n : Nat} {sp : Sp} (F : Def K mg "_law_same" s__law_same ["_law_actual", "_law_expected"]) (T : Txt K mg C) (c__law_is_integer : Cal P w K mg base 1 "_law_is_integer" (spIsInt C Tb)) (c__law_same : Cal P w K mg base (n + 1) "_law_same" sp)
    (hsp : n = 0 ∨ ∃ m, n = m + 1 ∧ sp = spSame C Tb m) : Cal P w K mg base (n + 2) "_law_same" (spSame C Tb n) := by
  refine F.cal sc__law_same (sp_len fun _ => rfl) fun f cdv A outer s H vs Q E hr h => ?_
  obtain ⟨d, lo, rr, hlo, ht, hd0, kk⟩ := h
  have hd : smOk n d := hd0
  refine ⟨_, (pss_cons (ps_if (pt_val (pe_callB call_isiT (by rfl) T.m_isinstance (by decide +kernel) (pa_cons (pv 1) (pa_cons (pe_tup (pa_cons (pe_ty (n := "list") (by rfl) T.m_list (by decide +kernel)) (pa_cons (pe_ty (n := "tuple") (by rfl) T.m_tuple (by decide +kernel)) pa_nil))) pa_nil)))) (pss_cons (ps_if (PW.pt (pw_or (pt_cmpR op_ne (pe_callB call_isi (by rfl) T.m_isinstance (by decide +kernel) (pa_cons (pv 1) (pa_cons (pe_ty (n := "list") (by rfl) T.m_list (by decide +kernel)) pa_nil))) (pe_callB call_isi (by rfl) T.m_isinstance (by decide +kernel) (pa_cons (pv 0) (pa_cons (pe_ty (n := "list") (by rfl) T.m_list (by decide +kernel)) pa_nil))) (nomark _)) (pw_or1 (pt_cmpR op_ne (pe_callB call_isi (by rfl) T.m_isinstance (by decide +kernel) (pa_cons (pv 1) (pa_cons (pe_ty (n := "tuple") (by rfl) T.m_tuple (by decide +kernel)) pa_nil))) (pe_callB call_isi (by rfl) T.m_isinstance (by decide +kernel) (pa_cons (pv 0) (pa_cons (pe_ty (n := "tuple") (by rfl) T.m_tuple (by decide +kernel)) pa_nil))) (nomark _))))) (pss_one (ps_ret pe_bl)) pss_nil)
      (pss_cons (ps_if (pt_cmpR op_ne (pe_callB (lenQ (K := K)) (by rfl) T.m_len PySem.boot_len (pa_cons (pv 0) pa_nil)) (pe_callB (lenQ (K := K)) (by rfl) T.m_len PySem.boot_len (pa_cons (pv 1) pa_nil)) (nomark _)) (pss_one (ps_ret pe_bl)) pss_nil)
      (pss_cons (ps_for PassesOwn.never rfl (pi_range1 (by rfl) T.m_range (pa_cons (pe_callB (lenQ (K := K)) (by rfl) T.m_len PySem.boot_len (pa_cons (pv 1) pa_nil)) pa_nil)) (pg_name (i := 2) sc__law_same.nd rfl (Or.inl rfl)) (pss_one (ps_if (pt_not (pt_val (pe_c c__law_same (hr.mono (by omega)) (by rfl) (pa_cons (pe_ix (ixLT (K := K)) (pv 0) (pv 2) (fun _ _ => rfl)) (pa_cons (pe_ix (ixLT (K := K)) (pv 1) (pv 2) (fun _ _ => rfl)) pa_nil))))) (pss_one (ps_ret pe_bl)) pss_nil)))
      (pss_one (ps_ret pe_bl))))) pss_nil)
      (pss_cons (ps_if (pt_cmp (pc_isN (pv 1))) (pss_one (ps_ret (pe_cmp (pc_isN (pv 0)) rfl))) pss_nil)
      (pss_cons (ps_if (pt_val (pe_callB call_isi (by rfl) T.m_isinstance (by decide +kernel) (pa_cons (pv 1) (pa_cons (pe_ty (n := "bool") (by rfl) T.m_bool (by decide +kernel)) pa_nil)))) (pss_one (ps_ret (pe_and (pe_callB call_isi (by rfl) T.m_isinstance (by decide +kernel) (pa_cons (pv 0) (pa_cons (pe_ty (n := "bool") (by rfl) T.m_bool (by decide +kernel)) pa_nil))) (pe_one (pe_cmpR op_eq (pv 0) (pv 1) (nomark _)))))) pss_nil)
      (pss_cons (ps_if (pt_val (pe_callB call_isi (by rfl) T.m_isinstance (by decide +kernel) (pa_cons (pv 1) (pa_cons (pe_ty (n := "int") (by rfl) T.m_int (by decide +kernel)) pa_nil)))) (pss_one (ps_ret (pe_and (pe_c c__law_is_integer (hr.mono (by omega)) (by rfl) (pa_cons (pv 0) pa_nil)) (pe_one (pe_cmpR op_eq (pv 0) (pv 1) (nomark _)))))) pss_nil)
      (pss_one (ps_ret (pe_and (pe_callB call_isi (by rfl) T.m_isinstance (by decide +kernel) (pa_cons (pv 0) (pa_cons (pe_ty (n := "str") (by rfl) T.m_str (by decide +kernel)) pa_nil))) (pe_one (pe_cmpR op_eq (pv 0) (pv 1) (nomark _)))))))))), ?_⟩
  refine go_enter (n := 1) rr hlo ht kk rfl ?_
  show Go C Tb _ [.dat d, .dat d, .un] _ (fun s => s = .dat (.bool true))
  cases d with
  | dict kvs => unfold smOk at hd; cases hd
  | none =>
    refine gi (b := false) ((et_B (ed_isiT (b1 := false) (b2 := false) (ed_var (by rfl)) (by rfl) (by rfl) (by rfl))).is (by rfl)) (fun hb => by cases hb) (fun hb => gn ?_)
    refine gi (b := true) ((et_B (er_isN ((ed_var (by rfl))).er)).is (by rfl)) (fun hb => ?_) (fun hb => by cases hb)
    exact gr ((er_isN ((ed_var (by rfl))).er).is (show _ = PyData.bool true by rfl)) rfl
  | bool x =>
    refine gi (b := false) ((et_B (ed_isiT (b1 := false) (b2 := false) (ed_var (by rfl)) (by rfl) (by rfl) (by rfl))).is (by rfl)) (fun hb => by cases hb) (fun hb => gn ?_)
    refine gi (b := false) ((et_B (er_isN ((ed_var (by rfl))).er)).is (by rfl)) (fun hb => by cases hb) (fun hb => gn ?_)
    refine gi (b := true) (et_B (ed_isi (ed_var (by rfl)) (by rfl) (by rfl))) (fun hb => ?_) (fun hb => by cases hb)
    exact gr (ed_andV (a := true) (b := true) (ed_isi (ed_var (by rfl)) (by rfl) (by rfl)) (fun hb => ((ed_eqB (ed_var (by rfl)) (ed_var (by rfl))).is (by rw [beq_self_eq_true])))) rfl
  | int x =>
    refine gi (b := false) ((et_B (ed_isiT (b1 := false) (b2 := false) (ed_var (by rfl)) (by rfl) (by rfl) (by rfl))).is (by rfl)) (fun hb => by cases hb) (fun hb => gn ?_)
    refine gi (b := false) ((et_B (er_isN ((ed_var (by rfl))).er)).is (by rfl)) (fun hb => by cases hb) (fun hb => gn ?_)
    refine gi (b := false) (et_B (ed_isi (ed_var (by rfl)) (by rfl) (by rfl))) (fun hb => by cases hb) (fun hb => gn ?_)
    refine gi (b := true) (et_B (ed_isi (ed_var (by rfl)) (by rfl) (by rfl))) (fun hb => ?_) (fun hb => by cases hb)
    exact gr (ed_andV (a := true) (b := true) ((ef_call x (ea_cons (ed_var (by rfl)) ea_nil) trivial)).ed (fun hb => ((ed_eqI (ed_var (by rfl)) (ed_var (by rfl))).is (by rw [decide_eq_true rfl])))) rfl
  | str x =>
    refine gi (b := false) ((et_B (ed_isiT (b1 := false) (b2 := false) (ed_var (by rfl)) (by rfl) (by rfl) (by rfl))).is (by rfl)) (fun hb => by cases hb) (fun hb => gn ?_)
    refine gi (b := false) ((et_B (er_isN ((ed_var (by rfl))).er)).is (by rfl)) (fun hb => by cases hb) (fun hb => gn ?_)
    refine gi (b := false) (et_B (ed_isi (ed_var (by rfl)) (by rfl) (by rfl))) (fun hb => by cases hb) (fun hb => gn ?_)
    refine gi (b := false) (et_B (ed_isi (ed_var (by rfl)) (by rfl) (by rfl))) (fun hb => by cases hb) (fun hb => gn ?_)
    exact go_retd (ed_andV (a := true) (b := true) (ed_isi (ed_var (by rfl)) (by rfl) (by rfl)) (fun hb => ((ed_eqS (ed_var (by rfl)) (ed_var (by rfl))).is (by rw [decide_eq_true rfl])))) rfl
  | list ds =>
    cases n with
    | zero => unfold smOk at hd; cases hd
    | succ m =>
    rcases hsp with hsp | ⟨m', hm', rfl⟩
    · cases hsp
    obtain rfl : m = m' := Nat.succ.inj hm'
    have hd : ds.length ≤ 1000000 ∧ ∀ x, x ∈ ds → smOk m x := by unfold smOk at hd; exact hd
    refine gi (b := true) ((et_B (ed_isiT (b1 := true) (b2 := false) (ed_var (by rfl)) (by rfl) (by rfl) (by rfl))).is (by rfl)) (fun hb => ?_) (fun hb => by cases hb)
    refine go_seq (M := fun _ => False) ?_ fun _ q => q.elim
    refine gi (b := false) ((et_or (a := false) (b := false) ((et_T (ed_neB (x := true) (y := true) (ed_isi (ed_var (by rfl)) (by rfl) (by rfl)) (ed_isi (ed_var (by rfl)) (by rfl) (by rfl)))).is (by rfl)) (fun hb => ((et_T (ed_neB (x := false) (y := false) (ed_isi (ed_var (by rfl)) (by rfl) (by rfl)) (ed_isi (ed_var (by rfl)) (by rfl) (by rfl)))).is (by rfl)))).is (by rfl)) (fun hb => by cases hb) (fun hb => gn ?_)
    refine gi (b := false) ((et_T (ed_neI (es_len ((ed_var (by rfl))).es) (es_len ((ed_var (by rfl))).es))).is (by rw [decide_eq_true rfl]; rfl)) (fun hb => by cases hb) (fun hb => gn ?_)
    refine gfr ds.length (fun i => .int (i : Int)) (fun _ => [.dat (.list ds), .dat (.list ds), .un]) (ei_range1 (ea_cons (es_len ((ed_var (by rfl))).es) ea_nil) hd.1) (by walk_at "le") (fun i hi => ⟨_, _, tg_name, (by walk_at "no"), ?_⟩) ?_
    · have hg : ds[i]? = some ds[i] := List.getElem?_eq_getElem hi
      refine go_if (b := false) ((et_not (a := true) (et_B (same_c (ed_ixLTl (ed_var (by rfl)) (ed_var (by rfl)) (at_nat hg)) (ed_ixLTl (ed_var (by rfl)) (ed_var (by rfl)) (at_nat hg)) (hd.2 _ (List.getElem_mem hi))))).is (by rfl)) (fun hb => by cases hb) (fun hb => go_next ?_)
      walk_at "le"
    · exact go_retd ed_bl rfl
  | tuple ds =>
    cases n with
    | zero => unfold smOk at hd; cases hd
    | succ m =>
    rcases hsp with hsp | ⟨m', hm', rfl⟩
    · cases hsp
    obtain rfl : m = m' := Nat.succ.inj hm'
    have hd : ds.length ≤ 1000000 ∧ ∀ x, x ∈ ds → smOk m x := by unfold smOk at hd; exact hd
    refine gi (b := true) ((et_B (ed_isiT (b1 := false) (b2 := true) (ed_var (by rfl)) (by rfl) (by rfl) (by rfl))).is (by rfl)) (fun hb => ?_) (fun hb => by cases hb)
    refine go_seq (M := fun _ => False) ?_ fun _ q => q.elim
    refine gi (b := false) ((et_or (a := false) (b := false) ((et_T (ed_neB (x := false) (y := false) (ed_isi (ed_var (by rfl)) (by rfl) (by rfl)) (ed_isi (ed_var (by rfl)) (by rfl) (by rfl)))).is (by rfl)) (fun hb => ((et_T (ed_neB (x := true) (y := true) (ed_isi (ed_var (by rfl)) (by rfl) (by rfl)) (ed_isi (ed_var (by rfl)) (by rfl) (by rfl)))).is (by rfl)))).is (by rfl)) (fun hb => by cases hb) (fun hb => gn ?_)
    refine gi (b := false) ((et_T (ed_neI (ed_lenT (ed_var (by rfl))) (ed_lenT (ed_var (by rfl))))).is (by rw [decide_eq_true rfl]; rfl)) (fun hb => by cases hb) (fun hb => gn ?_)
    refine gfr ds.length (fun i => .int (i : Int)) (fun _ => [.dat (.tuple ds), .dat (.tuple ds), .un]) (ei_range1 (ea_cons (ed_lenT (ed_var (by rfl))) ea_nil) hd.1) (by walk_at "le") (fun i hi => ⟨_, _, tg_name, (by walk_at "no"), ?_⟩) ?_
    · have hg : ds[i]? = some ds[i] := List.getElem?_eq_getElem hi
      refine go_if (b := false) ((et_not (a := true) (et_B (same_c (ed_ixLTt (ed_var (by rfl)) (ed_var (by rfl)) (at_nat hg)) (ed_ixLTt (ed_var (by rfl)) (ed_var (by rfl)) (at_nat hg)) (hd.2 _ (List.getElem_mem hi))))).is (by rfl)) (fun hb => by cases hb) (fun hb => go_next ?_)
      walk_at "le"
    · exact go_retd ed_bl rfl
theorem w_same (F : Def K mg "_law_same" s__law_same ["_law_actual", "_law_expected"]) (T : Txt K mg C) (c__law_is_integer : Cal P w K mg base 1 "_law_is_integer" (spIsInt C Tb)) : ∀ n, Cal P w K mg base (n + 2) "_law_same" (spSame C Tb n)
  | 0 => w_same_step F T c__law_is_integer (w_same_no F) (.inl rfl)
  | n + 1 => w_same_step F T c__law_is_integer (w_same F T c__law_is_integer n) (.inr ⟨n, rfl, rfl⟩)
end
end G

set_option maxRecDepth 100000
set_option maxHeartbeats 4000000
/-! walks, part 15: the draws, the turned packet -/
namespace G
open PySem L2 M
local macro_rules | `(tactic| walk_at "s") => `(tactic| first | rfl | assumption | decide | omega | exact Or.inr ⟨by omega, by omega⟩ | exact Or.inl ⟨by omega, by omega⟩ | exact ⟨by omega, by omega⟩)
local macro_rules | `(tactic| walk_at "le") => `(tactic| (repeat (first | exact Le.nil | refine Le.eq ?_ | refine Le.un ?_)))
local macro_rules | `(tactic| walk_at "no") => `(tactic| (repeat (first | exact no_nil | refine no_cons rfl ?_)))
abbrev s__law_draws : Stmt := topS 14
abbrev N__law_draws : List Str := ["_law_script", "_law_draws_here", "_law_k", "_law_cell", "_law_place"]
theorem sc__law_draws : FnScope N__law_draws ["_law_script"] (defScope s__law_draws) := ⟨rfl, rfl, rfl, by decide +kernel, rfl, by decide +kernel, by decide +kernel⟩
abbrev s__law_turned : Stmt := topS 32
abbrev N__law_turned : List Str := ["_law_draws_here", "_law_base", "_law_packet", "_law_turned_here", "_law_k", "_law_pick", "_law_replica", "_law_place", "_law_deed_here"]
theorem sc__law_turned : FnScope N__law_turned ["_law_draws_here", "_law_base", "_law_packet"] (defScope s__law_turned) := ⟨rfl, rfl, rfl, by decide +kernel, rfl, by decide +kernel, by decide +kernel⟩
section
variable {P : Program} {w : World} {K : PySem.W.Frag} {mg : Str → Option Value} {base : Heap} {C : Addr} {Tb : Tab}
def spDraws (K : PySem.W.Frag) (C : Addr) (Tb : Tab) : Sp := fun vs H Q _ => ∃ (a : Addr) (ns : List Int), vs = [.ref a] ∧ SqL K H a (ns.map V.int) ∧ LamX.Tabs Tb H ∧ ns.length ≤ 1000000 ∧
  ∀ v H' fpn, XT Tb H H' → (∀ l, l ∈ fpn → H l = none) → fpn.Nodup → SlOk C (Wo (orM (fun _ => False) fpn) H') H' (.own (eN (drawsOf ns))) (some v) fpn → Q v H'
theorem w_draws (F : Def K mg "_law_draws" s__law_draws ["_law_script"]) (T : Txt K mg C) (c__law_mix : Cal P w K mg base 1 "_law_mix" (spMix C Tb)) : Cal P w K mg base 2 "_law_draws" (spDraws K C Tb) := by
  refine F.cal sc__law_draws (fun vs H Q E ⟨a, ns, e, _⟩ => by rw [e]; rfl) fun f cdv A outer s H vs Q E hr h => ?_
  obtain ⟨a, ns, rfl, hsq, ht, hl, kk⟩ := h
  refine ⟨_, (pss_cons (ps_set (i := 1) sc__law_draws.nd rfl (Or.inl rfl) (pe_lst pa_nil))
      (pss_cons (ps_for PassesOwn.never rfl (pi_range1 (by rfl) T.m_range (pa_cons (pe_callB (call_min2 rfl) (by rfl) T.m_min (by decide +kernel) (pa_cons pe_int (pa_cons (pe_callB (lenQ (K := K)) (by rfl) T.m_len PySem.boot_len (pa_cons (pv 0) pa_nil)) pa_nil))) pa_nil)) (pg_name (i := 2) sc__law_draws.nd rfl (Or.inl rfl)) (pss_cons (ps_set (i := 3) sc__law_draws.nd rfl (Or.inl rfl) (pe_callTy call_int1 (by rfl) T.m_int (by decide +kernel) (pa_cons (pe_ix (ixL (K := K)) (pv 0) (pv 2) (fun _ _ => rfl)) pa_nil)))
      (pss_one (ps_if (pt_cmpR op_lt (pv 3) (pe_op op_pow pe_int pe_int) (nomark _)) (pss_one (ps_expr (bmK (K := K) PySem.F.plainAttrs_list PySem.F.slot_list_append PySem.F.type_list_append mt_append (pv 1) (pa_cons (pe_c c__law_mix (hr.mono (by omega)) (by rfl) (pa_cons (pv 3) (pa_cons (pv 2) pa_nil))) pa_nil)))) (pss_one (ps_for PassesOwn.never rfl (pi_range1 (by rfl) T.m_range (pa_cons pe_int pa_nil)) (pg_name (i := 4) sc__law_draws.nd rfl (Or.inl rfl)) (pss_one (ps_if (pt_cmpR op_gt (pv 3) pe_int (nomark _)) (pss_cons (ps_expr (bmK (K := K) PySem.F.plainAttrs_list PySem.F.slot_list_append PySem.F.type_list_append mt_append (pv 1) (pa_cons (pe_op op_mod (pe_callTy call_int1 (by rfl) T.m_int (by decide +kernel) (pa_cons (pv 3) pa_nil)) pe_int) pa_nil)))
      (pss_one (ps_set (i := 3) sc__law_draws.nd rfl (Or.inl rfl) (pe_op op_fdiv (pv 3) pe_int)))) pss_nil))))))))
      (pss_one (ps_ret (pv 1))))), ?_⟩
  refine go_enterS (n := 4) hsq ht kk rfl ?_
  show Go C Tb _ [.scr K ns, .un, .un, .un, .un] _ (fun s => s = .own (eN (drawsOf ns)))
  refine gs (ef_lst ea_nil) ?_
  refine gfr (Nat.min 63 ns.length) (fun i => .int (i : Int)) (fun k => [.scr K ns, .own (eN (drawsN ns k)), .un, .un, .un]) (ei_range1 (ea_cons ((ed_m2 (f := mn) ed_int (ed_lenScr (by rfl))).is (by rw [mn_nat])) ea_nil) (Nat.le_trans (Nat.min_le_left _ _) (by decide))) (by walk_at "le") (fun k hk => ⟨_, _, tg_name, (by walk_at "no"), ?_⟩) ?_
  · have hk1 : k < 63 := Nat.lt_of_lt_of_le hk (Nat.min_le_left _ _)
    have hk2 : k < ns.length := Nat.lt_of_lt_of_le hk (Nat.min_le_right _ _)
    have hdl := drawsN_len ns k
    rw [drawsN_succ]
    refine gsd (ed_int1 (ed_ixScr (by rfl) (ed_var (by rfl)) (get_getD (d := 0) hk2))) ?_
    generalize ns.getD k 0 = c
    refine go_if (et_T (ed_ib (ed_var (by rfl)) (ed_pow ed_int ed_int ⟨by decide, by decide, by decide⟩))) (fun hb => ?_) (fun hb => ?_)
    · have hb : c < 10 ^ 18 := of_decide_eq_true hb
      have e : draws1 c k = [mix c (k : Int)] := by unfold draws1; rw [if_pos hb]
      rw [e]
      refine go_app (by rfl) ((ef_call (c, (k : Int)) (ea_cons (ed_var (by rfl)) (ea_cons (ed_var (by rfl)) ea_nil)) (by exact ⟨by show (-1000000 : Int) ≤ (k : Int); omega, by show (k : Int) ≤ 1000000; omega⟩))).ed (by unfold eN; rw [List.length_map]; omega) ?_
      unfold eN
      rw [List.map_append]
      walk_at "le"
    · have hb : ¬ c < 10 ^ 18 := of_decide_eq_false hb
      have e : draws1 c k = (bg c 60).1 := by unfold draws1; rw [if_neg hb]
      rw [e]
      refine gor 60 (fun i => .int (i : Int)) (fun j => [.scr K ns, .own (eN (drawsN ns k ++ (bg c j).1)), .dat (.int (k : Int)), .dat (.int (bg c j).2), .un]) (ei_range1 (n := 60) (ea_cons ed_int ea_nil) (by decide)) (by show Le _ [.scr K ns, .own (eN (drawsN ns k ++ [])), .dat (.int (k : Int)), .dat (.int c), .un]; rw [List.append_nil]; walk_at "le") (fun j hj => ⟨_, _, tg_name, (by walk_at "no"), ?_⟩) ?_
      · have hbl := bg_len c j
        by_cases hp : (bg c j).2 > 0
        · have eb : bg c (j + 1) = ((bg c j).1 ++ [(bg c j).2 % 9973], (bg c j).2 / 9973) := by rw [bg, if_pos hp]
          rw [eb]
          refine go_if ((et_T (ed_ib (ed_var (by rfl)) ed_int)).is (decide_eq_true hp)) (fun hb => ?_) (fun hb => by cases hb)
          refine ga (by rfl) (ed_mod (ed_int1 (ed_var (by rfl))) ed_int (by decide)) (by unfold eN; rw [List.length_map, List.length_append]; omega) ?_
          refine go_setd (ed_div (ed_var (by rfl)) ed_int (by decide)) ?_
          show Le _ [.scr K ns, .own (eN (drawsN ns k ++ ((bg c j).1 ++ [(bg c j).2 % 9973]))), .dat (.int (k : Int)), .dat (.int ((bg c j).2 / 9973)), .un]
          rw [← List.append_assoc]
          unfold eN
          rw [List.map_append (l₂ := [_])]
          walk_at "le"
        · have eb : bg c (j + 1) = bg c j := by rw [bg, if_neg hp]
          rw [eb]
          refine go_if ((et_T (ed_ib (ed_var (by rfl)) ed_int)).is (decide_eq_false hp)) (fun hb => by cases hb) (fun hb => go_next ?_)
          walk_at "le"
      · show Le _ _
        walk_at "le"
  · exact go_retv (by rfl) (by simp) rfl
def spTurned (C : Addr) (Tb : Tab) : Sp := spF C Tb (fun x : List Int × Nat × List Trip => [.list (eN x.1), .int (x.2.1 : Int), .list (x.2.2.map eT)]) (fun x => Dr x.1 ∧ x.2.1 ≤ 800000 ∧ x.2.2.length ≤ 60 ∧ ∀ t, t ∈ x.2.2 → dA t.2.2) (fun x => .own ((turned x.1 x.2.1 x.2.2 x.2.2.length).map eT))
theorem eT_take (l : List Trip) (t : Trip) (n : Nat) : (l.take n ++ [t] ++ l.drop n).map eT = (l.map eT).take n ++ [eT t] ++ (l.map eT).drop n := by
  rw [List.map_append, List.map_append, List.map_take, List.map_drop]
  rfl
theorem w_turned (F : Def K mg "_law_turned" s__law_turned ["_law_draws_here", "_law_base", "_law_packet"]) (T : Txt K mg C) (c__law_at : Cal P w K mg base 2 "_law_at" (spAt C Tb)) : Cal P w K mg base 3 "_law_turned" (spTurned C Tb) := by
  refine F.cal sc__law_turned (sp_len fun _ => rfl) fun f cdv A outer s H vs Q E hr h => ?_
  obtain ⟨⟨ds, b, p⟩, lo, rr, hlo, ht, ⟨hD0, hb0, hl0, hA0⟩, kk⟩ := h
  have hD : Dr ds := hD0
  have hb : b ≤ 800000 := hb0
  have hl : p.length ≤ 60 := hl0
  have hA : ∀ t, t ∈ p → dA t.2.2 := hA0
  refine ⟨_, (pss_cons (ps_set (i := 3) sc__law_turned.nd rfl (Or.inl rfl) (pe_lst pa_nil))
      (pss_cons (ps_for PassesOwn.never rfl (pi_range1 (by rfl) T.m_range (pa_cons (pe_callB (lenQ (K := K)) (by rfl) T.m_len PySem.boot_len (pa_cons (pv 2) pa_nil)) pa_nil)) (pg_name (i := 4) sc__law_turned.nd rfl (Or.inl rfl)) (pss_cons (ps_set (i := 5) sc__law_turned.nd rfl (Or.inl rfl) (pe_op op_mod (pe_c c__law_at (hr.mono (by omega)) (by rfl) (pa_cons (pv 0) (pa_cons (pe_op op_add (pv 1) (pv 4)) pa_nil))) pe_int))
      (pss_cons (ps_asg (pe_ix (ixL (K := K)) (pv 2) (pv 4) (fun _ _ => rfl)) (tupK (K := K) (n := 3) rfl (pgs_cons (pg_name (i := 6) sc__law_turned.nd rfl (Or.inl rfl)) (pgs_cons (pg_name (i := 7) sc__law_turned.nd rfl (Or.inl rfl)) (pgs_cons (pg_name (i := 8) sc__law_turned.nd rfl (Or.inl rfl)) pgs_nil)))))
      (pss_cons (ps_if (pt_cmpR op_eq (pv 5) pe_int (nomark _)) (pss_one (ps_expr (bmK (K := K) PySem.F.plainAttrs_list PySem.F.slot_list_append PySem.F.type_list_append mt_append (pv 3) (pa_cons (pe_tup (pa_cons (pv 6) (pa_cons (pe_op op_add (pv 7) pe_int) (pa_cons (pv 8) pa_nil)))) pa_nil)))) (pss_one (ps_if (PW.pt (pw_and (pt_cmpR op_eq (pv 5) pe_int (nomark _)) (pw_and1 (pt_cmpR op_eq (pe_ix (ixT (K := K)) (pv 8) pe_int (fun _ _ => rfl)) pe_str (nomark _))))) (pss_one (ps_expr (bmK (K := K) PySem.F.plainAttrs_list PySem.F.slot_list_append PySem.F.type_list_append mt_append (pv 3) (pa_cons (pe_tup (pa_cons (pv 6) (pa_cons (pv 7) (pa_cons (pe_tup (pa_cons pe_str (pa_cons (pe_ix (ixT (K := K)) (pv 8) pe_int (fun _ _ => rfl)) (pa_cons (pe_op (catA (K := K)) (pe_ix (ixT (K := K)) (pv 8) pe_int (fun _ _ => rfl)) (pe_tup (pa_cons (pe_tup (pa_cons pe_int (pa_cons pe_int pa_nil))) pa_nil))) (pa_cons (pe_ix (ixT (K := K)) (pv 8) pe_int (fun _ _ => rfl)) (pa_cons (pe_ix (ixT (K := K)) (pv 8) pe_int (fun _ _ => rfl)) (pa_cons (pe_ix (ixT (K := K)) (pv 8) pe_int (fun _ _ => rfl)) pa_nil))))))) pa_nil)))) pa_nil)))) (pss_one (ps_if (pt_cmpR op_ne (pv 5) pe_int (nomark _)) (pss_one (ps_expr (bmK (K := K) PySem.F.plainAttrs_list PySem.F.slot_list_insert PySem.F.type_list_insert mt_insert (pv 3) (pa_cons (pe_op op_mod (pe_op op_fdiv (pe_c c__law_at (hr.mono (by omega)) (by rfl) (pa_cons (pv 0) (pa_cons (pe_op op_add (pv 1) (pv 4)) pa_nil))) pe_int) (pe_op op_add (pe_callB (lenQ (K := K)) (by rfl) T.m_len PySem.boot_len (pa_cons (pv 3) pa_nil)) pe_int)) (pa_cons (pe_ix (ixL (K := K)) (pv 2) (pv 4) (fun _ _ => rfl)) pa_nil))))) pss_nil)))))
      (pss_one (ps_if (pt_cmpR op_eq (pv 5) pe_int (nomark _)) (pss_one (ps_expr (bmK (K := K) PySem.F.plainAttrs_list PySem.F.slot_list_insert PySem.F.type_list_insert mt_insert (pv 3) (pa_cons pe_int (pa_cons (pe_ix (ixL (K := K)) (pv 2) (pv 4) (fun _ _ => rfl)) pa_nil))))) pss_nil))))))
      (pss_one (ps_ret (pv 3))))), ?_⟩
  refine go_enter (n := 6) rr hlo ht kk rfl ?_
  show Go C Tb _ [.dat (.list (eN ds)), .dat (.int (b : Int)), .dat (.list (p.map eT)), .un, .un, .un, .un, .un, .un] _ (fun s => s = .own ((turned ds b p p.length).map eT))
  refine gs (ef_lst ea_nil) ?_
  refine gfr p.length (fun i => .int (i : Int)) (fun k => [.dat (.list (eN ds)), .dat (.int (b : Int)), .dat (.list (p.map eT)), .own ((turned ds b p k).map eT), .un, .un, .un, .un, .un]) (ei_range1 (ea_cons ((es_len ((ed_var (by rfl))).es).is (by rw [List.length_map])) ea_nil) (by omega)) (by walk_at "le") (fun k hk => ⟨_, _, tg_name, (by walk_at "no"), ?_⟩) ?_
  · have hv := lawAt_lo hD (b + k)
    have htl := turned_len ds b p k
    have hg : p[k]? = some (p.getD k default) := get_getD hk
    have hAk := hA _ (List.mem_of_getElem? hg)
    have e1 : turned ds b p (k + 1) = tu2 (la ds (b + k)) (turned ds b p k) (p.getD k default) := rfl
    rw [e1]
    generalize p.getD k default = t at hg hAk
    have a1 : atI (p.map eT) (k : Int) = some (eT t) := at_map hg
    have av : ∀ {te : TE} {Γ : List Sl} {E : XK}, Ed C Tb te Γ (.int (((b + k : Nat)) : Int)) → Γ[0]? = some (.dat (.list (eN ds))) → Ed C Tb (tCall (spAt C Tb) [] E (tCons (tVar 0) (tCons te tNil))) Γ (.int (la ds (b + k))) := fun h h0 => at_c hD (by omega) (ed_var h0) h
    have hv0 : 0 ≤ la ds (b + k) := hv.1
    generalize turned ds b p k = l at htl
    obtain ⟨t0, t1, d⟩ := t
    have hAd : dA d := hAk
    refine gsd (ed_mod (av ((ed_i0 (ed_var (by rfl)) (ed_var (by rfl))).is (by rfl)) (by rfl)) ed_int (by decide)) ?_
    generalize hvv : la ds (b + k) = v at av hv0
    refine gt (es_ix ((ed_var (by rfl))).es (ed_var (by rfl)) a1) (tg_tup (tgs_cons (tgs_cons (tgs_cons tgs_nil)))) (by walk_at "no") ?_
    refine go_seq (M := fun Γ' => Γ' = [.dat (.list (eN ds)), .dat (.int (b : Int)), .dat (.list (p.map eT)), .own ((tu1 v l (t0, t1, d)).map eT), .dat (.int (k : Int)), .dat (.int (v % 8)), .dat (.int t0), .dat (.int t1), .dat (eD d)]) ?_ fun Γ' e => ?_
    · refine go_if (et_T (ed_eqI (ed_var (by rfl)) ed_int)) (fun hb => ?_) (fun hb => ?_)
      · have hb := of_decide_eq_true hb
        have e2 : (tu1 v l (t0, t1, d)).map eT = l.map eT ++ [.tuple [.int t0, .int (t1 + 100), eD d]] := by
          unfold tu1
          rw [if_pos hb, List.map_append]
          rfl
        rw [e2]
        exact go_app (by rfl) (ed_tup (ea_cons (ed_var (by rfl)) (ea_cons (ed_i0 (ed_var (by rfl)) ed_int) (ea_cons (ed_var (by rfl)) ea_nil)))) (by rw [List.length_map]; omega) rfl
      · have hb := of_decide_eq_false hb
        cases d with
        | chg m rm bh n x =>
          have hAd : m.length ≤ 1000 ∧ rm.length ≤ 1000 := hAd
          refine go_if ((et_and (et_T (ed_eqI (ed_var (by rfl)) ed_int)) (fun hb => (et_T (ed_eqS (ed_ixT (ds := [.str "change", .str m, .tuple (rm.map eM), eO bh, .int n, .str x]) (ed_var (by rfl)) ed_int (by walk_at "s")) ed_str)))).is (by rw [ncc, Bool.and_true])) (fun hc => ?_) (fun hc => ?_)
          · have hc := of_decide_eq_true hc
            have e2 : (tu1 v l (t0, t1, .chg m rm bh n x)).map eT = l.map eT ++ [.tuple [.int t0, .int t1, .tuple [.str "change", .str m, .tuple (rm.map eM ++ [.tuple [.int 9999, .int 0]]), eO bh, .int n, .str x]]] := by
              unfold tu1
              rw [if_neg hb, if_pos ⟨hc, rfl⟩, List.map_append]
              show _ ++ [PyData.tuple [.int t0, .int t1, .tuple [.str "change", .str m, .tuple ((rm ++ [(9999, 0)]).map eM), eO bh, .int n, .str x]]] = _
              rw [List.map_append]
              rfl
            rw [e2]
            exact go_app (by rfl) (ed_tup (ea_cons (ed_var (by rfl)) (ea_cons (ed_var (by rfl)) (ea_cons (ed_tup (ea_cons ed_str (ea_cons (ed_ixT (ds := [.str "change", .str m, .tuple (rm.map eM), eO bh, .int n, .str x]) (ed_var (by rfl)) ed_int (by walk_at "s")) (ea_cons (ed_catT (ed_ixT (ds := [.str "change", .str m, .tuple (rm.map eM), eO bh, .int n, .str x]) (ed_var (by rfl)) ed_int (by walk_at "s")) (ed_tup (ea_cons (ed_tup (ea_cons ed_int (ea_cons ed_int ea_nil))) ea_nil)) (by rw [List.length_map]; exact Nat.le_trans (Nat.succ_le_succ hAd.2) (by decide))) (ea_cons (ed_ixT (ds := [.str "change", .str m, .tuple (rm.map eM), eO bh, .int n, .str x]) (ed_var (by rfl)) ed_int (by walk_at "s")) (ea_cons (ed_ixT (ds := [.str "change", .str m, .tuple (rm.map eM), eO bh, .int n, .str x]) (ed_var (by rfl)) ed_int (by walk_at "s")) (ea_cons (ed_ixT (ds := [.str "change", .str m, .tuple (rm.map eM), eO bh, .int n, .str x]) (ed_var (by rfl)) ed_int (by walk_at "s")) ea_nil))))))) ea_nil)))) (by rw [List.length_map]; omega) rfl
          · have hc := of_decide_eq_false hc
            refine go_if (et_T (ed_neI (ed_var (by rfl)) ed_int)) (fun h3 => ?_) (fun h3 => ?_)
            · have h3 : ¬ v % 8 = 3 := of_decide_eq_false (by rw [Bool.not_eq_true'] at h3; exact h3)
              have e2 : (tu1 v l (t0, t1, .chg m rm bh n x)).map eT = (l.map eT).take (tuAt v l) ++ [eT (t0, t1, .chg m rm bh n x)] ++ (l.map eT).drop (tuAt v l) := by
                unfold tu1
                rw [if_neg hb, if_neg (fun q => hc q.1), if_pos h3, eT_take]
              rw [e2]
              have hm1 := Int.emod_nonneg (v / 8) (show (l.length : Int) + 1 ≠ 0 by omega)
              have hm2 := Int.emod_lt_of_pos (v / 8) (show 0 < (l.length : Int) + 1 by omega)
              exact go_insert (by rfl) (ed_mod (ed_div (av ((ed_i0 (ed_var (by rfl)) (ed_var (by rfl))).is (by rfl)) (by rfl)) ed_int (by decide)) (ed_i0 ((es_len (es_own (by rfl))).is (by rw [List.length_map])) ed_int) (by omega)) (es_ix ((ed_var (by rfl))).es (ed_var (by rfl)) a1) (by rw [List.length_map]; omega) hm1 (by omega) rfl
            · have h3 : v % 8 = 3 := of_decide_eq_true (by rw [Bool.not_eq_false'] at h3; exact h3)
              have e2 : (tu1 v l (t0, t1, .chg m rm bh n x)).map eT = l.map eT := by
                unfold tu1
                rw [if_neg hb, if_neg (fun q => hc q.1), if_neg (fun q => q h3)]
              rw [e2]
              exact go_next rfl
        | bck q =>
          refine go_if (b := false) ((et_and (et_T (ed_eqI (ed_var (by rfl)) ed_int)) (fun hb => (et_T (ed_eqS (ed_ixT (ds := [.str "back", .int q]) (ed_var (by rfl)) ed_int (by walk_at "s")) ed_str)))).is (by rw [nbc', Bool.and_false])) (fun hc => by cases hc) (fun hc => ?_)
          refine go_if (et_T (ed_neI (ed_var (by rfl)) ed_int)) (fun h3 => ?_) (fun h3 => ?_)
          · have h3 : ¬ v % 8 = 3 := of_decide_eq_false (by rw [Bool.not_eq_true'] at h3; exact h3)
            have e2 : (tu1 v l (t0, t1, .bck q)).map eT = (l.map eT).take (tuAt v l) ++ [eT (t0, t1, .bck q)] ++ (l.map eT).drop (tuAt v l) := by
              unfold tu1
              rw [if_neg hb, if_neg (fun q => by cases q.2), if_pos h3, eT_take]
            rw [e2]
            have hm1 := Int.emod_nonneg (v / 8) (show (l.length : Int) + 1 ≠ 0 by omega)
            have hm2 := Int.emod_lt_of_pos (v / 8) (show 0 < (l.length : Int) + 1 by omega)
            exact go_insert (by rfl) (ed_mod (ed_div (av ((ed_i0 (ed_var (by rfl)) (ed_var (by rfl))).is (by rfl)) (by rfl)) ed_int (by decide)) (ed_i0 ((es_len (es_own (by rfl))).is (by rw [List.length_map])) ed_int) (by omega)) (es_ix ((ed_var (by rfl))).es (ed_var (by rfl)) a1) (by rw [List.length_map]; omega) hm1 (by omega) rfl
          · have h3 : v % 8 = 3 := of_decide_eq_true (by rw [Bool.not_eq_false'] at h3; exact h3)
            have e2 : (tu1 v l (t0, t1, .bck q)).map eT = l.map eT := by
              unfold tu1
              rw [if_neg hb, if_neg (fun q => by cases q.2), if_neg (fun q => q h3)]
            rw [e2]
            exact go_next rfl
    · subst e
      have h1l := tu1_len v l (t0, t1, d)
      refine go_if (et_T (ed_eqI (ed_var (by rfl)) ed_int)) (fun h4 => ?_) (fun h4 => ?_)
      · have h4 := of_decide_eq_true h4
        have e2 : tu2 v l (t0, t1, d) = (t0, t1, d) :: tu1 v l (t0, t1, d) := by unfold tu2; rw [if_pos h4]
        rw [e2]
        refine go_insert (by rfl) ed_int (es_ix ((ed_var (by rfl))).es (ed_var (by rfl)) a1) (by rw [List.length_map]; omega) (by decide) (by decide) ?_
        show Le _ [.dat (.list (eN ds)), .dat (.int (b : Int)), .dat (.list (p.map eT)), .own (eT (t0, t1, d) :: (tu1 v l (t0, t1, d)).map eT), .un, .un, .un, .un, .un]
        walk_at "le"
      · have h4 := of_decide_eq_false h4
        have e2 : tu2 v l (t0, t1, d) = tu1 v l (t0, t1, d) := by unfold tu2; rw [if_neg h4]
        rw [e2]
        refine go_next ?_
        walk_at "le"
  · exact go_retv (by rfl) (by simp) rfl
end
end G

set_option maxRecDepth 100000
set_option maxHeartbeats 4000000
/-! walks, part 16: what passes -/
namespace M
open PySem G
theorem smOk_tup {n : Nat} {ds : List PyData} (hl : ds.length ≤ 1000000) (h : ∀ x, x ∈ ds → smOk n x) : smOk (n + 1) (.tuple ds) := by unfold smOk; exact ⟨hl, h⟩
theorem smOk_lst {n : Nat} {ds : List PyData} (hl : ds.length ≤ 1000000) (h : ∀ x, x ∈ ds → smOk n x) : smOk (n + 1) (.list ds) := by unfold smOk; exact ⟨hl, h⟩
theorem smOk_int {n : Nat} {i : Int} : smOk n (.int i) := by cases n <;> (unfold smOk; trivial)
theorem smOk_non {n : Nat} : smOk n .none := by cases n <;> (unfold smOk; trivial)
theorem smOk_str {n : Nat} {x : Str} : smOk n (.str x) := by cases n <;> (unfold smOk; trivial)
theorem sm_nil {n : Nat} : ∀ x, x ∈ ([] : List PyData) → smOk n x := fun x h => by cases h
theorem sm_cons {n : Nat} {a : PyData} {l : List PyData} (h : smOk n a) (t : ∀ x, x ∈ l → smOk n x) : ∀ x, x ∈ a :: l → smOk n x := fun x hx => by
  rcases List.mem_cons.mp hx with q | q
  · rw [q]; exact h
  · exact t x q
theorem sm_map {α : Type} {n : Nat} {f : α → PyData} {l : List α} (h : ∀ x, x ∈ l → smOk n (f x)) : ∀ x, x ∈ l.map f → smOk n x := fun x hx => by
  obtain ⟨y, hy, rfl⟩ := List.mem_map.mp hx
  exact h y hy
theorem smOk_eM {n : Nat} (k : M.Mk) : smOk (n + 1) (eM k) := smOk_tup (by show 2 ≤ 1000000; decide) (sm_cons smOk_int (sm_cons smOk_int sm_nil))
theorem smOk_eO {n : Nat} (b : Option M.Mk) : smOk (n + 1) (eO b) := by
  cases b with
  | none => exact smOk_non
  | some k => exact smOk_eM k
theorem smOk_eD {n : Nat} {d : Deed} (h : dB d) : smOk (n + 3) (eD d) := by
  cases d with
  | bck p => exact smOk_tup (by show 2 ≤ 1000000; decide) (sm_cons smOk_str (sm_cons smOk_int sm_nil))
  | chg m rm bh n' t =>
    obtain ⟨_, _, _, h4, _⟩ := h
    exact smOk_tup (by show 6 ≤ 1000000; decide) (sm_cons smOk_str (sm_cons smOk_str (sm_cons (smOk_tup (by rw [List.length_map]; omega) (sm_map fun k _ => smOk_eM k)) (sm_cons (smOk_eO bh) (sm_cons smOk_int (sm_cons smOk_str sm_nil))))))
theorem smOk_eT {n : Nat} {t : Trip} (h : dB t.2.2) : smOk (n + 4) (eT t) := smOk_tup (by show 3 ≤ 1000000; decide) (sm_cons smOk_int (sm_cons smOk_int (sm_cons (smOk_eD h) sm_nil)))
theorem smOk_pk {p : List Trip} (hl : p.length ≤ 1000000) (h : ∀ t, t ∈ p → dB t.2.2) : smOk 6 (.list (p.map eT)) := smOk_lst (by rw [List.length_map]; exact hl) (sm_map fun t ht => smOk_eT (n := 1) (h t ht))
theorem smOk_rows {rows : Rws} (hl : rows.length ≤ 1000000) (h : ∀ r, r ∈ rows → r.length ≤ 1000000 ∧ ∀ d, d ∈ r → dB d) : smOk 6 (.list (eL rows)) := smOk_lst (by unfold eL; rw [List.length_map]; exact hl) (sm_map fun r hr => smOk_lst (by rw [List.length_map]; exact (h r hr).1) (sm_map fun d hd => smOk_eD (n := 1) ((h r hr).2 d hd)))
theorem run_taken {p : List Trip} : ∀ (n : Nat) {a : Rws × List Trip}, (∀ t, t ∈ a.2 → t ∈ p) → ∀ t, t ∈ (run p n a).2 → t ∈ p
  | 0, _, h => h
  | n + 1, a, h => by
    cases hn : nx a.1 p with
    | none => rw [run_done hn]; exact h
    | some t =>
      rw [run_some hn]
      refine run_taken n fun x hx => ?_
      rcases List.mem_append.mp hx with hx | hx
      · exact h x hx
      · rw [List.mem_singleton.mp hx]
        exact (nx_some hn).1
end M
namespace G
open PySem L2 M
local macro_rules | `(tactic| walk_at "s") => `(tactic| first | rfl | assumption | decide | omega | exact Or.inr ⟨by omega, by omega⟩ | exact Or.inl ⟨by omega, by omega⟩ | exact ⟨by omega, by omega⟩)
local macro_rules | `(tactic| walk_at "le") => `(tactic| (repeat (first | exact Le.nil | refine Le.eq ?_ | refine Le.un ?_)))
local macro_rules | `(tactic| walk_at "no") => `(tactic| (repeat (first | exact no_nil | refine no_cons rfl ?_)))
abbrev s__law_passes : Stmt := topS 33
abbrev N__law_passes : List Str := ["_law_rows", "_law_deeds", "_law_packet", "_law_passed", "_law_expected", "_law_told"]
theorem sc__law_passes : FnScope N__law_passes ["_law_rows", "_law_deeds", "_law_packet"] (defScope s__law_passes) := ⟨rfl, rfl, rfl, by decide +kernel, rfl, by decide +kernel, by decide +kernel⟩
abbrev s__law_start : Stmt := topS 34
abbrev N__law_start : List Str := ["_law_draws_here", "_law_triples_here", "_law_objects", "_law_k", "_law_some", "_law_j", "_law_each", "_law_deeds", "_law_replica", "_law_deed_here"]
theorem sc__law_start : FnScope N__law_start ["_law_draws_here", "_law_triples_here"] (defScope s__law_start) := ⟨rfl, rfl, rfl, by decide +kernel, rfl, by decide +kernel, by decide +kernel⟩
section
variable {P : Program} {w : World} {K : PySem.W.Frag} {mg : Str → Option Value} {base : Heap} {C : Addr} {Tb : Tab}
/-- an object's rows, a packet, that serve -/
structure Ob (rows : Rws) : Prop where
  ra : RA rows
  sz : ∀ r, r ∈ rows → r.length ≤ 40
structure Pk (p : List Trip) : Prop where
  ts : ∀ t, t ∈ p → TS t
  sz : p.length ≤ 60
theorem Ob.sm {rows : Rws} (h : Ob rows) : smOk 6 (.list (eL rows)) := smOk_rows (by have := h.ra.rb.1.1; omega) fun r hr => ⟨by have := h.sz r hr; omega, h.ra.rb.2 r hr⟩
theorem Pk.sm {p : List Trip} (h : Pk p) : smOk 6 (.list (p.map eT)) := smOk_pk (by have := h.sz; omega) fun t ht => (h.ts t ht).1.2
theorem rcv_pr {rows : Rws} {p : List Trip} (h : Ob rows) (hp : Pk p) : Pr rows p (rcv rows p) := (Pr.start h.ra.rb (fun t ht => (hp.ts t ht).1) h.sz hp.sz).run (fun t ht => (hp.ts t ht).1) _
theorem same_r {n : Nat} {ta tb : TE} {Γ : List Sl} {E : XK} {x : PyData} (h1 : Er C Tb ta Γ x) (h2 : Er C Tb tb Γ x) (h3 : smOk n x) : Ed C Tb (tCall (spSame C Tb n) [] E (tCons ta (tCons tb tNil))) Γ (.bool true) :=
  (er_call (args := fun d : PyData => [d, d]) (pre := fun d => smOk n d) (res := fun _ => .dat (.bool true)) x (er_cons h1 (er_cons h2 er_nil)) h3 rfl).ed
theorem rcv_c {rows : Rws} {p : List Trip} {td tp : TE} {Γ : List Sl} {E : XK} (h : Ob rows) (hp : Pk p) (h1 : Ed C Tb td Γ (objD (eL rows))) (h2 : Ed C Tb tp Γ (.list (p.map eT))) : Ef C Tb (tCall (spRcv C Tb) [] E (tCons td (tCons tp tNil))) Γ (.rcv (eR (rcv rows p).1) ((rcv rows p).2.map eT)) :=
  ef_call (rows, p) (ea_cons h1 (ea_cons h2 ea_nil)) ⟨h.ra.rb, fun t ht => (hp.ts t ht).1, h.sz, hp.sz⟩
theorem rcvL_c {rows : Rws} {p : List Trip} {td tp : TE} {Γ : List Sl} {E : XK} (h : Ob rows) (hp : Pk p) (h1 : Ed C Tb td Γ (.list (eL rows))) (h2 : Ed C Tb tp Γ (.list (p.map eT))) : Ef C Tb (tCall (spRcvL C Tb) [] E (tCons td (tCons tp tNil))) Γ (.own [.list (eL (rcv rows p).1), .list ((rcv rows p).2.map eT)]) :=
  ef_call (rows, p) (ea_cons h1 (ea_cons h2 ea_nil)) ⟨h.ra.rb, h.ra.as, hp.ts, h.sz, hp.sz⟩
def spPasses (C : Addr) (Tb : Tab) : Sp := spF C Tb (fun x : Rws × List Trip => [.list (eL x.1), objD (eL x.1), .list (x.2.map eT)]) (fun x => Ob x.1 ∧ Pk x.2) (fun x => .obj (eR (rcv x.1 x.2).1))
theorem w_passes (F : Def K mg "_law_passes" s__law_passes ["_law_rows", "_law_deeds", "_law_packet"]) (T : Txt K mg C) (c__law_received : Cal P w K mg base 5 "_law_received" (spRcvL C Tb)) (c_received : Cal P w K mg base 6 "received" (spRcv C Tb)) (c__law_same : Cal P w K mg base 8 "_law_same" (spSame C Tb 6)) (c_add : Met P w K mg base 1 C "add" (spAdd C)) : Cal P w K mg base 9 "_law_passes" (spPasses C Tb) := by
  refine F.cal sc__law_passes (sp_len fun _ => rfl) fun f cdv A outer s H vs Q E hr h => ?_
  obtain ⟨⟨rows, p⟩, lo, rr, hlo, ht, ⟨hO0, hP0⟩, kk⟩ := h
  have hO : Ob rows := hO0
  have hP : Pk p := hP0
  refine ⟨_, (pss_cons (ps_set (i := 3) sc__law_passes.nd rfl (Or.inl rfl) (pe_callTy (listQ (K := K)) (by rfl) T.m_list (by decide +kernel) (pa_cons (pv 2) pa_nil)))
      (pss_cons (ps_set (i := 4) sc__law_passes.nd rfl (Or.inl rfl) (pe_c c__law_received (hr.mono (by omega)) (by rfl) (pa_cons (pv 0) (pa_cons (pv 2) pa_nil))))
      (pss_cons (ps_set (i := 5) sc__law_passes.nd rfl (Or.inl rfl) (pe_c c_received (hr.mono (by omega)) (by rfl) (pa_cons (pv 1) (pa_cons (pv 3) pa_nil))))
      (pss_cons (ps_if (PW.pt (pw_or (pt_not (pt_val (pe_callB call_isi (by rfl) T.m_isinstance (by decide +kernel) (pa_cons (pv 5) (pa_cons (pe_ty (n := "tuple") (by rfl) T.m_tuple (by decide +kernel)) pa_nil))))) (pw_or (pt_cmpR op_ne (pe_callB (lenQ (K := K)) (by rfl) T.m_len PySem.boot_len (pa_cons (pv 5) pa_nil)) pe_int (nomark _)) (pw_or1 (pt_not (pt_val (pe_c c__law_same (hr.mono (by omega)) (by rfl) (pa_cons (pe_ix (ixT (K := K)) (pv 5) pe_int (fun _ _ => rfl)) (pa_cons (pe_ix (ixL (K := K)) (pv 4) pe_int (fun _ _ => rfl)) pa_nil))))))))) (pss_one (ps_ret pe_non)) pss_nil)
      (pss_cons (ps_if (PW.pt (pw_or (pt_not (pt_val (pe_c c__law_same (hr.mono (by omega)) (by rfl) (pa_cons (fldK (K := K) (pe_ix (ixT (K := K)) (pv 5) pe_int (fun _ _ => rfl)) rfl) (pa_cons (pe_ix (ixL (K := K)) (pv 4) pe_int (fun _ _ => rfl)) pa_nil))))) (pw_or (pt_not (pt_val (pe_c c__law_same (hr.mono (by omega)) (by rfl) (pa_cons (pv 3) (pa_cons (pv 2) pa_nil))))) (pw_or1 (pt_not (pt_val (pe_c c__law_same (hr.mono (by omega)) (by rfl) (pa_cons (fldK (K := K) (pv 1) rfl) (pa_cons (pv 0) pa_nil))))))))) (pss_one (ps_ret pe_non)) pss_nil)
      (pss_cons (ps_expr (pe_mt c_add (hr.mono (by omega)) (pe_ix (ixT (K := K)) (pv 5) pe_int (fun _ _ => rfl)) (pa_cons pe_int (pa_cons (pe_tup (pa_cons pe_str (pa_cons pe_int pa_nil))) pa_nil))))
      (pss_cons (ps_if (pt_not (pt_val (pe_c c__law_same (hr.mono (by omega)) (by rfl) (pa_cons (fldK (K := K) (pv 1) rfl) (pa_cons (pv 0) pa_nil))))) (pss_one (ps_ret pe_non)) pss_nil)
      (pss_one (ps_ret (pe_ix (ixT (K := K)) (pe_c c_received (hr.mono (by omega)) (by rfl) (pa_cons (pv 1) (pa_cons (pv 3) pa_nil))) pe_int (fun _ _ => rfl))))))))))), ?_⟩
  refine go_enter (n := 3) rr hlo ht kk rfl ?_
  show Go C Tb _ [.dat (.list (eL rows)), .dat (objD (eL rows)), .dat (.list (p.map eT)), .un, .un, .un] _ (fun s => s = .obj (eR (rcv rows p).1))
  refine gs (es_listOf ((ed_var (by rfl))).es) ?_
  refine gs (rcvL_c hO hP (ed_var (by rfl)) (ed_var (by rfl))) ?_
  refine go_frz (i := 3) (by rfl) ?_
  refine go_frz (i := 4) (by rfl) ?_
  refine gs (rcv_c hO hP (ed_var (by rfl)) (ed_var (by rfl))) ?_
  have hpr := rcv_pr hO hP
  have htk : ∀ t, t ∈ (rcv rows p).2 → t ∈ p := run_taken _ fun t ht => by cases ht
  have s1 : smOk 6 (.list ((rcv rows p).2.map eT)) := smOk_pk (by have := hpr.tk; omega) fun t ht => (hP.ts t (htk t ht)).1.2
  have s2 : smOk 6 (.list (eL (rcv rows p).1)) := smOk_rows (by have := hpr.n8; omega) fun r hr => ⟨by have := hpr.rb.1.2 r hr; omega, hpr.rb.2 r hr⟩
  show Go C Tb _ [.dat (.list (eL rows)), .dat (objD (eL rows)), .dat (.list (p.map eT)), .dat (.list (p.map eT)), .dat (.list [.list (eL (rcv rows p).1), .list ((rcv rows p).2.map eT)]), .rcv (eR (rcv rows p).1) ((rcv rows p).2.map eT)] _ _
  refine gi (b := false) ((et_or (a := false) (b := false) ((et_not (et_B (ed_isiV (b := true) (by rfl) (by rfl)))).is (by rfl)) (fun hb => ((et_or (a := false) (b := false) ((et_T (ed_neI (ed_lenRcv (by rfl)) ed_int)).is (by rfl)) (fun hb => ((et_not (et_B (same_c (ed_rcv1 (by rfl)) (ed_ixL (ed_var (by rfl)) ed_int (by walk_at "s")) s1))).is (by rfl)))).is (by rfl)))).is (by rfl)) (fun hb => by cases hb) (fun hb => gn ?_)
  refine gi (b := false) ((et_or (a := false) (b := false) ((et_not (et_B (same_r (er_rows T.cl T.nR ((er_rcv0 (by rfl)).is (by rw [eL_eq]))) ((ed_ixL (ed_var (by rfl)) ed_int (by walk_at "s"))).er s2))).is (by rfl)) (fun hb => ((et_or (a := false) (b := false) ((et_not (et_B (same_c (ed_var (by rfl)) (ed_var (by rfl)) hP.sm))).is (by rfl)) (fun hb => ((et_not (et_B (same_c (ed_rows T.cl T.nR (ed_var (by rfl))) (ed_var (by rfl)) hO.sm))).is (by rfl)))).is (by rfl)))).is (by rfl)) (fun hb => by cases hb) (fun hb => gn ?_)
  have h8 := hpr.n8
  have h0 := hpr.sz 0 (by decide)
  refine go_seq (go_addR (N := fun Γ' => Γ' = [.dat (.list (eL rows)), .dat (objD (eL rows)), .dat (.list (p.map eT)), .dat (.list (p.map eT)), .dat (.list [.list (eL (rcv rows p).1), .list ((rcv rows p).2.map eT)]), .un]) (j := 0) (by rfl) ed_int (ed_tup (ea_cons ed_str (ea_cons ed_int ea_nil))) (by rw [eR_length, h8]; rfl) (eR_at (by omega)) (by rw [List.length_map]; omega) rfl) fun Γ' e => ?_
  subst e
  refine gi (b := false) ((et_not (et_B (same_c (ed_rows T.cl T.nR (ed_var (by rfl))) (ed_var (by rfl)) hO.sm))).is (by rfl)) (fun hb => by cases hb) (fun hb => gn ?_)
  exact go_ret (ef_rcv0 (rcv_c hO hP (ed_var (by rfl)) (ed_var (by rfl)))) rfl
theorem mem_r0 {r : List Deed} (h : r ∈ r0) : r = [] := (List.mem_replicate.mp h).2
theorem no_r0 {r : List Deed} {d : Deed} (h : r ∈ r0) (hd : d ∈ r) : False := by
  rw [mem_r0 h] at hd
  cases hd
theorem cl_r0 (m : Str) : Cl (chgs r0 m) := by
  rw [chgs_r0]
  intro x hx
  cases hx
theorem ob_r0 : Ob r0 := ⟨⟨⟨⟨rfl, fun r hr => by rw [mem_r0 hr]; exact Nat.zero_le _⟩, fun r hr d hd => (no_r0 hr hd).elim⟩, fun r hr d hd => (no_r0 hr hd).elim, cl_r0, fun r hr d hd => (no_r0 hr hd).elim⟩, fun r hr => by rw [mem_r0 hr]; exact Nat.zero_le _⟩
theorem pk_stP {ds : List Int} {tr : List Trip} (h : Pk tr) (k : Nat) : Pk (stP ds tr k) := ⟨fun t ht => h.ts t (List.mem_filter.mp ht).1, Nat.le_trans (List.length_filter_le _ _) h.sz⟩
def spStart (C : Addr) (Tb : Tab) : Sp := spF C Tb (fun x : List Int × List Trip => [.list (eN x.1), .list (x.2.map eT)]) (fun x => Dr x.1 ∧ Pk x.2 ∧ ∀ t, t ∈ x.2 → 0 ≤ t.2.1 ∧ t.2.1 ≤ 1000) (fun x => .own2 ((List.range 3).map fun k => eB (stR x.1 x.2 k, stR x.1 x.2 k)))
theorem w_start (F : Def K mg "_law_start" s__law_start ["_law_draws_here", "_law_triples_here"]) (T : Txt K mg C) (c__law_received : Cal P w K mg base 5 "_law_received" (spRcvL C Tb)) (c__law_at : Cal P w K mg base 2 "_law_at" (spAt C Tb)) (c_Deeds : Mak P w K mg base 1 "Deeds" C (spInit C Tb)) (c_add : Met P w K mg base 1 C "add" (spAdd C)) : Cal P w K mg base 6 "_law_start" (spStart C Tb) := by
  refine F.cal sc__law_start (sp_len fun _ => rfl) fun f cdv A outer s H vs Q E hr h => ?_
  obtain ⟨⟨ds, tr⟩, lo, rr, hlo, ht, ⟨hD0, hP0, hn0⟩, kk⟩ := h
  have hD : Dr ds := hD0
  have hP : Pk tr := hP0
  have hn : ∀ t, t ∈ tr → 0 ≤ t.2.1 ∧ t.2.1 ≤ 1000 := hn0
  refine ⟨_, (pss_cons (ps_set (i := 2) sc__law_start.nd rfl (Or.inl rfl) (pe_lst pa_nil))
      (pss_cons (ps_for PassesOwn.never rfl (pi_range1 (by rfl) T.m_range (pa_cons pe_int pa_nil)) (pg_name (i := 3) sc__law_start.nd rfl (Or.inr rfl)) (pss_cons (ps_set (i := 4) sc__law_start.nd rfl (Or.inl rfl) (pe_c c__law_received (hr.mono (by omega)) (by rfl) (pa_cons (pe_lc (own := [("_law_j", 5)]) rfl sc__law_start.nd (pi_range1 (by rfl) T.m_range (pa_cons pe_int pa_nil)) (blkOk_by (N := N__law_start) (sc := defScope s__law_start) (by decide +kernel)) (fun _ _ _ _ _ => (pg_name (i := 5) sc__law_start.nd rfl (Or.inl rfl))) (fun _ _ _ _ _ => pts_nil) (fun _ _ _ _ _ => (pe_lst pa_nil))) (pa_cons (pe_lc (own := [("_law_each", 6)]) rfl sc__law_start.nd (listI (K := K) (pv 1)) (blkOk_by (N := N__law_start) (sc := defScope s__law_start) (by decide +kernel)) (fun _ _ _ _ _ => (pg_name (i := 6) sc__law_start.nd rfl (Or.inl rfl))) (fun _ _ _ _ _ => (pts_one (pt_cmpR op_ne (pe_op op_mod (pe_c c__law_at (hr.mono (by omega)) (by rfl) (pa_cons (pv 0) (pa_cons (pe_op op_add (pe_op op_add pe_int (pe_op op_mul pe_int (pe_ix (ixT (K := K)) (pv 6) pe_int (fun _ _ => rfl)))) (pv 3)) pa_nil))) pe_int) pe_int (nomark _)))) (fun _ _ _ _ _ => (pv 6))) pa_nil))))
      (pss_cons (ps_set (i := 7) sc__law_start.nd rfl (Or.inl rfl) (pe_mk c_Deeds (hr.mono (by omega)) (by rfl)))
      (pss_cons (ps_for PassesOwn.never rfl (pi_range1 (by rfl) T.m_range (pa_cons pe_int pa_nil)) (pg_name (i := 8) sc__law_start.nd rfl (Or.inl rfl)) (pss_one (ps_for PassesOwn.never rfl (listI (K := K) (pe_ix (ixL (K := K)) (pe_ix (ixL (K := K)) (pv 4) pe_int (fun _ _ => rfl)) (pv 8) (fun _ _ => rfl))) (pg_name (i := 9) sc__law_start.nd rfl (Or.inl rfl)) (pss_one (ps_expr (pe_mt c_add (hr.mono (by omega)) (pv 7) (pa_cons (pv 8) (pa_cons (pv 9) pa_nil))))))))
      (pss_one (ps_expr (bmK (K := K) PySem.F.plainAttrs_list PySem.F.slot_list_append PySem.F.type_list_append mt_append (pv 2) (pa_cons (pe_lst (pa_cons (pe_ix (ixL (K := K)) (pv 4) pe_int (fun _ _ => rfl)) (pa_cons (pv 7) pa_nil))) pa_nil))))))))
      (pss_one (ps_ret (pv 2))))), ?_⟩
  refine go_enter (n := 8) rr hlo ht kk rfl ?_
  show Go C Tb _ [.dat (.list (eN ds)), .dat (.list (tr.map eT)), .un, .un, .un, .un, .un, .un, .un, .un] _ (fun s => s = .own2 ((List.range 3).map fun k => eB (stR ds tr k, stR ds tr k)))
  refine gs ef_nil2 ?_
  refine gfr 3 (fun i => .int (i : Int)) (fun k => [.dat (.list (eN ds)), .dat (.list (tr.map eT)), .own2 ((List.range k).map fun k => eB (stR ds tr k, stR ds tr k)), .un, .un, .un, .un, .un, .un, .un]) (ei_range1 (n := 3) (ea_cons ed_int ea_nil) (by decide)) (by walk_at "le") (fun k hk => ⟨_, _, tg_name, (by walk_at "no"), ?_⟩) ?_
  · have hPk := pk_stP (ds := ds) hP k
    rw [map_succ]
    have hpr := rcv_pr ob_r0 hPk
    have eR0 : stR ds tr k = (rcv r0 (stP ds tr k)).1 := rfl
    rw [eR0]
    refine gs (rcvL_c ob_r0 hPk ((ef_lcO (List.range 8) (fun (j : Nat) => .int (j : Int)) (fun _ => []) ((ei_range1 (n := 8) (ea_cons ed_int ea_nil) (by decide))).c (by decide) (by walk_at "no") (fun x hx => ⟨_, _, tg_name, (by decide), (by walk_at "no"), ef_lst ea_nil⟩)).list2)
      ((ef_lc tr eT (stK ds k) eT ((ei_list (ed_var (by rfl)))).c (by have := hP.sz; omega) (by walk_at "no") (fun t hx => ⟨_, _, tg_name, (by decide), (by walk_at "no"), ?_, fun hp => (ed_var (by rfl))⟩))).list) ?_
    · obtain ⟨t0, t1, d⟩ := t
      obtain ⟨n1, n2⟩ := hn _ hx
      have n1 : 0 ≤ t1 := n1
      have n2 : t1 ≤ 1000 := n2
      obtain ⟨p, rfl⟩ : ∃ p : Nat, t1 = (p : Int) := ⟨t1.toNat, by omega⟩
      have e : stK ds k (t0, (p : Int), d) = !decide (la ds (900 + 3 * p + k) % 4 = 0) := by unfold stK; rw [Int.toNat_natCast]
      rw [e]
      exact et_T (ed_neI (ed_mod (at_c (j := 900 + 3 * p + k) hD (by omega) (ed_var (by rfl)) ((ed_i0 (ed_i0 ed_int (ed_mul ed_int (ed_ixT (ds := [.int t0, .int (p : Int), eD d]) (ed_var (by rfl)) ed_int (by walk_at "s")) (Or.inl ⟨by decide, by decide⟩))) (ed_var (by rfl))).is (by rfl))) ed_int (by decide)) ed_int)
    · refine gs ef_mk ?_
      refine go_frz (i := 4) (by rfl) ?_
      generalize (rcv r0 (stP ds tr k)).2 = tk
      have h8 := hpr.n8
      have hsz := fun r hr => hpr.sz r hr
      generalize (rcv r0 (stP ds tr k)).1 = R at h8 hsz
      have e0 : List.replicate 8 ([] : List PyData) = eR (pf R 0 0) := by rw [pf_zero]; rfl
      rw [e0]
      refine gfr 8 (fun i => .int (i : Int)) (fun r => [.dat (.list (eN ds)), .dat (.list (tr.map eT)), .own2 ((List.range k).map fun k => eB (stR ds tr k, stR ds tr k)), .un, .dat (.list [.list (eL R), .list (tk.map eT)]), .un, .un, .obj (eR (pf R r 0)), .un, .un]) (ei_range1 (n := 8) (ea_cons ed_int ea_nil) (by decide)) (by walk_at "le") (fun r hr8 => ⟨_, _, tg_name, (by walk_at "no"), ?_⟩) ?_
      · have aR : atI (eL R) (r : Int) = some (.list ((R.getD r []).map eD)) := eL_at (by omega)
        have hl := hsz r hr8
        refine gol (R.getD r []) eD (fun j => [.dat (.list (eN ds)), .dat (.list (tr.map eT)), .own2 ((List.range k).map fun k => eB (stR ds tr k, stR ds tr k)), .un, .dat (.list [.list (eL R), .list (tk.map eT)]), .un, .un, .obj (eR (pf R r j)), .dat (.int (r : Int)), .un]) (ei_list (es_ix ((ed_ixL (ed_var (by rfl)) ed_int (by walk_at "s"))).es (ed_var (by rfl)) aR)) (by walk_at "le") (fun j d hd => ⟨_, _, tg_name, (by walk_at "no"), ?_⟩) ?_
        · have hpl : ((pf R r j).getD r []).length ≤ 100 := by
            rw [pf_row hr8, List.length_take]
            omega
          refine go_add (j := r) (by rfl) (ed_var (by rfl)) (ed_var (by rfl)) (by rw [eR_length, pf_len]; exact ix_nat hr8) (eR_at (by rw [pf_len]; exact hr8)) (by rw [List.length_map]; omega) ?_
          rw [eR_set, pf_add hr8 hd]
          walk_at "le"
        · show Le _ _
          rw [pf_next (Nat.le_refl _)]
          walk_at "le"
      · rw [pf_last h8]
        refine go_frzO (i := 7) (by rfl) ?_
        rw [eL_eq]
        refine go_appN (by rfl) (ef_lst (ea_cons (ed_ixL (ed_var (by rfl)) ed_int (by walk_at "s")) (ea_cons (ed_var (by rfl)) ea_nil))) (by rw [List.length_map, List.length_range]; omega) ?_
        walk_at "le"
  · exact go_retv (by rfl) (by simp) rfl
end
end G

set_option maxRecDepth 100000
set_option maxHeartbeats 4000000
/-! walks, part 17: the law -/
namespace G
open PySem L2 M
local macro_rules | `(tactic| walk_at "s") => `(tactic| first | rfl | assumption | decide | omega | exact Or.inr ⟨by omega, by omega⟩ | exact Or.inl ⟨by omega, by omega⟩ | exact ⟨by omega, by omega⟩)
local macro_rules | `(tactic| walk_at "le") => `(tactic| (repeat (first | exact Le.nil | refine Le.eq ?_ | refine Le.un ?_)))
local macro_rules | `(tactic| walk_at "no") => `(tactic| (repeat (first | exact no_nil | refine no_cons rfl ?_)))
abbrev s_law : Stmt := topS 35
abbrev N_law : List Str := ["_law_script", "_law_draws_here", "_law_triples_here", "_law_objects", "_law_k", "_law_giver", "_law_taker", "_law_due", "_law_packet", "_law_grown", "_law_turn", "_law_deeds", "_law_module"]
theorem sc_law : FnScope N_law ["_law_script"] (defScope s_law) := ⟨rfl, rfl, rfl, by decide +kernel, rfl, by decide +kernel, by decide +kernel⟩
section
variable {P : Program} {w : World} {K : PySem.W.Frag} {mg : Str → Option Value} {base : Heap} {C : Addr} {Tb : Tab}
theorem ef_draws {Γ : List Sl} {E : XK} {i : Nat} {ns : List Int} (h : Γ[i]? = some (.scr K ns)) (hl : ns.length ≤ 1000000) : Ef C Tb (tCall (spDraws K C Tb) [] E (tCons (tVar i) tNil)) Γ (.own (eN (drawsOf ns))) := fun fp lo H σ Q S k => by
  obtain ⟨a, h1, h2⟩ := scr_at S h
  refine ⟨.ref a, h1, a, ns, rfl, h2, S.tabs, hl, fun v H' fpn x fr nd ok => ?_⟩
  exact k v H' fpn x fr nd (ok.clean (orM_hot S x ok) (frmA_map _ _ fun _ _ => rfl))
/-- what the law asks of its objects and packets -/
structure LawOk (ds : List Int) : Prop where
  dr : Dr ds
  tv : ∀ k, k < (la ds 0 % 13).toNat → RA (tVis ds 20 (1 + la ds 1 % 4).toNat k (tSt ds 20 (1 + la ds 1 % 4).toNat k))
  pk : Pk (trips ds)
  pn : ∀ t, t ∈ trips ds → 0 ≤ t.2.1 ∧ t.2.1 ≤ 1000
  o1 : ∀ k, k ≤ turns ds → ∀ R, R ∈ st1 ds (trips ds) k → Ob R
  d1 : ∀ k, k < turns ds → Pk (due (st1 ds (trips ds) k) (gt1 ds k))
  p1 : ∀ k, k < turns ds → Pk (pkt ds k (due (st1 ds (trips ds) k) (gt1 ds k)))
  o2 : ∀ i j, i < 2 → j ≤ 3 → ∀ R, R ∈ st2 (st3 (mid ds) i) j → Ob R
  p2 : ∀ i j, i < 2 → j < 3 → Pk (due (st2 (st3 (mid ds) i) j) (pairs3.getD j (0, 0)))
  eq : (fin3 ds).getD 0 [] = (fin3 ds).getD 1 [] ∧ (fin3 ds).getD 2 [] = (fin3 ds).getD 1 []
def spLaw (K : PySem.W.Frag) (Tb : Tab) : Sp := fun vs H Q _ => ∃ (a : Addr) (ns : List Int), vs = [.ref a] ∧ SqL K H a (ns.map V.int) ∧ LamX.Tabs Tb H ∧ ns.length ≤ 1000000 ∧ LawOk (drawsOf ns) ∧ ∀ H', Q (.bl true) H'
theorem cn_ok {R : Rws} (h : Ob R) : (cn R).length = 8 ∧ ∀ c, c ∈ cn R → c ≤ 1000 := by
  refine ⟨by unfold cn; rw [List.length_map]; exact h.ra.rb.1.1, fun c hc => ?_⟩
  obtain ⟨r, hr, rfl⟩ := List.mem_map.mp hc
  have := h.sz r hr
  omega
theorem lack_pre {R S : Rws} (h : Ob R) (h2 : Ob S) : R.length = 8 ∧ (cn S).length = 8 ∧ (∀ r, r ∈ R → r.length ≤ 1000) ∧ ∀ c, c ∈ cn S → c ≤ 1000 :=
  ⟨h.ra.rb.1.1, (cn_ok h2).1, fun r hr => by have := h.sz r hr; omega, (cn_ok h2).2⟩
theorem w_law {f : Addr} {fd : FuncData} (F : Fun K "law" "law" s_law f fd) (T : Txt K mg C) (c__law_draws : Cal P w K mg base 2 "_law_draws" (spDraws K C Tb)) (c__law_triples : Cal P w K mg base 5 "_law_triples" (spTriples C Tb)) (c__law_at : Cal P w K mg base 2 "_law_at" (spAt C Tb)) (c__law_start : Cal P w K mg base 6 "_law_start" (spStart C Tb))
    (c__law_lacking : Cal P w K mg base 1 "_law_lacking" (spLackL C Tb)) (c_counts : Met P w K mg base 1 C "counts" (spCounts C Tb)) (c__law_same : Cal P w K mg base 8 "_law_same" (spSame C Tb 6)) (c_lacking : Cal P w K mg base 1 "lacking" (spLack C Tb)) (c__law_turned : Cal P w K mg base 3 "_law_turned" (spTurned C Tb))
    (c__law_passes : Cal P w K mg base 9 "_law_passes" (spPasses C Tb)) (c__law_received : Cal P w K mg base 5 "_law_received" (spRcvL C Tb)) (c_received : Cal P w K mg base 6 "received" (spRcv C Tb)) (c__law_modules : Cal P w K mg base 1 "_law_modules" (spMods C Tb)) (c_text : Met P w K mg base 4 C "text" (spText C Tb)) : FnOk P w K mg base CX0 10 f fd ["_law_script"] (spLaw K Tb) := by
  refine F.ok sc_law (fun vs H Q E ⟨a, ns, e, _⟩ => by rw [e]; rfl) fun cdv A outer s H vs Q E hr h => ?_
  obtain ⟨a, ns, rfl, hsq, ht, hl, ok, kk⟩ := h
  refine ⟨_, (pss_cons (ps_set (i := 1) sc_law.nd rfl (Or.inl rfl) (pe_c c__law_draws (hr.mono (by omega)) (by rfl) (pa_cons (pv 0) pa_nil)))
      (pss_cons (ps_set (i := 2) sc_law.nd rfl (Or.inl rfl) (pe_c c__law_triples (hr.mono (by omega)) (by rfl) (pa_cons (pv 1) (pa_cons pe_int (pa_cons (pe_op op_mod (pe_c c__law_at (hr.mono (by omega)) (by rfl) (pa_cons (pv 1) (pa_cons pe_int pa_nil))) pe_int) (pa_cons (pe_op op_add pe_int (pe_op op_mod (pe_c c__law_at (hr.mono (by omega)) (by rfl) (pa_cons (pv 1) (pa_cons pe_int pa_nil))) pe_int)) pa_nil))))))
      (pss_cons (ps_set (i := 3) sc_law.nd rfl (Or.inl rfl) (pe_c c__law_start (hr.mono (by omega)) (by rfl) (pa_cons (pv 1) (pa_cons (pv 2) pa_nil))))
      (pss_cons (ps_for PassesOwn.never rfl (pi_range1 (by rfl) T.m_range (pa_cons (pe_op op_mod (pe_c c__law_at (hr.mono (by omega)) (by rfl) (pa_cons (pv 1) (pa_cons pe_int pa_nil))) pe_int) pa_nil)) (pg_name (i := 4) sc_law.nd rfl (Or.inl rfl)) (pss_cons (ps_asg (pe_ix (ixL (K := K)) (pe_lst (pa_cons (pe_tup (pa_cons pe_int (pa_cons pe_int pa_nil))) (pa_cons (pe_tup (pa_cons pe_int (pa_cons pe_int pa_nil))) (pa_cons (pe_tup (pa_cons pe_int (pa_cons pe_int pa_nil))) (pa_cons (pe_tup (pa_cons pe_int (pa_cons pe_int pa_nil))) (pa_cons (pe_tup (pa_cons pe_int (pa_cons pe_int pa_nil))) (pa_cons (pe_tup (pa_cons pe_int (pa_cons pe_int pa_nil))) pa_nil))))))) (pe_op op_mod (pe_c c__law_at (hr.mono (by omega)) (by rfl) (pa_cons (pv 1) (pa_cons (pe_op op_add pe_int (pe_op op_mul pe_int (pv 4))) pa_nil))) pe_int) (fun _ _ => rfl)) (tupK (K := K) (n := 2) rfl (pgs_cons (pg_name (i := 5) sc_law.nd rfl (Or.inl rfl)) (pgs_cons (pg_name (i := 6) sc_law.nd rfl (Or.inl rfl)) pgs_nil))))
      (pss_cons (ps_set (i := 7) sc_law.nd rfl (Or.inl rfl) (pe_c c__law_lacking (hr.mono (by omega)) (by rfl) (pa_cons (pe_ix (ixL (K := K)) (pe_ix (ixL (K := K)) (pv 3) (pv 5) (fun _ _ => rfl)) pe_int (fun _ _ => rfl)) (pa_cons (pe_mt0 c_counts (hr.mono (by omega)) (pe_ix (ixL (K := K)) (pe_ix (ixL (K := K)) (pv 3) (pv 6) (fun _ _ => rfl)) pe_int (fun _ _ => rfl))) pa_nil))))
      (pss_cons (ps_if (pt_not (pt_val (pe_c c__law_same (hr.mono (by omega)) (by rfl) (pa_cons (pe_c c_lacking (hr.mono (by omega)) (by rfl) (pa_cons (pe_ix (ixL (K := K)) (pe_ix (ixL (K := K)) (pv 3) (pv 5) (fun _ _ => rfl)) pe_int (fun _ _ => rfl)) (pa_cons (pe_mt0 c_counts (hr.mono (by omega)) (pe_ix (ixL (K := K)) (pe_ix (ixL (K := K)) (pv 3) (pv 6) (fun _ _ => rfl)) pe_int (fun _ _ => rfl))) pa_nil))) (pa_cons (pv 7) pa_nil))))) (pss_one (ps_ret pe_bl)) pss_nil)
      (pss_cons (ps_set (i := 8) sc_law.nd rfl (Or.inl rfl) (pv 7))
      (pss_cons (ps_if (pt_cmpR op_gt (pe_op op_mod (pe_c c__law_at (hr.mono (by omega)) (by rfl) (pa_cons (pv 1) (pa_cons (pe_op op_add pe_int (pe_op op_mul pe_int (pv 4))) pa_nil))) pe_int) pe_int (nomark _)) (pss_one (ps_set (i := 8) sc_law.nd rfl (Or.inl rfl) (pe_c c__law_turned (hr.mono (by omega)) (by rfl) (pa_cons (pv 1) (pa_cons (pe_op op_add pe_int (pe_op op_mul pe_int (pv 4))) (pa_cons (pv 7) pa_nil)))))) pss_nil)
      (pss_cons (ps_set (i := 9) sc_law.nd rfl (Or.inl rfl) (pe_c c__law_passes (hr.mono (by omega)) (by rfl) (pa_cons (pe_ix (ixL (K := K)) (pe_ix (ixL (K := K)) (pv 3) (pv 6) (fun _ _ => rfl)) pe_int (fun _ _ => rfl)) (pa_cons (pe_ix (ixL (K := K)) (pe_ix (ixL (K := K)) (pv 3) (pv 6) (fun _ _ => rfl)) pe_int (fun _ _ => rfl)) (pa_cons (pv 8) pa_nil)))))
      (pss_cons (ps_if (pt_cmp (pc_isN (pv 9))) (pss_one (ps_ret pe_bl)) pss_nil)
      (pss_one (ps_asg (pe_lst (pa_cons (pe_ix (ixL (K := K)) (pe_c c__law_received (hr.mono (by omega)) (by rfl) (pa_cons (pe_ix (ixL (K := K)) (pe_ix (ixL (K := K)) (pv 3) (pv 6) (fun _ _ => rfl)) pe_int (fun _ _ => rfl)) (pa_cons (pv 8) pa_nil))) pe_int (fun _ _ => rfl)) (pa_cons (pv 9) pa_nil))) (pg_sub (pv 3) (pv 6) set_list)))))))))))
      (pss_cons (ps_for PassesOwn.never rfl (pi_range1 (by rfl) T.m_range (pa_cons pe_int pa_nil)) (pg_name (i := 10) sc_law.nd rfl (Or.inl rfl)) (pss_one (ps_for PassesOwn.never rfl (listI (K := K) (pe_lst (pa_cons (pe_tup (pa_cons pe_int (pa_cons pe_int pa_nil))) (pa_cons (pe_tup (pa_cons pe_int (pa_cons pe_int pa_nil))) (pa_cons (pe_tup (pa_cons pe_int (pa_cons pe_int pa_nil))) pa_nil))))) (tupK (K := K) (n := 2) rfl (pgs_cons (pg_name (i := 5) sc_law.nd rfl (Or.inl rfl)) (pgs_cons (pg_name (i := 6) sc_law.nd rfl (Or.inl rfl)) pgs_nil))) (pss_cons (ps_set (i := 11) sc_law.nd rfl (Or.inl rfl) (pe_ix (ixL (K := K)) (pe_ix (ixL (K := K)) (pv 3) (pv 6) (fun _ _ => rfl)) pe_int (fun _ _ => rfl)))
      (pss_one (ps_asg (pe_ix (ixT (K := K)) (pe_c c_received (hr.mono (by omega)) (by rfl) (pa_cons (pv 11) (pa_cons (pe_c c_lacking (hr.mono (by omega)) (by rfl) (pa_cons (pe_ix (ixL (K := K)) (pe_ix (ixL (K := K)) (pv 3) (pv 5) (fun _ _ => rfl)) pe_int (fun _ _ => rfl)) (pa_cons (pe_mt0 c_counts (hr.mono (by omega)) (pv 11)) pa_nil))) pa_nil))) pe_int (fun _ _ => rfl)) (pg_sub (pe_ix (ixL (K := K)) (pv 3) (pv 6) (fun _ _ => rfl)) pe_int set_list)))))))
      (pss_cons (ps_for PassesOwn.never rfl (listI (K := K) (pe_c0 c__law_modules (hr.mono (by omega)) (by rfl))) (pg_name (i := 12) sc_law.nd rfl (Or.inl rfl)) (pss_one (ps_if (PW.pt (pw_or (pt_cmpR op_ne (pe_mt c_text (hr.mono (by omega)) (pe_ix (ixL (K := K)) (pe_ix (ixL (K := K)) (pv 3) pe_int (fun _ _ => rfl)) pe_int (fun _ _ => rfl)) (pa_cons (pv 12) pa_nil)) (pe_mt c_text (hr.mono (by omega)) (pe_ix (ixL (K := K)) (pe_ix (ixL (K := K)) (pv 3) pe_int (fun _ _ => rfl)) pe_int (fun _ _ => rfl)) (pa_cons (pv 12) pa_nil)) (nomark _)) (pw_or1 (pt_cmpR op_ne (pe_mt c_text (hr.mono (by omega)) (pe_ix (ixL (K := K)) (pe_ix (ixL (K := K)) (pv 3) pe_int (fun _ _ => rfl)) pe_int (fun _ _ => rfl)) (pa_cons (pv 12) pa_nil)) (pe_mt c_text (hr.mono (by omega)) (pe_ix (ixL (K := K)) (pe_ix (ixL (K := K)) (pv 3) pe_int (fun _ _ => rfl)) pe_int (fun _ _ => rfl)) (pa_cons (pv 12) pa_nil)) (nomark _))))) (pss_one (ps_ret pe_bl)) pss_nil)))
      (pss_one (ps_ret (pe_and (pe_c c__law_same (hr.mono (by omega)) (by rfl) (pa_cons (fldK (K := K) (pe_ix (ixL (K := K)) (pe_ix (ixL (K := K)) (pv 3) pe_int (fun _ _ => rfl)) pe_int (fun _ _ => rfl)) rfl) (pa_cons (fldK (K := K) (pe_ix (ixL (K := K)) (pe_ix (ixL (K := K)) (pv 3) pe_int (fun _ _ => rfl)) pe_int (fun _ _ => rfl)) rfl) pa_nil))) (pe_one (pe_c c__law_same (hr.mono (by omega)) (by rfl) (pa_cons (fldK (K := K) (pe_ix (ixL (K := K)) (pe_ix (ixL (K := K)) (pv 3) pe_int (fun _ _ => rfl)) pe_int (fun _ _ => rfl)) rfl) (pa_cons (fldK (K := K) (pe_ix (ixL (K := K)) (pe_ix (ixL (K := K)) (pv 3) pe_int (fun _ _ => rfl)) pe_int (fun _ _ => rfl)) rfl) pa_nil))))))))))))), ?_⟩
  refine go_enterS (C := C) (s0 := .dat (.bool true)) (n := 12) hsq ht (fun v H' fpn x fr nd ok => by
    obtain ⟨_, v', e, r⟩ := ok
    cases e
    rw [r.bl_eq]
    exact kk H') rfl ?_
  show Go C Tb _ [.scr K ns, .un, .un, .un, .un, .un, .un, .un, .un, .un, .un, .un, .un] _ (fun s => s = .dat (.bool true))
  refine gs (ef_draws (by rfl) hl) ?_
  refine go_frz (i := 1) (by rfl) ?_
  generalize drawsOf ns = ds at ok
  have hD := ok.dr
  have v0 := lawAt_lo hD 0
  have v1 := lawAt_lo hD 1
  have v2 := lawAt_lo hD 2
  have e0 : la ds 0 % 13 = (((la ds 0 % 13).toNat : Nat) : Int) := by unfold la; omega
  have e1 : 1 + la ds 1 % 4 = (((1 + la ds 1 % 4).toNat : Nat) : Int) := by unfold la; omega
  have q2 : la ds 2 % 5 = ((turns ds : Nat) : Int) := by unfold turns la; omega
  have tt0 : (la ds 0 % 13).toNat ≤ 40 := by unfold la; omega
  have tt1 : 0 < (1 + la ds 1 % 4).toNat ∧ (1 + la ds 1 % 4).toNat ≤ 8 := by unfold la; omega
  have tt2 : turns ds ≤ 5 := by unfold turns la; omega
  refine gs (ef_call (ds, 20, (la ds 0 % 13).toNat, (1 + la ds 1 % 4).toNat) (ea_cons (ed_var (by rfl)) (ea_cons ed_int (ea_cons ((ed_mod (at_c (j := 0) hD (by decide) (ed_var (by rfl)) ed_int) ed_int (by decide)).is (by rw [e0]; rfl)) (ea_cons ((ed_i0 ed_int (ed_mod (at_c (j := 1) hD (by decide) (ed_var (by rfl)) ed_int) ed_int (by decide))).is (by rw [e1]; rfl)) ea_nil)))) (by exact ⟨hD, by show 20 ≤ 1000; decide, tt0, tt1.1, tt1.2, ok.tv⟩)) ?_
  refine go_frz (i := 2) (by rfl) ?_
  show Go C Tb _ [.scr K ns, .dat (.list (eN ds)), .dat (.list ((trips ds).map eT)), .un, .un, .un, .un, .un, .un, .un, .un, .un, .un] _ _
  refine gs (ef_call (ds, trips ds) (ea_cons (ed_var (by rfl)) (ea_cons (ed_var (by rfl)) ea_nil)) (by exact ⟨hD, ok.pk, ok.pn⟩)) ?_
  show Go C Tb _ [.scr K ns, .dat (.list (eN ds)), .dat (.list ((trips ds).map eT)), .own2 ((List.range 3).map fun k => eB (stR ds (trips ds) k, stR ds (trips ds) k)), .un, .un, .un, .un, .un, .un, .un, .un, .un] _ _
  rw [ob3_zero]
  have o1 := ok.o1
  have d1 := ok.d1
  have p1 := ok.p1
  have hmid : mid ds = st1 ds (trips ds) (turns ds) := rfl
  refine gfr (turns ds) (fun i => .int (i : Int)) (fun k => [.scr K ns, .dat (.list (eN ds)), .dat (.list ((trips ds).map eT)), .own2 (ob3 (st1 ds (trips ds) k) (st1 ds (trips ds) k)), .un, .un, .un, .un, .un, .un, .un, .un, .un])
    (ei_range1 (ea_cons ((ed_mod (at_c (j := 2) hD (by decide) (ed_var (by rfl)) ed_int) ed_int (by decide)).is (by rw [q2])) ea_nil) (by omega)) (by walk_at "le") (fun k hk => ⟨_, _, tg_name, (by walk_at "no"), ?_⟩) ?_
  · have es : st1 ds (trips ds) (k + 1) = got (st1 ds (trips ds) k) (gt1 ds k).2 (pkt ds k (due (st1 ds (trips ds) k) (gt1 ds k))) := rfl
    have o1k := o1 k (by omega)
    have d1k := d1 k hk
    have p1k := p1 k hk
    have hB := st1_len ds (trips ds) k
    rw [es]
    generalize st1 ds (trips ds) k = B at o1k d1k p1k hB
    have v4 := lawAt_lo hD (400 + 40 * k)
    have v401 := lawAt_lo hD (401 + 40 * k)
    have l6 : (la ds (400 + 40 * k) % 6).toNat < 6 := by unfold la; omega
    obtain ⟨g3, t3, _⟩ := pairs6_lt _ l6
    have ap : atI (pairs6.map e2) (la ds (400 + 40 * k) % 6) = some (e2 (gt1 ds k)) := at_lt (d := (0, 0)) (by unfold la; omega) (by show _ < (6 : Int); unfold la; omega)
    have g3 : (gt1 ds k).1 < 3 := g3
    have t3 : (gt1 ds k).2 < 3 := t3
    refine gt (es_ix ((ef_lst (ea_cons (ed_tup (ea_cons ed_int (ea_cons ed_int ea_nil))) (ea_cons (ed_tup (ea_cons ed_int (ea_cons ed_int ea_nil))) (ea_cons (ed_tup (ea_cons ed_int (ea_cons ed_int ea_nil))) (ea_cons (ed_tup (ea_cons ed_int (ea_cons ed_int ea_nil))) (ea_cons (ed_tup (ea_cons ed_int (ea_cons ed_int ea_nil))) (ea_cons (ed_tup (ea_cons ed_int (ea_cons ed_int ea_nil))) ea_nil)))))))).es (ed_mod (at_c (j := 400 + 40 * k) hD (by omega) (ed_var (by rfl)) ((ed_i0 ed_int (ed_mul ed_int (ed_var (by rfl)) (Or.inl ⟨by decide, by decide⟩))).is (by rfl))) ed_int (by decide)) ap) (tg_tup (tgs_cons (tgs_cons tgs_nil))) (by walk_at "no") ?_
    generalize gt1 ds k = x at g3 t3 d1k p1k
    obtain ⟨g, t⟩ := x
    have g3 : g < 3 := g3
    have t3 : t < 3 := t3
    have og := o1k _ (getD_mem (d := []) (show g < B.length by omega))
    have ot := o1k _ (getD_mem (d := []) (show t < B.length by omega))
    have ag := ob3_at (A := B) (B := B) g3
    have at' := ob3_at (A := B) (B := B) t3
    have d1k : Pk (lack (B.getD g []) (cn (B.getD t []))) := d1k
    have p1k : Pk (pkt ds k (lack (B.getD g []) (cn (B.getD t [])))) := p1k
    have hgot : got B t (pkt ds k (due B (g, t))) = B.set t (rcv (B.getD t []) (pkt ds k (lack (B.getD g []) (cn (B.getD t []))))).1 := rfl
    have hset := ob3_set (A := B) (B := B) (t := t) (x := (rcv (B.getD t []) (pkt ds k (lack (B.getD g []) (cn (B.getD t []))))).1) (y := (rcv (B.getD t []) (pkt ds k (lack (B.getD g []) (cn (B.getD t []))))).1) hB hB t3
    show Go C Tb _ [.scr K ns, .dat (.list (eN ds)), .dat (.list ((trips ds).map eT)), .own2 (ob3 B B), .dat (.int (k : Int)), .dat (.int (g : Int)), .dat (.int (t : Int)), .un, .un, .un, .un, .un, .un] _ _
    rw [hgot, ← hset]
    have lp := lack_pre og ot
    generalize hRg : B.getD g [] = Rg at og ag d1k p1k lp
    generalize hRt : B.getD t [] = Rt at ot at' d1k p1k lp
    refine gs (ef_call (Rg, cn Rt) (ea_cons (es_ix (es_ix2 (by rfl) (ed_var (by rfl)) ag) ed_int (by walk_at "s")) (ea_cons (ef_meth0 Rt (es_ix (es_ix2 (by rfl) (ed_var (by rfl)) at') ed_int (by walk_at "s")) rfl (by show Rt.length ≤ 1000; have := ot.ra.rb.1.1; omega)).list ea_nil)) (by exact lp)) ?_
    refine go_frz (i := 7) (by rfl) ?_
    generalize hdue : lack Rg (cn Rt) = du at d1k p1k
    show Go C Tb _ [.scr K ns, .dat (.list (eN ds)), .dat (.list ((trips ds).map eT)), .own2 (ob3 B B), .dat (.int (k : Int)), .dat (.int (g : Int)), .dat (.int (t : Int)), .dat (.list (du.map eT)), .un, .un, .un, .un, .un] _ _
    refine gi (b := false) ((et_not (a := true) (et_B (same_c (x := .list (du.map eT)) (((ef_call (Rg, cn Rt) (ea_cons (es_ix (es_ix2 (by rfl) (ed_var (by rfl)) ag) ed_int (by walk_at "s")) (ea_cons (ef_meth0 Rt (es_ix (es_ix2 (by rfl) (ed_var (by rfl)) at') ed_int (by walk_at "s")) rfl (by show Rt.length ≤ 1000; have := ot.ra.rb.1.1; omega)).list ea_nil)) (by exact lp)).list).is (by rw [← hdue])) (ed_var (by rfl)) d1k.sm))).is (by rfl)) (fun hb => by cases hb) (fun hb => gn ?_)
    refine gsd (ed_var (by rfl)) ?_
    refine go_seq (M := fun Γ' => Γ' = [.scr K ns, .dat (.list (eN ds)), .dat (.list ((trips ds).map eT)), .own2 (ob3 B B), .dat (.int (k : Int)), .dat (.int (g : Int)), .dat (.int (t : Int)), .dat (.list (du.map eT)), .dat (.list ((pkt ds k du).map eT)), .un, .un, .un, .un]) ?_ fun Γ' e => ?_
    · refine go_if (et_T (ed_ib (ed_mod (at_c (j := 401 + 40 * k) hD (by omega) (ed_var (by rfl)) ((ed_i0 ed_int (ed_mul ed_int (ed_var (by rfl)) (Or.inl ⟨by decide, by decide⟩))).is (by rfl))) ed_int (by decide)) ed_int)) (fun hb => ?_) (fun hb => ?_)
      · have hb : la ds (401 + 40 * k) % 3 > 0 := of_decide_eq_true hb
        have ep : pkt ds k du = turned ds (402 + 40 * k) du du.length := by unfold pkt; rw [if_pos hb]
        rw [ep]
        exact go_setd ((ef_call (ds, 402 + 40 * k, du) (ea_cons (ed_var (by rfl)) (ea_cons ((ed_i0 ed_int (ed_mul ed_int (ed_var (by rfl)) (Or.inl ⟨by decide, by decide⟩))).is (by rfl)) (ea_cons (ed_var (by rfl)) ea_nil))) (by exact ⟨hD, by show 402 + 40 * k ≤ 800000; omega, d1k.sz, fun t ht => dB_dA (d1k.ts t ht).1.2⟩))).list rfl
      · have hb : ¬ la ds (401 + 40 * k) % 3 > 0 := of_decide_eq_false hb
        have ep : pkt ds k du = du := by unfold pkt; rw [if_neg hb]
        rw [ep]
        exact go_next rfl
    · subst e
      generalize pkt ds k du = p at p1k
      refine gs (ef_call (Rt, p) (ea_cons (es_ix (es_ix2 (by rfl) (ed_var (by rfl)) at') ed_int (by walk_at "s")) (ea_cons (es_ix (es_ix2 (by rfl) (ed_var (by rfl)) at') ed_int (by walk_at "s")) (ea_cons (ed_var (by rfl)) ea_nil))) (by exact ⟨ot, p1k⟩)) ?_
      refine go_frzO (i := 9) (by rfl) ?_
      rw [eL_eq]
      refine gi (b := false) ((et_B (er_isN ((ed_var (by rfl))).er)).is (by rfl)) (fun hb => by cases hb) (fun hb => gn ?_)
      refine go_setN (j := t) (ds := eB ((rcv Rt p).1, (rcv Rt p).1)) (by rfl) (ef_lst (ea_cons (es_ix ((rcvL_c ot p1k (es_ix (es_ix2 (by rfl) (ed_var (by rfl)) at') ed_int (by walk_at "s")) (ed_var (by rfl)))).es ed_int (by walk_at "s")) (ea_cons (ed_var (by rfl)) ea_nil)) (show 2 ≤ 1000 by decide)) (ed_var (by rfl)) (by rw [ob3_len]; exact ix_nat t3) ?_
      walk_at "le"
  · rw [← hmid]
    have hmb : (mid ds).length = 3 := st1_len _ _ _
    have o2 := ok.o2
    have p2 := ok.p2
    have heq := ok.eq
    have hf3 : fin3 ds = st3 (mid ds) 2 := rfl
    generalize mid ds = A at hmb o2 p2 hf3
    refine gfr 2 (fun i => .int (i : Int)) (fun i => [.scr K ns, .dat (.list (eN ds)), .dat (.list ((trips ds).map eT)), .own2 (ob3 A (st3 A i)), .un, .un, .un, .un, .un, .un, .un, .un, .un]) (ei_range1 (n := 2) (ea_cons ed_int ea_nil) (by decide)) (by walk_at "le") (fun i hi => ⟨_, _, tg_name, (by walk_at "no"), ?_⟩) ?_
    · have es3 : st3 A (i + 1) = st2 (st3 A i) 3 := rfl
      rw [es3]
      have hA3 : (st3 A i).length = 3 := (st3_len A i).trans hmb
      have o2i := fun j hj => o2 i j hi hj
      have p2i := fun j hj => p2 i j hi hj
      generalize st3 A i = B0 at hA3 o2i p2i
      refine gol pairs3 e2 (fun j => [.scr K ns, .dat (.list (eN ds)), .dat (.list ((trips ds).map eT)), .own2 (ob3 A (st2 B0 j)), .un, .un, .un, .un, .un, .un, .un, .un, .un]) (ei_list (ef_lst (ea_cons (ed_tup (ea_cons ed_int (ea_cons ed_int ea_nil))) (ea_cons (ed_tup (ea_cons ed_int (ea_cons ed_int ea_nil))) (ea_cons (ed_tup (ea_cons ed_int (ea_cons ed_int ea_nil))) ea_nil)))).list) (by walk_at "le") (fun j x hx => ⟨_, _, (tg_tup (tgs_cons (tgs_cons tgs_nil))), (by walk_at "no"), ?_⟩) ?_
      · have hj : j < 3 := (List.getElem?_eq_some_iff.mp hx).1
        have ex : pairs3.getD j (0, 0) = x := by rw [List.getD_eq_getElem?_getD, hx]; rfl
        have es2 : st2 B0 (j + 1) = got (st2 B0 j) (pairs3.getD j (0, 0)).2 (due (st2 B0 j) (pairs3.getD j (0, 0))) := rfl
        have lt3 := pairs3_lt j hj
        have o2j := o2i j (by omega)
        have p2j := p2i j hj
        rw [ex] at es2 lt3 p2j
        rw [es2]
        have hB : (st2 B0 j).length = 3 := (st2_len B0 j).trans hA3
        generalize st2 B0 j = B at hB o2j p2j
        obtain ⟨g, t⟩ := x
        have g3 : g < 3 := lt3.1
        have t3 : t < 3 := lt3.2
        have og := o2j _ (getD_mem (d := []) (show g < B.length by omega))
        have ot := o2j _ (getD_mem (d := []) (show t < B.length by omega))
        have ag := ob3_at (A := A) (B := B) g3
        have at' := ob3_at (A := A) (B := B) t3
        have p2j : Pk (lack (B.getD g []) (cn (B.getD t []))) := p2j
        have hset := ob3_set2 (A := A) (B := B) (t := t) (y := (rcv (B.getD t []) (lack (B.getD g []) (cn (B.getD t [])))).1) hB t3
        have lp := lack_pre og ot
        show Go C Tb _ [.scr K ns, .dat (.list (eN ds)), .dat (.list ((trips ds).map eT)), .own2 (ob3 A B), .un, .dat (.int (g : Int)), .dat (.int (t : Int)), .un, .un, .un, .un, .un, .un] (fun Γ' => Le Γ' [.scr K ns, .dat (.list (eN ds)), .dat (.list ((trips ds).map eT)), .own2 (ob3 A (B.set t (rcv (B.getD t []) (lack (B.getD g []) (cn (B.getD t [])))).1)), .un, .un, .un, .un, .un, .un, .un, .un, .un]) _
        rw [← hset]
        refine gsd (es_ix (es_ix2 (by rfl) (ed_var (by rfl)) at') ed_int (by walk_at "s")) ?_
        refine go_set2 (j := t) (n := 1) (ds := eB (A.getD t [], B.getD t [])) (by rfl) ((ef_rcv0 (rcv_c ot p2j (ed_var (by rfl)) (ef_call (B.getD g [], cn (B.getD t [])) (ea_cons (es_ix (es_ix2 (by rfl) (ed_var (by rfl)) ag) ed_int (by walk_at "s")) (ea_cons (ef_meth0 (B.getD t []) (ed_var (by rfl)) rfl (by show (B.getD t []).length ≤ 1000; have := ot.ra.rb.1.1; omega)).list ea_nil)) (by exact lp)).list)).objD.is (by rw [eL_eq])) (ed_var (by rfl)) (by rw [ob3_len]; exact ix_nat t3) (ob3_get t3) ed_int (by rfl) ?_
        walk_at "le"
      · show Le _ _
        walk_at "le"
    · rw [← hf3]
      have oF : ∀ R, R ∈ fin3 ds → Ob R := fun R hR => o2 1 3 (by decide) (by decide) R (by rw [hf3] at hR; exact hR)
      have hFl : (fin3 ds).length = 3 := by rw [hf3]; exact (st3_len A 2).trans hmb
      have of1 := oF _ (getD_mem (d := []) (show 1 < (fin3 ds).length by omega))
      have a0 := ob3_at (A := A) (B := fin3 ds) (i := 0) (by decide)
      have a1 := ob3_at (A := A) (B := fin3 ds) (i := 1) (by decide)
      have a2 := ob3_at (A := A) (B := fin3 ds) (i := 2) (by decide)
      rw [heq.1] at a0
      rw [heq.2] at a2
      generalize (fin3 ds).getD 1 [] = R at of1 a0 a1 a2
      refine gfl mods .str (fun _ => [.scr K ns, .dat (.list (eN ds)), .dat (.list ((trips ds).map eT)), .own2 (ob3 A (fin3 ds)), .un, .un, .un, .un, .un, .un, .un, .un, .un]) (ei_list (ef_call () ea_nil trivial).list) (by walk_at "le") (fun i m hm => ⟨_, _, tg_name, (by walk_at "no"), ?_⟩) ?_
      · refine go_if (b := false) ((et_or (a := false) (b := false) ((et_T (ed_neS ((ef_meth (R, m) (es_ix (es_ix2 (by rfl) ed_int a0) ed_int (by walk_at "s")) (ea_cons (ed_var (by rfl)) ea_nil) rfl (by exact of1.ra.rm m))).ed ((ef_meth (R, m) (es_ix (es_ix2 (by rfl) ed_int a1) ed_int (by walk_at "s")) (ea_cons (ed_var (by rfl)) ea_nil) rfl (by exact of1.ra.rm m))).ed)).is (by rw [decide_eq_true rfl]; rfl)) (fun hb => ((et_T (ed_neS ((ef_meth (R, m) (es_ix (es_ix2 (by rfl) ed_int a2) ed_int (by walk_at "s")) (ea_cons (ed_var (by rfl)) ea_nil) rfl (by exact of1.ra.rm m))).ed ((ef_meth (R, m) (es_ix (es_ix2 (by rfl) ed_int a1) ed_int (by walk_at "s")) (ea_cons (ed_var (by rfl)) ea_nil) rfl (by exact of1.ra.rm m))).ed)).is (by rw [decide_eq_true rfl]; rfl)))).is (by rfl)) (fun hb => by cases hb) (fun hb => go_next ?_)
        walk_at "le"
      · exact go_retd (ed_andV (a := true) (b := true) (same_c (ed_rows T.cl T.nR (es_ix (es_ix2 (by rfl) ed_int a0) ed_int (by walk_at "s"))) (ed_rows T.cl T.nR (es_ix (es_ix2 (by rfl) ed_int a1) ed_int (by walk_at "s"))) of1.sm) (fun hb => (same_c (ed_rows T.cl T.nR (es_ix (es_ix2 (by rfl) ed_int a2) ed_int (by walk_at "s"))) (ed_rows T.cl T.nR (es_ix (es_ix2 (by rfl) ed_int a1) ed_int (by walk_at "s"))) of1.sm))) rfl
end
end G

set_option maxRecDepth 100000
set_option maxHeartbeats 4000000
/-! The plain law, part 1: what is known, what is closed. -/
namespace M
open PySem G
/-- the deed at (r, i) -/
def a2 (R : Rws) (r i : Nat) : Option Deed := (R.getD r [])[i]?
theorem a2_lt {R : Rws} {r i : Nat} {d : Deed} (h : a2 R r i = some d) : i < (R.getD r []).length := (List.getElem?_eq_some_iff.mp h).1
theorem a2_getD {R : Rws} {r i : Nat} (h : i < (R.getD r []).length) : a2 R r i = some ((R.getD r []).getD i default) := get_getD h
theorem a2_get {R : Rws} {r i : Nat} {d : Deed} (h : a2 R r i = some d) : (R.getD r []).getD i default = d := by
  have := a2_getD (a2_lt h)
  rw [h] at this
  exact (Option.some.inj this).symm
/-- k is a mark of module m -/
def Kn (R : Rws) (m : Str) (k : M.Mk) : Prop := ∃ r i rm bh n t j, r < 8 ∧ a2 R r i = some (.chg m rm bh n t) ∧ j < t.length ∧ k = (n + ((j : Nat) : Int), ((r : Nat) : Int))
theorem mem_ch {R : Rws} {m : Str} {c : Chg} : c ∈ chgs R m ↔ ∃ r i rm bh n t, r < 8 ∧ a2 R r i = some (.chg m rm bh n t) ∧ c = ((r : Int), .chg m rm bh n t, (frc (R.getD r [])).getD i false) := by
  constructor
  · intro h
    obtain ⟨r, i, h1, h2, h3, h4⟩ := mem_chgs h
    obtain ⟨rm, bh, n, t, e⟩ := isM_chg h3
    exact ⟨r, i, rm, bh, n, t, h1, by rw [a2_getD h2, e], by rw [h4, e]⟩
  · rintro ⟨r, i, rm, bh, n, t, h1, h2, rfl⟩
    have h3 := a2_lt h2
    have e := a2_get h2
    have := mem_chgs' (m := m) h1 h3 (by rw [e]; exact decide_eq_true rfl)
    rw [e] at this
    exact this
theorem kn_iff {R : Rws} {m : Str} {k : M.Mk} : k ∈ kn (chgs R m) ↔ Kn R m k := by
  unfold kn
  rw [List.mem_flatten]
  constructor
  · rintro ⟨l, h1, h2⟩
    obtain ⟨c, hc, rfl⟩ := List.mem_map.mp h1
    obtain ⟨r, i, rm, bh, n, t, h3, h4, rfl⟩ := mem_ch.mp hc
    obtain ⟨x, hx, rfl⟩ := List.mem_map.mp h2
    obtain ⟨j, hj, rfl⟩ := List.mem_map.mp hx
    exact ⟨r, i, rm, bh, n, t, j, h3, h4, List.mem_range.mp hj, rfl⟩
  · rintro ⟨r, i, rm, bh, n, t, j, h3, h4, h5, rfl⟩
    refine ⟨_, List.mem_map.mpr ⟨_, mem_ch.mpr ⟨r, i, rm, bh, n, t, h3, h4, rfl⟩, rfl⟩, ?_⟩
    exact List.mem_map.mpr ⟨insAt (r : Int) n bh t j, List.mem_map.mpr ⟨j, List.mem_range.mpr h5, rfl⟩, rfl⟩
/-- less: what stands in R stands in S -/
def Sub (R S : Rws) : Prop := ∀ r i d, r < 8 → a2 R r i = some d → a2 S r i = some d
theorem Kn.mono {R S : Rws} {m : Str} {k : M.Mk} (h : Sub R S) : Kn R m k → Kn S m k := by
  rintro ⟨r, i, rm, bh, n, t, j, h1, h2, h3, h4⟩
  exact ⟨r, i, rm, bh, n, t, j, h1, h _ _ _ h1 h2, h3, h4⟩
/-- what a change names is known in S -/
def dep (S : Rws) : Deed → Prop
  | .bck _ => True
  | .chg m rm bh n _ => ∀ k, k ∈ rm ++ bh.toList → Kn S m k ∧ k.1 < n
theorem dep.mono {R S : Rws} {d : Deed} (h : Sub R S) (hd : dep R d) : dep S d := by
  cases d with
  | bck p => trivial
  | chg m rm bh n t => exact fun k hk => ⟨(hd k hk).1.mono h, (hd k hk).2⟩
def CL (R : Rws) : Prop := ∀ r i d, r < 8 → a2 R r i = some d → dep R d
theorem fnd_marks (cs : List Chg) : ((fnd cs).map fun x => x.1) = kn cs := by
  unfold fnd kn
  rw [List.map_flatten, List.map_map]
  congr 1
  refine List.map_congr_left fun c _ => ?_
  show (insF c).map (fun x => x.1) = insM c
  unfold insF insM
  rw [List.map_map]
  rfl
theorem cl_of {R : Rws} (h : CL R) (m : Str) : Cl (chgs R m) := by
  intro x hx b hb
  rw [fnd_marks, kn_iff]
  unfold fnd at hx
  rw [List.mem_flatten] at hx
  obtain ⟨l, h1, h2⟩ := hx
  obtain ⟨c, hc, rfl⟩ := List.mem_map.mp h1
  obtain ⟨r, i, rm, bh, n, t, h3, h4, rfl⟩ := mem_ch.mp hc
  obtain ⟨y, hy, rfl⟩ := List.mem_map.mp h2
  obtain ⟨j, hj, rfl⟩ := List.mem_map.mp hy
  have hj := List.mem_range.mp hj
  have hb : bhAt (r : Int) n bh j = some b := hb
  show b.1 < n + (j : Int) ∧ Kn R m b
  unfold bhAt at hb
  by_cases j0 : j = 0
  · rw [if_pos j0] at hb
    have := h r i _ h3 h4 b (by rw [hb]; exact List.mem_append_right _ (List.mem_singleton.mpr rfl))
    exact ⟨by have := this.2; omega, this.1⟩
  · rw [if_neg j0] at hb
    cases hb
    refine ⟨by show n + (j : Int) - 1 < n + (j : Int); omega, r, i, rm, bh, n, t, j - 1, h3, h4, by omega, ?_⟩
    exact Prod.ext (by show n + (j : Int) - 1 = n + ((j - 1 : Nat) : Int); omega) rfl
/-- R stands in T, row by row at the front -/
structure Pre (R T : Rws) : Prop where
  n8 : R.length = 8
  at_ : ∀ r, r < 8 → R.getD r [] = (T.getD r []).take (R.getD r []).length
theorem Pre.a2 {R T : Rws} (h : Pre R T) {r i : Nat} (hr : r < 8) : M.a2 R r i = if i < (R.getD r []).length then M.a2 T r i else none := by
  by_cases hi : i < (R.getD r []).length
  · rw [if_pos hi]
    unfold M.a2
    rw [h.at_ r hr, List.getElem?_take, if_pos hi]
  · rw [if_neg hi]
    unfold M.a2
    exact List.getElem?_eq_none (by omega)
theorem Pre.sub {R T : Rws} (h : Pre R T) : Sub R T := fun r i d hr e => by
  rw [h.a2 hr] at e
  split at e
  · exact e
  · cases e
theorem Pre.le {R T : Rws} (h : Pre R T) {r : Nat} (hr : r < 8) : (R.getD r []).length ≤ (T.getD r []).length := by
  have := congrArg List.length (h.at_ r hr)
  rw [List.length_take] at this
  omega
theorem Pre.ext {R S T : Rws} (h : Pre R T) (h2 : Pre S T) (e : ∀ r, r < 8 → (R.getD r []).length = (S.getD r []).length) : R = S := ext8 h.n8 h2.n8 fun i hi => by
  rw [h.at_ i hi, h2.at_ i hi, e i hi]
theorem Pre.mem {R T : Rws} (h : Pre R T) {row : List Deed} (hr : row ∈ R) {d : Deed} (hd : d ∈ row) : ∃ r i, r < 8 ∧ M.a2 T r i = some d ∧ i < (R.getD r []).length := by
  obtain ⟨r, hr8, e⟩ := List.mem_iff_getElem.mp hr
  obtain ⟨i, hi, e2⟩ := List.mem_iff_getElem.mp hd
  have hr8 : r < 8 := by rw [← h.n8]; exact hr8
  have er : R.getD r [] = row := by rw [List.getD_eq_getElem?_getD, List.getElem?_eq_getElem (by rw [h.n8]; exact hr8), e]; rfl
  refine ⟨r, i, hr8, ?_, by rw [er]; exact hi⟩
  have : M.a2 R r i = some d := by
    unfold M.a2
    rw [er, List.getElem?_eq_getElem hi, e2]
  exact h.sub r i d hr8 this
/-- the true rows -/
def dk (T : Rws) (r i : Nat) : Deed → Prop
  | .bck p => 1 ≤ p ∧ p ≤ (i : Int)
  | .chg m rm _ n t => 1 ≤ n ∧ m ∈ mods ∧ t.length ≤ 4 ∧ PyData.strOk t = true ∧ rm.length ≤ 4 ∧ (∀ k, k ∈ rm → kB k) ∧ ∀ j d, j < i → a2 T r j = some d → after d ≤ n
structure TI (N : Nat) (T : Rws) : Prop where
  n8 : T.length = 8
  dk : ∀ r i d, r < 8 → a2 T r i = some d → dk T r i d
  af : ∀ r i d, r < 8 → a2 T r i = some d → after d ≤ 1 + 10 * (N : Int)
  sz : ∀ r, r < 8 → (T.getD r []).length ≤ N
theorem mods_ok : ∀ m, m ∈ mods → PyData.strOk m = true ∧ 1 ≤ m.length ∧ m.length ≤ 40 := by
  have h : mods.all (fun m => PyData.strOk m && (decide (1 ≤ m.length) && decide (m.length ≤ 40))) = true := by decide +kernel
  intro m hm
  have := List.all_eq_true.mp h m hm
  rw [Bool.and_eq_true, Bool.and_eq_true] at this
  exact ⟨this.1, of_decide_eq_true this.2.1, of_decide_eq_true this.2.2⟩
theorem TI.dB {N : Nat} {T : Rws} (h : TI N T) (hN : N ≤ 13) {r i : Nat} {d : Deed} (hr : r < 8) (e : a2 T r i = some d) : M.dB d := by
  cases d with
  | bck p => trivial
  | chg m rm bh n t =>
    obtain ⟨h1, h2, h3, h4, h5, _⟩ := h.dk r i _ hr e
    have ha : n + (t.length : Int) ≤ 1 + 10 * (N : Int) := h.af r i _ hr e
    have := (mods_ok m h2).2.2
    exact ⟨by omega, by omega, by omega, by omega, by omega⟩
theorem TI.dS {N : Nat} {T : Rws} (h : TI N T) {r i : Nat} {d : Deed} (hr : r < 8) (e : a2 T r i = some d) : M.dS d := by
  cases d with
  | bck p => trivial
  | chg m rm bh n t =>
    obtain ⟨_, h2, _, h4, _⟩ := h.dk r i _ hr e
    exact ⟨(mods_ok m h2).1, h4⟩
theorem TI.dM {N : Nat} {T : Rws} (h : TI N T) {r i : Nat} {d : Deed} (hr : r < 8) (e : a2 T r i = some d) : M.dM d := by
  cases d with
  | bck p => intro k hk; cases hk
  | chg m rm bh n t =>
    obtain ⟨_, _, _, _, _, h6, _⟩ := h.dk r i _ hr e
    exact h6
theorem ra_of {N : Nat} {R T : Rws} (h : Pre R T) (hT : TI N T) (hN : N ≤ 13) (hc : CL R) : RA R := by
  have len : ∀ row, row ∈ R → row.length ≤ 13 := fun row hr => by
    obtain ⟨r, hr8, e⟩ := List.mem_iff_getElem.mp hr
    have hr8 : r < 8 := by rw [← h.n8]; exact hr8
    have er : R.getD r [] = row := by rw [List.getD_eq_getElem?_getD, List.getElem?_eq_getElem (by rw [h.n8]; exact hr8), e]; rfl
    have h1 := h.le hr8
    have h2 := hT.sz r hr8
    rw [er] at h1
    omega
  refine ⟨⟨⟨h.n8, fun r hr => by have := len r hr; omega⟩, fun r hr d hd => ?_⟩, fun r hr d hd => ?_, fun m => cl_of hc m, fun r hr d hd => ?_⟩
  · obtain ⟨r', i, h1, h2, _⟩ := h.mem hr hd
    exact hT.dB hN h1 h2
  · obtain ⟨r', i, h1, h2, _⟩ := h.mem hr hd
    exact hT.dM h1 h2
  · obtain ⟨r', i, h1, h2, _⟩ := h.mem hr hd
    exact hT.dS h1 h2
theorem ob_of {N : Nat} {R T : Rws} (h : Pre R T) (hT : TI N T) (hN : N ≤ 13) (hc : CL R) : Ob R := ⟨ra_of h hT hN hc, fun row hr => by
  obtain ⟨r, hr8, e⟩ := List.mem_iff_getElem.mp hr
  have hr8 : r < 8 := by rw [← h.n8]; exact hr8
  have er : R.getD r [] = row := by rw [List.getD_eq_getElem?_getD, List.getElem?_eq_getElem (by rw [h.n8]; exact hr8), e]; rfl
  have h1 := h.le hr8
  have h2 := hT.sz r hr8
  rw [er] at h1
  omega⟩
end M

set_option maxRecDepth 100000
set_option maxHeartbeats 4000000
/-! The plain law, part 2: what is received stays good, and a whole packet is taken whole. -/
namespace M
open PySem G
structure Good (T R : Rws) : Prop where
  pre : Pre R T
  cl : CL R
def tru (T : Rws) (t : Trip) : Prop := ∃ r i d, r < 8 ∧ a2 T r i = some d ∧ t = ((r : Int), (i : Int) + 1, d)
def bad' (T : Rws) (t : Trip) : Prop := ∀ R, Pre R T → takes R t = false
def ln (R : Rws) (r : Nat) : Nat := (R.getD r []).length
theorem a2_add {R : Rws} {r : Nat} {d : Deed} (h : r < R.length) (r' i : Nat) : a2 (addD R r d) r' i = if r' = r ∧ i = ln R r then some d else a2 R r' i := by
  unfold a2
  rw [addD_at h]
  by_cases hr : r' = r
  · subst hr
    rw [if_pos rfl, List.getElem?_append]
    unfold ln
    by_cases hi : i < (R.getD r' []).length
    · rw [if_pos hi, if_neg (by omega)]
    · rw [if_neg hi]
      by_cases h2 : i = (R.getD r' []).length
      · rw [if_pos ⟨rfl, h2⟩, h2, Nat.sub_self]
        rfl
      · rw [if_neg (fun q => h2 q.2), List.getElem?_eq_none (by show 1 ≤ _; omega), List.getElem?_eq_none (by omega)]
  · rw [if_neg hr, if_neg (fun q => hr q.1)]
theorem sub_add {R : Rws} {r : Nat} {d : Deed} (h : r < R.length) : Sub R (addD R r d) := fun r' i e hr' he => by
  rw [a2_add h, if_neg fun q => ?_]
  · exact he
  · have := a2_lt he
    rw [q.1] at this
    unfold ln at q
    omega
theorem fits_dep {R : Rws} {r : Nat} {d : Deed} (h : fits R r d = true) : dep R d := by
  cases d with
  | bck p => trivial
  | chg m rm bh n t =>
    have h : fitsC R r m rm bh n = true := h
    unfold fitsC at h
    rw [Bool.and_eq_true, Bool.and_eq_true] at h
    intro k hk
    have := List.all_eq_true.mp h.2.2 k hk
    rw [Bool.and_eq_true] at this
    exact ⟨kn_iff.mp (of_decide_eq_true this.1), of_decide_eq_true this.2⟩
theorem good_add {T R : Rws} (h : Good T R) {r : Nat} {d : Deed} (hr : r < 8) (hd : a2 T r (ln R r) = some d) (hf : dep R d) : Good T (addD R r d) := by
  have hr2 : r < R.length := by rw [h.pre.n8]; exact hr
  refine ⟨⟨(addD_length _ _ _).trans h.pre.n8, fun r' hr' => ?_⟩, fun r' i e hr' he => ?_⟩
  · rw [addD_at hr2]
    by_cases q : r' = r
    · subst q
      rw [if_pos rfl, List.length_append]
      show _ = (T.getD r' []).take (ln R r' + 1)
      have e : (T.getD r' []).take (ln R r' + 1) = (T.getD r' []).take (ln R r') ++ [d] := take_snoc hd
      rw [e]
      have := h.pre.at_ r' hr'
      unfold ln
      rw [← this]
    · rw [if_neg q]
      exact h.pre.at_ r' hr'
  · rw [a2_add hr2] at he
    split at he
    · cases he
      exact hf.mono (sub_add hr2)
    · exact (h.cl r' i e hr' he).mono (sub_add hr2)
theorem takes_tru {T R : Rws} {r i : Nat} {d : Deed} (h : takes R ((r : Int), (i : Int) + 1, d) = true) : i = ln R r ∧ fits R r d = true := by
  unfold takes lenAt at h
  rw [Bool.and_eq_true, Int.toNat_natCast] at h
  have : (i : Int) + 1 = ((R.getD r []).length : Int) + 1 := of_decide_eq_true h.1
  exact ⟨by unfold ln; omega, h.2⟩
theorem good_step {T R : Rws} (h : Good T R) {t : Trip} (ht : tru T t ∨ bad' T t) (hk : takes R t = true) : Good T (addT R t) := by
  rcases ht with ⟨r, i, d, hr, hd, rfl⟩ | ht
  · obtain ⟨h1, h2⟩ := takes_tru (T := T) hk
    rw [h1] at hd
    exact good_add h hr hd (fits_dep h2)
  · rw [ht R h.pre] at hk
    cases hk
theorem good_run {T : Rws} {p : List Trip} (hp : ∀ t, t ∈ p → tru T t ∨ bad' T t) : ∀ (n : Nat) (a : Rws × List Trip), Good T a.1 → Good T (run p n a).1
  | 0, _, h => h
  | n + 1, a, h => by
    cases hn : nx a.1 p with
    | none => rw [run_done hn]; exact h
    | some t =>
      obtain ⟨h1, h2⟩ := nx_some hn
      rw [run_some hn]
      exact good_run hp n _ (good_step h (hp t h1) h2)
theorem good_rcv {T R : Rws} {p : List Trip} (h : Good T R) (hp : ∀ t, t ∈ p → tru T t ∨ bad' T t) : Good T (rcv R p).1 := good_run hp _ _ h
/-! the whole packet -/
theorem mem_lack {A : Rws} {cs : List Nat} {t : Trip} : t ∈ lack A cs ↔ ∃ r i, r < 8 ∧ cs.getD r 0 ≤ i ∧ i < ln A r ∧ t = ((r : Int), (i : Int) + 1, (A.getD r []).getD i default) := by
  unfold lack lackN
  rw [List.mem_flatten]
  constructor
  · rintro ⟨l, h1, h2⟩
    obtain ⟨r, hr, rfl⟩ := List.mem_map.mp h1
    obtain ⟨i, hi, rfl⟩ := List.mem_map.mp h2
    have hi := List.mem_range.mp hi
    exact ⟨r, cs.getD r 0 + i, List.mem_range.mp hr, Nat.le_add_right _ _, by unfold ln; omega, rfl⟩
  · rintro ⟨r, i, h1, h2, h3, rfl⟩
    refine ⟨_, List.mem_map.mpr ⟨r, List.mem_range.mpr h1, rfl⟩, List.mem_map.mpr ⟨i - cs.getD r 0, List.mem_range.mpr (by unfold ln at h3; omega), ?_⟩⟩
    have e : cs.getD r 0 + (i - cs.getD r 0) = i := by omega
    rw [e]
theorem cn_at {B : Rws} {r : Nat} (h : r < B.length) : (cn B).getD r 0 = ln B r := by
  unfold cn ln
  rw [List.getD_eq_getElem?_getD, List.getElem?_map, get_getD (d := []) h]
  rfl
theorem lack_tru {T A : Rws} (h : Pre A T) {cs : List Nat} {t : Trip} (ht : t ∈ lack A cs) : tru T t := by
  obtain ⟨r, i, h1, h2, h3, rfl⟩ := mem_lack.mp ht
  exact ⟨r, i, _, h1, h.sub r i _ h1 (a2_getD h3), rfl⟩
theorem lack_tR {A : Rws} {cs : List Nat} {t : Trip} (ht : t ∈ lack A cs) : tR t := by
  obtain ⟨r, i, h1, h2, h3, rfl⟩ := mem_lack.mp ht
  exact ⟨by show (0 : Int) ≤ (r : Int); omega, by show (r : Int) < 8; omega⟩
theorem run_none {p : List Trip} (hp : ∀ t, t ∈ p → tR t) : ∀ (n : Nat) (a : Rws × List Trip), a.1.length = 8 → pend a.1 p ≤ n → nx (run p n a).1 p = none := by
  intro n
  induction n with
  | zero =>
    intro a h8 hn
    cases h : nx a.1 p with
    | none => exact h
    | some t =>
      obtain ⟨h3, h4⟩ := nx_some h
      have h5 := hp t h3
      have h6 := pend_add h4 h3 (by unfold tR at h5; omega)
      omega
  | succ n ih =>
    intro a h8 hn
    cases h : nx a.1 p with
    | none => rw [run_done h]; exact h
    | some t =>
      obtain ⟨h3, h4⟩ := nx_some h
      have h5 := hp t h3
      have h6 := pend_add h4 h3 (by unfold tR at h5; omega)
      rw [run_some h]
      exact ih _ ((addD_length _ _ _).trans h8) (by show pend (addT a.1 t) p ≤ n; omega)
/-- between B and the join -/
theorem run_between {A B : Rws} {p : List Trip} (hp : p = lack A (cn B)) (h8 : B.length = 8) : ∀ (n : Nat) (a : Rws × List Trip), a.1.length = 8 → (∀ r, r < 8 → ln B r ≤ ln a.1 r ∧ ln a.1 r ≤ max (ln A r) (ln B r)) → ∀ r, r < 8 → ln B r ≤ ln (run p n a).1 r ∧ ln (run p n a).1 r ≤ max (ln A r) (ln B r) := by
  intro n
  induction n with
  | zero => intro a _ h; exact h
  | succ n ih =>
    intro a ha h
    cases hn : nx a.1 p with
    | none => rw [run_done hn]; exact h
    | some t =>
      obtain ⟨h3, h4⟩ := nx_some hn
      rw [run_some hn]
      refine ih _ ((addD_length _ _ _).trans ha) fun r hr => ?_
      rw [hp] at h3
      obtain ⟨r', i, k1, k2, k3, rfl⟩ := mem_lack.mp h3
      obtain ⟨k4, _⟩ := takes_tru (T := A) h4
      have := h r hr
      have e : ln (addT a.1 ((r' : Int), (i : Int) + 1, (A.getD r' []).getD i default)) r = ln a.1 r + if r = r' then 1 else 0 := addD_len (by rw [ha]; show ((r' : Int)).toNat < 8; omega) r
      rw [e]
      split
      · rename_i q
        subst q
        omega
      · omega
section
variable {N : Nat} {T A F : Rws}
theorem first_fits (hT : TI N T) (hN : N ≤ 13) (hA : Good T A) (hF : Good T F) {r : Nat} {d : Deed} (hr : r < 8) (hd : a2 A r (ln F r) = some d) (hdep : dep F d) : fits F r d = true := by
  have hdT := hA.pre.sub r _ d hr hd
  have hk := hT.dk r _ d hr hdT
  cases d with
  | bck p =>
    obtain ⟨h1, h2⟩ := hk
    show (decide (1 ≤ p) && decide (p ≤ ((F.getD r []).length : Int))) = true
    rw [decide_eq_true h1, decide_eq_true (show p ≤ ((F.getD r []).length : Int) from h2)]
    rfl
  | chg m rm bh n t =>
    obtain ⟨h1, h2, h3, h4, h5, h6, h7⟩ := hk
    obtain ⟨_, m1, m2⟩ := mods_ok m h2
    show fitsC F r m rm bh n = true
    unfold fitsC
    rw [Bool.and_eq_true, Bool.and_eq_true]
    refine ⟨?_, ?_, ?_⟩
    · rw [decide_eq_false (show ¬ n < 1 by omega), decide_eq_true (show (1 : Int) ≤ (m.length : Int) by omega), decide_eq_true (show (m.length : Int) ≤ 40 by omega)]
      rfl
    · rw [Bool.not_eq_true']
      refine Bool.eq_false_iff.mpr fun q => ?_
      obtain ⟨e, he, hb⟩ := List.any_eq_true.mp q
      obtain ⟨j, hj⟩ := List.mem_iff_getElem?.mp he
      have hj2 : a2 F r j = some e := hj
      have := h7 j e (a2_lt hj2) (hF.pre.sub r j e hr hj2)
      unfold bad at hb
      rw [Bool.and_eq_true] at hb
      have := of_decide_eq_true hb.2
      omega
    · refine List.all_eq_true.mpr fun k hk => ?_
      obtain ⟨k1, k2⟩ := hdep k hk
      rw [Bool.and_eq_true]
      exact ⟨decide_eq_true (kn_iff.mpr k1), decide_eq_true k2⟩
theorem stuck (hT : TI N T) (hN : N ≤ 13) (hA : Good T A) (hF : Good T F) (hno : ∀ r d, r < 8 → a2 A r (ln F r) = some d → fits F r d = false) :
    ∀ (L : Nat) (r : Nat) (m : Str) (rm : List M.Mk) (bh : Option M.Mk) (n : Int) (t : Str), r < 8 → a2 A r (ln F r) = some (.chg m rm bh n t) → n ≤ (L : Int) → False := by
  intro L
  induction L with
  | zero =>
    intro r m rm bh n t hr hd hn
    have := (hT.dk r _ _ hr (hA.pre.sub r _ _ hr hd)).1
    omega
  | succ L ih =>
    intro r m rm bh n t hr hd hn
    have hf := hno r _ hr hd
    have : ¬ dep F (.chg m rm bh n t) := fun q => by
      rw [first_fits hT hN hA hF hr hd q] at hf
      cases hf
    apply this
    intro k hk
    obtain ⟨k1, k2⟩ := hA.cl r _ _ hr hd k hk
    refine ⟨?_, k2⟩
    obtain ⟨r', i', rm', bh', n', t', j, h1, h2, h3, h4⟩ := k1
    by_cases hi : i' < ln F r'
    · refine ⟨r', i', rm', bh', n', t', j, h1, ?_, h3, h4⟩
      rw [hF.pre.a2 h1, if_pos (show i' < (F.getD r' []).length from hi)]
      exact hA.pre.sub r' i' _ h1 h2
    · exfalso
      have hn' : n' < n := by
        rw [h4] at k2
        have k2 : n' + (j : Int) < n := k2
        omega
      have hlt := a2_lt h2
      have hex : a2 A r' (ln F r') = some ((A.getD r' []).getD (ln F r') default) := a2_getD (by omega)
      generalize (A.getD r' []).getD (ln F r') default = d' at hex
      by_cases hq : i' = ln F r'
      · rw [← hq, h2] at hex
        cases hex
        rw [hq] at h2
        exact ih r' m rm' bh' n' t' h1 h2 (by omega)
      · have h7 := (hT.dk r' i' _ h1 (hA.pre.sub r' i' _ h1 h2)).2.2.2.2.2.2 (ln F r') d' (by omega) (hA.pre.sub r' _ _ h1 hex)
        cases d' with
        | bck p =>
          have := hno r' _ h1 hex
          rw [first_fits hT hN hA hF h1 hex trivial] at this
          cases this
        | chg m2 rm2 bh2 n2 t2 =>
          have h7 : n2 + (t2.length : Int) ≤ n' := h7
          exact ih r' m2 rm2 bh2 n2 t2 h1 hex (by omega)
/-- a whole packet is taken whole -/
theorem whole {B : Rws} (hT : TI N T) (hN : N ≤ 13) (hA : Good T A) (hB : Good T B) {r : Nat} (hr : r < 8) : ln (rcv B (lack A (cn B))).1 r = max (ln A r) (ln B r) := by
  have hp : ∀ t, t ∈ lack A (cn B) → tR t := fun t ht => lack_tR ht
  have hG := good_rcv (p := lack A (cn B)) hB fun t ht => .inl (lack_tru hA.pre ht)
  have hb := run_between (A := A) (B := B) (p := lack A (cn B)) rfl hB.pre.n8 ((lack A (cn B)).length + 1) (B, []) hB.pre.n8 (fun r _ => ⟨Nat.le_refl _, Nat.le_max_right _ _⟩)
  have hn := run_none hp ((lack A (cn B)).length + 1) (B, []) hB.pre.n8 (by show pend B _ ≤ _; have := pend_le B (lack A (cn B)); omega)
  have eF : run (lack A (cn B)) ((lack A (cn B)).length + 1) (B, []) = rcv B (lack A (cn B)) := rfl
  rw [eF] at hb hn
  generalize (rcv B (lack A (cn B))).1 = F at hG hb hn
  have hno : ∀ r d, r < 8 → a2 A r (ln F r) = some d → fits F r d = false := fun r d hr hd => by
    have hlt := a2_lt hd
    have hm : ((r : Int), (ln F r : Int) + 1, d) ∈ lack A (cn B) := mem_lack.mpr ⟨r, ln F r, hr, by rw [cn_at (by rw [hB.pre.n8]; exact hr)]; exact (hb r hr).1, hlt, by rw [a2_get hd]⟩
    unfold nx at hn
    have := List.find?_eq_none.mp hn _ hm
    cases q : fits F r d with
    | false => rfl
    | true =>
      exfalso
      apply this
      unfold takes lenAt
      rw [Int.toNat_natCast, q]
      rw [decide_eq_true (show (ln F r : Int) + 1 = ((F.getD r []).length : Int) + 1 from rfl)]
      rfl
  have h := hb r hr
  have key : ln A r ≤ ln F r := by
    apply Classical.byContradiction
    intro q
    have hex : a2 A r (ln F r) = some ((A.getD r []).getD (ln F r) default) := a2_getD (by unfold ln at q ⊢; omega)
    generalize (A.getD r []).getD (ln F r) default = d at hex
    cases d with
    | bck p =>
      have := hno r _ hr hex
      rw [first_fits hT hN hA hG hr hex trivial] at this
      cases this
    | chg m rm bh n t => exact stuck hT hN hA hG hno n.toNat r m rm bh n t hr hex (by omega)
  omega
end
end M

set_option maxRecDepth 100000
set_option maxHeartbeats 4000000
/-! The plain law, part 3: the objects. -/
namespace M
open PySem G
def tot (R : Rws) : Nat → Nat
  | 0 => 0
  | n + 1 => tot R n + ln R n
theorem tot_add {R : Rws} {r : Nat} {d : Deed} (h : r < R.length) : ∀ n, tot (addD R r d) n = tot R n + if r < n then 1 else 0
  | 0 => rfl
  | n + 1 => by
    have ih := tot_add (d := d) h n
    have e : ln (addD R r d) n = ln R n + if n = r then 1 else 0 := addD_len h n
    show tot (addD R r d) n + ln (addD R r d) n = tot R n + ln R n + _
    rw [ih, e]
    by_cases h1 : r < n
    · rw [if_pos h1, if_neg (show ¬ n = r by omega), if_pos (show r < n + 1 by omega)]
      omega
    · by_cases h2 : n = r
      · rw [if_neg h1, if_pos h2, if_pos (show r < n + 1 by omega)]
        omega
      · rw [if_neg h1, if_neg h2, if_neg (show ¬ r < n + 1 by omega)]
        omega
theorem tot_le {R T : Rws} (h : Pre R T) : ∀ n, n ≤ 8 → tot R n ≤ tot T n
  | 0, _ => Nat.le_refl 0
  | n + 1, hn => by
    have ih := tot_le h n (by omega)
    have := h.le (r := n) (by omega)
    show tot R n + ln R n ≤ tot T n + ln T n
    unfold ln
    omega
theorem lackN_tot (A : Rws) (cs : List Nat) : ∀ n, (lackN A cs n).length ≤ tot A n
  | 0 => by show (lackN A cs 0).length ≤ 0; unfold lackN; simp
  | n + 1 => by
    have ih := lackN_tot A cs n
    rw [lackN_succ, List.length_append]
    have h2 : (lackR n (A.getD n []) (cs.getD n 0)).length ≤ ln A n := by
      unfold lackR ln
      rw [List.length_map, List.length_range]
      omega
    show _ ≤ tot A n + ln A n
    omega
theorem r0_at (r : Nat) : r0.getD r [] = [] := by
  unfold r0
  rw [List.getD_eq_getElem?_getD, List.getElem?_replicate]
  split <;> rfl
theorem good_r0 (T : Rws) : Good T r0 := ⟨⟨rfl, fun r hr => by rw [r0_at]; rfl⟩, fun r i d hr h => by
  unfold a2 at h
  rw [r0_at] at h
  cases h⟩
/-- what the triples are -/
structure TR (N : Nat) (T : Rws) (tr : List Trip) : Prop where
  hN : N ≤ 12
  ti : TI N T
  tot : tot T 8 = N
  tru : ∀ t, t ∈ tr → tru T t
  len : tr.length = N
section
variable {N : Nat} {T : Rws} {tr : List Trip}
theorem tru_TS (h : TR N T tr) {t : Trip} (ht : tru T t) : TS t := by
  obtain ⟨r, i, d, hr, hd, rfl⟩ := ht
  exact ⟨⟨⟨by show (0 : Int) ≤ (r : Int); omega, by show (r : Int) < 8; omega⟩, h.ti.dB (by have := h.hN; omega) hr hd⟩, h.ti.dS hr hd⟩
theorem tru_pn (h : TR N T tr) {t : Trip} (ht : tru T t) : 0 ≤ t.2.1 ∧ t.2.1 ≤ 1000 := by
  obtain ⟨r, i, d, hr, hd, rfl⟩ := ht
  have h1 := a2_lt hd
  have h2 := h.ti.sz r hr
  have := h.hN
  show 0 ≤ (i : Int) + 1 ∧ (i : Int) + 1 ≤ 1000
  omega
theorem pk_trips (h : TR N T tr) : Pk tr := ⟨fun t ht => tru_TS h (h.tru t ht), by have := h.len; have := h.hN; omega⟩
theorem good_ob (h : TR N T tr) {R : Rws} (hR : Good T R) : Ob R := ob_of hR.pre h.ti (by have := h.hN; omega) hR.cl
theorem lack_len (h : TR N T tr) {A : Rws} (hA : Good T A) (cs : List Nat) : (lack A cs).length ≤ 12 := by
  have h1 := lackN_tot A cs 8
  have h2 := tot_le hA.pre 8 (Nat.le_refl _)
  have h3 := h.tot
  have h4 := h.hN
  unfold lack
  omega
theorem pk_lack (h : TR N T tr) {A : Rws} (hA : Good T A) (cs : List Nat) : Pk (lack A cs) := ⟨fun t ht => tru_TS h (lack_tru hA.pre ht), by have := lack_len h hA cs; omega⟩
theorem turned_mem {ds : List Int} {b : Nat} {p : List Trip} : ∀ k, k ≤ p.length → ∀ x, x ∈ turned ds b p k → ∃ t, t ∈ p ∧ (x = t ∨ x = (t.1, t.2.1 + 100, t.2.2) ∨ (x = (t.1, t.2.1, badD t.2.2) ∧ isChg t.2.2 = true))
  | 0, _, x, h => by cases h
  | k + 1, hk, x, h => by
    rcases tu_mem h with h | h | h | h
    · exact turned_mem k (by omega) x h
    · exact ⟨_, getD_mem (by omega), .inl h⟩
    · exact ⟨_, getD_mem (by omega), .inr (.inl h)⟩
    · exact ⟨_, getD_mem (by omega), .inr (.inr h)⟩
theorem bad_far (h : TR N T tr) {r : Nat} {i : Nat} {d : Deed} (hr : r < 8) : bad' T ((r : Int), (i : Int) + 1 + 100, d) := fun R hR => by
  unfold takes lenAt
  rw [Int.toNat_natCast]
  have h1 := hR.le hr
  have h2 := h.ti.sz r hr
  have h3 := h.hN
  rw [decide_eq_false (show ¬ (i : Int) + 1 + 100 = ((R.getD r []).length : Int) + 1 by omega)]
  rfl
theorem bad_mark (h : TR N T tr) {r i : Nat} {d : Deed} {q : Int} (hr : r < 8) (hd : a2 T r i = some d) (hc : isChg d = true) : bad' T ((r : Int), q, badD d) := fun R hR => by
  cases d with
  | bck p => cases hc
  | chg m rm bh n t =>
    unfold takes
    rw [Int.toNat_natCast]
    have e : fits R r (badD (.chg m rm bh n t)) = false := by
      show fitsC R r m (rm ++ [(9999, 0)]) bh n = false
      refine Bool.eq_false_iff.mpr fun q => ?_
      unfold fitsC at q
      rw [Bool.and_eq_true, Bool.and_eq_true] at q
      have := List.all_eq_true.mp q.2.2 (9999, 0) (List.mem_append_left _ (List.mem_append_right _ (List.mem_singleton.mpr rfl)))
      rw [Bool.and_eq_true] at this
      have h1 : (9999 : Int) < n := of_decide_eq_true this.2
      have h2 : n + (t.length : Int) ≤ 1 + 10 * (N : Int) := h.ti.af r i _ hr hd
      have := h.hN
      omega
    show (_ && fits R r (badD (.chg m rm bh n t))) = false
    rw [e, Bool.and_false]
theorem turned_ok (h : TR N T tr) {A : Rws} (hA : Good T A) {cs : List Nat} {ds : List Int} {b : Nat} : (∀ x, x ∈ turned ds b (lack A cs) (lack A cs).length → tru T x ∨ bad' T x) ∧ Pk (turned ds b (lack A cs) (lack A cs).length) := by
  have hm := turned_mem (ds := ds) (b := b) (p := lack A cs) (lack A cs).length (Nat.le_refl _)
  refine ⟨fun x hx => ?_, fun x hx => ?_, ?_⟩
  · obtain ⟨t, ht, q⟩ := hm x hx
    have htr := lack_tru hA.pre ht
    rcases q with q | q | ⟨q, hc⟩
    · rw [q]; exact .inl htr
    · obtain ⟨r, i, d, hr, hd, rfl⟩ := htr
      rw [q]; exact .inr (bad_far h hr)
    · obtain ⟨r, i, d, hr, hd, rfl⟩ := htr
      rw [q]; exact .inr (bad_mark h hr hd hc)
  · obtain ⟨t, ht, q⟩ := hm x hx
    have hts := tru_TS h (lack_tru hA.pre ht)
    rcases q with q | q | ⟨q, hc⟩
    · rw [q]; exact hts
    · rw [q]; exact hts
    · rw [q]
      obtain ⟨t0, t1, d⟩ := t
      obtain ⟨⟨k1, k2⟩, k3⟩ := hts
      have htr := lack_tru hA.pre ht
      obtain ⟨r, i, d', hr, hd, e⟩ := htr
      cases e
      cases d with
      | bck p => cases hc
      | chg m rm bh n t =>
        obtain ⟨_, _, _, _, h5, _⟩ := h.ti.dk r i _ hr hd
        obtain ⟨b1, b2, b3, b4, b5⟩ := k2
        exact ⟨⟨k1, b1, b2, b3, by show (rm ++ [((9999 : Int), (0 : Int))]).length ≤ 10; rw [List.length_append]; show rm.length + 1 ≤ 10; omega, b5⟩, k3⟩
  · have h1 := turned_len ds b (lack A cs) (lack A cs).length
    have h2 := lack_len h hA cs
    omega
theorem pkt_ok (h : TR N T tr) {A : Rws} (hA : Good T A) {cs : List Nat} {ds : List Int} {k : Nat} : (∀ x, x ∈ pkt ds k (lack A cs) → tru T x ∨ bad' T x) ∧ Pk (pkt ds k (lack A cs)) := by
  unfold pkt
  split
  · exact turned_ok h hA
  · exact ⟨fun x hx => .inl (lack_tru hA.pre hx), pk_lack h hA cs⟩
/-- three good objects -/
def G3 (T : Rws) (B : List Rws) : Prop := B.length = 3 ∧ ∀ R, R ∈ B → Good T R
theorem G3.at {B : List Rws} (h : G3 T B) {i : Nat} (hi : i < 3) : Good T (B.getD i []) := h.2 _ (getD_mem (by rw [h.1]; exact hi))
theorem G3.got {B : List Rws} (h : G3 T B) {t : Nat} (ht : t < 3) {p : List Trip} (hp : ∀ x, x ∈ p → tru T x ∨ bad' T x) : G3 T (got B t p) := ⟨(got_len _ _ _).trans h.1, fun R hR => by
  rcases List.mem_or_eq_of_mem_set hR with q | q
  · exact h.2 R q
  · rw [q]
    exact good_rcv (h.at ht) hp⟩
theorem gt1_lt {ds : List Int} (hD : Dr ds) (k : Nat) : (gt1 ds k).1 < 3 ∧ (gt1 ds k).2 < 3 := by
  have v := lawAt_lo hD (400 + 40 * k)
  obtain ⟨a, b, _⟩ := pairs6_lt (la ds (400 + 40 * k) % 6).toNat (by unfold la; omega)
  exact ⟨a, b⟩
theorem g3_st1 (h : TR N T tr) {ds : List Int} (hD : Dr ds) : ∀ k, G3 T (st1 ds tr k)
  | 0 => ⟨st1_len ds tr 0, fun R hR => by
    obtain ⟨k, _, rfl⟩ := List.mem_map.mp hR
    exact good_rcv (good_r0 T) fun t ht => .inl (h.tru t (List.mem_filter.mp ht).1)⟩
  | k + 1 => by
    have ih := g3_st1 h hD k
    obtain ⟨a, b⟩ := gt1_lt hD k
    exact ih.got b (pkt_ok h (ih.at a)).1
theorem g3_st2 {B : List Rws} (h : TR N T tr) (hB : G3 T B) : ∀ j, j ≤ 3 → G3 T (st2 B j)
  | 0, _ => hB
  | j + 1, hj => by
    have ih := g3_st2 h hB j (by omega)
    obtain ⟨a, b⟩ := pairs3_lt j (by omega)
    exact ih.got b fun x hx => .inl (lack_tru (ih.at a).pre hx)
theorem g3_st3 {B : List Rws} (h : TR N T tr) (hB : G3 T B) : ∀ i, G3 T (st3 B i)
  | 0 => hB
  | i + 1 => g3_st2 h (g3_st3 h hB i) 3 (Nat.le_refl _)
theorem got_ln {B : List Rws} (h : TR N T tr) (hB : G3 T B) {g t : Nat} (hg : g < 3) (ht : t < 3) {r : Nat} (hr : r < 8) (i : Nat) : ln ((got B t (due B (g, t))).getD i []) r = if i = t then max (ln (B.getD g []) r) (ln (B.getD t []) r) else ln (B.getD i []) r := by
  unfold got
  rw [set_getD (by rw [hB.1]; exact ht)]
  by_cases q : i = t
  · rw [if_pos q, if_pos q]
    exact whole h.ti (by have := h.hN; omega) (hB.at hg) (hB.at ht) hr
  · rw [if_neg q, if_neg q]
theorem st2_ln {B : List Rws} (h : TR N T tr) (hB : G3 T B) {r : Nat} (hr : r < 8) :
    ln ((st2 B 3).getD 1 []) r = max (ln (B.getD 0 []) r) (ln (B.getD 1 []) r) ∧ ln ((st2 B 3).getD 2 []) r = max (max (ln (B.getD 0 []) r) (ln (B.getD 1 []) r)) (ln (B.getD 2 []) r) ∧ ln ((st2 B 3).getD 0 []) r = max (max (max (ln (B.getD 0 []) r) (ln (B.getD 1 []) r)) (ln (B.getD 2 []) r)) (ln (B.getD 0 []) r) := by
  have g0 := hB
  have g1 := g3_st2 h hB 1 (by decide)
  have g2 := g3_st2 h hB 2 (by decide)
  have e1 : ∀ i, ln ((st2 B 1).getD i []) r = if i = 1 then max (ln (B.getD 0 []) r) (ln (B.getD 1 []) r) else ln (B.getD i []) r := fun i => got_ln h g0 (g := 0) (t := 1) (by decide) (by decide) hr i
  have e2 : ∀ i, ln ((st2 B 2).getD i []) r = if i = 2 then max (ln ((st2 B 1).getD 1 []) r) (ln ((st2 B 1).getD 2 []) r) else ln ((st2 B 1).getD i []) r := fun i => got_ln h g1 (g := 1) (t := 2) (by decide) (by decide) hr i
  have e3 : ∀ i, ln ((st2 B 3).getD i []) r = if i = 0 then max (ln ((st2 B 2).getD 2 []) r) (ln ((st2 B 2).getD 0 []) r) else ln ((st2 B 2).getD i []) r := fun i => got_ln h g2 (g := 2) (t := 0) (by decide) (by decide) hr i
  have a0 := e1 0
  have a1 := e1 1
  have a2 := e1 2
  have b0 := e2 0
  have b1 := e2 1
  have b2 := e2 2
  have c0 := e3 0
  have c1 := e3 1
  have c2 := e3 2
  rw [if_neg (by decide)] at a0 a2 b0 b1 c1 c2
  rw [if_pos rfl] at a1 b2 c0
  refine ⟨?_, ?_, ?_⟩
  · omega
  · omega
  · omega
theorem all_eq {B : List Rws} (h : TR N T tr) (hB : G3 T B) : (st3 B 2).getD 0 [] = (st3 B 2).getD 1 [] ∧ (st3 B 2).getD 2 [] = (st3 B 2).getD 1 [] := by
  have hG := g3_st3 h hB 2
  have hB1 := g3_st3 h hB 1
  have k := fun r (hr : r < 8) => st2_ln h hB (r := r) hr
  have k2 := fun r (hr : r < 8) => st2_ln h hB1 (r := r) hr
  have e1 : st3 B 1 = st2 B 3 := rfl
  have e2 : st3 B 2 = st2 (st3 B 1) 3 := rfl
  rw [e2, e1] at hG ⊢
  rw [e1] at k2
  refine ⟨(hG.at (by decide)).pre.ext (hG.at (by decide)).pre fun r hr => ?_, (hG.at (by decide)).pre.ext (hG.at (by decide)).pre fun r hr => ?_⟩
  · obtain ⟨p1, p2, p3⟩ := k r hr
    obtain ⟨q1, q2, q3⟩ := k2 r hr
    show ln _ r = ln _ r
    omega
  · obtain ⟨p1, p2, p3⟩ := k r hr
    obtain ⟨q1, q2, q3⟩ := k2 r hr
    show ln _ r = ln _ r
    omega
theorem lawOk_of {ds : List Int} (hD : Dr ds) (hN : N = (la ds 0 % 13).toNat) (h : TR N T (trips ds)) (tv : ∀ k, k < (la ds 0 % 13).toNat → RA (tVis ds 20 (1 + la ds 1 % 4).toNat k (tSt ds 20 (1 + la ds 1 % 4).toNat k))) : LawOk ds where
  dr := hD
  tv := tv
  pk := pk_trips h
  pn := fun t ht => tru_pn h (h.tru t ht)
  o1 := fun k _ R hR => good_ob h ((g3_st1 h hD k).2 R hR)
  d1 := fun k _ => pk_lack h ((g3_st1 h hD k).at (gt1_lt hD k).1) _
  p1 := fun k _ => (pkt_ok h ((g3_st1 h hD k).at (gt1_lt hD k).1)).2
  o2 := fun i j _ hj R hR => good_ob h ((g3_st2 h (g3_st3 h (g3_st1 h hD (turns ds)) i) j hj).2 R hR)
  p2 := fun i j _ hj => pk_lack h ((g3_st2 h (g3_st3 h (g3_st1 h hD (turns ds)) i) j (by omega)).at (pairs3_lt j hj).1) _
  eq := all_eq h (g3_st1 h hD (turns ds))
end
end M

set_option maxRecDepth 100000
set_option maxHeartbeats 4000000
/-! The plain law, part 4: the triples are what they should be. -/
namespace M
open PySem G
theorem vis_at {T : Rws} {c : List Nat} {r : Nat} (hr : r < 8) : (vis T c).getD r [] = (T.getD r []).take (c.getD r 0) := getD_map_range hr
theorem vis_len (T : Rws) (c : List Nat) : (vis T c).length = 8 := by unfold vis; rw [List.length_map, List.length_range]
theorem take_self {α : Type} (xs : List α) (c : Nat) : xs.take c = xs.take (xs.take c).length := by
  rw [List.length_take]
  by_cases h : c ≤ xs.length
  · rw [Nat.min_eq_left h]
  · rw [Nat.min_eq_right (by omega), List.take_length, List.take_of_length_le (by omega)]
theorem vis_pre (T : Rws) (c : List Nat) : Pre (vis T c) T := ⟨vis_len T c, fun r hr => by rw [vis_at hr]; exact take_self _ _⟩
theorem vis_a2 {T : Rws} {c : List Nat} {r i : Nat} (hr : r < 8) : a2 (vis T c) r i = if i < c.getD r 0 then a2 T r i else none := by
  unfold a2
  rw [vis_at hr, List.getElem?_take]
theorem vis_ln {T : Rws} {c : List Nat} {r : Nat} (hr : r < 8) (h : c.getD r 0 ≤ ln T r) : ln (vis T c) r = c.getD r 0 := by
  unfold ln at h ⊢
  rw [vis_at hr, List.length_take]
  omega
theorem joinC_at {a b : List Nat} {r : Nat} (hr : r < 8) : (joinC a b).getD r 0 = mxN (a.getD r 0) (b.getD r 0) := by
  unfold joinC
  rw [List.getD_eq_getElem?_getD, List.getElem?_map, List.getElem?_range hr]
  rfl
theorem cl_join {T : Rws} {a b : List Nat} (ha : CL (vis T a)) (hb : CL (vis T b)) : CL (vis T (joinC a b)) := by
  have sa : Sub (vis T a) (vis T (joinC a b)) := fun r i d hr h => by
    rw [vis_a2 hr] at h ⊢
    split at h
    · rw [if_pos (by rw [joinC_at hr]; unfold mxN; split <;> omega)]
      exact h
    · cases h
  have sb : Sub (vis T b) (vis T (joinC a b)) := fun r i d hr h => by
    rw [vis_a2 hr] at h ⊢
    split at h
    · rw [if_pos (by rw [joinC_at hr]; unfold mxN; split <;> omega)]
      exact h
    · cases h
  intro r i d hr h
  rw [vis_a2 hr] at h
  split at h
  · rename_i q
    rw [joinC_at hr] at q
    by_cases h1 : i < a.getD r 0
    · exact (ha r i d hr (by rw [vis_a2 hr, if_pos h1]; exact h)).mono sa
    · refine (hb r i d hr (by rw [vis_a2 hr, if_pos (by unfold mxN at q; split at q <;> omega)]; exact h)).mono sb
  · cases h
theorem vis_add {T : Rws} {R : Nat} {d : Deed} {c : List Nat} (hR : R < T.length) (h : ∀ r, r < 8 → c.getD r 0 ≤ ln T r) : vis (addD T R d) c = vis T c := ext8 (vis_len _ _) (vis_len _ _) fun r hr => by
  rw [vis_at hr, vis_at hr, addD_at hR]
  by_cases q : r = R
  · rw [if_pos q, q]
    exact List.take_append_of_le_length (by have := h r hr; rw [q] at this; exact this)
  · rw [if_neg q]
theorem set_nat {c : List Nat} {R r x : Nat} (h : R < c.length) : (c.set R x).getD r 0 = if r = R then x else c.getD r 0 := by
  rw [List.getD_eq_getElem?_getD, List.getElem?_set]
  by_cases q : r = R
  · rw [if_pos q.symm, if_pos q, if_pos h]
    rfl
  · rw [if_neg (fun z => q z.symm), if_neg q, List.getD_eq_getElem?_getD]
theorem set_lst {c : List (List Nat)} {R r : Nat} {x : List Nat} (h : R < c.length) : (c.set R x).getD r [] = if r = R then x else c.getD r [] := by
  rw [List.getD_eq_getElem?_getD, List.getElem?_set]
  by_cases q : r = R
  · rw [if_pos q.symm, if_pos q, if_pos h]
    rfl
  · rw [if_neg (fun z => q z.symm), if_neg q, List.getD_eq_getElem?_getD]
/-! numbers -/
theorem mx_l (a b : Int) : a ≤ mx a b := by unfold mx; split <;> omega
theorem mx_r (a b : Int) : b ≤ mx a b := by unfold mx; split <;> omega
theorem mx_le {a b c : Int} (h1 : a ≤ c) (h2 : b ≤ c) : mx a b ≤ c := by unfold mx; split <;> omega
theorem num_le : ∀ (xs : List (Option M.Mk)) (a : Int), a ≤ xs.foldl num1 a
  | [], a => Int.le_refl a
  | o :: r, a => by
    rw [List.foldl_cons]
    refine Int.le_trans ?_ (num_le r _)
    cases o with
    | none => exact Int.le_refl a
    | some k => exact mx_l _ _
theorem num_ge : ∀ (xs : List (Option M.Mk)) (a : Int) (k : M.Mk), some k ∈ xs → k.1 + 1 ≤ xs.foldl num1 a
  | [], a, k, h => by cases h
  | o :: r, a, k, h => by
    rw [List.foldl_cons]
    rcases List.mem_cons.mp h with h | h
    · rw [← h]
      exact Int.le_trans (mx_r _ _) (num_le r _)
    · exact num_ge r _ k h
theorem num_bd : ∀ (xs : List (Option M.Mk)) (a B : Int), a ≤ B → (∀ k, some k ∈ xs → k.1 + 1 ≤ B) → xs.foldl num1 a ≤ B
  | [], a, B, h, _ => h
  | o :: r, a, B, h, hk => by
    rw [List.foldl_cons]
    refine num_bd r _ B ?_ fun k hk2 => hk k (List.mem_cons_of_mem _ hk2)
    cases o with
    | none => exact h
    | some k => exact mx_le h (hk k List.mem_cons_self)
theorem last1_le (a : Int) (d : Deed) : a ≤ last1 a d := by
  unfold last1
  split
  · exact mx_l _ _
  · exact Int.le_refl a
theorem lastR_le : ∀ (row : List Deed) (a : Int), a ≤ lastR a row
  | [], a => Int.le_refl a
  | d :: r, a => Int.le_trans (last1_le a d) (lastR_le r (last1 a d))
theorem lastR_ge : ∀ (row : List Deed) (a : Int) (d : Deed), 1 ≤ a → d ∈ row → after d ≤ lastR a row
  | [], a, d, _, h => by cases h
  | e :: r, a, d, ha, h => by
    rcases List.mem_cons.mp h with h | h
    · rw [h]
      refine Int.le_trans ?_ (lastR_le r (last1 a e))
      cases e with
      | bck p => exact Int.le_trans (show (0 : Int) ≤ 1 by decide) ha
      | chg m rm bh n t => exact mx_r _ _
    · exact lastR_ge r _ d (Int.le_trans ha (last1_le a e)) h
theorem lastR_bd : ∀ (row : List Deed) (a B : Int), a ≤ B → (∀ d, d ∈ row → after d ≤ B) → lastR a row ≤ B
  | [], a, B, h, _ => h
  | d :: r, a, B, h, hd => by
    refine lastR_bd r (last1 a d) B ?_ fun e he => hd e (List.mem_cons_of_mem _ he)
    unfold last1
    split
    · exact mx_le h (hd d List.mem_cons_self)
    · exact h
theorem lastN_bd {rows : Rws} {B : Int} (h0 : 0 ≤ B) (h : ∀ r, r ∈ rows → ∀ d, d ∈ r → after d ≤ B) : lastN rows ≤ B := by
  have : ∀ (rows : Rws) (a : Int), a ≤ B → (∀ r, r ∈ rows → ∀ d, d ∈ r → after d ≤ B) → rows.foldl lastR a ≤ B := by
    intro rows
    induction rows with
    | nil => intro a h _; exact h
    | cons r t ih =>
      intro a ha hd
      rw [List.foldl_cons]
      exact ih _ (lastR_bd r a B ha (hd r List.mem_cons_self)) fun r' hr' => hd r' (List.mem_cons_of_mem _ hr')
  exact this rows 0 h0 h
theorem mks_iff {R : Rws} {m : Str} {k : M.Mk} : k ∈ mks R m ↔ Kn R m k := by
  unfold mks
  rw [plc_mem, ← kn_iff, ← fnd_marks]
  constructor
  · intro h
    obtain ⟨x, hx, e⟩ := List.mem_map.mp h
    exact List.mem_map.mpr ⟨x, (srt_mem _ x).mp hx, e⟩
  · intro h
    obtain ⟨x, hx, e⟩ := List.mem_map.mp h
    exact List.mem_map.mpr ⟨x, (srt_mem _ x).mpr hx, e⟩
theorem pick_mem {Ks : List M.Mk} (h : 0 < Ks.length) (v : Int) : pick Ks v ∈ Ks := by
  unfold pick
  have h1 := Int.emod_nonneg v (show (Ks.length : Int) ≠ 0 by omega)
  have h2 := Int.emod_lt_of_pos v (show 0 < (Ks.length : Int) by omega)
  exact getD_mem (by omega)
/-- what the law's deed is -/
structure DSpec (k : Nat) (V : Rws) (r : Nat) (d : Deed) : Prop where
  bk : ∀ p, d = .bck p → 1 ≤ p ∧ p ≤ (ln V r : Int)
  ch : ∀ m rm bh n t, d = .chg m rm bh n t → 1 ≤ n ∧ m ∈ mods ∧ t.length ≤ 4 ∧ PyData.strOk t = true ∧ rm.length ≤ 4 ∧ (∀ k, k ∈ rm → kB k) ∧ (∀ e, e ∈ V.getD r [] → after e ≤ n) ∧ n + (t.length : Int) ≤ 1 + 10 * ((k + 1 : Nat) : Int)
  dp : dep V d
theorem kn_bd {k : Nat} {T V : Rws} (hT : TI k T) (hV : Pre V T) {m : Str} {q : M.Mk} (h : Kn V m q) : q.1 + 1 ≤ 1 + 10 * (k : Int) ∧ (k ≤ 12 → kB q) := by
  obtain ⟨r, i, rm, bh, n, t, j, h1, h2, h3, rfl⟩ := h
  have h4 := hV.sub r i _ h1 h2
  have h5 : n + (t.length : Int) ≤ 1 + 10 * (k : Int) := hT.af r i _ h1 h4
  have h6 := (hT.dk r i _ h1 h4).1
  refine ⟨by show n + (j : Int) + 1 ≤ _; omega, fun hk => ⟨(n + (j : Int)).toNat, r, by omega, h1, ?_⟩⟩
  exact Prod.ext (by show n + (j : Int) = (((n + (j : Int)).toNat : Nat) : Int); omega) rfl
theorem getL {v : Int} (h0 : 0 ≤ v) (h : v < 4) : 0 ≤ ([0, 0, 1, 5] : List Int).getD v.toNat 0 ∧ ([0, 0, 1, 5] : List Int).getD v.toNat 0 ≤ 5 := by
  have : ∀ i : Nat, i < 4 → 0 ≤ ([0, 0, 1, 5] : List Int).getD i 0 ∧ ([0, 0, 1, 5] : List Int).getD i 0 ≤ 5 := by decide
  exact this v.toNat (by omega)
theorem deed_spec {ds : List Int} (hD : Dr ds) {k : Nat} (hk : k ≤ 12) {T V : Rws} (hT : TI k T) (hV : Pre V T) {idx r : Nat} (hr : r < 8) : DSpec k V r (lawDeed ds idx V r) := by
  have v1 := lawAt_lo hD (idx + 1)
  have v2 := lawAt_lo hD (idx + 2)
  have v8 := lawAt_lo hD (idx + 8)
  have v9 := lawAt_lo hD (idx + 9)
  unfold lawDeed
  by_cases hc : la ds idx % 4 = 3 ∧ 0 < (V.getD r []).length
  · rw [if_pos hc]
    refine ⟨fun p e => ?_, (fun m rm bh n t e => by cases e), trivial⟩
    cases e
    have h1 := Int.emod_nonneg (la ds (idx + 1)) (show ((V.getD r []).length : Int) ≠ 0 by omega)
    have h2 := Int.emod_lt_of_pos (la ds (idx + 1)) (show 0 < ((V.getD r []).length : Int) by omega)
    unfold ln
    omega
  · rw [if_neg hc]
    have hm : dMod ds idx ∈ mods := getD_mem (by show _ < 4; unfold la; omega)
    show DSpec k V r (.chg (dMod ds idx) (dRm ds idx (mks V (dMod ds idx)) (la ds (idx + 2) % 4).toNat) (dBh ds idx (mks V (dMod ds idx))) (dNum ds idx (dRm ds idx (mks V (dMod ds idx)) (la ds (idx + 2) % 4).toNat) (dBh ds idx (mks V (dMod ds idx))) (V.getD r []) V) (letters ds (idx + 9)))
    generalize dMod ds idx = m at hm
    have hK : ∀ q, q ∈ mks V m → Kn V m q := fun q h => mks_iff.mp h
    generalize mks V m = Ks at hK
    have hrm : ∀ q, q ∈ dRm ds idx Ks (la ds (idx + 2) % 4).toNat → q ∈ Ks := fun q hq => by
      unfold dRm at hq
      split at hq
      · rename_i h
        obtain ⟨i, _, rfl⟩ := List.mem_map.mp hq
        exact pick_mem h _
      · cases hq
    have hrl : (dRm ds idx Ks (la ds (idx + 2) % 4).toNat).length ≤ 4 := by
      unfold dRm
      split
      · rw [List.length_map, List.length_range]
        unfold la
        omega
      · exact Nat.zero_le _
    have hbh : ∀ q, dBh ds idx Ks = some q → q ∈ Ks := fun q hq => by
      unfold dBh at hq
      split at hq
      · rename_i h
        cases hq
        exact pick_mem h.1 _
      · cases hq
    generalize dRm ds idx Ks (la ds (idx + 2) % 4).toNat = rm at hrm hrl
    generalize dBh ds idx Ks = bh at hbh
    have hlt : (letters ds (idx + 9)).length ≤ 4 := by
      unfold letters
      rw [lettersN_len]
      unfold lawAt at v9 ⊢
      omega
    have hlo : PyData.strOk (letters ds (idx + 9)) = true := lettersN_ok _ _ _
    generalize letters ds (idx + 9) = t at hlt hlo
    have hmem : ∀ q, some q ∈ rm.map some ++ [bh] → Kn V m q := fun q hq => by
      rcases List.mem_append.mp hq with h | h
      · obtain ⟨q2, h2, e⟩ := List.mem_map.mp h
        cases e
        exact hK q (hrm q h2)
      · exact hK q (hbh q (List.mem_singleton.mp h).symm)
    have hmem2 : ∀ q, q ∈ rm ++ bh.toList → some q ∈ rm.map some ++ [bh] := fun q hq => by
      rcases List.mem_append.mp hq with h | h
      · exact List.mem_append_left _ (List.mem_map.mpr ⟨q, h, rfl⟩)
      · cases bh with
        | none => cases h
        | some b => rw [List.mem_singleton.mp h]; exact List.mem_append_right _ (List.mem_singleton.mpr rfl)
    have af : ∀ r' e, r' < 8 → e ∈ V.getD r' [] → after e ≤ 1 + 10 * (k : Int) := fun r' e hr' he => by
      obtain ⟨i, hi⟩ := List.mem_iff_getElem?.mp he
      exact hT.af r' i e hr' (hV.sub r' i e hr' hi)
    have n0 := num_le (rm.map some ++ [bh]) 1
    have n1 : ∀ q, some q ∈ rm.map some ++ [bh] → q.1 + 1 ≤ (rm.map some ++ [bh]).foldl num1 1 := fun q hq => num_ge _ 1 q hq
    have n2 := num_bd (rm.map some ++ [bh]) 1 (1 + 10 * (k : Int)) (by omega) fun q hq => (kn_bd hT hV (hmem q hq)).1
    have ed : dNum ds idx rm bh (V.getD r []) V = (if la ds (idx + 8) / 4 % 2 = 0 then mx (lastR ((rm.map some ++ [bh]).foldl num1 1) (V.getD r []) + ([0, 0, 1, 5] : List Int).getD (la ds (idx + 8) % 4).toNat 0) (lastN V + 1) else (lastR ((rm.map some ++ [bh]).foldl num1 1) (V.getD r []) + ([0, 0, 1, 5] : List Int).getD (la ds (idx + 8) % 4).toNat 0)) := rfl
    generalize (rm.map some ++ [bh]).foldl num1 1 = a at n0 n1 n2 ed
    have r0 := lastR_le (V.getD r []) a
    have r1 := fun d hd => lastR_ge (V.getD r []) a d n0 hd
    have r2 := lastR_bd (V.getD r []) a (1 + 10 * (k : Int)) n2 fun d hd => af r d hr hd
    have lN : lastN V ≤ 1 + 10 * (k : Int) := lastN_bd (by omega) fun row hrow d hd => by
      obtain ⟨r', i, h1, h2, _⟩ := hV.mem hrow hd
      exact hT.af r' i d h1 h2
    obtain ⟨x0, x1⟩ := getL (v := la ds (idx + 8) % 4) (by unfold la; omega) (by unfold la; omega)
    generalize ([0, 0, 1, 5] : List Int).getD (la ds (idx + 8) % 4).toNat 0 = x at ed x0 x1
    have lo : a ≤ dNum ds idx rm bh (V.getD r []) V ∧ lastR a (V.getD r []) ≤ dNum ds idx rm bh (V.getD r []) V ∧ dNum ds idx rm bh (V.getD r []) V ≤ 6 + 10 * (k : Int) := by
      rw [ed]
      split
      · have y1 := mx_l (lastR a (V.getD r []) + x) (lastN V + 1)
        have y2 : mx (lastR a (V.getD r []) + x) (lastN V + 1) ≤ 6 + 10 * (k : Int) := mx_le (by omega) (by omega)
        omega
      · omega
    generalize dNum ds idx rm bh (V.getD r []) V = n at lo
    refine ⟨(fun p e => by cases e), fun m' rm' bh' n' t' e => ?_, fun q hq => ⟨hmem q (hmem2 q hq), ?_⟩⟩
    · cases e
      refine ⟨by omega, hm, hlt, hlo, hrl, fun q hq => (kn_bd hT hV (hmem q (hmem2 q (List.mem_append_left _ hq)))).2 hk, fun e he => ?_, by omega⟩
      have := r1 e he
      omega
    · have := n1 q (hmem2 q hq)
      omega
end M

set_option maxRecDepth 100000
set_option maxHeartbeats 4000000
/-! The plain law, part 5: what holds while the triples are made. -/
namespace M
open PySem G
structure TV (most k : Nat) (s : T3) : Prop where
  sz : TSz most k s
  ti : TI k s.1
  to : tot s.1 8 = k
  own : ∀ R, R < most → (s.2.1.getD R []).getD R 0 = ln s.1 R
  le : ∀ R r, R < most → r < 8 → (s.2.1.getD R []).getD r 0 ≤ ln s.1 r
  cl : ∀ R, R < most → CL (vis s.1 (s.2.1.getD R []))
  tr : ∀ t, t ∈ s.2.2 → tru s.1 t
section
variable {most k : Nat} {s : T3} {ds : List Int} {st : Nat}
/-- the counts that the maker sees -/
theorem tcs_at (h : TV most k s) (hm : 0 < most) (hm8 : most ≤ 8) (R' : Nat) (hR' : R' < most) : (tCs ds st most k s).getD R' [] = if R' = tRep ds st most k ∧ tOth ds st most k < most then joinC (s.2.1.getD R' []) (s.2.1.getD (tOth ds st most k) []) else s.2.1.getD R' [] := by
  have hr := tRep_lt (ds := ds) (start := st) (k := k) hm
  unfold tCs cs1
  by_cases ho : tOth ds st most k < most
  · rw [if_pos ho, set_lst (by rw [h.sz.cl]; exact hr)]
    by_cases q : R' = tRep ds st most k
    · rw [if_pos q, if_pos ⟨q, ho⟩, q]
    · rw [if_neg q, if_neg fun z => q z.1]
  · rw [if_neg ho, if_neg fun z => ho z.2]
theorem mxN_le {a b c : Nat} (h1 : a ≤ c) (h2 : b ≤ c) : mxN a b ≤ c := by unfold mxN; split <;> omega
theorem tcs_facts (h : TV most k s) (hm : 0 < most) (hm8 : most ≤ 8) (R' : Nat) (hR' : R' < most) : ((tCs ds st most k s).getD R' []).getD R' 0 = ln s.1 R' ∧ (∀ r, r < 8 → ((tCs ds st most k s).getD R' []).getD r 0 ≤ ln s.1 r) ∧ CL (vis s.1 ((tCs ds st most k s).getD R' [])) := by
  rw [tcs_at h hm hm8 R' hR']
  split
  · rename_i q
    have ho := q.2
    refine ⟨?_, fun r hr => ?_, cl_join (h.cl R' hR') (h.cl _ ho)⟩
    · rw [joinC_at (by omega), h.own R' hR']
      have := h.le (tOth ds st most k) R' ho (by omega)
      unfold mxN
      rw [if_neg (by omega)]
    · rw [joinC_at hr]
      exact mxN_le (h.le R' r hR' hr) (h.le _ r ho hr)
  · exact ⟨h.own R' hR', fun r hr => h.le R' r hR' hr, h.cl R' hR'⟩
theorem tv_ra (h : TV most k s) (hk : k ≤ 12) (hm : 0 < most) (hm8 : most ≤ 8) : RA (tVis ds st most k s) :=
  ra_of (vis_pre _ _) h.ti (by omega) (tcs_facts h hm hm8 _ (tRep_lt hm)).2.2
theorem tv_step (hD : Dr ds) (h : TV most k s) (hk : k ≤ 12) (hm : 0 < most) (hm8 : most ≤ 8) : TV most (k + 1) (tStep ds st most k s) := by
  have hR := tRep_lt (ds := ds) (start := st) (k := k) hm
  have hsz := tSz_step h.sz hm hm8 ds st
  obtain ⟨cl1, c81⟩ := tSz_cs h.sz hm ds st
  have hf := fun R' hR' => tcs_facts (ds := ds) (st := st) h hm hm8 R' hR'
  have hat := fun R' hR' => tcs_at (ds := ds) (st := st) h hm hm8 R' hR'
  have est : tStep ds st most k s = (addD s.1 (tRep ds st most k) (lawDeed ds (st + 16 * k + 2) (vis s.1 ((tCs ds st most k s).getD (tRep ds st most k) [])) (tRep ds st most k)), (tCs ds st most k s).set (tRep ds st most k) (((tCs ds st most k s).getD (tRep ds st most k) []).set (tRep ds st most k) ((addD s.1 (tRep ds st most k) (lawDeed ds (st + 16 * k + 2) (vis s.1 ((tCs ds st most k s).getD (tRep ds st most k) [])) (tRep ds st most k))).getD (tRep ds st most k) []).length),
    s.2.2 ++ [((tRep ds st most k : Int), (((addD s.1 (tRep ds st most k) (lawDeed ds (st + 16 * k + 2) (vis s.1 ((tCs ds st most k s).getD (tRep ds st most k) [])) (tRep ds st most k))).getD (tRep ds st most k) []).length : Int), lawDeed ds (st + 16 * k + 2) (vis s.1 ((tCs ds st most k s).getD (tRep ds st most k) [])) (tRep ds st most k))]) := rfl
  rw [est] at hsz ⊢
  have hsp := deed_spec hD hk h.ti (vis_pre s.1 ((tCs ds st most k s).getD (tRep ds st most k) [])) (idx := st + 16 * k + 2) (r := tRep ds st most k) (by omega)
  obtain ⟨T, cs, tr⟩ := s
  have hTI : TI k T := h.ti
  have hto : tot T 8 = k := h.to
  have htr : ∀ t, t ∈ tr → tru T t := h.tr
  have hT8 : T.length = 8 := hTI.n8
  have hat : ∀ R', R' < most → R' ≠ tRep ds st most k → (tCs ds st most k (T, cs, tr)).getD R' [] = cs.getD R' [] := fun R' hR' hne => by rw [hat R' hR', if_neg fun q => hne q.1]
  generalize tRep ds st most k = R at hR hsz hsp hat
  generalize tCs ds st most k (T, cs, tr) = c1 at cl1 c81 hf hsz hsp hat
  obtain ⟨f1, f2, f3⟩ := hf R hR
  have f1 : (c1.getD R []).getD R 0 = ln T R := f1
  have f2 : ∀ r, r < 8 → (c1.getD R []).getD r 0 ≤ ln T r := f2
  have f3 : CL (vis T (c1.getD R [])) := f3
  have hCl : (c1.getD R []).length = 8 := c81 _ (getD_mem (by rw [cl1]; exact hR))
  have hR8 : R < 8 := by omega
  have hRT : R < T.length := by omega
  generalize hC : c1.getD R [] = C at f1 f2 f3 hCl hsz hsp
  generalize hDd : lawDeed ds (st + 16 * k + 2) (vis T C) R = D at hsz hsp
  have lnV : ln (vis T C) R = ln T R := by rw [vis_ln hR8 (by omega), f1]
  have hln : ∀ r, ln (addD T R D) r = ln T r + if r = R then 1 else 0 := fun r => addD_len hRT r
  have ha2 := a2_add (d := D) hRT
  have hsub : Sub T (addD T R D) := sub_add hRT
  have VR : (vis T C).getD R [] = T.getD R [] := by
    rw [vis_at hR8, f1]
    exact List.take_length
  have hlR : ((addD T R D).getD R []).length = ln T R + 1 := by
    have := hln R
    rw [if_pos rfl] at this
    exact this
  have sz' := hsz
  rw [hlR] at sz' ⊢
  refine ⟨sz', ?_, ?_, fun R' hR' => ?_, fun R' r hR' hr => ?_, fun R' hR' => ?_, fun t ht => ?_⟩
  · -- the true rows
    refine ⟨(addD_length _ _ _).trans hT8, fun r i d hr hd => ?_, fun r i d hr hd => ?_, fun r hr => ?_⟩
    · rw [ha2] at hd
      split at hd
      · rename_i q
        cases hd
        obtain ⟨rfl, rfl⟩ := q
        cases hDc : D with
        | bck p =>
          have := hsp.bk p hDc
          rw [lnV] at this
          exact this
        | chg m rm bh n t =>
          obtain ⟨b1, b2, b3, b4, b5, b6, b7, b8⟩ := hsp.ch m rm bh n t hDc
          refine ⟨b1, b2, b3, b4, b5, b6, fun j e hj he => ?_⟩
          rw [← hDc, ha2, if_neg fun z => by omega] at he
          refine b7 e ?_
          rw [VR]
          exact List.mem_of_getElem? he
      · have hk2 := hTI.dk r i d hr hd
        cases d with
        | bck p => exact hk2
        | chg m rm bh n t =>
          obtain ⟨b1, b2, b3, b4, b5, b6, b7⟩ := hk2
          refine ⟨b1, b2, b3, b4, b5, b6, fun j e hj he => ?_⟩
          have hlt := a2_lt hd
          rw [ha2, if_neg fun z => by have := z.2; rw [← z.1] at this; unfold ln at this; omega] at he
          exact b7 j e hj he
    · rw [ha2] at hd
      split at hd
      · cases hd
        cases hDc : D with
        | bck p => show (0 : Int) ≤ _; omega
        | chg m rm bh n t =>
          obtain ⟨b1, b2, b3, b4, b5, b6, b7, b8⟩ := hsp.ch m rm bh n t hDc
          exact b8
      · have := hTI.af r i d hr hd
        omega
    · have e := hln r
      have := hTI.sz r hr
      show ln (addD T R D) r ≤ k + 1
      unfold ln at this ⊢
      unfold ln at e
      rw [e]
      split <;> omega
  · show tot (addD T R D) 8 = k + 1
    rw [tot_add hRT, if_pos hR8, hto]
  · show ((c1.set R (C.set R (ln T R + 1))).getD R' []).getD R' 0 = ln (addD T R D) R'
    rw [set_lst (by omega), hln]
    by_cases q : R' = R
    · rw [if_pos q, if_pos q, q, set_nat (by omega), if_pos rfl]
    · rw [if_neg q, if_neg q, hat R' hR' q]
      exact h.own R' hR'
  · show ((c1.set R (C.set R (ln T R + 1))).getD R' []).getD r 0 ≤ ln (addD T R D) r
    rw [set_lst (by omega), hln]
    by_cases q : R' = R
    · rw [if_pos q, set_nat (by omega)]
      by_cases q2 : r = R
      · rw [if_pos q2, if_pos q2, q2]
        exact Nat.le_refl _
      · rw [if_neg q2, if_neg q2]
        exact f2 r hr
    · rw [if_neg q, hat R' hR' q]
      have : (cs.getD R' []).getD r 0 ≤ ln T r := h.le R' r hR' hr
      omega
  · show CL (vis (addD T R D) ((c1.set R (C.set R (ln T R + 1))).getD R' []))
    rw [set_lst (by omega)]
    by_cases q : R' = R
    · rw [if_pos q]
      have cR : ∀ r, (C.set R (ln T R + 1)).getD r 0 = if r = R then ln T R + 1 else C.getD r 0 := fun r => set_nat (by omega)
      have sV : Sub (vis T C) (vis (addD T R D) (C.set R (ln T R + 1))) := fun r i d hr hd => by
        rw [vis_a2 hr] at hd ⊢
        split at hd
        · rename_i hi
          have hlt : i < if r = R then ln T R + 1 else C.getD r 0 := by
            by_cases q2 : r = R
            · rw [if_pos q2]
              rw [q2, f1] at hi
              omega
            · rw [if_neg q2]
              exact hi
          rw [cR, if_pos hlt]
          exact hsub r i d hr hd
        · cases hd
      intro r i d hr hd
      rw [vis_a2 hr] at hd
      split at hd
      · rename_i hi
        rw [cR] at hi
        rw [ha2] at hd
        split at hd
        · cases hd
          exact hsp.dp.mono sV
        · rename_i hne
          refine (f3 r i d hr ?_).mono sV
          rw [vis_a2 hr, if_pos ?_]
          · exact hd
          · by_cases q2 : r = R
            · rw [q2, f1]
              rw [q2, if_pos rfl] at hi
              have : ¬ i = ln T R := fun z => hne ⟨q2, z⟩
              omega
            · rw [if_neg q2] at hi
              exact hi
      · cases hd
    · rw [if_neg q, hat R' hR' q, vis_add hRT fun r hr => h.le R' r hR' hr]
      exact h.cl R' hR'
  · rcases List.mem_append.mp ht with ht | ht
    · obtain ⟨r, i, d, h1, h2, h3⟩ := htr t ht
      exact ⟨r, i, d, h1, hsub r i d h1 h2, h3⟩
    · rw [List.mem_singleton.mp ht]
      refine ⟨R, ln T R, D, hR8, by rw [ha2, if_pos ⟨rfl, rfl⟩], ?_⟩
      rw [Int.natCast_succ]
theorem tv_zero (hm8 : most ≤ 8) (hm : 0 < most) : TV most 0 (tSt ds st most 0) := by
  have rz : ∀ r, r < 8 → (List.replicate 8 ([] : List Deed)).getD r [] = [] := fun r _ => r0_at r
  have cz : ∀ R, R < most → (List.replicate most (List.replicate 8 0)).getD R [] = List.replicate 8 0 := fun R hR => by
    rw [List.getD_eq_getElem?_getD, List.getElem?_replicate, if_pos hR]
    rfl
  have c0 : ∀ r, (List.replicate 8 0).getD r 0 = 0 := fun r => by
    rw [List.getD_eq_getElem?_getD, List.getElem?_replicate]
    split <;> rfl
  have no : ∀ {r i : Nat} {d : Deed}, a2 (List.replicate 8 ([] : List Deed)) r i = some d → False := fun {r i d} h => by
    unfold a2 at h
    have e : (List.replicate 8 ([] : List Deed)).getD r [] = [] := r0_at r
    rw [e] at h
    cases h
  refine ⟨tSz_at ds st hm hm8 0, ⟨rfl, fun r i d _ h => (no h).elim, fun r i d _ h => (no h).elim, fun r hr => ?_⟩, rfl, fun R hR => ?_, fun R r hR hr => ?_, fun R hR r i d hr h => ?_, fun t ht => by cases ht⟩
  · show ((List.replicate 8 ([] : List Deed)).getD r []).length ≤ 0
    rw [rz r hr]
    exact Nat.le_refl 0
  · show ((List.replicate most (List.replicate 8 0)).getD R []).getD R 0 = ((List.replicate 8 ([] : List Deed)).getD R []).length
    rw [cz R hR, c0, rz R (by omega)]
    rfl
  · show ((List.replicate most (List.replicate 8 0)).getD R []).getD r 0 ≤ _
    rw [cz R hR, c0]
    exact Nat.zero_le _
  · exact (no ((vis_pre _ _).sub r i d hr h)).elim
theorem tv_at (hD : Dr ds) (hm : 0 < most) (hm8 : most ≤ 8) : ∀ k, k ≤ 13 → TV most k (tSt ds st most k)
  | 0, _ => tv_zero hm8 hm
  | k + 1, hk => tv_step hD (tv_at hD hm hm8 k (by omega)) (by omega) hm hm8
end
theorem lawOk {ds : List Int} (hD : Dr ds) : LawOk ds := by
  have v0 := lawAt_lo hD 0
  have v1 := lawAt_lo hD 1
  have hN : (la ds 0 % 13).toNat ≤ 12 := by unfold la; omega
  have hm : 0 < (1 + la ds 1 % 4).toNat ∧ (1 + la ds 1 % 4).toNat ≤ 8 := by unfold la; omega
  have hv := tv_at (st := 20) hD hm.1 hm.2 (la ds 0 % 13).toNat (by omega)
  refine lawOk_of (N := (la ds 0 % 13).toNat) (T := (tSt ds 20 (1 + la ds 1 % 4).toNat (la ds 0 % 13).toNat).1) hD rfl ⟨hN, hv.ti, hv.to, hv.tr, hv.sz.tl⟩ fun k hk => ?_
  exact tv_ra (tv_at hD hm.1 hm.2 k (by omega)) (by omega) hm.1 hm.2
end M

set_option maxRecDepth 100000
set_option maxHeartbeats 4000000
/-! The end: the facts of the top, and the law's own promise. -/
namespace G
open PySem L2 M
section
variable {K : PySem.W.Frag} {h : Heap} {mg : Str → Option Value} {C : Addr}
theorem def_of {x : Str} {st : Stmt} {ps : List Str} {f : Addr} {oc : Value} {od an : Option Addr} {osl : Array (Option Value)} {kV doc pm cdv ct : Value} (X : K.In h) (G : h.Ns mainGlobals mg) (a : PySem.W.nsIn K mainGlobals x = some (some (.ref f)))
    (l : K.lookup f = some ⟨oc, od, .func (PySem.W.fnOf x x (defArgs st) (defBody st) (defScope st) .none kV doc pm an cdv ct), osl⟩) (c : PySem.W.codeIn K cdv x = true) (k : PySem.W.keepIn K (.ref f) = true)
    (hb : ∀ (kV doc pm : Value) (an : Option Addr) (cdv ct : Value) (us : List Value), us.length = ps.length → bindArgs (PySem.W.fnOf x x (defArgs st) (defBody st) (defScope st) .none kV doc pm an cdv ct) ⟨us, []⟩ = pure (ps.zip us)) : Def K mg x st ps :=
  ⟨f, _, fun_mk l c k, PySem.W.mg_of X G a, (fun_mk l c k).binds hb⟩
theorem defL_of {x : Str} {st : Stmt} {ps : List Str} {f cc : Addr} {oc : Value} {od an : Option Addr} {osl : Array (Option Value)} {kV doc pm ct : Value} (X : K.In h) (G : h.Ns mainGlobals mg) (a : PySem.W.nsIn K mainGlobals x = some (some (.ref f)))
    (l : K.lookup f = some ⟨oc, od, .func (PySem.W.fnOf x x (defArgs st) (defBody st) (defScope st) .none kV doc pm an (.ref cc) ct), osl⟩) (c : PySem.W.codeIn K (.ref cc) x = true) (k : PySem.W.keepIn K (.ref f) = true)
    (hb : ∀ (kV doc pm : Value) (an : Option Addr) (cdv ct : Value) (us : List Value), us.length = ps.length → bindArgs (PySem.W.fnOf x x (defArgs st) (defBody st) (defScope st) .none kV doc pm an cdv ct) ⟨us, []⟩ = pure (ps.zip us)) : DefL K mg x st ps cc :=
  ⟨f, _, fun_mk l c k, PySem.W.mg_of X G a, (fun_mk l c k).binds hb, rfl⟩
theorem mdef_of {x q : Str} {st : Stmt} {ps : List Str} {f : Addr} {oc : Value} {od an : Option Addr} {osl : Array (Option Value)} {kV doc pm cdv ct : Value} (a : PySem.W.findIn K (.ref C) x = some (some (.ref f))) (i : PySem.W.isFn K (.ref f) = true)
    (l : K.lookup f = some ⟨oc, od, .func (PySem.W.fnOf x q (defArgs st) (defBody st) (defScope st) .none kV doc pm an cdv ct), osl⟩) (c : PySem.W.codeIn K cdv q = true) (k : PySem.W.keepIn K (.ref f) = true)
    (hb : ∀ (kV doc pm : Value) (an : Option Addr) (cdv ct : Value) (us : List Value), us.length = ps.length → bindArgs (PySem.W.fnOf x q (defArgs st) (defBody st) (defScope st) .none kV doc pm an cdv ct) ⟨us, []⟩ = pure (ps.zip us)) : MDef K C x q st ps :=
  ⟨f, _, fun_mk l c k, ⟨a, i, k⟩, (fun_mk l c k).binds hb⟩
theorem mdefL_of {x q : Str} {st : Stmt} {ps : List Str} {f cc : Addr} {oc : Value} {od an : Option Addr} {osl : Array (Option Value)} {kV doc pm ct : Value} (a : PySem.W.findIn K (.ref C) x = some (some (.ref f))) (i : PySem.W.isFn K (.ref f) = true)
    (l : K.lookup f = some ⟨oc, od, .func (PySem.W.fnOf x q (defArgs st) (defBody st) (defScope st) .none kV doc pm an (.ref cc) ct), osl⟩) (c : PySem.W.codeIn K (.ref cc) q = true) (k : PySem.W.keepIn K (.ref f) = true)
    (hb : ∀ (kV doc pm : Value) (an : Option Addr) (cdv ct : Value) (us : List Value), us.length = ps.length → bindArgs (PySem.W.fnOf x q (defArgs st) (defBody st) (defScope st) .none kV doc pm an cdv ct) ⟨us, []⟩ = pure (ps.zip us)) : MDefL K C x q st ps cc :=
  ⟨f, _, fun_mk l c k, ⟨a, i, k⟩, (fun_mk l c k).binds hb, rfl⟩
theorem cdef_of {q : Str} {st : Stmt} {ps : List Str} {f : Addr} {oc : Value} {od an : Option Addr} {osl : Array (Option Value)} {kV doc pm cdv ct : Value} (X : K.In h) (G : h.Ns mainGlobals mg) (aC : PySem.W.nsIn K mainGlobals "Deeds" = some (some (.ref C))) (a : PySem.W.findIn K (.ref C) "__init__" = some (some (.ref f))) (i : PySem.W.isFn K (.ref f) = true)
    (l : K.lookup f = some ⟨oc, od, .func (PySem.W.fnOf "__init__" q (defArgs st) (defBody st) (defScope st) .none kV doc pm an cdv ct), osl⟩) (c : PySem.W.codeIn K cdv q = true) (k : PySem.W.keepIn K (.ref f) = true)
    (hb : ∀ (kV doc pm : Value) (an : Option Addr) (cdv ct : Value) (us : List Value), us.length = ps.length → bindArgs (PySem.W.fnOf "__init__" q (defArgs st) (defBody st) (defScope st) .none kV doc pm an cdv ct) ⟨us, []⟩ = pure (ps.zip us)) (mk : PySem.W.makesIn K C = true) (kc : PySem.W.keepIn K (.ref C) = true) : CDef K mg C "Deeds" q st ps :=
  ⟨f, _, fun_mk l c k, ⟨mk, a, i, kc⟩, PySem.W.mg_of X G aC, (fun_mk l c k).binds hb⟩
/-- the table of a code object, as the written part has it -/
def tabAt (K : PySem.W.Frag) (c : Addr) : Addr := match K.lookup c with
  | some ⟨_, _, .fields vs, _⟩ => (match (vs[11]? : Option Value) with
    | some (.ref P) => P
    | _ => 0)
  | _ => 0
theorem elem_mem {P : Addr} {ts : List Addr} (e : ts.elem P = true) : P ∈ ts := List.elem_iff.mp e
theorem ne_beq {P Q : Addr} (e : (P == Q) = false) : P ≠ Q := fun h => by rw [h] at e; simp at e
theorem lawAt {l : PySem.W.OpenLaw} {w : World} {fa f c1 P1 c2 P2 : Addr} {oc : Value} {od an : Option Addr} {osl : Array (Option Value)} {kV doc pm cdv ct : Value} (X : K.In h) (G : h.Ns mainGlobals mg) (hfa : mg "law" = some (.ref fa))
    (a : PySem.W.nsIn K mainGlobals "law" = some (some (.ref f))) (lk : K.lookup f = some ⟨oc, od, .func (PySem.W.fnOf "law" "law" (defArgs s_law) (defBody s_law) (defScope s_law) .none kV doc pm an cdv ct), osl⟩) (c : PySem.W.codeIn K cdv "law" = true) (k : PySem.W.keepIn K (.ref f) = true)
    (T : Txt K mg C) (t1 : h.get? P1 = some { cls := .none, data := .fields #[] }) (t2 : h.get? P2 = some { cls := .none, data := .fields #[] }) (n1 : K.lookup P1 = none) (n2 : K.lookup P2 = none) (hd1 : PySem.W.codeHdIn K c1 P1 = true) (hd2 : PySem.W.codeHdIn K c2 P2 = true) (hne : P1 ≠ P2)
    (F0 : Def K mg "_law_mix" s__law_mix ["_law_cell", "_law_k"])
    (F1 : Def K mg "after" s_after ["deed"])
    (F2 : MDef K C "counts" "Deeds.counts" s_Deeds_counts ["self"])
    (F3 : Def K mg "lacking" s_lacking ["deeds", "counts"])
    (F4 : Def K mg "inserted" s_inserted ["replica", "deed"])
    (F5 : Def K mg "_law_inserted" s__law_inserted ["_law_replica", "_law_deed_here"])
    (F6 : MDef K C "forces" "Deeds.forces" s_Deeds_forces ["self", "replica"])
    (F7 : MDef K C "changes" "Deeds.changes" s_Deeds_changes ["self", "module"])
    (F8 : Def K mg "_law_forces" s__law_forces ["_law_row_here"])
    (F9 : Def K mg "_law_changes" s__law_changes ["_law_rows", "_law_module"])
    (F10 : Def K mg "_law_at" s__law_at ["_law_draws_here", "_law_index"])
    (F11 : Def K mg "_law_last" s__law_last ["_law_rows"])
    (F12 : Def K mg "_law_modules" s__law_modules [])
    (F13 : Def K mg "_law_letters" s__law_letters ["_law_draws_here", "_law_index"])
    (F14 : Def K mg "_law_visible" s__law_visible ["_law_rows", "_law_counts"])
    (F15 : Def K mg "_law_lacking" s__law_lacking ["_law_rows", "_law_counts"])
    (F16 : CDef K mg C "Deeds" "Deeds.__init__" s_Deeds___init__ ["self"])
    (F17 : MDef K C "add" "Deeds.add" s_Deeds_add ["self", "replica", "deed"])
    (F18 : MDef K C "copy" "Deeds.copy" s_Deeds_copy ["self"])
    (F19 : MDef K C "fits" "Deeds.fits" s_Deeds_fits ["self", "replica", "deed"])
    (F20 : Def K mg "_can_take" s__can_take ["deeds", "triple"])
    (F21 : Def K mg "_next_of" s__next_of ["deeds", "packet"])
    (F22 : Def K mg "received" s_received ["deeds", "packet"])
    (F23 : MDefL K C "row" "Deeds.row" s_Deeds_row ["self", "module"] c1)
    (F24 : MDef K C "text" "Deeds.text" s_Deeds_text ["self", "module"])
    (F25 : DefL K mg "_law_row" s__law_row ["_law_rows", "_law_module"] c2)
    (F26 : Def K mg "_law_fits" s__law_fits ["_law_rows", "_law_replica", "_law_deed_here"])
    (F27 : Def K mg "_law_first" s__law_first ["_law_rows", "_law_packet"])
    (F28 : Def K mg "_law_received" s__law_received ["_law_rows", "_law_packet"])
    (F29 : Def K mg "_law_deed" s__law_deed ["_law_draws_here", "_law_index", "_law_rows", "_law_replica"])
    (F30 : Def K mg "_law_triples" s__law_triples ["_law_draws_here", "_law_start_here", "_law_steps", "_law_most"])
    (F31 : Def K mg "_law_is_integer" s__law_is_integer ["_law_actual"])
    (F32 : Def K mg "_law_same" s__law_same ["_law_actual", "_law_expected"])
    (F33 : Def K mg "_law_draws" s__law_draws ["_law_script"])
    (F34 : Def K mg "_law_turned" s__law_turned ["_law_draws_here", "_law_base", "_law_packet"])
    (F35 : Def K mg "_law_passes" s__law_passes ["_law_rows", "_law_deeds", "_law_packet"])
    (F36 : Def K mg "_law_start" s__law_start ["_law_draws_here", "_law_triples_here"]) :
    LamX.LawAtS l w K CX0 10 63 "_law_script" mg fa h := by
  have e := hfa.symm.trans (PySem.W.mg_of X G a)
  cases e
  have all : ∀ {p : Addr × Addr → Prop}, p (c1, P1) → p (c2, P2) → ∀ q ∈ [(c1, P1), (c2, P2)], p q := fun {p} h1 h2 q hq => by
    rcases List.mem_cons.mp hq with z | z
    · rw [z]; exact h1
    · rw [List.mem_singleton.mp z]; exact h2
  have m1 : ((c1, P1) : Addr × Addr) ∈ [(c1, P1), (c2, P2)] := List.mem_cons_self
  have m2 : ((c2, P2) : Addr × Addr) ∈ [(c1, P1), (c2, P2)] := List.mem_cons_of_mem _ List.mem_cons_self
  have tt1 : TabT [(P1, lamQ), (P2, lamQ2)] P1 lamQ := ⟨List.mem_cons_self, fun p hp e => by
    rcases List.mem_cons.mp hp with z | z
    · rw [z]
    · rw [List.mem_singleton.mp z] at e
      exact absurd e.symm hne⟩
  have tt2 : TabT [(P1, lamQ), (P2, lamQ2)] P2 lamQ2 := ⟨List.mem_cons_of_mem _ List.mem_cons_self, fun p hp e => by
    rcases List.mem_cons.mp hp with z | z
    · rw [z] at e
      exact absurd e hne
    · rw [List.mem_singleton.mp z]⟩
  refine ⟨PySem.W.fnOf "law" "law" (defArgs s_law) (defBody s_law) (defScope s_law) .none kV doc pm an cdv ct, [(c1, P1), (c2, P2)], spLaw K [(P1, lamQ), (P2, lamQ2)], all (p := fun p => h.get? p.2 = some { cls := .none, data := .fields #[] }) t1 t2, all (p := fun p => K.lookup p.2 = none) n1 n2, all (p := fun p => PySem.W.CodeHd h p.1 p.2) (PySem.W.codeHd_of_K X hd1) (PySem.W.codeHd_of_K X hd2), fun s u => .of_eq rfl,
    fun H a ns hl _ hT hS => ⟨a, ns, rfl, hS, fun p hp => ?_, by omega, M.lawOk (M.drawsOf_dr ns), fun _ => rfl⟩, fun base KX hns TB => ?_⟩
  · rcases List.mem_cons.mp hp with z | z
    · rw [z]; exact LamX.TabS.nil (hT _ m1)
    · rw [List.mem_singleton.mp z]; exact LamX.TabS.nil (hT _ m2)
  have TB1 : LamX.TabB base mg c1 P1 := TB _ m1
  have TB2 : LamX.TabB base mg c2 P2 := TB _ m2
  clear TB all
  generalize hP : l.prog = P
  have c__law_mix := w_mix (P := P) (w := w) (base := base) (Tb := [(P1, lamQ), (P2, lamQ2)]) F0 T
  have c_after := w_after (P := P) (w := w) (base := base) (Tb := [(P1, lamQ), (P2, lamQ2)]) F1 T
  have c_counts := w_counts (P := P) (w := w) (base := base) (Tb := [(P1, lamQ), (P2, lamQ2)]) F2 T
  have c_lacking := w_lacking (P := P) (w := w) (base := base) (Tb := [(P1, lamQ), (P2, lamQ2)]) F3 T
  have c_inserted := w_inserted (P := P) (w := w) (base := base) (Tb := [(P1, lamQ), (P2, lamQ2)]) F4 T
  have c__law_inserted := w_law_inserted (P := P) (w := w) (base := base) (Tb := [(P1, lamQ), (P2, lamQ2)]) F5 T
  have c_forces := w_forces (P := P) (w := w) (base := base) (Tb := [(P1, lamQ), (P2, lamQ2)]) F6 T
  have c_changes := w_changes (P := P) (w := w) (base := base) (Tb := [(P1, lamQ), (P2, lamQ2)]) F7 T c_forces
  have c__law_forces := w_law_forces (P := P) (w := w) (base := base) (Tb := [(P1, lamQ), (P2, lamQ2)]) F8 T
  have c__law_changes := w_law_changes (P := P) (w := w) (base := base) (Tb := [(P1, lamQ), (P2, lamQ2)]) F9 T c__law_forces
  have c__law_at := w_at (P := P) (w := w) (base := base) (Tb := [(P1, lamQ), (P2, lamQ2)]) F10 T c__law_mix
  have c__law_last := w_last (P := P) (w := w) (base := base) (Tb := [(P1, lamQ), (P2, lamQ2)]) F11 T
  have c__law_modules := w_modules (P := P) (w := w) (base := base) (Tb := [(P1, lamQ), (P2, lamQ2)]) F12 T
  have c__law_letters := w_letters (P := P) (w := w) (base := base) (Tb := [(P1, lamQ), (P2, lamQ2)]) F13 T c__law_at
  have c__law_visible := w_visible (P := P) (w := w) (base := base) (Tb := [(P1, lamQ), (P2, lamQ2)]) F14 T
  have c__law_lacking := w_law_lacking (P := P) (w := w) (base := base) (Tb := [(P1, lamQ), (P2, lamQ2)]) F15 T
  have c_Deeds := w_init (P := P) (w := w) (base := base) (Tb := [(P1, lamQ), (P2, lamQ2)]) F16 T
  have c_add := w_add (P := P) (w := w) (base := base) F17 T
  have c_copy := w_copy (P := P) (w := w) (base := base) (Tb := [(P1, lamQ), (P2, lamQ2)]) F18 T c_Deeds
  have c_fits := w_fits (P := P) (w := w) (base := base) (Tb := [(P1, lamQ), (P2, lamQ2)]) F19 T c_after c_changes c_inserted
  have c__can_take := w_can_take (P := P) (w := w) (base := base) (Tb := [(P1, lamQ), (P2, lamQ2)]) F20 T c_fits
  have c__next_of := w_next_of (P := P) (w := w) (base := base) (Tb := [(P1, lamQ), (P2, lamQ2)]) F21 T c__can_take
  have c_received := w_received (P := P) (w := w) (base := base) (Tb := [(P1, lamQ), (P2, lamQ2)]) F22 T c_copy c__next_of c_add
  have c_row := w_row (P := P) (w := w) (base := base) (Tb := [(P1, lamQ), (P2, lamQ2)]) F23 T TB1 tt1 c_changes c_inserted
  have c_text := w_text (P := P) (w := w) (base := base) (Tb := [(P1, lamQ), (P2, lamQ2)]) F24 T c_row
  have c__law_row := w_law_row (P := P) (w := w) (base := base) (Tb := [(P1, lamQ), (P2, lamQ2)]) F25 T TB2 tt2 c__law_changes c__law_inserted
  have c__law_fits := w_law_fits (P := P) (w := w) (base := base) (Tb := [(P1, lamQ), (P2, lamQ2)]) F26 T c__law_changes c__law_inserted
  have c__law_first := w_law_first (P := P) (w := w) (base := base) (Tb := [(P1, lamQ), (P2, lamQ2)]) F27 T c__law_fits
  have c__law_received := w_law_received (P := P) (w := w) (base := base) (Tb := [(P1, lamQ), (P2, lamQ2)]) F28 T c__law_first
  have c__law_deed := w_law_deed (P := P) (w := w) (base := base) (Tb := [(P1, lamQ), (P2, lamQ2)]) F29 T c__law_at c__law_modules c__law_row c__law_last c__law_letters
  have c__law_triples := w_law_triples (P := P) (w := w) (base := base) (Tb := [(P1, lamQ), (P2, lamQ2)]) F30 T c__law_at c__law_visible c__law_deed
  have c__law_is_integer := w_is_integer (P := P) (w := w) (base := base) (Tb := [(P1, lamQ), (P2, lamQ2)]) F31 T
  have c__law_same := w_same (P := P) (w := w) (base := base) (Tb := [(P1, lamQ), (P2, lamQ2)]) F32 T c__law_is_integer 6
  have c__law_draws := w_draws (P := P) (w := w) (base := base) (Tb := [(P1, lamQ), (P2, lamQ2)]) F33 T c__law_mix
  have c__law_turned := w_turned (P := P) (w := w) (base := base) (Tb := [(P1, lamQ), (P2, lamQ2)]) F34 T c__law_at
  have c__law_passes := w_passes (P := P) (w := w) (base := base) (Tb := [(P1, lamQ), (P2, lamQ2)]) F35 T c__law_received c_received c__law_same c_add
  have c__law_start := w_start (P := P) (w := w) (base := base) (Tb := [(P1, lamQ), (P2, lamQ2)]) F36 T c__law_received c__law_at c_Deeds c_add
  exact w_law (fun_mk lk c k) T c__law_draws c__law_triples c__law_at c__law_start c__law_lacking c_counts c__law_same c_lacking c__law_turned c__law_passes c__law_received c_received c__law_modules c_text
theorem withC {p : Prop} (_X : K.In h) (a : PySem.W.nsIn K mainGlobals "Deeds" = some (some (.ref C))) (r : PySem.W.nsIn K mainGlobals "Deeds" = some (some (.ref C)) → p) : p := r a
theorem withTxt {p : Prop} {t8 t40 : Tok} (X : K.In h) (G : h.Ns mainGlobals mg) (_aC : PySem.W.nsIn K mainGlobals "Deeds" = some (some (.ref C))) (pg : PySem.W.plainGet K C Str.empty = true) (hd : PySem.W.hasDictIn K C = true) (po : PySem.W.plainOver K C = true) (sa : PySem.W.findIn K (.ref C) "__setattr__" = some (some (.builtin "object.__setattr__")))
    (nR : PySem.W.findIn K (.ref C) "rows" = some none) (rp : PySem.W.nsIn K mainGlobals "REPLICAS" = some (some (.int 8 t8))) (lg : PySem.W.nsIn K mainGlobals "LONGEST_NAME" = some (some (.int 40 t40)))
    (z_len : PySem.W.nsIn K mainGlobals "len" = some none) (z_range : PySem.W.nsIn K mainGlobals "range" = some none) (z_min : PySem.W.nsIn K mainGlobals "min" = some none) (z_max : PySem.W.nsIn K mainGlobals "max" = some none) (z_int : PySem.W.nsIn K mainGlobals "int" = some none) (z_bool : PySem.W.nsIn K mainGlobals "bool" = some none) (z_str : PySem.W.nsIn K mainGlobals "str" = some none) (z_list : PySem.W.nsIn K mainGlobals "list" = some none) (z_tuple : PySem.W.nsIn K mainGlobals "tuple" = some none) (z_isinstance : PySem.W.nsIn K mainGlobals "isinstance" = some none) (z_sorted : PySem.W.nsIn K mainGlobals "sorted" = some none) (z_enumerate : PySem.W.nsIn K mainGlobals "enumerate" = some none) (z_zip : PySem.W.nsIn K mainGlobals "zip" = some none) (z_all : PySem.W.nsIn K mainGlobals "all" = some none) (r : Txt K mg C → p) : p :=
  r ⟨⟨pg, hd, po, sa⟩, nR, ⟨_, PySem.W.mg_of X G rp, ⟨_, rfl⟩⟩, ⟨_, PySem.W.mg_of X G lg, ⟨_, rfl⟩⟩, PySem.W.mg_none_of X G z_len, PySem.W.mg_none_of X G z_range, PySem.W.mg_none_of X G z_min, PySem.W.mg_none_of X G z_max, PySem.W.mg_none_of X G z_int, PySem.W.mg_none_of X G z_bool, PySem.W.mg_none_of X G z_str, PySem.W.mg_none_of X G z_list, PySem.W.mg_none_of X G z_tuple, PySem.W.mg_none_of X G z_isinstance, PySem.W.mg_none_of X G z_sorted, PySem.W.mg_none_of X G z_enumerate, PySem.W.mg_none_of X G z_zip, PySem.W.mg_none_of X G z_all⟩
theorem withDef {p : Prop} {x : Str} {st : Stmt} {ps : List Str} {f : Addr} {oc : Value} {od an : Option Addr} {osl : Array (Option Value)} {kV doc pm cdv ct : Value} (X : K.In h) (G : h.Ns mainGlobals mg) (a : PySem.W.nsIn K mainGlobals x = some (some (.ref f))) (l : K.lookup f = some ⟨oc, od, .func (PySem.W.fnOf x x (defArgs st) (defBody st) (defScope st) .none kV doc pm an cdv ct), osl⟩) (c : PySem.W.codeIn K cdv x = true) (k : PySem.W.keepIn K (.ref f) = true)
    (hb : ∀ (kV doc pm : Value) (an : Option Addr) (cdv ct : Value) (us : List Value), us.length = ps.length → bindArgs (PySem.W.fnOf x x (defArgs st) (defBody st) (defScope st) .none kV doc pm an cdv ct) ⟨us, []⟩ = pure (ps.zip us)) (r : Def K mg x st ps → p) : p := r (def_of X G a l c k hb)
theorem withDefL {p : Prop} {x : Str} {st : Stmt} {ps : List Str} {f cc : Addr} {oc : Value} {od an : Option Addr} {osl : Array (Option Value)} {kV doc pm ct : Value} (X : K.In h) (G : h.Ns mainGlobals mg) (a : PySem.W.nsIn K mainGlobals x = some (some (.ref f))) (l : K.lookup f = some ⟨oc, od, .func (PySem.W.fnOf x x (defArgs st) (defBody st) (defScope st) .none kV doc pm an (.ref cc) ct), osl⟩) (c : PySem.W.codeIn K (.ref cc) x = true) (k : PySem.W.keepIn K (.ref f) = true)
    (hb : ∀ (kV doc pm : Value) (an : Option Addr) (cdv ct : Value) (us : List Value), us.length = ps.length → bindArgs (PySem.W.fnOf x x (defArgs st) (defBody st) (defScope st) .none kV doc pm an cdv ct) ⟨us, []⟩ = pure (ps.zip us)) (r : DefL K mg x st ps cc → p) : p := r (defL_of X G a l c k hb)
theorem withMDef {p : Prop} {x q : Str} {st : Stmt} {ps : List Str} {f : Addr} {oc : Value} {od an : Option Addr} {osl : Array (Option Value)} {kV doc pm cdv ct : Value} (_aC : PySem.W.nsIn K mainGlobals "Deeds" = some (some (.ref C))) (a : PySem.W.findIn K (.ref C) x = some (some (.ref f))) (i : PySem.W.isFn K (.ref f) = true) (l : K.lookup f = some ⟨oc, od, .func (PySem.W.fnOf x q (defArgs st) (defBody st) (defScope st) .none kV doc pm an cdv ct), osl⟩) (c : PySem.W.codeIn K cdv q = true) (k : PySem.W.keepIn K (.ref f) = true)
    (hb : ∀ (kV doc pm : Value) (an : Option Addr) (cdv ct : Value) (us : List Value), us.length = ps.length → bindArgs (PySem.W.fnOf x q (defArgs st) (defBody st) (defScope st) .none kV doc pm an cdv ct) ⟨us, []⟩ = pure (ps.zip us)) (r : MDef K C x q st ps → p) : p := r (mdef_of a i l c k hb)
theorem withMDefL {p : Prop} {x q : Str} {st : Stmt} {ps : List Str} {f cc : Addr} {oc : Value} {od an : Option Addr} {osl : Array (Option Value)} {kV doc pm ct : Value} (_aC : PySem.W.nsIn K mainGlobals "Deeds" = some (some (.ref C))) (a : PySem.W.findIn K (.ref C) x = some (some (.ref f))) (i : PySem.W.isFn K (.ref f) = true) (l : K.lookup f = some ⟨oc, od, .func (PySem.W.fnOf x q (defArgs st) (defBody st) (defScope st) .none kV doc pm an (.ref cc) ct), osl⟩) (c : PySem.W.codeIn K (.ref cc) q = true) (k : PySem.W.keepIn K (.ref f) = true)
    (hb : ∀ (kV doc pm : Value) (an : Option Addr) (cdv ct : Value) (us : List Value), us.length = ps.length → bindArgs (PySem.W.fnOf x q (defArgs st) (defBody st) (defScope st) .none kV doc pm an cdv ct) ⟨us, []⟩ = pure (ps.zip us)) (r : MDefL K C x q st ps cc → p) : p := r (mdefL_of a i l c k hb)
theorem withCDef {p : Prop} {q : Str} {st : Stmt} {ps : List Str} {f : Addr} {oc : Value} {od an : Option Addr} {osl : Array (Option Value)} {kV doc pm cdv ct : Value} (X : K.In h) (G : h.Ns mainGlobals mg) (aC : PySem.W.nsIn K mainGlobals "Deeds" = some (some (.ref C))) (a : PySem.W.findIn K (.ref C) "__init__" = some (some (.ref f))) (i : PySem.W.isFn K (.ref f) = true) (l : K.lookup f = some ⟨oc, od, .func (PySem.W.fnOf "__init__" q (defArgs st) (defBody st) (defScope st) .none kV doc pm an cdv ct), osl⟩) (c : PySem.W.codeIn K cdv q = true) (k : PySem.W.keepIn K (.ref f) = true)
    (hb : ∀ (kV doc pm : Value) (an : Option Addr) (cdv ct : Value) (us : List Value), us.length = ps.length → bindArgs (PySem.W.fnOf "__init__" q (defArgs st) (defBody st) (defScope st) .none kV doc pm an cdv ct) ⟨us, []⟩ = pure (ps.zip us)) (mk : PySem.W.makesIn K C = true) (kc : PySem.W.keepIn K (.ref C) = true) (r : CDef K mg C "Deeds" q st ps → p) : p := r (cdef_of X G aC a i l c k hb mk kc)
theorem lawAt2 {l : PySem.W.OpenLaw} {w : World} {fa f c1 c2 : Addr} {ts : List Addr} {oc : Value} {od an : Option Addr} {osl : Array (Option Value)} {kV doc pm cdv ct : Value} (X : K.In h) (G : h.Ns mainGlobals mg) (hfa : mg "law" = some (.ref fa)) (T8 : ∀ P ∈ ts, h.get? P = some { cls := .none, data := .fields #[] }) (T : Txt K mg C)
    (F0 : Def K mg "_law_mix" s__law_mix ["_law_cell", "_law_k"])
    (F1 : Def K mg "after" s_after ["deed"])
    (F2 : MDef K C "counts" "Deeds.counts" s_Deeds_counts ["self"])
    (F3 : Def K mg "lacking" s_lacking ["deeds", "counts"])
    (F4 : Def K mg "inserted" s_inserted ["replica", "deed"])
    (F5 : Def K mg "_law_inserted" s__law_inserted ["_law_replica", "_law_deed_here"])
    (F6 : MDef K C "forces" "Deeds.forces" s_Deeds_forces ["self", "replica"])
    (F7 : MDef K C "changes" "Deeds.changes" s_Deeds_changes ["self", "module"])
    (F8 : Def K mg "_law_forces" s__law_forces ["_law_row_here"])
    (F9 : Def K mg "_law_changes" s__law_changes ["_law_rows", "_law_module"])
    (F10 : Def K mg "_law_at" s__law_at ["_law_draws_here", "_law_index"])
    (F11 : Def K mg "_law_last" s__law_last ["_law_rows"])
    (F12 : Def K mg "_law_modules" s__law_modules [])
    (F13 : Def K mg "_law_letters" s__law_letters ["_law_draws_here", "_law_index"])
    (F14 : Def K mg "_law_visible" s__law_visible ["_law_rows", "_law_counts"])
    (F15 : Def K mg "_law_lacking" s__law_lacking ["_law_rows", "_law_counts"])
    (F16 : CDef K mg C "Deeds" "Deeds.__init__" s_Deeds___init__ ["self"])
    (F17 : MDef K C "add" "Deeds.add" s_Deeds_add ["self", "replica", "deed"])
    (F18 : MDef K C "copy" "Deeds.copy" s_Deeds_copy ["self"])
    (F19 : MDef K C "fits" "Deeds.fits" s_Deeds_fits ["self", "replica", "deed"])
    (F20 : Def K mg "_can_take" s__can_take ["deeds", "triple"])
    (F21 : Def K mg "_next_of" s__next_of ["deeds", "packet"])
    (F22 : Def K mg "received" s_received ["deeds", "packet"])
    (F23 : MDefL K C "row" "Deeds.row" s_Deeds_row ["self", "module"] c1)
    (F24 : MDef K C "text" "Deeds.text" s_Deeds_text ["self", "module"])
    (F25 : DefL K mg "_law_row" s__law_row ["_law_rows", "_law_module"] c2)
    (F26 : Def K mg "_law_fits" s__law_fits ["_law_rows", "_law_replica", "_law_deed_here"])
    (F27 : Def K mg "_law_first" s__law_first ["_law_rows", "_law_packet"])
    (F28 : Def K mg "_law_received" s__law_received ["_law_rows", "_law_packet"])
    (F29 : Def K mg "_law_deed" s__law_deed ["_law_draws_here", "_law_index", "_law_rows", "_law_replica"])
    (F30 : Def K mg "_law_triples" s__law_triples ["_law_draws_here", "_law_start_here", "_law_steps", "_law_most"])
    (F31 : Def K mg "_law_is_integer" s__law_is_integer ["_law_actual"])
    (F32 : Def K mg "_law_same" s__law_same ["_law_actual", "_law_expected"])
    (F33 : Def K mg "_law_draws" s__law_draws ["_law_script"])
    (F34 : Def K mg "_law_turned" s__law_turned ["_law_draws_here", "_law_base", "_law_packet"])
    (F35 : Def K mg "_law_passes" s__law_passes ["_law_rows", "_law_deeds", "_law_packet"])
    (F36 : Def K mg "_law_start" s__law_start ["_law_draws_here", "_law_triples_here"])
    (a : PySem.W.nsIn K mainGlobals "law" = some (some (.ref f))) (lk : K.lookup f = some ⟨oc, od, .func (PySem.W.fnOf "law" "law" (defArgs s_law) (defBody s_law) (defScope s_law) .none kV doc pm an cdv ct), osl⟩) (c : PySem.W.codeIn K cdv "law" = true) (k : PySem.W.keepIn K (.ref f) = true)
    (m1 : ts.elem (tabAt K c1) = true) (m2 : ts.elem (tabAt K c2) = true) (n1 : (K.lookup (tabAt K c1)).isNone = true) (n2 : (K.lookup (tabAt K c2)).isNone = true) (hd1 : PySem.W.codeHdIn K c1 (tabAt K c1) = true) (hd2 : PySem.W.codeHdIn K c2 (tabAt K c2) = true) (hne : (tabAt K c1 == tabAt K c2) = false) :
    LamX.LawAtS l w K CX0 10 63 "_law_script" mg fa h :=
  lawAt X G hfa a lk c k T (T8 _ (elem_mem m1)) (T8 _ (elem_mem m2)) (Option.isNone_iff_eq_none.mp n1) (Option.isNone_iff_eq_none.mp n2) hd1 hd2 (ne_beq hne) F0 F1 F2 F3 F4 F5 F6 F7 F8 F9 F10 F11 F12 F13 F14 F15 F16 F17 F18 F19 F20 F21 F22 F23 F24 F25 F26 F27 F28 F29 F30 F31 F32 F33 F34 F35 F36
end
end G

open PySem PySem.W PyProof.Rows
set_option maxRecDepth 100000 in
set_option maxHeartbeats 0 in
theorem PySem.Challenge.cw_quillrun_k07_whole_packets_bring_deeds_holds : PySem.Challenge.rw_quillrun_k07_whole_packets_bring_deeds.Holds := by
  w_on; o_law; k_head; (case hw => w_witness2)
  k_fill
  refine LamX.walk_ofTs (l := PySem.Challenge.rw_quillrun_k07_whole_packets_bring_deeds) (n := 63) (k := 10) (x := "_law_script") (CX := fun _ => L2.CX0) rfl (by decide) rfl ⟨rfl, by decide, by decide⟩ (fun w h Y => PySem.W.km_in_of Y) ?F (fun _ _ _ _ _ z => z)
  case F =>
    intro w mg fa h Y KX Gn hmg
    have T8 := PySem.W.km_tabs_of Y
    clear Y
    refine' G.withC KX ?aC_1 ?r_1
    (case aC_1 => k_is)
    intro aC
    refine' G.withTxt KX Gn aC ?pg_2 ?hd_2 ?po_2 ?sa_2 ?nR_2 ?rp_2 ?lg_2 ?z0_2 ?z1_2 ?z2_2 ?z3_2 ?z4_2 ?z5_2 ?z6_2 ?z7_2 ?z8_2 ?z9_2 ?z10_2 ?z11_2 ?z12_2 ?z13_2 ?r_2
    (case pg_2 => k_is); (case hd_2 => k_is); (case po_2 => k_is); (case sa_2 => k_is); (case nR_2 => k_is); (case rp_2 => k_is); (case lg_2 => k_is); (case z0_2 => k_is); (case z1_2 => k_is); (case z2_2 => k_is); (case z3_2 => k_is); (case z4_2 => k_is); (case z5_2 => k_is); (case z6_2 => k_is); (case z7_2 => k_is); (case z8_2 => k_is); (case z9_2 => k_is); (case z10_2 => k_is); (case z11_2 => k_is); (case z12_2 => k_is); (case z13_2 => k_is)
    intro T
    refine' G.withDef (x := "_law_mix") (st := G.s__law_mix) (ps := ["_law_cell", "_law_k"]) KX Gn ?a_3 ?l_3 ?c_3 ?k_3 (fun _ _ _ _ _ _ us hl => match us, hl with | [_, _], _ => rfl) ?r_3
    (case a_3 => k_is); (case l_3 => k_is); (case c_3 => k_is); (case k_3 => k_is)
    intro F0
    refine' G.withDef (x := "after") (st := G.s_after) (ps := ["deed"]) KX Gn ?a_4 ?l_4 ?c_4 ?k_4 (fun _ _ _ _ _ _ us hl => match us, hl with | [_], _ => rfl) ?r_4
    (case a_4 => k_is); (case l_4 => k_is); (case c_4 => k_is); (case k_4 => k_is)
    intro F1
    refine' G.withMDef (x := "counts") (q := "Deeds.counts") (st := G.s_Deeds_counts) (ps := ["self"]) aC ?a_5 ?i_5 ?l_5 ?c_5 ?k_5 (fun _ _ _ _ _ _ us hl => match us, hl with | [_], _ => rfl) ?r_5
    (case a_5 => k_is); (case i_5 => k_is); (case l_5 => k_is); (case c_5 => k_is); (case k_5 => k_is)
    intro F2
    refine' G.withDef (x := "lacking") (st := G.s_lacking) (ps := ["deeds", "counts"]) KX Gn ?a_6 ?l_6 ?c_6 ?k_6 (fun _ _ _ _ _ _ us hl => match us, hl with | [_, _], _ => rfl) ?r_6
    (case a_6 => k_is); (case l_6 => k_is); (case c_6 => k_is); (case k_6 => k_is)
    intro F3
    refine' G.withDef (x := "inserted") (st := G.s_inserted) (ps := ["replica", "deed"]) KX Gn ?a_7 ?l_7 ?c_7 ?k_7 (fun _ _ _ _ _ _ us hl => match us, hl with | [_, _], _ => rfl) ?r_7
    (case a_7 => k_is); (case l_7 => k_is); (case c_7 => k_is); (case k_7 => k_is)
    intro F4
    refine' G.withDef (x := "_law_inserted") (st := G.s__law_inserted) (ps := ["_law_replica", "_law_deed_here"]) KX Gn ?a_8 ?l_8 ?c_8 ?k_8 (fun _ _ _ _ _ _ us hl => match us, hl with | [_, _], _ => rfl) ?r_8
    (case a_8 => k_is); (case l_8 => k_is); (case c_8 => k_is); (case k_8 => k_is)
    intro F5
    refine' G.withMDef (x := "forces") (q := "Deeds.forces") (st := G.s_Deeds_forces) (ps := ["self", "replica"]) aC ?a_9 ?i_9 ?l_9 ?c_9 ?k_9 (fun _ _ _ _ _ _ us hl => match us, hl with | [_, _], _ => rfl) ?r_9
    (case a_9 => k_is); (case i_9 => k_is); (case l_9 => k_is); (case c_9 => k_is); (case k_9 => k_is)
    intro F6
    refine' G.withMDef (x := "changes") (q := "Deeds.changes") (st := G.s_Deeds_changes) (ps := ["self", "module"]) aC ?a_10 ?i_10 ?l_10 ?c_10 ?k_10 (fun _ _ _ _ _ _ us hl => match us, hl with | [_, _], _ => rfl) ?r_10
    (case a_10 => k_is); (case i_10 => k_is); (case l_10 => k_is); (case c_10 => k_is); (case k_10 => k_is)
    intro F7
    refine' G.withDef (x := "_law_forces") (st := G.s__law_forces) (ps := ["_law_row_here"]) KX Gn ?a_11 ?l_11 ?c_11 ?k_11 (fun _ _ _ _ _ _ us hl => match us, hl with | [_], _ => rfl) ?r_11
    (case a_11 => k_is); (case l_11 => k_is); (case c_11 => k_is); (case k_11 => k_is)
    intro F8
    refine' G.withDef (x := "_law_changes") (st := G.s__law_changes) (ps := ["_law_rows", "_law_module"]) KX Gn ?a_12 ?l_12 ?c_12 ?k_12 (fun _ _ _ _ _ _ us hl => match us, hl with | [_, _], _ => rfl) ?r_12
    (case a_12 => k_is); (case l_12 => k_is); (case c_12 => k_is); (case k_12 => k_is)
    intro F9
    refine' G.withDef (x := "_law_at") (st := G.s__law_at) (ps := ["_law_draws_here", "_law_index"]) KX Gn ?a_13 ?l_13 ?c_13 ?k_13 (fun _ _ _ _ _ _ us hl => match us, hl with | [_, _], _ => rfl) ?r_13
    (case a_13 => k_is); (case l_13 => k_is); (case c_13 => k_is); (case k_13 => k_is)
    intro F10
    refine' G.withDef (x := "_law_last") (st := G.s__law_last) (ps := ["_law_rows"]) KX Gn ?a_14 ?l_14 ?c_14 ?k_14 (fun _ _ _ _ _ _ us hl => match us, hl with | [_], _ => rfl) ?r_14
    (case a_14 => k_is); (case l_14 => k_is); (case c_14 => k_is); (case k_14 => k_is)
    intro F11
    refine' G.withDef (x := "_law_modules") (st := G.s__law_modules) (ps := []) KX Gn ?a_15 ?l_15 ?c_15 ?k_15 (fun _ _ _ _ _ _ us hl => match us, hl with | [], _ => rfl) ?r_15
    (case a_15 => k_is); (case l_15 => k_is); (case c_15 => k_is); (case k_15 => k_is)
    intro F12
    refine' G.withDef (x := "_law_letters") (st := G.s__law_letters) (ps := ["_law_draws_here", "_law_index"]) KX Gn ?a_16 ?l_16 ?c_16 ?k_16 (fun _ _ _ _ _ _ us hl => match us, hl with | [_, _], _ => rfl) ?r_16
    (case a_16 => k_is); (case l_16 => k_is); (case c_16 => k_is); (case k_16 => k_is)
    intro F13
    refine' G.withDef (x := "_law_visible") (st := G.s__law_visible) (ps := ["_law_rows", "_law_counts"]) KX Gn ?a_17 ?l_17 ?c_17 ?k_17 (fun _ _ _ _ _ _ us hl => match us, hl with | [_, _], _ => rfl) ?r_17
    (case a_17 => k_is); (case l_17 => k_is); (case c_17 => k_is); (case k_17 => k_is)
    intro F14
    refine' G.withDef (x := "_law_lacking") (st := G.s__law_lacking) (ps := ["_law_rows", "_law_counts"]) KX Gn ?a_18 ?l_18 ?c_18 ?k_18 (fun _ _ _ _ _ _ us hl => match us, hl with | [_, _], _ => rfl) ?r_18
    (case a_18 => k_is); (case l_18 => k_is); (case c_18 => k_is); (case k_18 => k_is)
    intro F15
    refine' G.withCDef (q := "Deeds.__init__") (st := G.s_Deeds___init__) (ps := ["self"]) KX Gn aC ?a_19 ?i_19 ?l_19 ?c_19 ?k_19 (fun _ _ _ _ _ _ us hl => match us, hl with | [_], _ => rfl) ?mk_19 ?kc_19 ?r_19
    (case a_19 => k_is); (case i_19 => k_is); (case l_19 => k_is); (case c_19 => k_is); (case k_19 => k_is); (case mk_19 => k_is); (case kc_19 => k_is)
    intro F16
    refine' G.withMDef (x := "add") (q := "Deeds.add") (st := G.s_Deeds_add) (ps := ["self", "replica", "deed"]) aC ?a_20 ?i_20 ?l_20 ?c_20 ?k_20 (fun _ _ _ _ _ _ us hl => match us, hl with | [_, _, _], _ => rfl) ?r_20
    (case a_20 => k_is); (case i_20 => k_is); (case l_20 => k_is); (case c_20 => k_is); (case k_20 => k_is)
    intro F17
    refine' G.withMDef (x := "copy") (q := "Deeds.copy") (st := G.s_Deeds_copy) (ps := ["self"]) aC ?a_21 ?i_21 ?l_21 ?c_21 ?k_21 (fun _ _ _ _ _ _ us hl => match us, hl with | [_], _ => rfl) ?r_21
    (case a_21 => k_is); (case i_21 => k_is); (case l_21 => k_is); (case c_21 => k_is); (case k_21 => k_is)
    intro F18
    refine' G.withMDef (x := "fits") (q := "Deeds.fits") (st := G.s_Deeds_fits) (ps := ["self", "replica", "deed"]) aC ?a_22 ?i_22 ?l_22 ?c_22 ?k_22 (fun _ _ _ _ _ _ us hl => match us, hl with | [_, _, _], _ => rfl) ?r_22
    (case a_22 => k_is); (case i_22 => k_is); (case l_22 => k_is); (case c_22 => k_is); (case k_22 => k_is)
    intro F19
    refine' G.withDef (x := "_can_take") (st := G.s__can_take) (ps := ["deeds", "triple"]) KX Gn ?a_23 ?l_23 ?c_23 ?k_23 (fun _ _ _ _ _ _ us hl => match us, hl with | [_, _], _ => rfl) ?r_23
    (case a_23 => k_is); (case l_23 => k_is); (case c_23 => k_is); (case k_23 => k_is)
    intro F20
    refine' G.withDef (x := "_next_of") (st := G.s__next_of) (ps := ["deeds", "packet"]) KX Gn ?a_24 ?l_24 ?c_24 ?k_24 (fun _ _ _ _ _ _ us hl => match us, hl with | [_, _], _ => rfl) ?r_24
    (case a_24 => k_is); (case l_24 => k_is); (case c_24 => k_is); (case k_24 => k_is)
    intro F21
    refine' G.withDef (x := "received") (st := G.s_received) (ps := ["deeds", "packet"]) KX Gn ?a_25 ?l_25 ?c_25 ?k_25 (fun _ _ _ _ _ _ us hl => match us, hl with | [_, _], _ => rfl) ?r_25
    (case a_25 => k_is); (case l_25 => k_is); (case c_25 => k_is); (case k_25 => k_is)
    intro F22
    refine' G.withMDefL (x := "row") (q := "Deeds.row") (st := G.s_Deeds_row) (ps := ["self", "module"]) aC ?a_26 ?i_26 ?l_26 ?c_26 ?k_26 (fun _ _ _ _ _ _ us hl => match us, hl with | [_, _], _ => rfl) ?r_26
    (case a_26 => k_is); (case i_26 => k_is); (case l_26 => k_is); (case c_26 => k_is); (case k_26 => k_is)
    intro F23
    refine' G.withMDef (x := "text") (q := "Deeds.text") (st := G.s_Deeds_text) (ps := ["self", "module"]) aC ?a_27 ?i_27 ?l_27 ?c_27 ?k_27 (fun _ _ _ _ _ _ us hl => match us, hl with | [_, _], _ => rfl) ?r_27
    (case a_27 => k_is); (case i_27 => k_is); (case l_27 => k_is); (case c_27 => k_is); (case k_27 => k_is)
    intro F24
    refine' G.withDefL (x := "_law_row") (st := G.s__law_row) (ps := ["_law_rows", "_law_module"]) KX Gn ?a_28 ?l_28 ?c_28 ?k_28 (fun _ _ _ _ _ _ us hl => match us, hl with | [_, _], _ => rfl) ?r_28
    (case a_28 => k_is); (case l_28 => k_is); (case c_28 => k_is); (case k_28 => k_is)
    intro F25
    refine' G.withDef (x := "_law_fits") (st := G.s__law_fits) (ps := ["_law_rows", "_law_replica", "_law_deed_here"]) KX Gn ?a_29 ?l_29 ?c_29 ?k_29 (fun _ _ _ _ _ _ us hl => match us, hl with | [_, _, _], _ => rfl) ?r_29
    (case a_29 => k_is); (case l_29 => k_is); (case c_29 => k_is); (case k_29 => k_is)
    intro F26
    refine' G.withDef (x := "_law_first") (st := G.s__law_first) (ps := ["_law_rows", "_law_packet"]) KX Gn ?a_30 ?l_30 ?c_30 ?k_30 (fun _ _ _ _ _ _ us hl => match us, hl with | [_, _], _ => rfl) ?r_30
    (case a_30 => k_is); (case l_30 => k_is); (case c_30 => k_is); (case k_30 => k_is)
    intro F27
    refine' G.withDef (x := "_law_received") (st := G.s__law_received) (ps := ["_law_rows", "_law_packet"]) KX Gn ?a_31 ?l_31 ?c_31 ?k_31 (fun _ _ _ _ _ _ us hl => match us, hl with | [_, _], _ => rfl) ?r_31
    (case a_31 => k_is); (case l_31 => k_is); (case c_31 => k_is); (case k_31 => k_is)
    intro F28
    refine' G.withDef (x := "_law_deed") (st := G.s__law_deed) (ps := ["_law_draws_here", "_law_index", "_law_rows", "_law_replica"]) KX Gn ?a_32 ?l_32 ?c_32 ?k_32 (fun _ _ _ _ _ _ us hl => match us, hl with | [_, _, _, _], _ => rfl) ?r_32
    (case a_32 => k_is); (case l_32 => k_is); (case c_32 => k_is); (case k_32 => k_is)
    intro F29
    refine' G.withDef (x := "_law_triples") (st := G.s__law_triples) (ps := ["_law_draws_here", "_law_start_here", "_law_steps", "_law_most"]) KX Gn ?a_33 ?l_33 ?c_33 ?k_33 (fun _ _ _ _ _ _ us hl => match us, hl with | [_, _, _, _], _ => rfl) ?r_33
    (case a_33 => k_is); (case l_33 => k_is); (case c_33 => k_is); (case k_33 => k_is)
    intro F30
    refine' G.withDef (x := "_law_is_integer") (st := G.s__law_is_integer) (ps := ["_law_actual"]) KX Gn ?a_34 ?l_34 ?c_34 ?k_34 (fun _ _ _ _ _ _ us hl => match us, hl with | [_], _ => rfl) ?r_34
    (case a_34 => k_is); (case l_34 => k_is); (case c_34 => k_is); (case k_34 => k_is)
    intro F31
    refine' G.withDef (x := "_law_same") (st := G.s__law_same) (ps := ["_law_actual", "_law_expected"]) KX Gn ?a_35 ?l_35 ?c_35 ?k_35 (fun _ _ _ _ _ _ us hl => match us, hl with | [_, _], _ => rfl) ?r_35
    (case a_35 => k_is); (case l_35 => k_is); (case c_35 => k_is); (case k_35 => k_is)
    intro F32
    refine' G.withDef (x := "_law_draws") (st := G.s__law_draws) (ps := ["_law_script"]) KX Gn ?a_36 ?l_36 ?c_36 ?k_36 (fun _ _ _ _ _ _ us hl => match us, hl with | [_], _ => rfl) ?r_36
    (case a_36 => k_is); (case l_36 => k_is); (case c_36 => k_is); (case k_36 => k_is)
    intro F33
    refine' G.withDef (x := "_law_turned") (st := G.s__law_turned) (ps := ["_law_draws_here", "_law_base", "_law_packet"]) KX Gn ?a_37 ?l_37 ?c_37 ?k_37 (fun _ _ _ _ _ _ us hl => match us, hl with | [_, _, _], _ => rfl) ?r_37
    (case a_37 => k_is); (case l_37 => k_is); (case c_37 => k_is); (case k_37 => k_is)
    intro F34
    refine' G.withDef (x := "_law_passes") (st := G.s__law_passes) (ps := ["_law_rows", "_law_deeds", "_law_packet"]) KX Gn ?a_38 ?l_38 ?c_38 ?k_38 (fun _ _ _ _ _ _ us hl => match us, hl with | [_, _, _], _ => rfl) ?r_38
    (case a_38 => k_is); (case l_38 => k_is); (case c_38 => k_is); (case k_38 => k_is)
    intro F35
    refine' G.withDef (x := "_law_start") (st := G.s__law_start) (ps := ["_law_draws_here", "_law_triples_here"]) KX Gn ?a_39 ?l_39 ?c_39 ?k_39 (fun _ _ _ _ _ _ us hl => match us, hl with | [_, _], _ => rfl) ?r_39
    (case a_39 => k_is); (case l_39 => k_is); (case c_39 => k_is); (case k_39 => k_is)
    intro F36
    refine' G.lawAt2 KX Gn hmg T8 T F0 F1 F2 F3 F4 F5 F6 F7 F8 F9 F10 F11 F12 F13 F14 F15 F16 F17 F18 F19 F20 F21 F22 F23 F24 F25 F26 F27 F28 F29 F30 F31 F32 F33 F34 F35 F36 ?a_40 ?l_40 ?c_40 ?k_40 (by kernel_rfl) (by kernel_rfl) (by kernel_rfl) (by kernel_rfl) (by kernel_rfl) (by kernel_rfl) (by kernel_rfl)
    (case a_40 => k_is); (case l_40 => k_is); (case c_40 => k_is); (case k_40 => k_is)
